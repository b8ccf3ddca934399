import PyProof.Rows.All
import Wide.All
import OpenK.AllK
import Wide.FinOn
import HandS.ForMost
import HandS.ForExc
import HandS.TryMany
import HandS.TupAny
import HandS.TupMul
import HandS.Zip
import HandS.IsInst
import HandS.Style
import HandS.Flow
import HandS.Conv
import HandS.Walk
import HandS.SortInts
import HandS.Sort
import HandS.Defaults
import HandS.HeadHook1
import KE.DataEq
import KE.DataMinMax
import KE.DataFind
import KE.DataIsa
import KE.SortData
import KE.SortKeyHeap
import KE.GoesMore
import KE.GoesZip
import KE.GoesEnum
import HandS.HeadHook2
import HandS.WordsExc
import HandS.Deep
import HandS.Dict
import HandS.More
import HandS.SetFor
import HandS.Strs
import HandS.TupSets
import PyProof.ListRange
import HandS.Text
import HandS.StrMore
import HandS.HeadHook3
import HandS.SuiteRaise
import HandS.Head0
import HandS.Head1
import HandS.Head2
import HandS.HeadEnd
import PySem.Challenge.RW_lendpool_k24_texts
set_option Elab.async false
set_option maxRecDepth 100000
set_option linter.all false
/-! # The pure layer, part 1: data, what represents them, the reading of an expression -/
namespace Lp
open PySem L2

/-- plain data -/
inductive D where
  | non | bl (b : Bool) | int (i : Int) | str (x : Str)
  | tup (ds : List D) | lst (ds : List D) | fix (ds : List D) | dic (ks : List Key) (ds : List D) | obj (fs : List Str) (ds : List D)

instance : Inhabited D := ⟨.non⟩

/-- what a mirror gives: a value, an own error by its class's name, or nothing (then nothing is claimed) -/
inductive R (α : Type) where
  | ok (a : α) | ex (c : Str) | no
def R.bind {α β : Type} (r : R α) (f : α → R β) : R β := match r with
  | .ok a => f a
  | .ex c => .ex c
  | .no => .no
@[simp] theorem R.bind_ok {α β : Type} (a : α) (f : α → R β) : (R.ok a).bind f = f a := .trans rfl rfl
@[simp] theorem R.bind_ex {α β : Type} (c : Str) (f : α → R β) : (R.ex c : R α).bind f = .ex c := .trans rfl rfl
@[simp] theorem R.bind_no {α β : Type} (f : α → R β) : (R.no : R α).bind f = .no := .trans rfl rfl

/-- a list that is read and not changed: frozen, locked, or the module's own -/
def LsF (K : PySem.W.Frag) (F : Addr → Prop) (H : Hp) (a : Addr) (vs : List V) : Prop :=
  (F a ∧ H a = some (.lst vs)) ∨ (∃ o, H a = some (.frz o (.lst vs))) ∨
    ∃ (o : Obj) (its : Array Value) (n : Nat), K.lookup a = some o ∧ o.cls = .type "list" ∧ o.dict = none ∧ o.data = .seq its n ∧ its.size ≤ sizeLine ∧ Vals vs its.toList
theorem LsF.sq {K : PySem.W.Frag} {F : Addr → Prop} {H : Hp} {a : Addr} {vs : List V} (h : LsF K F H a vs) : SqL K H a vs := by
  rcases h with h | h | h
  · exact .inl (.inl h.2)
  · exact .inl (.inr h)
  · exact .inr h
theorem LsF.of {K : PySem.W.Frag} {F : Addr → Prop} {H : Hp} {a : Addr} {vs : List V} (h : SqL K H a vs) (f : F a) : LsF K F H a vs := by
  rcases h with (h | h) | h
  · exact .inl ⟨f, h⟩
  · exact .inr (.inl h)
  · exact .inr (.inr h)

mutual
/-- v stands for d; F: which lists, dicts, objects are known to stay as they are -/
def Rep (K : PySem.W.Frag) (F : Addr → Prop) (H : Hp) : D → V → Prop
  | .non, v => v = .non
  | .bl b, v => v = .bl b
  | .int i, v => v = .int i
  | .str x, v => v = .str x
  | .tup ds, v => ∃ a vs, v = .ref a ∧ SqT K H a vs ∧ Reps K F H ds vs
  | .lst ds, v => ∃ a vs, v = .ref a ∧ F a ∧ H a = some (.lst vs) ∧ Reps K F H ds vs
  | .fix ds, v => ∃ a vs, v = .ref a ∧ LsF K F H a vs ∧ Reps K F H ds vs
  | .dic ks ds, v => ∃ a vs, v = .ref a ∧ F a ∧ H a = some (.dK (ks.zip vs)) ∧ ks.length = vs.length ∧ Reps K F H ds vs
  | .obj fs ds, v => ∃ a C dx vs, v = .ref a ∧ F a ∧ H a = some (.ins C dx (fs.tail.zip vs)) ∧ (fs.head?.map (He.ga K) = some C ∧ fs.tail.length = vs.length) ∧ Reps K F H ds vs
def Reps (K : PySem.W.Frag) (F : Addr → Prop) (H : Hp) : List D → List V → Prop
  | [], vs => vs = []
  | d :: ds, vs => ∃ v r, vs = v :: r ∧ Rep K F H d v ∧ Reps K F H ds r
end

/-- what is frozen, and all tuples, are kept -/
def Keeps (F : Addr → Prop) (H H' : Hp) : Prop := ∀ b o, H b = some o → (F b ∨ (∃ xs, o = .tup xs) ∨ ∃ ob u, o = .frz ob u) → H' b = some o
theorem Keeps.of_same {F : Addr → Prop} {H H' : Hp} (s : Same H H') : Keeps F H H' := fun b o e _ => s b o e

section
variable {K : PySem.W.Frag} {F F' : Addr → Prop} {H H' : Hp}
theorem sqT_keeps {a : Addr} {vs : List V} (k : Keeps F H H') (h : SqT K H a vs) : SqT K H' a vs := by
  rcases h with (h | ⟨o, h⟩) | h
  · exact .inl (.inl (k _ _ h (.inr (.inl ⟨_, rfl⟩))))
  · exact .inl (.inr ⟨o, k _ _ h (.inr (.inr ⟨_, _, rfl⟩))⟩)
  · exact .inr h
theorem LsF.keeps {a : Addr} {vs : List V} (k : Keeps F H H') (f : ∀ b, F b → F' b) (h : LsF K F H a vs) : LsF K F' H' a vs := by
  rcases h with h | ⟨o, h⟩ | h
  · exact .inl ⟨f _ h.1, k _ _ h.2 (.inl h.1)⟩
  · exact .inr (.inl ⟨o, k _ _ h (.inr (.inr ⟨_, _, rfl⟩))⟩)
  · exact .inr (.inr h)
mutual
theorem Rep.keeps (k : Keeps F H H') (f : ∀ b, F b → F' b) : ∀ (d : D) (v : V), Rep K F H d v → Rep K F' H' d v
  | .non, v, h => by rw [Rep] at h ⊢; exact h
  | .bl b, v, h => by rw [Rep] at h ⊢; exact h
  | .int i, v, h => by rw [Rep] at h ⊢; exact h
  | .str x, v, h => by rw [Rep] at h ⊢; exact h
  | .tup ds, v, h => by
    rw [Rep] at h ⊢
    obtain ⟨a, vs, e, q, r⟩ := h
    exact ⟨a, vs, e, sqT_keeps k q, Reps.keeps k f ds vs r⟩
  | .lst ds, v, h => by
    rw [Rep] at h ⊢
    obtain ⟨a, vs, e, fa, q, r⟩ := h
    exact ⟨a, vs, e, f _ fa, k _ _ q (.inl fa), Reps.keeps k f ds vs r⟩
  | .fix ds, v, h => by
    rw [Rep] at h ⊢
    obtain ⟨a, vs, e, q, r⟩ := h
    exact ⟨a, vs, e, q.keeps k f, Reps.keeps k f ds vs r⟩
  | .dic ks ds, v, h => by
    rw [Rep] at h ⊢
    obtain ⟨a, vs, e, fa, q, l, r⟩ := h
    exact ⟨a, vs, e, f _ fa, k _ _ q (.inl fa), l, Reps.keeps k f ds vs r⟩
  | .obj fs ds, v, h => by
    rw [Rep] at h ⊢
    obtain ⟨a, C, dx, vs, e, fa, q, l, r⟩ := h
    exact ⟨a, C, dx, vs, e, f _ fa, k _ _ q (.inl fa), l, Reps.keeps k f ds vs r⟩
theorem Reps.keeps (k : Keeps F H H') (f : ∀ b, F b → F' b) : ∀ (ds : List D) (vs : List V), Reps K F H ds vs → Reps K F' H' ds vs
  | [], vs, h => by rw [Reps] at h ⊢; exact h
  | d :: ds, vs, h => by
    rw [Reps] at h ⊢
    obtain ⟨v, r, e, h1, h2⟩ := h
    exact ⟨v, r, e, Rep.keeps k f d v h1, Reps.keeps k f ds r h2⟩
end
end

/-- anything may be read just now -/
abbrev All : Addr → Prop := fun _ => True
section
variable {K : PySem.W.Frag} {F : Addr → Prop} {H H' : Hp} {d : D} {v : V} {ds : List D} {vs : List V}
theorem Rep.mono (h : Rep K F H d v) (s : Same H H') : Rep K F H' d v := Rep.keeps (.of_same s) (fun _ z => z) d v h
theorem Reps.mono (h : Reps K F H ds vs) (s : Same H H') : Reps K F H' ds vs := Reps.keeps (.of_same s) (fun _ z => z) ds vs h
theorem Rep.all (h : Rep K F H d v) : Rep K All H d v := Rep.keeps (fun _ _ e _ => e) (fun _ _ => trivial) d v h
theorem Reps.all (h : Reps K F H ds vs) : Reps K All H ds vs := Reps.keeps (fun _ _ e _ => e) (fun _ _ => trivial) ds vs h
end
section
variable {K : PySem.W.Frag} {F : Addr → Prop} {H H' : Hp}
theorem Reps.length : ∀ {ds : List D} {vs : List V}, Reps K F H ds vs → ds.length = vs.length
  | [], vs, h => by rw [Reps] at h; rw [h]; rfl
  | d :: ds, vs, h => by
    rw [Reps] at h
    obtain ⟨v, r, e, _, h2⟩ := h
    rw [e, List.length_cons, List.length_cons, Reps.length h2]
theorem Reps.get : ∀ {ds : List D} {vs : List V} {i : Nat} {d : D}, Reps K F H ds vs → ds[i]? = some d → ∃ v, vs[i]? = some v ∧ Rep K F H d v
  | [], vs, i, d, h, e => by simp at e
  | x :: ds, vs, i, d, h, e => by
    rw [Reps] at h
    obtain ⟨v, r, ev, h1, h2⟩ := h
    cases i with
    | zero =>
      simp at e
      subst e
      exact ⟨v, by rw [ev]; rfl, h1⟩
    | succ i =>
      obtain ⟨u, q, z⟩ := Reps.get h2 (by simpa using e)
      exact ⟨u, by rw [ev]; simpa using q, z⟩
theorem Reps.append : ∀ {ds es : List D} {vs us : List V}, Reps K F H ds vs → Reps K F H es us → Reps K F H (ds ++ es) (vs ++ us)
  | [], es, vs, us, h, g => by rw [Reps] at h; subst h; exact g
  | d :: ds, es, vs, us, h, g => by
    rw [Reps] at h
    obtain ⟨v, r, ev, h1, h2⟩ := h
    subst ev
    show Reps K F H (d :: (ds ++ es)) (v :: (r ++ us))
    rw [Reps]
    exact ⟨v, _, rfl, h1, h2.append g⟩
theorem Reps.cons {d : D} {v : V} {ds : List D} {vs : List V} (h : Rep K F H d v) (g : Reps K F H ds vs) : Reps K F H (d :: ds) (v :: vs) := by
  rw [Reps]; exact ⟨v, vs, rfl, h, g⟩
theorem Reps.nil : Reps K F H [] [] := by rw [Reps]
theorem Reps.one {d : D} {v : V} (h : Rep K F H d v) : Reps K F H [d] [v] := .cons h .nil
theorem Reps.take : ∀ {ds : List D} {vs : List V} (n : Nat), Reps K F H ds vs → Reps K F H (ds.take n) (vs.take n)
  | _, _, 0, _ => .nil
  | [], vs, n + 1, h => by rw [Reps] at h; subst h; exact .nil
  | d :: ds, vs, n + 1, h => by
    rw [Reps] at h
    obtain ⟨v, r, ev, h1, h2⟩ := h
    subst ev
    exact .cons h1 (h2.take n)
theorem Reps.drop : ∀ {ds : List D} {vs : List V} (n : Nat), Reps K F H ds vs → Reps K F H (ds.drop n) (vs.drop n)
  | _, _, 0, h => h
  | [], vs, n + 1, h => by rw [Reps] at h; subst h; exact .nil
  | d :: ds, vs, n + 1, h => by
    rw [Reps] at h
    obtain ⟨v, r, ev, h1, h2⟩ := h
    subst ev
    exact h2.drop n
theorem Reps.reverse : ∀ {ds : List D} {vs : List V}, Reps K F H ds vs → Reps K F H ds.reverse vs.reverse
  | [], vs, h => by rw [Reps] at h; subst h; exact .nil
  | d :: ds, vs, h => by
    rw [Reps] at h
    obtain ⟨v, r, ev, h1, h2⟩ := h
    subst ev
    rw [List.reverse_cons, List.reverse_cons]
    exact h2.reverse.append (.one h1)
theorem Reps.set : ∀ {ds : List D} {vs : List V} (i : Nat) {d : D} {v : V}, Reps K F H ds vs → Rep K F H d v → Reps K F H (ds.set i d) (vs.set i v)
  | [], vs, i, d, v, h, g => by rw [Reps] at h; subst h; exact .nil
  | x :: ds, vs, i, d, v, h, g => by
    rw [Reps] at h
    obtain ⟨u, r, ev, h1, h2⟩ := h
    subst ev
    cases i with
    | zero => exact .cons g h2
    | succ i => exact .cons h1 (h2.set i g)
theorem Reps.dropLast : ∀ {ds : List D} {vs : List V}, Reps K F H ds vs → Reps K F H ds.dropLast vs.dropLast := fun {ds vs} h => by
  rw [List.dropLast_eq_take, List.dropLast_eq_take, h.length]
  exact h.take _
theorem Reps.eraseIdx : ∀ {ds : List D} {vs : List V} (i : Nat), Reps K F H ds vs → Reps K F H (ds.eraseIdx i) (vs.eraseIdx i)
  | [], vs, i, h => by rw [Reps] at h; subst h; exact .nil
  | x :: ds, vs, i, h => by
    rw [Reps] at h
    obtain ⟨u, r, ev, h1, h2⟩ := h
    subst ev
    cases i with
    | zero => exact h2
    | succ i => exact .cons h1 (h2.eraseIdx i)
theorem Reps.insertIdx : ∀ {ds : List D} {vs : List V} (i : Nat) {d : D} {v : V}, Reps K F H ds vs → Rep K F H d v → Reps K F H (ds.insertIdx i d) (vs.insertIdx i v)
  | ds, vs, 0, d, v, h, g => by rw [List.insertIdx_zero, List.insertIdx_zero]; exact .cons g h
  | [], vs, i + 1, d, v, h, g => by rw [Reps] at h; subst h; exact .nil
  | x :: ds, vs, i + 1, d, v, h, g => by
    rw [Reps] at h
    obtain ⟨u, r, ev, h1, h2⟩ := h
    subst ev
    rw [List.insertIdx_succ_cons, List.insertIdx_succ_cons]
    exact .cons h1 (h2.insertIdx i g)
theorem Reps.ints : ∀ {ns : List Int} {vs : List V}, Reps K F H (ns.map D.int) vs → vs = ns.map V.int
  | [], vs, h => by rw [List.map_nil, Reps] at h; rw [h]; rfl
  | n :: ns, vs, h => by
    rw [List.map_cons, Reps] at h
    obtain ⟨v, r, ev, h1, h2⟩ := h
    rw [Rep] at h1
    rw [ev, h1, Reps.ints h2]; rfl
theorem Reps.of_ints : ∀ {ns : List Int}, Reps K F H (ns.map D.int) (ns.map V.int)
  | [] => .nil
  | n :: ns => .cons (by rw [Rep]) Reps.of_ints
theorem Reps.strs : ∀ {ns : List Str} {vs : List V}, Reps K F H (ns.map D.str) vs → vs = ns.map V.str
  | [], vs, h => by rw [List.map_nil, Reps] at h; rw [h]; rfl
  | n :: ns, vs, h => by
    rw [List.map_cons, Reps] at h
    obtain ⟨v, r, ev, h1, h2⟩ := h
    rw [Rep] at h1
    rw [ev, h1, Reps.strs h2]; rfl
theorem Reps.of_strs : ∀ {ns : List Str}, Reps K F H (ns.map D.str) (ns.map V.str)
  | [] => .nil
  | n :: ns => .cons (by rw [Rep]) Reps.of_strs
theorem Reps.mem {ds : List D} {vs : List V} {v : V} (h : Reps K F H ds vs) (hv : v ∈ vs) : ∃ d ∈ ds, Rep K F H d v := by
  obtain ⟨i, hi, e⟩ := List.getElem_of_mem hv
  have l := h.length
  obtain ⟨u, q, z⟩ := h.get (i := i) (d := ds[i]'(by omega)) (by simp [show i < ds.length by omega])
  rw [List.getElem?_eq_getElem hi] at q
  rw [← e, Option.some.inj q]
  exact ⟨_, List.getElem_mem _, z⟩
end

mutual
/-- no list, dict or object in it -/
def D.pure : D → Bool
  | .tup ds => D.pures ds
  | .lst _ => false
  | .fix _ => false
  | .dic _ _ => false
  | .obj _ _ => false
  | _ => true
def D.pures : List D → Bool
  | [] => true
  | d :: ds => d.pure && D.pures ds
end
mutual
theorem Rep.of_pure {K : PySem.W.Frag} {F F' : Addr → Prop} {H : Hp} : ∀ (d : D) (v : V), d.pure = true → Rep K F H d v → Rep K F' H d v
  | .non, v, _, h => by rw [Rep] at h ⊢; exact h
  | .bl b, v, _, h => by rw [Rep] at h ⊢; exact h
  | .int i, v, _, h => by rw [Rep] at h ⊢; exact h
  | .str x, v, _, h => by rw [Rep] at h ⊢; exact h
  | .tup ds, v, p, h => by
    rw [Rep] at h ⊢
    obtain ⟨a, vs, e, q, r⟩ := h
    rw [D.pure] at p
    exact ⟨a, vs, e, q, Reps.of_pure ds vs p r⟩
  | .lst ds, v, p, h => by rw [D.pure] at p; cases p
  | .fix ds, v, p, h => by rw [D.pure] at p; cases p
  | .dic ks ds, v, p, h => by rw [D.pure] at p; cases p
  | .obj ks ds, v, p, h => by rw [D.pure] at p; cases p
theorem Reps.of_pure {K : PySem.W.Frag} {F F' : Addr → Prop} {H : Hp} : ∀ (ds : List D) (vs : List V), D.pures ds = true → Reps K F H ds vs → Reps K F' H ds vs
  | [], vs, _, h => by rw [Reps] at h ⊢; exact h
  | d :: ds, vs, p, h => by
    rw [D.pures, Bool.and_eq_true] at p
    rw [Reps] at h ⊢
    obtain ⟨v, r, e, h1, h2⟩ := h
    exact ⟨v, r, e, Rep.of_pure d v p.1 h1, Reps.of_pure ds r p.2 h2⟩
end
theorem D.pures_all : ∀ {ds : List D}, D.pures ds = ds.all D.pure
  | [] => by rw [D.pures]; rfl
  | d :: ds => by rw [D.pures, D.pures_all]; rfl
theorem D.pures_append {ds es : List D} : D.pures (ds ++ es) = (D.pures ds && D.pures es) := by
  rw [D.pures_all, D.pures_all, D.pures_all, List.all_append]

/-! ### owned data -/
inductive Shape where
  | leaf | node (s : Shape) | obj (ss : List Shape) | me (s : Shape)
/-- items one by one, their addresses one behind the other -/
def OwnL (P : D → V → List Addr → Prop) : List D → List V → List Addr → Prop
  | [], vs, B => vs = [] ∧ B = []
  | d :: ds, vs, B => ∃ v r B1 B2, vs = v :: r ∧ B = B1 ++ B2 ∧ P d v B1 ∧ OwnL P ds r B2
mutual
def Own (K : PySem.W.Frag) (F : Addr → Prop) (H : Hp) : Shape → D → V → List Addr → Prop
  | .leaf, d, v, A => A = [] ∧ Rep K F H d v
  | .node s, .lst ds, v, A => ∃ a vs B, v = .ref a ∧ H a = some (.lst vs) ∧ A = a :: B ∧ OwnL (Own K F H s) ds vs B
  | .node s, .dic ks ds, v, A => ∃ a vs B, v = .ref a ∧ H a = some (.dK (ks.zip vs)) ∧ ks.length = vs.length ∧ A = a :: B ∧ OwnL (Own K F H s) ds vs B
  | .obj ss, .obj fs ds, v, A => ∃ a C dx vs B, v = .ref a ∧ H a = some (.ins C dx (fs.tail.zip vs)) ∧ (fs.head?.map (He.ga K) = some C ∧ fs.tail.length = vs.length) ∧ A = a :: B ∧ Owns K F H ss ds vs B
  | .me s, d, v, A => Own K F H s d v A
  | _, _, _, _ => False
def Owns (K : PySem.W.Frag) (F : Addr → Prop) (H : Hp) : List Shape → List D → List V → List Addr → Prop
  | [], ds, vs, B => ds = [] ∧ vs = [] ∧ B = []
  | s :: ss, ds, vs, B => ∃ d er v r B1 B2, ds = d :: er ∧ vs = v :: r ∧ B = B1 ++ B2 ∧ Own K F H s d v B1 ∧ Owns K F H ss er r B2
end

/-- a slot of a def: unknown, shared data, owned data -/
inductive Sl where
  | no | sh (d : D) | ow (s : Shape) (d : D)
abbrev En := List Sl
def Sl.vw : Sl → Option D
  | .no => none
  | .sh d => some d
  | .ow _ d => some d
def vw (e : En) (i : Nat) : Option D := (e[i]?).bind Sl.vw
/-- every known slot may be read -/
structure View (K : PySem.W.Frag) (H : Hp) (σ : L2.St) (e : En) : Prop where
  len : σ.length = e.length
  get : ∀ i d, vw e i = some d → ∃ v, σ[i]? = some (some v) ∧ Rep K All H d v
theorem View.mono {K : PySem.W.Frag} {H H' : Hp} {σ : L2.St} {e : En} (h : View K H σ e) (s : Same H H') : View K H' σ e := ⟨h.len, fun i d q => by
  obtain ⟨v, a, b⟩ := h.get i d q
  exact ⟨v, a, b.mono s⟩⟩

/-! ### the reading of an expression -/
/-- rep: what stands for a mirror's answer, by the heap ahead and the heap behind -/
class MonoR {α β : Type} (rep : Hp → Hp → α → β → Prop) : Prop where
  mono : ∀ H H1 H' a b, Same H H1 → rep H1 H' a b → rep H H' a b
def Fin {α β : Type} (rep : Hp → Hp → α → β → Prop) (mg : Str → Option Value) (W : WX) (σ : L2.St) (H : Hp) (r : R α) (Q : β → Hp → Prop) : Prop := match r with
  | .ok a => ∀ b H', Same H H' → rep H H' a b → Q b H'
  | .ex c => ∀ C H', mg c = some (.ref C) → Same H H' → W (.ref C) none σ H'
  | .no => False
def Rg {α β : Type} (rep : Hp → Hp → α → β → Prop) (K : PySem.W.Frag) (mg : Str → Option Value) (W : WX) (f : En → R α) : L2.St → Hp → (β → Hp → Prop) → Prop := fun σ H Q => ∃ e, View K H σ e ∧ Fin rep mg W σ H (f e) Q
abbrev repX (K : PySem.W.Frag) : Hp → Hp → D → V → Prop := fun _ H d v => Rep K All H d v
abbrev repB : Hp → Hp → Bool → Bool → Prop := fun _ _ a b => a = b
abbrev repA (K : PySem.W.Frag) : Hp → Hp → List D → List V → Prop := fun _ H d v => Reps K All H d v
instance {α β : Type} {rep : Hp → α → β → Prop} : MonoR (fun (_ : Hp) H (a : α) (b : β) => rep H a b) := ⟨fun _ _ _ _ _ _ h => h⟩
abbrev tX (K : PySem.W.Frag) (mg : Str → Option Value) (W : WX) (f : En → R D) : TE := Rg (repX K) K mg W f
abbrev tT (K : PySem.W.Frag) (mg : Str → Option Value) (W : WX) (f : En → R Bool) : TT := Rg repB K mg W f
abbrev tA (K : PySem.W.Frag) (mg : Str → Option Value) (W : WX) (f : En → R (List D)) : TA := Rg (repA K) K mg W f
abbrev PX (X : Cx) (W : WX) (x : Expr) (f : En → R D) : Prop := PE X x (tX X.K X.mg W f)
abbrev PB (X : Cx) (W : WX) (x : Expr) (f : En → R Bool) : Prop := PT X x (tT X.K X.mg W f)
abbrev PXs (X : Cx) (W : WX) (xs : List Expr) (f : En → R (List D)) : Prop := PA X xs (tA X.K X.mg W f)
theorem convE {X : Cx} {x : Expr} {t u : TE} (h : PE X x t) (k : ∀ σ H Q, u σ H Q → t σ H Q) : PE X x u := ⟨fun pins s σ H Q I z => h.run pins s σ H Q I (k σ H Q z)⟩
theorem convT {X : Cx} {x : Expr} {t u : TT} (h : PT X x t) (k : ∀ σ H Q, u σ H Q → t σ H Q) : PT X x u := ⟨fun pins s σ H Q I z => h.run pins s σ H Q I (k σ H Q z)⟩
theorem convA {X : Cx} {x : List Expr} {t u : TA} (h : PA X x t) (k : ∀ σ H Q, u σ H Q → t σ H Q) : PA X x u := ⟨fun pos pins s σ H Q I z => h.run pos pins s σ H Q I (k σ H Q z)⟩
theorem convS {X : Cx} {x : Stmt} {t u : TS} (h : PS X x t) (k : ∀ D σ H, u D σ H → t D σ H) : PS X x u := ⟨fun pins s σ H D I z => h.run pins s σ H D I (k D σ H z)⟩
theorem convSs {X : Cx} {x : List Stmt} {t u : TS} (h : PSs X x t) (k : ∀ D σ H, u D σ H → t D σ H) : PSs X x u := ⟨fun pins s σ H D I z => h.run pins s σ H D I (k D σ H z)⟩

section
variable {α β γ δ : Type} {rep : Hp → Hp → α → β → Prop} {rep' : Hp → Hp → γ → δ → Prop} {K : PySem.W.Frag} {mg : Str → Option Value} {W : WX} {σ : L2.St} {H H' : Hp}
/-- one ahead of what comes: its value handed on -/
theorem Rg.seq [MonoR rep'] {f : En → R α} {k : α → En → R γ} {Q : δ → Hp → Prop} {Q' : β → Hp → Prop} (h : Rg rep' K mg W (fun e => (f e).bind fun d => k d e) σ H Q)
    (q : ∀ d v H1, Same H H1 → rep H H1 d v → Rg rep' K mg W (k d) σ H1 Q → Q' v H1) : Rg rep K mg W f σ H Q' := by
  obtain ⟨e, V, h⟩ := h
  refine ⟨e, V, ?_⟩
  replace h : Fin rep' mg W σ H ((f e).bind fun d => k d e) Q := h
  cases z : f e with
  | ok d =>
    rw [z] at h
    refine fun v H1 s r => q d v H1 s r ⟨e, V.mono s, ?_⟩
    replace h : Fin rep' mg W σ H (k d e) Q := h
    cases z2 : k d e with
    | ok d2 => rw [z2] at h; exact fun v2 H2 s2 r2 => h v2 H2 (s.trans s2) (MonoR.mono _ _ _ _ _ s r2)
    | ex c => rw [z2] at h; exact fun C H2 g s2 => h C H2 g (s.trans s2)
    | no => rw [z2] at h; exact h
  | ex c => rw [z] at h; exact h
  | no => rw [z] at h; exact h
/-- the end of a reading whose value is known -/
theorem Rg.get {f : En → R α} {d : α} {Q : β → Hp → Prop} (h : Rg rep K mg W f σ H Q) (z : ∀ e, f e = .ok d) {v : β} (s : Same H H') (r : rep H H' d v) : Q v H' := by
  obtain ⟨e, _, h⟩ := h
  rw [z e] at h
  exact h v H' s r
theorem Rg.no {f : En → R α} {Q : β → Hp → Prop} (h : Rg rep K mg W f σ H Q) (z : ∀ e, f e = .no) : False := by
  obtain ⟨e, _, h⟩ := h
  rw [z e] at h
  exact h
theorem Rg.congr {f g : En → R α} {Q : β → Hp → Prop} (h : Rg rep K mg W f σ H Q) (z : ∀ e, f e = g e) : Rg rep K mg W g σ H Q := by
  obtain ⟨e, V, h⟩ := h
  rw [z e] at h
  exact ⟨e, V, h⟩
end
end Lp

/-! # The pure layer, part 2: expressions -/
namespace Lp
open PySem L2

/-! ### mirrors of expressions -/
namespace E
def c (d : D) : En → R D := fun _ => .ok d
def var (i : Nat) : En → R D := fun e => match vw e i with
  | some d => .ok d
  | none => .no
def un (g : D → R D) (a : En → R D) : En → R D := fun e => (a e).bind g
def bin (g : D → D → R D) (a b : En → R D) : En → R D := fun e => (a e).bind fun x => (b e).bind fun y => g x y
def nil : En → R (List D) := fun _ => .ok []
def cons (a : En → R D) (b : En → R (List D)) : En → R (List D) := fun e => (a e).bind fun x => (b e).bind fun xs => .ok (x :: xs)
/-- a call of what gives m of its arguments -/
def call (m : List D → R D) (a : En → R (List D)) : En → R D := fun e => (a e).bind m
def ite (t : En → R Bool) (a b : En → R D) : En → R D := fun e => (t e).bind fun k => if k = true then a e else b e
/-- a test as a value, a value as a test -/
def ofB (t : En → R Bool) : En → R D := fun e => (t e).bind fun k => .ok (.bl k)
def andV (a b : En → R D) : En → R D := fun e => (a e).bind fun x => match x with
  | .bl true => b e
  | .bl false => .ok (.bl false)
  | _ => .no
def orV (a b : En → R D) : En → R D := fun e => (a e).bind fun x => match x with
  | .bl true => .ok (.bl true)
  | .bl false => b e
  | _ => .no
def notV (a : En → R D) : En → R D := fun e => (a e).bind fun x => match x with
  | .bl b => .ok (.bl (!b))
  | _ => .no
end E
namespace B
def val (a : En → R D) : En → R Bool := fun e => (a e).bind fun x => match x with
  | .bl b => .ok b
  | _ => .no
def and (a b : En → R Bool) : En → R Bool := fun e => (a e).bind fun x => if x = true then b e else .ok false
def or (a b : En → R Bool) : En → R Bool := fun e => (a e).bind fun x => if x = true then .ok true else b e
def not (a : En → R Bool) : En → R Bool := fun e => (a e).bind fun x => .ok (!x)
end B

section
variable {X : Cx} {W : WX}
theorem px_const {x : Expr} {v : V} {d : D} (h : PE X x (tC v)) (r : ∀ H, Rep X.K All H d v) : PX X W x (E.c d) :=
  convE h fun σ H Q z => z.get (fun _ => rfl) (Same.refl H) (r H)
theorem px_int {i j pos} : PX X W (.Constant (.int i) j pos) (E.c (.int i)) := px_const pe_int fun H => by rw [Rep]
theorem px_bl {b j pos} : PX X W (.Constant (.bool b) j pos) (E.c (.bl b)) := px_const pe_bl fun H => by rw [Rep]
theorem px_non {j pos} : PX X W (.Constant .none j pos) (E.c .non) := px_const pe_non fun H => by rw [Rep]
theorem px_str {x j pos} : PX X W (.Constant (.str x) j pos) (E.c (.str x)) := px_const pe_str fun H => by rw [Rep]
theorem px_var (i : Nat) {x : Str} {pos : Pos} (hN : X.N[i]? = some x := by rfl) (hv : Vis X.env.scope x := by first | exact Or.inl rfl | exact Or.inr (Or.inl rfl) | exact Or.inr (Or.inr rfl)) (hd : (x == ("__debug__" : Str)) = false := by decide)
    (hcd : (x == ("__classdict__" : Str)) = false := by decide) : PX X W (.Name x pos) (E.var i) := convE (pe_var hN hv hd hcd) fun σ H Q h => by
  obtain ⟨e, V, h⟩ := h
  unfold E.var at h
  cases q : vw e i with
  | none => rw [q] at h; exact h.elim
  | some d =>
    obtain ⟨v, hv, r⟩ := V.get i d q
    rw [q] at h
    exact ⟨v, hv, h v H (Same.refl H) r⟩

/-- an operator of two values, by what it gives of data -/
def OpD (X : Cx) (f : Value → Value → Sem Value) (g : D → D → R D) : Prop :=
  ∃ r : R2, OpR X f r ∧ ∀ (d e : D) (x y : V) (H : Hp) (Q : VK) (mg : Str → Option Value) (W : WX) (σ : L2.St), Rep X.K All H d x → Rep X.K All H e y → tX X.K mg W (fun _ => g d e) σ H Q → r x y H Q
variable {a b : Expr} {fa fb : En → R D} {pos : Pos}
theorem px_bin {op : Operator} {g : D → D → R D} (ho : OpD X (binaryOp op) g) (ha : PX X W a fa) (hb : PX X W b fb) : PX X W (.BinOp a op b pos) (E.bin g fa fb) := by
  obtain ⟨r, hr, hg⟩ := ho
  refine convE (pe_op hr ha hb) fun σ H Q h => ?_
  exact h.seq fun d v H1 s1 r1 h1 => h1.seq fun d2 v2 H2 s2 r2 h2 => hg d d2 v v2 H2 Q X.mg W σ (r1.mono s2) r2 h2
theorem px_cmp {op : CmpOp} {g : D → D → R D} (ho : OpD X (compareOp op) g) (ha : PX X W a fa) (hb : PX X W b fb) (hm : behindInMarks op b = false) : PX X W (.Compare a [op] [b] pos) (E.bin g fa fb) := by
  obtain ⟨r, hr, hg⟩ := ho
  refine convE (pe_cmpR hr ha hb hm) fun σ H Q h => ?_
  exact h.seq fun d v H1 s1 r1 h1 => h1.seq fun d2 v2 H2 s2 r2 h2 => hg d d2 v v2 H2 Q X.mg W σ (r1.mono s2) r2 h2
theorem Rep.bl {K : PySem.W.Frag} {F : Addr → Prop} {H : Hp} {b : Bool} {v : V} (h : Rep K F H (.bl b) v) : v = .bl b := by rw [Rep] at h; exact h
theorem Rep.int {K : PySem.W.Frag} {F : Addr → Prop} {H : Hp} {b : Int} {v : V} (h : Rep K F H (.int b) v) : v = .int b := by rw [Rep] at h; exact h
theorem Rep.str {K : PySem.W.Frag} {F : Addr → Prop} {H : Hp} {b : Str} {v : V} (h : Rep K F H (.str b) v) : v = .str b := by rw [Rep] at h; exact h
theorem rep_bl {K : PySem.W.Frag} {F : Addr → Prop} {H : Hp} {b : Bool} : Rep K F H (.bl b) (.bl b) := by rw [Rep]
theorem rep_int {K : PySem.W.Frag} {F : Addr → Prop} {H : Hp} {b : Int} : Rep K F H (.int b) (.int b) := by rw [Rep]
theorem rep_str {K : PySem.W.Frag} {F : Addr → Prop} {H : Hp} {b : Str} : Rep K F H (.str b) (.str b) := by rw [Rep]
theorem rep_non {K : PySem.W.Frag} {F : Addr → Prop} {H : Hp} : Rep K F H .non .non := by rw [Rep]
/-- a bool's value is a test's answer -/
theorem val_conv {fa : En → R D} {σ : L2.St} {H : Hp} {Q : Bool → Hp → Prop} {Q' : VK} (h : tT X.K X.mg W (B.val fa) σ H Q) (q : ∀ k H1, Q k H1 → Q' (.bl k) H1) : tX X.K X.mg W fa σ H Q' := by
  refine Rg.seq (f := fa) (k := fun (x : D) _ => match x with | .bl b => .ok b | _ => .no) h fun d v H1 s1 r1 h1 => ?_
  cases d with
  | bl b =>
    rw [r1.bl]
    exact q b H1 (h1.get (fun _ => rfl) (Same.refl H1) rfl)
  | _ => exact (h1.no fun _ => rfl).elim
theorem pb_cmp {op : CmpOp} {g : D → D → R D} (ho : OpD X (compareOp op) g) (ha : PX X W a fa) (hb : PX X W b fb) (hm : behindInMarks op b = false) : PB X W (.Compare a [op] [b] pos) (B.val (E.bin g fa fb)) := by
  obtain ⟨r, hr, hg⟩ := ho
  refine convT (pt_cmpR hr ha hb hm) fun σ H Q h => ?_
  have z : tX X.K X.mg W (E.bin g fa fb) σ H (fun x H1 => ∃ k, x = .bl k ∧ Q k H1) := val_conv h fun k H1 q => ⟨k, rfl, q⟩
  exact z.seq fun d v H1 s1 r1 h1 => h1.seq fun d2 v2 H2 s2 r2 h2 => hg d d2 v v2 H2 _ X.mg W σ (r1.mono s2) r2 h2
/-- an expression that gives a bool, as a test -/
theorem pb_val {x : Expr} {f : En → R D} (h : PX X W x f) (he : ∀ whole, isTrue x X.env whole = (do let v ← whole; standAt x.pos; holding [v] (truthy v)) := by intro _; rfl) : PB X W x (B.val f) :=
  convT (pt_val h he) fun σ H Q z => val_conv z fun k H1 q => ⟨k, rfl, q⟩
variable {tA tB : En → R Bool} {rest : List Expr}
theorem pb_not (ha : PB X W a tA) : PB X W (.UnaryOp .Not a pos) (B.not tA) := convT (pt_not ha) fun σ H Q h =>
  h.seq fun k k2 H1 s1 r1 h1 => by subst r1; exact h1.get (fun _ => rfl) (Same.refl H1) rfl
/-- a chain of and, or -/
def PBw (X : Cx) (W : WX) (x : Expr) (f : En → R Bool) : Prop := PW X x (tT X.K X.mg W f)
theorem PBw.pb {x : Expr} {f : En → R Bool} (h : PBw X W x f) : PB X W x f := PW.pt h
theorem convW {x : Expr} {t u : TT} (h : PW X x t) (k : ∀ σ H Q, u σ H Q → t σ H Q) : PW X x u := ⟨fun wh pins s σ H Q I z => h.run wh pins s σ H Q I (k σ H Q z)⟩
theorem pbw_and1 (ha : PB X W a tA) : PBw X W (.BoolOp .And [a] pos) tA := pw_and1 ha
theorem pbw_or1 (ha : PB X W a tA) : PBw X W (.BoolOp .Or [a] pos) tA := pw_or1 ha
theorem pbw_and (ha : PB X W a tA) (hb : PBw X W (.BoolOp .And (b :: rest) pos) tB) : PBw X W (.BoolOp .And (a :: b :: rest) pos) (B.and tA tB) := convW (pw_and ha hb) fun σ H Q h =>
  h.seq fun k k2 H1 s1 r1 h1 => by
    subst r1
    cases k with
    | true => exact h1.congr fun e => rfl
    | false => exact h1.get (fun _ => rfl) (Same.refl H1) rfl
theorem pbw_or (ha : PB X W a tA) (hb : PBw X W (.BoolOp .Or (b :: rest) pos) tB) : PBw X W (.BoolOp .Or (a :: b :: rest) pos) (B.or tA tB) := convW (pw_or ha hb) fun σ H Q h =>
  h.seq fun k k2 H1 s1 r1 h1 => by
    subst r1
    cases k with
    | false => exact h1.congr fun e => rfl
    | true => exact h1.get (fun _ => rfl) (Same.refl H1) rfl
/-! as values -/
theorem px_one {op} {f : En → R D} (h : PX X W a f) : PX X W (.BoolOp op [a] pos) f := pe_one h
theorem px_and (ha : PX X W a fa) (hb : PX X W (.BoolOp .And (b :: rest) pos) fb) : PX X W (.BoolOp .And (a :: b :: rest) pos) (E.andV fa fb) := convE (pe_and ha hb) fun σ H Q h =>
  Rg.seq (k := fun (x : D) e => match x with | .bl true => fb e | .bl false => (R.ok (D.bl false)) | _ => .no) h fun d v H1 s1 r1 h1 => by
    cases d with
    | bl k =>
      refine ⟨k, r1.bl, ?_⟩
      cases k with
      | true => exact h1.congr fun e => rfl
      | false => exact h1.get (fun _ => rfl) (Same.refl H1) rep_bl
    | _ => exact (h1.no fun _ => rfl).elim
theorem px_or (ha : PX X W a fa) (hb : PX X W (.BoolOp .Or (b :: rest) pos) fb) : PX X W (.BoolOp .Or (a :: b :: rest) pos) (E.orV fa fb) := convE (pe_or ha hb) fun σ H Q h =>
  Rg.seq (k := fun (x : D) e => match x with | .bl true => (R.ok (D.bl true)) | .bl false => fb e | _ => .no) h fun d v H1 s1 r1 h1 => by
    cases d with
    | bl k =>
      refine ⟨k, r1.bl, ?_⟩
      cases k with
      | false => exact h1.congr fun e => rfl
      | true => exact h1.get (fun _ => rfl) (Same.refl H1) rep_bl
    | _ => exact (h1.no fun _ => rfl).elim
theorem px_not (ha : PX X W a fa) : PX X W (.UnaryOp .Not a pos) (E.notV fa) := convE (pe_not ha) fun σ H Q h =>
  Rg.seq (k := fun (x : D) e => match x with | .bl b => (R.ok (D.bl (!b))) | _ => .no) h fun d v H1 s1 r1 h1 => by
    cases d with
    | bl k => exact ⟨k, r1.bl, h1.get (fun _ => rfl) (Same.refl H1) rep_bl⟩
    | _ => exact (h1.no fun _ => rfl).elim
theorem px_if {t : Expr} (ht : PB X W t tA) (ha : PX X W a fa) (hb : PX X W b fb) : PX X W (.IfExp t a b pos) (E.ite tA fa fb) := convE (pe_ifExp ht ha hb) fun σ H Q h =>
  Rg.seq (rep := repB) (k := fun k e => if k = true then fa e else fb e) h fun k k2 H1 s1 r1 h1 => by
    subst r1
    cases k with
    | true => exact h1.congr fun e => rfl
    | false => exact h1.congr fun e => rfl
/-- a test (a comparison in a chain, a truth) as a value: where the test's own rule stands -/
theorem px_never {x : Expr} : PX X W x (fun _ => .no) := ⟨fun pins s σ H Q I h => (h.no fun _ => rfl).elim⟩
theorem pb_never {x : Expr} : PB X W x (fun _ => .no) := ⟨fun pins s σ H Q I h => (h.no fun _ => rfl).elim⟩
/-- unary minus -/
def negD : D → R D
  | .int i => .ok (.int (-i))
  | _ => .no
theorem px_neg (ha : PX X W a fa) : PX X W (.UnaryOp .USub a pos) (E.un negD fa) := convE (pe_un un_neg ha) fun σ H Q h =>
  Rg.seq (k := fun x _ => negD x) h fun d v H1 s1 r1 h1 => by
    cases d with
    | int i => exact ⟨i, r1.int, h1.get (fun _ => rfl) (Same.refl H1) rep_int⟩
    | _ => exact (h1.no fun _ => rfl).elim
/-! ### argument lists, displays, calls -/
theorem pxs_nil : PXs X W [] E.nil := convA pa_nil fun σ H Q h => h.get (fun _ => rfl) (Same.refl H) .nil
theorem pxs_cons {es : List Expr} {fs : En → R (List D)} (ha : PX X W a fa) (hr : PXs X W es fs) (hs : starEach (a :: es) X.env = (false, eval a X.env) :: starEach es X.env := by rfl) : PXs X W (a :: es) (E.cons fa fs) :=
  convA (pa_cons ha hr hs) fun σ H Q h => h.seq fun d v H1 s1 r1 h1 => h1.seq fun ds vs H2 s2 r2 h2 => h2.get (fun _ => rfl) (Same.refl H2) (.cons (r1.mono s2) r2)
def tupD (ds : List D) : R D := if ds.length ≤ 16777216 then .ok (.tup ds) else .no
def lstD (ds : List D) : R D := if ds.length ≤ 16777216 then .ok (.lst ds) else .no
theorem same_new {H : Hp} {p : Addr} {o : HO} (h : H p = none) : Same H (upd H p o) := fun b u e => by
  rw [upd_ne (ne_of_none e h)]; exact e
theorem rep_tup {K : PySem.W.Frag} {F : Addr → Prop} {H : Hp} {p : Addr} {vs : List V} {ds : List D} (h : H p = none) (r : Reps K F H ds vs) : Rep K F (upd H p (.tup vs)) (.tup ds) (.ref p) := by
  rw [Rep]
  exact ⟨p, vs, rfl, SqT.of upd_same, r.mono (same_new h)⟩
theorem rep_lst {K : PySem.W.Frag} {H : Hp} {p : Addr} {vs : List V} {ds : List D} (h : H p = none) (r : Reps K All H ds vs) : Rep K All (upd H p (.lst vs)) (.lst ds) (.ref p) := by
  rw [Rep]
  exact ⟨p, vs, rfl, trivial, upd_same, r.mono (same_new h)⟩
theorem px_tup {es : List Expr} {fs : En → R (List D)} {x1} (h : PXs X W es fs) : PX X W (.Tuple es x1 pos) (E.call tupD fs) := convE (pe_tup h) fun σ H Q z =>
  Rg.seq (k := fun ds _ => tupD ds) z fun ds vs H1 s1 r1 h1 => by
    unfold tupD at h1
    by_cases hl : ds.length ≤ 16777216
    · exact ⟨by rw [← r1.length, sizeLine_eq]; exact hl, fun p hp => h1.get (fun _ => if_pos hl) (same_new hp) (rep_tup hp r1)⟩
    · exact (h1.no fun _ => if_neg hl).elim
theorem px_lst {es : List Expr} {fs : En → R (List D)} (h : PXs X W es fs) : PX X W (.List es pos) (E.call lstD fs) := convE (pe_lst h) fun σ H Q z =>
  Rg.seq (k := fun ds _ => lstD ds) z fun ds vs H1 s1 r1 h1 => by
    unfold lstD at h1
    by_cases hl : ds.length ≤ 16777216
    · exact ⟨by rw [← r1.length, sizeLine_eq]; exact hl, fun p hp => h1.get (fun _ => if_pos hl) (same_new hp) (rep_lst hp r1)⟩
    · exact (h1.no fun _ => if_neg hl).elim
/-- a built-in function of its arguments' data -/
def CallD (X : Cx) (f : Value) (g : List D → R D) : Prop :=
  ∃ r : List V → Hp → VK → Prop, CallR X f r ∧ ∀ (ds : List D) (vs : List V) (H : Hp) (Q : VK) (mg : Str → Option Value) (W : WX) (σ : L2.St), Reps X.K All H ds vs → tX X.K mg W (fun _ => g ds) σ H Q → r vs H Q
variable {x : Str} {p : Pos} {es : List Expr} {fs : En → R (List D)} {id T : String} {g : List D → R D}
theorem px_callB (hc : CallD X (.builtin id) g) (hg : Gl X x) (hm : X.mg x = none) (hv : bootBuiltins x = some (.builtin id)) (ha : PXs X W (a :: es) fs) (hn : x ≠ "__name__" := by decide) (hdb : (x == ("__debug__" : Str)) = false := by decide)
    (he : starEach (a :: es) X.env = (false, eval a X.env) :: starEach es X.env := by rfl) (hpl : (backTo pos (starEach es X.env)).any (·.1) = false := by rfl) : PX X W (.Call (.Name x p) (a :: es) [] pos) (E.call g fs) := by
  obtain ⟨r, hr, hq⟩ := hc
  refine convE (pe_callB hr hg hm hv ha hn hdb he hpl) fun σ H Q h => ?_
  exact Rg.seq (k := fun ds _ => g ds) h fun ds vs H1 s1 r1 h1 => hq ds vs H1 Q X.mg W σ r1 h1
theorem px_callTy (hc : CallD X (.type T) g) (hg : Gl X x) (hm : X.mg x = none) (hv : bootBuiltins x = some (.type T)) (ha : PXs X W (a :: es) fs) (hn : x ≠ "__name__" := by decide) (hdb : (x == ("__debug__" : Str)) = false := by decide)
    (he : starEach (a :: es) X.env = (false, eval a X.env) :: starEach es X.env := by rfl) (hpl : (backTo pos (starEach es X.env)).any (·.1) = false := by rfl) : PX X W (.Call (.Name x p) (a :: es) [] pos) (E.call g fs) := by
  obtain ⟨r, hr, hq⟩ := hc
  refine convE (pe_callTy hr hg hm hv ha hn hdb he hpl) fun σ H Q h => ?_
  exact Rg.seq (k := fun ds _ => g ds) h fun ds vs H1 s1 r1 h1 => hq ds vs H1 Q X.mg W σ r1 h1
/-- a name of the module that stands for data -/
theorem px_glob {v : V} {u : Value} {d : D} (hg : Gl X x) (hm : X.mg x = some u) (r : RelV v u) (q : ∀ H, Rep X.K All H d v) (hd : (x == ("__debug__" : Str)) = false := by decide) : PX X W (.Name x pos) (E.c d) := px_const (pe_glob hg hm r hd) q
end
end Lp

/-! # The pure layer, part 3: operators and built-in functions -/
namespace Lp
open PySem L2

/-! ### data as the library has it -/
mutual
def D.py : D → PyData
  | .non => .none
  | .bl b => .bool b
  | .int i => .int i
  | .str x => .str x
  | .tup ds => .tuple (D.pys ds)
  | .lst ds => .list (D.pys ds)
  | .fix ds => .list (D.pys ds)
  | .dic _ _ => .none
  | .obj _ _ => .none
def D.pys : List D → List PyData
  | [] => []
  | d :: ds => d.py :: D.pys ds
end
mutual
/-- no dict, no object; at most n deep -/
def D.dt (n : Nat) : D → Bool
  | .tup ds => match n with
    | 0 => false
    | n + 1 => D.dts n ds
  | .lst ds => match n with
    | 0 => false
    | n + 1 => D.dts n ds
  | .fix ds => match n with
    | 0 => false
    | n + 1 => D.dts n ds
  | .dic _ _ => false
  | .obj _ _ => false
  | _ => true
def D.dts (n : Nat) : List D → Bool
  | [] => true
  | d :: ds => d.dt n && D.dts n ds
end
theorem D.dts_all {n : Nat} : ∀ {ds : List D}, D.dts n ds = ds.all (D.dt n)
  | [] => by rw [D.dts]; rfl
  | d :: ds => by rw [D.dts, D.dts_all]; rfl
theorem D.pys_map : ∀ {ds : List D}, D.pys ds = ds.map D.py
  | [] => by rw [D.pys]; rfl
  | d :: ds => by rw [D.pys, D.pys_map]; rfl
mutual
theorem D.dt_plain : ∀ (d : D) (n : Nat), d.dt n = true → d.py.plain = true ∧ d.py.depth ≤ n
  | .non, n, _ => by rw [D.py]; exact ⟨rfl, Nat.zero_le _⟩
  | .bl b, n, _ => by rw [D.py]; exact ⟨rfl, Nat.zero_le _⟩
  | .int i, n, _ => by rw [D.py]; exact ⟨rfl, Nat.zero_le _⟩
  | .str x, n, _ => by rw [D.py]; exact ⟨rfl, Nat.zero_le _⟩
  | .tup ds, 0, h => by rw [D.dt] at h; cases h
  | .tup ds, n + 1, h => by
    rw [D.dt] at h
    obtain ⟨a, b⟩ := D.dts_plain ds n h
    rw [D.py, PyData.plain, PyData.depth]
    exact ⟨a, Nat.succ_le_succ b⟩
  | .lst ds, 0, h => by rw [D.dt] at h; cases h
  | .lst ds, n + 1, h => by
    rw [D.dt] at h
    obtain ⟨a, b⟩ := D.dts_plain ds n h
    rw [D.py, PyData.plain, PyData.depth]
    exact ⟨a, Nat.succ_le_succ b⟩
  | .fix ds, 0, h => by rw [D.dt] at h; cases h
  | .fix ds, n + 1, h => by
    rw [D.dt] at h
    obtain ⟨a, b⟩ := D.dts_plain ds n h
    rw [D.py, PyData.plain, PyData.depth]
    exact ⟨a, Nat.succ_le_succ b⟩
  | .dic _ _, n, h => by rw [D.dt] at h; cases h
  | .obj _ _, n, h => by rw [D.dt] at h; cases h
theorem D.dts_plain : ∀ (ds : List D) (n : Nat), D.dts n ds = true → PyData.plainAll (D.pys ds) = true ∧ PyData.depthAll (D.pys ds) ≤ n
  | [], n, _ => by rw [D.pys, PyData.plainAll, PyData.depthAll]; exact ⟨rfl, Nat.zero_le _⟩
  | d :: ds, n, h => by
    rw [D.dts, Bool.and_eq_true] at h
    obtain ⟨a, b⟩ := D.dt_plain d n h.1
    obtain ⟨a2, b2⟩ := D.dts_plain ds n h.2
    rw [D.pys, PyData.plainAll, PyData.depthAll, a, a2]
    exact ⟨rfl, Nat.max_le.mpr ⟨b, b2⟩⟩
end
mutual
theorem Rep.dp {K : PySem.W.Frag} {F : Addr → Prop} {H : Hp} : ∀ (d : D) (n : Nat) (v : V), d.dt n = true → Rep K F H d v → Dp K H v d.py
  | .non, n, v, _, h => by rw [Rep] at h; rw [D.py, h]; exact .non
  | .bl b, n, v, _, h => by rw [Rep] at h; rw [D.py, h]; exact .bl b
  | .int i, n, v, _, h => by rw [Rep] at h; rw [D.py, h]; exact .int i
  | .str x, n, v, _, h => by rw [Rep] at h; rw [D.py, h]; exact .str x
  | .tup ds, 0, v, p, h => by rw [D.dt] at p; cases p
  | .tup ds, n + 1, v, p, h => by
    rw [D.dt] at p
    rw [Rep] at h
    obtain ⟨a, vs, e, q, r⟩ := h
    rw [D.py, e]
    exact .tup q (Reps.dp ds n vs p r)
  | .lst ds, 0, v, p, h => by rw [D.dt] at p; cases p
  | .lst ds, n + 1, v, p, h => by
    rw [D.dt] at p
    rw [Rep] at h
    obtain ⟨a, vs, e, _, q, r⟩ := h
    rw [D.py, e]
    exact .lst (SqL.of q) (Reps.dp ds n vs p r)
  | .fix ds, 0, v, p, h => by rw [D.dt] at p; cases p
  | .fix ds, n + 1, v, p, h => by
    rw [D.dt] at p
    rw [Rep] at h
    obtain ⟨a, vs, e, q, r⟩ := h
    rw [D.py, e]
    exact .lst q.sq (Reps.dp ds n vs p r)
  | .dic _ _, n, v, p, h => by rw [D.dt] at p; cases p
  | .obj _ _, n, v, p, h => by rw [D.dt] at p; cases p
theorem Reps.dp {K : PySem.W.Frag} {F : Addr → Prop} {H : Hp} : ∀ (ds : List D) (n : Nat) (vs : List V), D.dts n ds = true → Reps K F H ds vs → DpAll K H vs (D.pys ds)
  | [], n, vs, _, h => by rw [Reps] at h; rw [D.pys, h]; exact .nil
  | d :: ds, n, vs, p, h => by
    rw [D.dts, Bool.and_eq_true] at p
    rw [Reps] at h
    obtain ⟨v, r, e, h1, h2⟩ := h
    rw [D.pys, e]
    exact .cons (Rep.dp d n v p.1 h1) (Reps.dp ds n r p.2 h2)
end

/-! ### operators -/
section
variable {X : Cx}
/-- from a rule on ints -/
theorem opd_int {f : Value → Value → Sem Value} {C : Int → Int → Prop} [∀ i j, Decidable (C i j)] {g : Int → Int → Int} (h : OpR X f (rI C fun i j => .int (g i j))) :
    OpD X f (fun d e => match d, e with | .int i, .int j => if C i j then .ok (.int (g i j)) else .no | _, _ => .no) := by
  refine ⟨_, h, fun d e x y H Q mg W σ r1 r2 z => ?_⟩
  cases d with
  | int i =>
    cases e with
    | int j =>
      by_cases c : C i j
      · exact ⟨i, j, r1.int, r2.int, c, z.get (fun _ => if_pos c) (Same.refl H) rep_int⟩
      · exact (z.no fun _ => if_neg c).elim
    | _ => exact (z.no fun _ => rfl).elim
  | _ => exact (z.no fun _ => rfl).elim
theorem opd_cmp {f : Value → Value → Sem Value} {g : Int → Int → Bool} (h : OpR X f (rI0 fun i j => .bl (g i j))) :
    OpD X f (fun d e => match d, e with | .int i, .int j => .ok (.bl (g i j)) | _, _ => .no) := by
  refine ⟨_, h, fun d e x y H Q mg W σ r1 r2 z => ?_⟩
  cases d with
  | int i =>
    cases e with
    | int j => exact ⟨i, j, r1.int, r2.int, z.get (fun _ => rfl) (Same.refl H) rep_bl⟩
    | _ => exact (z.no fun _ => rfl).elim
  | _ => exact (z.no fun _ => rfl).elim
def subD : D → D → R D
  | .int i, .int j => .ok (.int (i - j))
  | _, _ => .no
theorem od_sub : OpD X (binaryOp .Sub) subD := by
  refine ⟨_, op_sub, fun d e x y H Q mg W σ r1 r2 z => ?_⟩
  cases d with
  | int i =>
    cases e with
    | int j => exact ⟨i, j, r1.int, r2.int, z.get (fun _ => rfl) (Same.refl H) rep_int⟩
    | _ => exact (z.no fun _ => rfl).elim
  | _ => exact (z.no fun _ => rfl).elim
def ltD : D → D → R D
  | .int i, .int j => .ok (.bl (decide (i < j)))
  | _, _ => .no
def leD : D → D → R D
  | .int i, .int j => .ok (.bl (decide (i ≤ j)))
  | _, _ => .no
def gtD : D → D → R D
  | .int i, .int j => .ok (.bl (decide (j < i)))
  | _, _ => .no
def geD : D → D → R D
  | .int i, .int j => .ok (.bl (decide (j ≤ i)))
  | _, _ => .no
theorem od_lt : OpD X (compareOp .Lt) ltD := by
  obtain ⟨r, h, q⟩ := opd_cmp (X := X) op_lt
  refine ⟨r, h, fun d e x y H Q mg W σ r1 r2 z => q d e x y H Q mg W σ r1 r2 (z.congr fun _ => ?_)⟩
  cases d <;> cases e <;> rfl
theorem od_le : OpD X (compareOp .LtE) leD := by
  obtain ⟨r, h, q⟩ := opd_cmp (X := X) op_le
  refine ⟨r, h, fun d e x y H Q mg W σ r1 r2 z => q d e x y H Q mg W σ r1 r2 (z.congr fun _ => ?_)⟩
  cases d <;> cases e <;> rfl
theorem od_gt : OpD X (compareOp .Gt) gtD := by
  obtain ⟨r, h, q⟩ := opd_cmp (X := X) op_gt
  refine ⟨r, h, fun d e x y H Q mg W σ r1 r2 z => q d e x y H Q mg W σ r1 r2 (z.congr fun _ => ?_)⟩
  cases d <;> cases e <;> rfl
theorem od_ge : OpD X (compareOp .GtE) geD := by
  obtain ⟨r, h, q⟩ := opd_cmp (X := X) op_ge
  refine ⟨r, h, fun d e x y H Q mg W σ r1 r2 z => q d e x y H Q mg W σ r1 r2 (z.congr fun _ => ?_)⟩
  cases d <;> cases e <;> rfl
/-- a * b -/
def mulD : D → D → R D
  | .int i, .int j => if (-18446744073709551616 < i ∧ i < 18446744073709551616) ∨ (-18446744073709551616 < j ∧ j < 18446744073709551616) then .ok (.int (i * j)) else .no
  | .lst ds, .int k => if 0 ≤ k ∧ k ≤ 1000 ∧ ds.length ≤ 1000 then .ok (.lst (List.replicate k.toNat ds).flatten) else .no
  | .tup ds, .int k => if ds ≠ [] ∧ 2 ≤ k ∧ k ≤ 1000 ∧ ds.length ≤ 1000 then .ok (.tup (List.replicate k.toNat ds).flatten) else .no
  | _, _ => .no
theorem Reps.flat {K : PySem.W.Frag} {F : Addr → Prop} {H : Hp} {ds : List D} {vs : List V} (h : Reps K F H ds vs) : ∀ k : Nat, Reps K F H (List.replicate k ds).flatten (List.replicate k vs).flatten
  | 0 => .nil
  | k + 1 => by
    rw [List.replicate_succ, List.replicate_succ, List.flatten_cons, List.flatten_cons]
    exact h.append (h.flat k)
theorem Rep.lst {K : PySem.W.Frag} {F : Addr → Prop} {H : Hp} {ds : List D} {v : V} (h : Rep K F H (.lst ds) v) : ∃ a vs, v = .ref a ∧ F a ∧ H a = some (.lst vs) ∧ Reps K F H ds vs := by rw [Rep] at h; exact h
theorem Rep.tup {K : PySem.W.Frag} {F : Addr → Prop} {H : Hp} {ds : List D} {v : V} (h : Rep K F H (.tup ds) v) : ∃ a vs, v = .ref a ∧ SqT K H a vs ∧ Reps K F H ds vs := by rw [Rep] at h; exact h
theorem Rep.fix {K : PySem.W.Frag} {F : Addr → Prop} {H : Hp} {ds : List D} {v : V} (h : Rep K F H (.fix ds) v) : ∃ a vs, v = .ref a ∧ LsF K F H a vs ∧ Reps K F H ds vs := by rw [Rep] at h; exact h
theorem sl_le {n : Nat} (h : n ≤ 16777216) : n ≤ sizeLine := by rw [sizeLine_eq]; exact h
theorem od_mul : OpD X (binaryOp .Mult) mulD := by
  refine ⟨_, op_mul.or (op_rep.or op_repT), fun d e x y H Q mg W σ r1 r2 z => ?_⟩
  cases d with
  | int i =>
    cases e with
    | int j =>
      by_cases c : (-18446744073709551616 < i ∧ i < 18446744073709551616) ∨ (-18446744073709551616 < j ∧ j < 18446744073709551616)
      · exact .inl ⟨i, j, r1.int, r2.int, by unfold CMul; omega, z.get (fun _ => if_pos c) (Same.refl H) rep_int⟩
      · exact (z.no fun _ => if_neg c).elim
    | _ => exact (z.no fun _ => rfl).elim
  | lst ds =>
    cases e with
    | int k =>
      by_cases c : 0 ≤ k ∧ k ≤ 1000 ∧ ds.length ≤ 1000
      · obtain ⟨a, vs, ex, _, hH, rr⟩ := r1.lst
        have hl := rr.length
        refine .inr (.inl ⟨a, k, vs, ex, r2.int, hH, by omega, by omega, sl_le ?_, fun p hp => z.get (fun _ => if_pos c) (same_new hp) (rep_lst hp (rr.flat _))⟩)
        have h1 : k.toNat ≤ 1000 := by omega
        have h2 : vs.length * k.toNat ≤ 1000 * 1000 := Nat.mul_le_mul (by omega) h1
        omega
      · exact (z.no fun _ => if_neg c).elim
    | _ => exact (z.no fun _ => rfl).elim
  | tup ds =>
    cases e with
    | int k =>
      by_cases c : ds ≠ [] ∧ 2 ≤ k ∧ k ≤ 1000 ∧ ds.length ≤ 1000
      · obtain ⟨a, vs, ex, hH, rr⟩ := r1.tup
        have hl := rr.length
        refine .inr (.inr ⟨a, k, vs, ex, r2.int, hH, fun en => c.1 ?_, by omega, by omega, by omega, fun p hp => z.get (fun _ => if_pos c) (same_new hp) (rep_tup hp (rr.flat _))⟩)
        rw [en] at hl
        exact List.eq_nil_of_length_eq_zero hl
      · exact (z.no fun _ => if_neg c).elim
    | _ => exact (z.no fun _ => rfl).elim
  | _ => exact (z.no fun _ => rfl).elim
/-- a + b -/
def addD : D → D → R D
  | .int i, .int j => .ok (.int (i + j))
  | .str x, .str y => if x.length + y.length ≤ 16777216 then .ok (.str (x ++ y)) else .no
  | .lst ds, .lst es => if ds.length + es.length ≤ 16777216 then .ok (.lst (ds ++ es)) else .no
  | .tup ds, .tup es => if ds.length + es.length ≤ 16777216 then .ok (.tup (ds ++ es)) else .no
  | _, _ => .no
theorem rep_tup_of {K : PySem.W.Frag} {F : Addr → Prop} {H : Hp} {a : Addr} {vs : List V} {ds : List D} (h : SqT K H a vs) (r : Reps K F H ds vs) : Rep K F H (.tup ds) (.ref a) := by
  rw [Rep]
  exact ⟨a, vs, rfl, h, r⟩
theorem od_add : OpD X (binaryOp .Add) addD := by
  refine ⟨_, op_add.or (op_add_str.or (op_cat.or op_catA)), fun d e x y H Q mg W σ r1 r2 z => ?_⟩
  cases d with
  | int i =>
    cases e with
    | int j => exact .inl ⟨i, j, r1.int, r2.int, z.get (fun _ => rfl) (Same.refl H) rep_int⟩
    | _ => exact (z.no fun _ => rfl).elim
  | str i =>
    cases e with
    | str j =>
      by_cases c : i.length + j.length ≤ 16777216
      · exact .inr (.inl ⟨i, j, r1.str, r2.str, sl_le c, z.get (fun _ => if_pos c) (Same.refl H) rep_str⟩)
      · exact (z.no fun _ => if_neg c).elim
    | _ => exact (z.no fun _ => rfl).elim
  | lst ds =>
    cases e with
    | lst es =>
      by_cases c : ds.length + es.length ≤ 16777216
      · obtain ⟨a, vs, ex, _, hH, rr⟩ := r1.lst
        obtain ⟨b, us, ey, _, hB, rb⟩ := r2.lst
        refine .inr (.inr (.inl ⟨a, b, vs, us, ex, ey, hH, hB, sl_le (by rw [← rr.length, ← rb.length]; exact c), fun p hp => z.get (fun _ => if_pos c) (same_new hp) (rep_lst hp (rr.append rb))⟩))
      · exact (z.no fun _ => if_neg c).elim
    | _ => exact (z.no fun _ => rfl).elim
  | tup ds =>
    cases e with
    | tup es =>
      by_cases c : ds.length + es.length ≤ 16777216
      · obtain ⟨a, vs, ex, hH, rr⟩ := r1.tup
        obtain ⟨b, us, ey, hB, rb⟩ := r2.tup
        refine .inr (.inr (.inr ⟨a, b, vs, us, ex, ey, hH, hB, sl_le (by rw [← rr.length, ← rb.length]; exact c), fun en => ?_, fun _ en => ?_, fun _ _ p hp => z.get (fun _ => if_pos c) (same_new hp) (rep_tup hp (rr.append rb))⟩))
        · refine z.get (d := .tup (ds ++ es)) (fun _ => show addD (.tup ds) (.tup es) = .ok (.tup (ds ++ es)) from if_pos c) (Same.refl H) ?_
          have hl := rr.length
          rw [en] at hl
          rw [List.eq_nil_of_length_eq_zero hl, List.nil_append]
          exact rep_tup_of hB rb
        · refine z.get (d := .tup (ds ++ es)) (fun _ => show addD (.tup ds) (.tup es) = .ok (.tup (ds ++ es)) from if_pos c) (Same.refl H) ?_
          have hl := rb.length
          rw [en] at hl
          rw [List.eq_nil_of_length_eq_zero hl, List.append_nil]
          exact rep_tup_of hH rr
      · exact (z.no fun _ => if_neg c).elim
    | _ => exact (z.no fun _ => rfl).elim
  | _ => exact (z.no fun _ => rfl).elim
/-- a // b, a % b, a ** b -/
def divD : D → D → R D
  | .int i, .int j => if 0 < j ∧ j < 1073741824 then .ok (.int (i / j)) else .no
  | _, _ => .no
def modD : D → D → R D
  | .int i, .int j => if 0 < j then .ok (.int (i % j)) else .no
  | _, _ => .no
def powD : D → D → R D
  | .int i, .int j => if 0 ≤ j ∧ j ≤ 1000000 ∧ i.natAbs < 18446744073709551616 then .ok (.int (i ^ j.toNat)) else .no
  | _, _ => .no
theorem od_div : OpD X (binaryOp .FloorDiv) divD := by
  refine ⟨_, op_fdiv, fun d e x y H Q mg W σ r1 r2 z => ?_⟩
  cases d with
  | int i =>
    cases e with
    | int j =>
      by_cases c : 0 < j ∧ j < 1073741824
      · exact ⟨i, j, r1.int, r2.int, c, z.get (fun _ => if_pos c) (Same.refl H) rep_int⟩
      · exact (z.no fun _ => if_neg c).elim
    | _ => exact (z.no fun _ => rfl).elim
  | _ => exact (z.no fun _ => rfl).elim
theorem od_mod : OpD X (binaryOp .Mod) modD := by
  refine ⟨_, op_mod, fun d e x y H Q mg W σ r1 r2 z => ?_⟩
  cases d with
  | int i =>
    cases e with
    | int j =>
      by_cases c : 0 < j
      · exact ⟨i, j, r1.int, r2.int, c, z.get (fun _ => if_pos c) (Same.refl H) rep_int⟩
      · exact (z.no fun _ => if_neg c).elim
    | _ => exact (z.no fun _ => rfl).elim
  | _ => exact (z.no fun _ => rfl).elim
theorem od_pow : OpD X (binaryOp .Pow) powD := by
  refine ⟨_, op_pow, fun d e x y H Q mg W σ r1 r2 z => ?_⟩
  cases d with
  | int i =>
    cases e with
    | int j =>
      by_cases c : 0 ≤ j ∧ j ≤ 1000000 ∧ i.natAbs < 18446744073709551616
      · exact ⟨i, j, r1.int, r2.int, c, z.get (fun _ => if_pos c) (Same.refl H) rep_int⟩
      · exact (z.no fun _ => if_neg c).elim
    | _ => exact (z.no fun _ => rfl).elim
  | _ => exact (z.no fun _ => rfl).elim

/-! ### ==, !=, in, not in, is None -/
/-- at most eight deep -/
def eqD (d e : D) : R D := if d.dt 8 = true ∧ e.dt 8 = true then .ok (.bl (PyData.eqv d.py e.py)) else .no
def neD (d e : D) : R D := if d.dt 8 = true ∧ e.dt 8 = true then .ok (.bl (!PyData.eqv d.py e.py)) else .no
def rEqP (K : PySem.W.Frag) (n : Bool) : R2 := fun x y H Q => ∃ d e, Dp K H x d ∧ Dp K H y e ∧ d.plain = true ∧ e.plain = true ∧ d.depth ≤ 8 ∧ e.depth ≤ 8 ∧ Q (.bl (cond n (!PyData.eqv d e) (PyData.eqv d e))) H
theorem op_eqP (hu : X.A.units + 64 < cLine) : OpR X (compareOp .Eq) (rEqP X.K false) := by
  intro pins s σ H x y v u Q I rx ry h
  obtain ⟨d, e, hd, he, sd, se, dd, de, q⟩ := h
  obtain ⟨as, r1⟩ := Dp.reads I d x v hd rx
  obtain ⟨bs, r2⟩ := Dp.reads I e y u he ry
  refine PySem.SeqAt.eq_plain r1 r2 sd se ?_ ⟨.bl _, H, I, rfl, q⟩
  have := Nat.min_le_left d.depth e.depth
  omega
theorem op_neP (hu : X.A.units + 64 < cLine) : OpR X (compareOp .NotEq) (rEqP X.K true) := by
  intro pins s σ H x y v u Q I rx ry h
  obtain ⟨d, e, hd, he, sd, se, dd, de, q⟩ := h
  obtain ⟨as, r1⟩ := Dp.reads I d x v hd rx
  obtain ⟨bs, r2⟩ := Dp.reads I e y u he ry
  refine PySem.SeqAt.ne_plain r1 r2 sd se ?_ ⟨.bl _, H, I, rfl, q⟩
  have := Nat.min_le_left d.depth e.depth
  omega
theorem od_eq (hu : X.A.units + 64 < cLine) : OpD X (compareOp .Eq) eqD := by
  refine ⟨_, op_eqP hu, fun d e x y H Q mg W σ r1 r2 z => ?_⟩
  unfold eqD at z
  by_cases c : d.dt 8 = true ∧ e.dt 8 = true
  · exact ⟨d.py, e.py, Rep.dp d 8 x c.1 r1, Rep.dp e 8 y c.2 r2, (D.dt_plain d 8 c.1).1, (D.dt_plain e 8 c.2).1, (D.dt_plain d 8 c.1).2, (D.dt_plain e 8 c.2).2, z.get (fun _ => if_pos c) (Same.refl H) rep_bl⟩
  · exact (z.no fun _ => if_neg c).elim
theorem od_ne (hu : X.A.units + 64 < cLine) : OpD X (compareOp .NotEq) neD := by
  refine ⟨_, op_neP hu, fun d e x y H Q mg W σ r1 r2 z => ?_⟩
  unfold neD at z
  by_cases c : d.dt 8 = true ∧ e.dt 8 = true
  · exact ⟨d.py, e.py, Rep.dp d 8 x c.1 r1, Rep.dp e 8 y c.2 r2, (D.dt_plain d 8 c.1).1, (D.dt_plain e 8 c.2).1, (D.dt_plain d 8 c.1).2, (D.dt_plain e 8 c.2).2, z.get (fun _ => if_pos c) (Same.refl H) rep_bl⟩
  · exact (z.no fun _ => if_neg c).elim
def isNonD : D → R D
  | .non => .ok (.bl true)
  | _ => .ok (.bl false)
theorem Rep.isN {K : PySem.W.Frag} {F : Addr → Prop} {H : Hp} {d : D} {v : V} (h : Rep K F H d v) : isNonD d = .ok (.bl (decide (v = .non))) := by
  cases d with
  | non => rw [Rep] at h; rw [h]; rfl
  | bl b => rw [Rep] at h; rw [h]; rfl
  | int b => rw [Rep] at h; rw [h]; rfl
  | str b => rw [Rep] at h; rw [h]; rfl
  | tup b => obtain ⟨a, vs, e, _⟩ := h.tup; rw [e]; rfl
  | lst b => obtain ⟨a, vs, e, _⟩ := h.lst; rw [e]; rfl
  | fix b => obtain ⟨a, vs, e, _⟩ := h.fix; rw [e]; rfl
  | dic b c => rw [Rep] at h; obtain ⟨a, vs, e, _⟩ := h; rw [e]; rfl
  | obj b c => rw [Rep] at h; obtain ⟨a, C, dx, vs, e, _⟩ := h; rw [e]; rfl
def isD (d e : D) : R D := match e with
  | .non => isNonD d
  | _ => .no
theorem od_isN : OpD X (compareOp .Is) isD := by
  refine ⟨_, op_isN, fun d e x y H Q mg W σ r1 r2 z => ?_⟩
  cases e with
  | non => exact ⟨by rw [Rep] at r2; exact r2, z.get (fun _ => r1.isN) (Same.refl H) rep_bl⟩
  | _ => exact (z.no fun _ => rfl).elim
/-- x in a list or tuple of data; a text in a text -/
def inD : D → D → R D
  | .str x, .str y => .ok (.bl (!(Builtin.Str.occurrences y x 0 y.length 1).isEmpty))
  | d, .lst ds => if d.dt 8 = true ∧ D.dts 8 ds = true then .ok (.bl ((D.pys ds).any fun y => PyData.eqv y d.py)) else .no
  | d, .tup ds => if d.dt 8 = true ∧ D.dts 8 ds = true then .ok (.bl ((D.pys ds).any fun y => PyData.eqv y d.py)) else .no
  | _, _ => .no
def notInD (d e : D) : R D := (inD d e).bind fun x => match x with
  | .bl b => .ok (.bl (!b))
  | _ => .no
def rInP (K : PySem.W.Frag) (n : Bool) : R2 := fun x y H Q => ∃ d es, Dp K H x d ∧ (Dp K H y (.list es) ∨ Dp K H y (.tuple es)) ∧ d.plain = true ∧ PyData.plainAll es = true ∧ d.depth ≤ 8 ∧ PyData.depthAll es ≤ 8 ∧ Q (.bl (cond n (!es.any fun y => PyData.eqv y d) (es.any fun y => PyData.eqv y d))) H
theorem op_inP (hu : X.A.units + 64 < cLine) : OpR X (compareOp .In) (rInP X.K false) := by
  intro pins s σ H x y v u Q I rx ry h
  obtain ⟨d, es, hd, he, sd, se, dd, de, q⟩ := h
  obtain ⟨as, r1⟩ := Dp.reads I d x v hd rx
  have hm := Nat.min_le_left (PyData.depthAll es) d.depth
  rcases he with he | he
  · obtain ⟨bs, r2⟩ := Dp.reads I _ y u he ry
    exact PySem.SeqAt.in_list_data r2 r1 se sd (by omega) ⟨.bl _, H, I, rfl, q⟩
  · obtain ⟨bs, r2⟩ := Dp.reads I _ y u he ry
    exact PySem.SeqAt.in_tuple_data r2 r1 se sd (by omega) ⟨.bl _, H, I, rfl, q⟩
theorem op_notInP (hu : X.A.units + 64 < cLine) : OpR X (compareOp .NotIn) (rInP X.K true) := by
  intro pins s σ H x y v u Q I rx ry h
  obtain ⟨d, es, hd, he, sd, se, dd, de, q⟩ := h
  obtain ⟨as, r1⟩ := Dp.reads I d x v hd rx
  have hm := Nat.min_le_left (PyData.depthAll es) d.depth
  rcases he with he | he
  · obtain ⟨bs, r2⟩ := Dp.reads I _ y u he ry
    exact PySem.SeqAt.notIn_list_data r2 r1 se sd (by omega) ⟨.bl _, H, I, rfl, q⟩
  · obtain ⟨bs, r2⟩ := Dp.reads I _ y u he ry
    exact PySem.SeqAt.notIn_tuple_data r2 r1 se sd (by omega) ⟨.bl _, H, I, rfl, q⟩
theorem in_cases {d e : D} {k : D} (h : inD d e = .ok k) : (∃ x y, d = .str x ∧ e = .str y ∧ k = .bl (!(Builtin.Str.occurrences y x 0 y.length 1).isEmpty)) ∨
    ∃ ds, (e = .lst ds ∨ e = .tup ds) ∧ d.dt 8 = true ∧ D.dts 8 ds = true ∧ k = .bl ((D.pys ds).any fun y => PyData.eqv y d.py) := by
  cases e with
  | str y =>
    cases d with
    | str x => rw [inD] at h; exact .inl ⟨x, y, rfl, rfl, (R.ok.inj h).symm⟩
    | _ => exact nomatch (show (R.no : R D) = .ok k from h)
  | lst ds =>
    have h' : (if d.dt 8 = true ∧ D.dts 8 ds = true then (R.ok (D.bl ((D.pys ds).any fun y => PyData.eqv y d.py)) : R D) else .no) = .ok k := by
      cases d <;> exact h
    by_cases c : d.dt 8 = true ∧ D.dts 8 ds = true
    · rw [if_pos c] at h'
      exact .inr ⟨ds, .inl rfl, c.1, c.2, (R.ok.inj h').symm⟩
    · rw [if_neg c] at h'; cases h'
  | tup ds =>
    have h' : (if d.dt 8 = true ∧ D.dts 8 ds = true then (R.ok (D.bl ((D.pys ds).any fun y => PyData.eqv y d.py)) : R D) else .no) = .ok k := by
      cases d <;> exact h
    by_cases c : d.dt 8 = true ∧ D.dts 8 ds = true
    · rw [if_pos c] at h'
      exact .inr ⟨ds, .inr rfl, c.1, c.2, (R.ok.inj h').symm⟩
    · rw [if_neg c] at h'; cases h'
  | _ => cases d <;> cases h
theorem in_notEx {d e : D} {c : Str} (h : inD d e = .ex c) : False := by
  cases e with
  | str y =>
    cases d with
    | str x => exact nomatch (show R.ok (D.bl (!(Builtin.Str.occurrences y x 0 y.length 1).isEmpty)) = .ex c from h)
    | _ => exact nomatch (show (R.no : R D) = .ex c from h)
  | lst ds =>
    have h' : (if d.dt 8 = true ∧ D.dts 8 ds = true then (R.ok (D.bl ((D.pys ds).any fun y => PyData.eqv y d.py)) : R D) else .no) = .ex c := by
      cases d <;> exact h
    split at h' <;> cases h'
  | tup ds =>
    have h' : (if d.dt 8 = true ∧ D.dts 8 ds = true then (R.ok (D.bl ((D.pys ds).any fun y => PyData.eqv y d.py)) : R D) else .no) = .ex c := by
      cases d <;> exact h
    split at h' <;> cases h'
  | _ => cases d <;> exact nomatch (show (R.no : R D) = .ex c from h)
theorem inp_of {K : PySem.W.Frag} {H : Hp} {d e : D} {x y : V} {ds : List D} {n : Bool} {Q : VK} (r1 : Rep K All H d x) (r2 : Rep K All H e y) (he : e = .lst ds ∨ e = .tup ds) (c1 : d.dt 8 = true) (c2 : D.dts 8 ds = true)
    (q : Q (.bl (cond n (!(D.pys ds).any fun y => PyData.eqv y d.py) ((D.pys ds).any fun y => PyData.eqv y d.py))) H) : rInP K n x y H Q := by
  refine ⟨d.py, D.pys ds, Rep.dp d 8 x c1 r1, ?_, (D.dt_plain d 8 c1).1, (D.dts_plain ds 8 c2).1, (D.dt_plain d 8 c1).2, (D.dts_plain ds 8 c2).2, q⟩
  rcases he with he | he
  · subst he
    have := Rep.dp (.lst ds) 9 y (by rw [D.dt]; exact c2) r2
    rw [D.py] at this
    exact .inl this
  · subst he
    have := Rep.dp (.tup ds) 9 y (by rw [D.dt]; exact c2) r2
    rw [D.py] at this
    exact .inr this
theorem od_in (hu : X.A.units + 64 < cLine) : OpD X (compareOp .In) inD := by
  refine ⟨_, op_in_str.or (op_inP hu), fun d e x y H Q mg W σ r1 r2 z => ?_⟩
  cases q : inD d e with
  | ok k =>
    rcases in_cases q with ⟨a, b, rfl, rfl, rfl⟩ | ⟨ds, he, c1, c2, rfl⟩
    · exact .inl ⟨a, b, r1.str, r2.str, z.get (fun _ => q) (Same.refl H) rep_bl⟩
    · exact .inr (inp_of (n := false) r1 r2 he c1 c2 (z.get (fun _ => q) (Same.refl H) rep_bl))
  | ex c => exact (in_notEx q).elim
  | no => exact (z.no fun _ => q).elim
theorem od_notIn (hu : X.A.units + 64 < cLine) : OpD X (compareOp .NotIn) notInD := by
  refine ⟨_, op_notIn_str.or (op_notInP hu), fun d e x y H Q mg W σ r1 r2 z => ?_⟩
  unfold notInD at z
  cases q : inD d e with
  | ok k =>
    rcases in_cases q with ⟨a, b, rfl, rfl, rfl⟩ | ⟨ds, he, c1, c2, rfl⟩
    · exact .inl ⟨a, b, r1.str, r2.str, z.get (fun _ => by rw [q]; rfl) (Same.refl H) rep_bl⟩
    · exact .inr (inp_of (n := true) r1 r2 he c1 c2 (z.get (fun _ => by rw [q]; rfl) (Same.refl H) rep_bl))
  | ex c => exact (in_notEx q).elim
  | no => exact (z.no fun _ => by rw [q]; rfl).elim
end
end Lp

/-! # The pure layer, part 4: subscripts, slices, built-in functions -/
namespace Lp
open PySem L2

section
variable {K : PySem.W.Frag} {F : Addr → Prop} {H : Hp}
theorem Reps.atI {ds : List D} {vs : List V} {i : Int} {d : D} (h : Reps K F H ds vs) (e : L2.atI ds i = some d) : ∃ v, L2.atI vs i = some v ∧ Rep K F H d v := by
  unfold L2.atI at e ⊢
  rw [← h.length]
  cases q : ixN ds.length i with
  | none => rw [q] at e; cases e
  | some j =>
    rw [q] at e
    exact h.get (i := j) e
end
def R.of {α : Type} : Option α → R α
  | some a => .ok a
  | none => .no
@[simp] theorem R.of_some {α : Type} (a : α) : R.of (some a) = .ok a := .trans rfl rfl
@[simp] theorem R.of_none {α : Type} : R.of (none : Option α) = .no := .trans rfl rfl
/-- xs[i] -/
def ixD : D → D → R D
  | .lst ds, .int i => .of (atI ds i)
  | .tup ds, .int i => .of (atI ds i)
  | .fix ds, .int i => .of (atI ds i)
  | _, _ => .no
section
variable {X : Cx} {W : WX} {a b : Expr} {fa fb : En → R D} {pos : Pos}
theorem px_ix (ha : PX X W a fa) (hb : PX X W b fb) (hs : PlainIx b) : PX X W (.Subscript a b pos) (E.bin ixD fa fb) := by
  refine convE (pe_ix (ix_list.or ix_tup) ha hb hs) fun σ H Q h => ?_
  refine h.seq fun d v H1 s1 r1 h1 => h1.seq fun d2 v2 H2 s2 r2 h2 => ?_
  have r1' := r1.mono s2
  cases d2 with
  | int i =>
    cases d with
    | lst ds =>
      obtain ⟨p, vs, e, _, hH, rr⟩ := r1'.lst
      cases q : L2.atI ds i with
      | none => exact (h2.no fun _ => show R.of (L2.atI ds i) = .no by rw [q]; rfl).elim
      | some d =>
        obtain ⟨u, hu, ru⟩ := rr.atI q
        exact .inl ⟨p, vs, i, u, e, r2.int, SqL.of hH, hu, h2.get (fun _ => show R.of (L2.atI ds i) = .ok d by rw [q]; rfl) (Same.refl H2) ru⟩
    | tup ds =>
      obtain ⟨p, vs, e, hH, rr⟩ := r1'.tup
      cases q : L2.atI ds i with
      | none => exact (h2.no fun _ => show R.of (L2.atI ds i) = .no by rw [q]; rfl).elim
      | some d =>
        obtain ⟨u, hu, ru⟩ := rr.atI q
        exact .inr ⟨p, vs, i, u, e, r2.int, hH, hu, h2.get (fun _ => show R.of (L2.atI ds i) = .ok d by rw [q]; rfl) (Same.refl H2) ru⟩
    | fix ds =>
      obtain ⟨p, vs, e, hH, rr⟩ := r1'.fix
      cases q : L2.atI ds i with
      | none => exact (h2.no fun _ => show R.of (L2.atI ds i) = .no by rw [q]; rfl).elim
      | some d =>
        obtain ⟨u, hu, ru⟩ := rr.atI q
        exact .inl ⟨p, vs, i, u, e, r2.int, hH.sq, hu, h2.get (fun _ => show R.of (L2.atI ds i) = .ok d by rw [q]; rfl) (Same.refl H2) ru⟩
    | _ => exact (h2.no fun _ => rfl).elim
  | _ => exact (h2.no fun _ => by cases d <;> rfl).elim
/-! ### slices -/
def cutD {α : Type} (xs : List α) (lo hi : Option Int) : List α := (xs.drop (HT.sIx xs.length 0 lo)).take (HT.sIx xs.length xs.length hi - HT.sIx xs.length 0 lo)
def slD (d : D) (lo hi : Option Int) : R D := match d with
  | .lst ds => .ok (.lst (cutD ds lo hi))
  | .tup ds => .ok (.tup (cutD ds lo hi))
  | _ => .no
theorem Reps.cut {K : PySem.W.Frag} {F : Addr → Prop} {H : Hp} {ds : List D} {vs : List V} (h : Reps K F H ds vs) (lo hi : Option Int) : Reps K F H (cutD ds lo hi) (cutV vs lo hi) := by
  unfold cutD cutV
  rw [h.length]
  exact (h.drop _).take _
/-- a part of a slice -/
def asPart : D → R (Option Int)
  | .int i => .ok (some i)
  | _ => .no
namespace E
def none : En → R (Option Int) := fun _ => .ok Option.none
def part (f : En → R D) : En → R (Option Int) := fun e => (f e).bind asPart
def slice (a : En → R D) (lo hi : En → R (Option Int)) : En → R D := fun e => (a e).bind fun d => (lo e).bind fun l => (hi e).bind fun h => slD d l h
end E
abbrev repO : Hp → Hp → Option Int → Option Int → Prop := fun _ _ a b => a = b
abbrev PXo (X : Cx) (W : WX) (x : Option Expr) (f : En → R (Option Int)) : Prop := PO X x (Rg repO X.K X.mg W f)
theorem convO {X : Cx} {x : Option Expr} {t u : TO} (h : PO X x t) (k : ∀ σ H Q, u σ H Q → t σ H Q) : PO X x u := ⟨fun pins s σ H Q I z => h.run pins s σ H Q I (k σ H Q z)⟩
theorem pxo_none : PXo X W none E.none := convO po_none fun σ H Q h => h.get (fun _ => rfl) (Same.refl H) rfl
theorem pxo_some (h : PX X W a fa) : PXo X W (some a) (E.part fa) := convO (po_some h) fun σ H Q z =>
  Rg.seq (k := fun x _ => asPart x) z fun d v H1 s1 r1 h1 => by
    cases d with
    | int i => exact ⟨i, r1.int, h1.get (fun _ => rfl) (Same.refl H1) rfl⟩
    | _ => exact (h1.no fun _ => rfl).elim
variable {lo hi : Option Expr} {fl fh : En → R (Option Int)} {p2 : Pos}
theorem px_slice (ha : PX X W a fa) (hl : PXo X W lo fl) (hh : PXo X W hi fh) : PX X W (.Subscript a (.Slice lo hi none p2) pos) (E.slice fa fl fh) := by
  refine convE (pe_slice (sl_list.or sl_tupA) ha hl hh) fun σ H Q h => ?_
  refine h.seq fun d v H1 s1 r1 h1 => Rg.seq (rep := repO) h1 fun l l2 H2 s2 r2 h2 => Rg.seq (rep := repO) (k := fun h _ => slD d l h) h2 fun u u2 H3 s3 r3 h3 => ?_
  subst r2
  subst r3
  have rr := (r1.mono s2).mono s3
  cases d with
  | lst ds =>
    obtain ⟨p, vs, e, _, hH, rv⟩ := rr.lst
    exact .inl ⟨p, vs, e, SqL.of hH, fun q hq => h3.get (fun _ => rfl) (same_new hq) (rep_lst hq (rv.cut _ _))⟩
  | tup ds =>
    obtain ⟨p, vs, e, hH, rv⟩ := rr.tup
    refine .inr ⟨p, vs, e, hH, fun ⟨e0, e1⟩ => h3.get (fun _ => rfl) (Same.refl H3) ?_, fun _ q hq => h3.get (fun _ => rfl) (same_new hq) (rep_tup hq (rv.cut _ _))⟩
    have : cutD ds l u = ds := by
      unfold cutD
      rw [rv.length, e0, e1, List.drop_zero, Nat.sub_zero, ← rv.length, List.take_length]
    rw [this]
    exact rep_tup_of hH rv
  | _ => exact (h3.no fun _ => rfl).elim
/-- xs[::-1] -/
def revD : D → R D
  | .lst ds => .ok (.lst ds.reverse)
  | _ => .no
theorem px_rev {k : Nat} {p1 p2 p3 pos : Pos} (ha : PX X W a fa) : PX X W (.Subscript a (.Slice none none (some (.UnaryOp .USub (.Constant (.int 1) k p1) p2)) p3) pos) (E.un revD fa) := convE (pe_revL ha) fun σ H Q h =>
  Rg.seq (k := fun x _ => revD x) h fun d v H1 s1 r1 h1 => by
    cases d with
    | lst ds =>
      obtain ⟨p, vs, e, _, hH, rv⟩ := r1.lst
      exact ⟨p, vs, e, SqL.of hH, fun q hq => h1.get (fun _ => rfl) (same_new hq) (rep_lst hq rv.reverse)⟩
    | _ => exact (h1.no fun _ => rfl).elim
end

/-! ### built-in functions -/
section
variable {X : Cx}
theorem Reps.one_ {K : PySem.W.Frag} {F : Addr → Prop} {H : Hp} {d : D} {vs : List V} (h : Reps K F H [d] vs) : ∃ v, vs = [v] ∧ Rep K F H d v := by
  rw [Reps] at h
  obtain ⟨v, r, e, h1, h2⟩ := h
  rw [Reps] at h2
  exact ⟨v, by rw [e, h2], h1⟩
theorem Reps.two_ {K : PySem.W.Frag} {F : Addr → Prop} {H : Hp} {d e : D} {vs : List V} (h : Reps K F H [d, e] vs) : ∃ v u, vs = [v, u] ∧ Rep K F H d v ∧ Rep K F H e u := by
  rw [Reps] at h
  obtain ⟨v, r, ev, h1, h2⟩ := h
  obtain ⟨u, er, h3⟩ := h2.one_
  exact ⟨v, u, by rw [ev, er], h1, h3⟩
/-- a function of one value -/
def on1 (g : D → R D) : List D → R D
  | [d] => g d
  | _ => .no
def on2 (g : D → D → R D) : List D → R D
  | [d, e] => g d e
  | _ => .no
theorem cd_1 {f : Value} {g : D → R D} (r : List V → Hp → VK → Prop) (h : CallR X f r) (q : ∀ (d : D) (v : V) (H : Hp) (Q : VK) (mg : Str → Option Value) (W : WX) (σ : L2.St), Rep X.K All H d v → tX X.K mg W (fun _ => g d) σ H Q → r [v] H Q) : CallD X f (on1 g) := by
  refine ⟨r, h, fun ds vs H Q mg W σ rs z => ?_⟩
  match ds, rs, z with
  | [d], rs, z =>
    obtain ⟨v, e, rv⟩ := rs.one_
    rw [e]
    exact q d v H Q mg W σ rv z
  | [], _, z => exact (z.no fun _ => rfl).elim
  | _ :: _ :: _, _, z => exact (z.no fun _ => rfl).elim
theorem cd_2 {f : Value} {g : D → D → R D} (r : List V → Hp → VK → Prop) (h : CallR X f r) (q : ∀ (d e : D) (v u : V) (H : Hp) (Q : VK) (mg : Str → Option Value) (W : WX) (σ : L2.St), Rep X.K All H d v → Rep X.K All H e u → tX X.K mg W (fun _ => g d e) σ H Q → r [v, u] H Q) : CallD X f (on2 g) := by
  refine ⟨r, h, fun ds vs H Q mg W σ rs z => ?_⟩
  match ds, rs, z with
  | [d, e], rs, z =>
    obtain ⟨v, u, ev, rv, ru⟩ := rs.two_
    rw [ev]
    exact q d e v u H Q mg W σ rv ru z
  | [], _, z => exact (z.no fun _ => rfl).elim
  | [_], _, z => exact (z.no fun _ => rfl).elim
  | _ :: _ :: _ :: _, _, z => exact (z.no fun _ => rfl).elim
def lenD : D → R D
  | .lst ds => .ok (.int ds.length)
  | .tup ds => .ok (.int ds.length)
  | .fix ds => .ok (.int ds.length)
  | .str x => if x.length ≤ 16777216 then .ok (.int x.length) else .no
  | .dic ks _ => .ok (.int ks.length)
  | _ => .no
theorem cd_len : CallD X (.builtin "len") (on1 lenD) := by
  refine cd_1 _ (call_len_seq.or (call_len_str.or call_lenD)) fun d v H Q mg W σ r z => ?_
  cases d with
  | lst ds =>
    obtain ⟨p, vs, e, _, hH, rv⟩ := r.lst
    exact .inl ⟨p, vs, by rw [e], .inl (SqL.of hH), by rw [← rv.length]; exact z.get (fun _ => rfl) (Same.refl H) rep_int⟩
  | tup ds =>
    obtain ⟨p, vs, e, hH, rv⟩ := r.tup
    exact .inl ⟨p, vs, by rw [e], .inr hH, by rw [← rv.length]; exact z.get (fun _ => rfl) (Same.refl H) rep_int⟩
  | fix ds =>
    obtain ⟨p, vs, e, hH, rv⟩ := r.fix
    exact .inl ⟨p, vs, by rw [e], .inl hH.sq, by rw [← rv.length]; exact z.get (fun _ => rfl) (Same.refl H) rep_int⟩
  | str x =>
    by_cases c : x.length ≤ 16777216
    · exact .inr (.inl ⟨x, by rw [r.str], sl_le c, z.get (fun _ => if_pos c) (Same.refl H) rep_int⟩)
    · exact (z.no fun _ => if_neg c).elim
  | dic ks ds =>
    rw [Rep] at r
    obtain ⟨p, vs, e, _, hH, hl, rv⟩ := r
    refine .inr (.inr ⟨p, _, by rw [e], hH, ?_⟩)
    have : (ks.zip vs).length = ks.length := by rw [List.length_zip, ← hl, Nat.min_self]
    rw [this]
    exact z.get (fun _ => rfl) (Same.refl H) rep_int
  | _ => exact (z.no fun _ => rfl).elim
def max2D : D → D → R D
  | .int i, .int j => .ok (.int (max i j))
  | _, _ => .no
def min2D : D → D → R D
  | .int i, .int j => .ok (.int (min i j))
  | _, _ => .no
theorem cd_max2 (hc : X.calm = true) : CallD X (.builtin "max") (on2 max2D) := by
  refine cd_2 _ (call_max2 hc) fun d e v u H Q mg W σ r1 r2 z => ?_
  cases d with
  | int i =>
    cases e with
    | int j =>
      refine ⟨i, j, by rw [r1.int, r2.int], ?_⟩
      have e : (if j > i then j else i) = max i j := by split <;> omega
      rw [e]
      exact z.get (fun _ => rfl) (Same.refl H) rep_int
    | _ => exact (z.no fun _ => rfl).elim
  | _ => exact (z.no fun _ => rfl).elim
theorem cd_min2 (hc : X.calm = true) : CallD X (.builtin "min") (on2 min2D) := by
  refine cd_2 _ (call_min2 hc) fun d e v u H Q mg W σ r1 r2 z => ?_
  cases d with
  | int i =>
    cases e with
    | int j =>
      refine ⟨i, j, by rw [r1.int, r2.int], ?_⟩
      have e : (if j < i then j else i) = min i j := by split <;> omega
      rw [e]
      exact z.get (fun _ => rfl) (Same.refl H) rep_int
    | _ => exact (z.no fun _ => rfl).elim
  | _ => exact (z.no fun _ => rfl).elim
/-- all ints -/
def asInts : List D → Option (List Int)
  | [] => some []
  | .int i :: r => (asInts r).map (i :: ·)
  | _ => none
theorem asInts_eq : ∀ {ds : List D} {ns : List Int}, asInts ds = some ns → ds = ns.map D.int
  | [], ns, h => by cases h; rfl
  | .int i :: r, ns, h => by
    rw [asInts] at h
    cases q : asInts r with
    | none => rw [q] at h; cases h
    | some ms =>
      rw [q] at h
      cases h
      rw [asInts_eq q]; rfl
  | .non :: r, ns, h => by cases h
  | .bl _ :: r, ns, h => by cases h
  | .str _ :: r, ns, h => by cases h
  | .tup _ :: r, ns, h => by cases h
  | .lst _ :: r, ns, h => by cases h
  | .fix _ :: r, ns, h => by cases h
  | .dic _ _ :: r, ns, h => by cases h
  | .obj _ _ :: r, ns, h => by cases h
@[simp] theorem asInts_map (ns : List Int) : asInts (ns.map D.int) = some ns := by
  induction ns with
  | nil => rfl
  | cons n r ih => rw [List.map_cons, asInts, ih]; rfl
/-- a function of a list of ints -/
def onInts (g : List Int → R D) : D → R D
  | .lst ds => (R.of (asInts ds)).bind g
  | _ => .no
theorem cd_ints {f : Value} {g : List Int → R D} (r : List V → Hp → VK → Prop) (h : CallR X f r)
    (q : ∀ (a : Addr) (ns : List Int) (H : Hp) (Q : VK) (mg : Str → Option Value) (W : WX) (σ : L2.St), H a = some (.lst (ns.map V.int)) → tX X.K mg W (fun _ => g ns) σ H Q → r [.ref a] H Q) : CallD X f (on1 (onInts g)) := by
  refine cd_1 r h fun d v H Q mg W σ rr z => ?_
  cases d with
  | lst ds =>
    obtain ⟨p, vs, e, _, hH, rv⟩ := rr.lst
    cases c : asInts ds with
    | none => exact (z.no fun _ => show (R.of (asInts ds)).bind g = .no by rw [c]; rfl).elim
    | some ns =>
      have ed := asInts_eq c
      rw [ed] at rv
      rw [rv.ints] at hH
      rw [e]
      exact q p ns H Q mg W σ hH (z.congr fun _ => show (R.of (asInts ds)).bind g = g ns by rw [c]; rfl)
  | _ => exact (z.no fun _ => rfl).elim
def sumI (ns : List Int) : R D := .ok (.int ns.sum)
theorem cd_sum (hc : X.calm = true) : CallD X (.builtin "sum") (on1 (onInts sumI)) :=
  cd_ints _ (cr_sum hc) fun a ns H Q mg W σ hH z => ⟨a, ns, rfl, SqL.of hH, z.get (fun _ => rfl) (Same.refl H) rep_int⟩
def maxI : List Int → R D
  | [] => .no
  | n :: ns => .ok (.int (ns.foldl max n))
def minI : List Int → R D
  | [] => .no
  | n :: ns => .ok (.int (ns.foldl min n))
theorem foldl_max_ge : ∀ (ns : List Int) (n : Int), n ≤ ns.foldl max n ∧ ∀ y ∈ ns, y ≤ ns.foldl max n
  | [], n => ⟨Int.le_refl n, fun y h => nomatch h⟩
  | m :: ns, n => by
    obtain ⟨a, b⟩ := foldl_max_ge ns (max n m)
    rw [List.foldl_cons]
    refine ⟨by omega, fun y hy => ?_⟩
    rcases List.mem_cons.mp hy with e | hy
    · subst e; omega
    · exact b y hy
theorem foldl_max_mem : ∀ (ns : List Int) (n : Int), ns.foldl max n = n ∨ ns.foldl max n ∈ ns
  | [], n => .inl rfl
  | m :: ns, n => by
    rw [List.foldl_cons]
    rcases foldl_max_mem ns (max n m) with e | h
    · rw [e]
      rcases Int.le_total m n with c | c
      · exact .inl (by omega)
      · exact .inr (by rw [show max n m = m by omega]; exact List.mem_cons_self)
    · exact .inr (List.mem_cons_of_mem _ h)
theorem foldl_min_le : ∀ (ns : List Int) (n : Int), ns.foldl min n ≤ n ∧ ∀ y ∈ ns, ns.foldl min n ≤ y
  | [], n => ⟨Int.le_refl n, fun y h => nomatch h⟩
  | m :: ns, n => by
    obtain ⟨a, b⟩ := foldl_min_le ns (min n m)
    rw [List.foldl_cons]
    refine ⟨by omega, fun y hy => ?_⟩
    rcases List.mem_cons.mp hy with e | hy
    · subst e; omega
    · exact b y hy
theorem foldl_min_mem : ∀ (ns : List Int) (n : Int), ns.foldl min n = n ∨ ns.foldl min n ∈ ns
  | [], n => .inl rfl
  | m :: ns, n => by
    rw [List.foldl_cons]
    rcases foldl_min_mem ns (min n m) with e | h
    · rw [e]
      rcases Int.le_total m n with c | c
      · exact .inr (by rw [show min n m = m by omega]; exact List.mem_cons_self)
      · exact .inl (by omega)
    · exact .inr (List.mem_cons_of_mem _ h)
theorem cd_max (hc : X.calm = true) : CallD X (.builtin "max") (on1 (onInts maxI)) := by
  refine cd_ints _ (cr_max hc) fun a ns H Q mg W σ hH z => ?_
  cases ns with
  | nil => exact (z.no fun _ => rfl).elim
  | cons n ns =>
    refine ⟨a, n :: ns, rfl, SqL.of hH, Nat.succ_pos _, fun m hm hle => ?_⟩
    have e : m = ns.foldl max n := by
      obtain ⟨g1, g2⟩ := foldl_max_ge ns n
      have l1 : m ≤ ns.foldl max n := by
        rcases List.mem_cons.mp hm with e | h
        · rw [e]; exact g1
        · exact g2 m h
      have l2 : ns.foldl max n ≤ m := by
        rcases foldl_max_mem ns n with e | h
        · rw [e]; exact hle n List.mem_cons_self
        · exact hle _ (List.mem_cons_of_mem _ h)
      omega
    rw [e]
    exact z.get (fun _ => rfl) (Same.refl H) rep_int
theorem cd_min (hc : X.calm = true) : CallD X (.builtin "min") (on1 (onInts minI)) := by
  refine cd_ints _ (cr_min hc) fun a ns H Q mg W σ hH z => ?_
  cases ns with
  | nil => exact (z.no fun _ => rfl).elim
  | cons n ns =>
    refine ⟨a, n :: ns, rfl, SqL.of hH, Nat.succ_pos _, fun m hm hle => ?_⟩
    have e : m = ns.foldl min n := by
      obtain ⟨g1, g2⟩ := foldl_min_le ns n
      have l1 : ns.foldl min n ≤ m := by
        rcases List.mem_cons.mp hm with e | h
        · rw [e]; exact g1
        · exact g2 m h
      have l2 : m ≤ ns.foldl min n := by
        rcases foldl_min_mem ns n with e | h
        · rw [e]; exact hle n List.mem_cons_self
        · exact hle _ (List.mem_cons_of_mem _ h)
      omega
    rw [e]
    exact z.get (fun _ => rfl) (Same.refl H) rep_int
/-- sorted, ints -/
def sortI (ns : List Int) : R D := .ok (.lst ((ns.mergeSort fun a b => decide (a ≤ b)).map D.int))
theorem sorted_eq : ∀ {ns ms : List Int}, ns.Perm ms → ns.Pairwise (· ≤ ·) → ms.Pairwise (· ≤ ·) → ns = ms := fun h a b =>
  h.eq_of_pairwise (fun x y _ _ h1 h2 => Int.le_antisymm h1 h2) a b
theorem mergeSort_le (ns : List Int) : (ns.mergeSort fun a b => decide (a ≤ b)).Pairwise (· ≤ ·) := by
  have := List.pairwise_mergeSort (le := fun a b : Int => decide (a ≤ b)) (by intro a b c; simp; omega) (by intro a b; simp; omega) ns
  exact this.imp (by intro a b h; simpa using h)
theorem cd_sortI : CallD X (.builtin "sorted") (on1 (onInts sortI)) := by
  refine cd_ints _ cr_sortedI fun a ns H Q mg W σ hH z => ⟨a, ns, rfl, SqL.of hH, fun ns' p hp hs hn => ?_⟩
  have e : ns' = ns.mergeSort fun a b => decide (a ≤ b) := sorted_eq (hp.trans (List.mergeSort_perm ns _).symm) hs (mergeSort_le ns)
  rw [e]
  exact z.get (fun _ => rfl) (same_new hn) (rep_lst hn Reps.of_ints)
/-- tuple(x), list(x) -/
def tupleD : D → R D
  | .lst ds => .ok (.tup ds)
  | .tup ds => .ok (.tup ds)
  | _ => .no
def listD : D → R D
  | .lst ds => .ok (.lst ds)
  | .tup ds => .ok (.lst ds)
  | _ => .no
theorem cd_tuple : CallD X (.type "tuple") (on1 tupleD) := by
  refine cd_1 _ call_tuple_of fun d v H Q mg W σ r z => ?_
  cases d with
  | lst ds =>
    obtain ⟨p, vs, e, _, hH, rv⟩ := r.lst
    exact ⟨p, vs, by rw [e], .inl ⟨SqL.of hH, fun l hl => z.get (fun _ => rfl) (same_new hl) (rep_tup hl rv)⟩⟩
  | tup ds =>
    obtain ⟨p, vs, e, hH, rv⟩ := r.tup
    exact ⟨p, vs, by rw [e], .inr ⟨hH, z.get (fun _ => rfl) (Same.refl H) (rep_tup_of hH rv)⟩⟩
  | _ => exact (z.no fun _ => rfl).elim
theorem cd_list : CallD X (.type "list") (on1 listD) := by
  refine cd_1 _ call_list_of fun d v H Q mg W σ r z => ?_
  cases d with
  | lst ds =>
    obtain ⟨p, vs, e, _, hH, rv⟩ := r.lst
    exact ⟨p, vs, by rw [e], .inl (SqL.of hH), fun l hl => z.get (fun _ => rfl) (same_new hl) (rep_lst hl rv)⟩
  | tup ds =>
    obtain ⟨p, vs, e, hH, rv⟩ := r.tup
    exact ⟨p, vs, by rw [e], .inr hH, fun l hl => z.get (fun _ => rfl) (same_new hl) (rep_lst hl rv)⟩
  | _ => exact (z.no fun _ => rfl).elim
/-- int(x): a number, a truth, a text that is a number; str(n) -/
def intD : D → R D
  | .int i => .ok (.int i)
  | .bl k => .ok (.int (if k then 1 else 0))
  | .str x => if x.length ≤ 640 then (R.of (PySem.intText? x)).bind fun n => .ok (.int n) else .no
  | _ => .no
theorem cd_int : CallD X (.type "int") (on1 intD) := by
  refine cd_1 _ (call_int1.or call_int_str) fun d v H Q mg W σ r z => ?_
  cases d with
  | int i => exact .inl (.inl ⟨i, by rw [r.int], z.get (fun _ => rfl) (Same.refl H) rep_int⟩)
  | bl k => exact .inl (.inr ⟨k, by rw [r.bl], z.get (fun _ => rfl) (Same.refl H) rep_int⟩)
  | str x =>
    by_cases c : x.length ≤ 640
    · cases q : PySem.intText? x with
      | none => exact (z.no fun _ => show (if x.length ≤ 640 then (R.of (PySem.intText? x)).bind fun n => R.ok (D.int n) else .no) = .no by rw [if_pos c, q]; rfl).elim
      | some n => exact .inr ⟨x, n, by rw [r.str], q, c, z.get (fun _ => show (if x.length ≤ 640 then (R.of (PySem.intText? x)).bind fun n => R.ok (D.int n) else .no) = .ok (.int n) by rw [if_pos c, q]; rfl) (Same.refl H) rep_int⟩
    · exact (z.no fun _ => show (if x.length ≤ 640 then (R.of (PySem.intText? x)).bind fun n => R.ok (D.int n) else .no) = .no by rw [if_neg c]).elim
  | _ => exact (z.no fun _ => rfl).elim
def strD : D → R D
  | .int i => if i.natAbs < 1000000000000 then .ok (.str (toString i)) else .no
  | _ => .no
theorem cd_str : CallD X (.type "str") (on1 strD) := by
  refine cd_1 _ call_str_int fun d v H Q mg W σ r z => ?_
  cases d with
  | int i =>
    by_cases c : i.natAbs < 1000000000000
    · refine ⟨i, by rw [r.int], ?_, z.get (fun _ => if_pos c) (Same.refl H) rep_str⟩
      by_cases h0 : i.natAbs = 0
      · rw [h0]; decide
      · exact Nat.lt_of_lt_of_le ((Nat.log2_lt h0).mpr (Nat.lt_of_lt_of_le c (by decide : 1000000000000 ≤ 2 ^ 40))) (by decide)
    · exact (z.no fun _ => if_neg c).elim
  | _ => exact (z.no fun _ => rfl).elim
end
end Lp

/-! # The pure layer, part 5: what is walked -/
namespace Lp
open PySem L2

/-! ### lists and tuples alike -/
inductive Sd where
  | L | T
def Sd.seq (k : Sd) (K : PySem.W.Frag) (H : Hp) (a : Addr) (xs : List V) : Prop := match k with
  | .L => SqL K H a xs
  | .T => SqT K H a xs
def Sd.iter (k : Sd) (h : Heap) (it a : Addr) (i : Nat) : Prop := match k with
  | .L => h.IsListIter it a i
  | .T => h.IsTupleIter it a i
def Sd.holds (k : Sd) (h : Heap) (a : Addr) (its : Array Value) : Prop := match k with
  | .L => h.IsList a its
  | .T => h.IsTuple a its
def Sd.obj (k : Sd) (a : Addr) : Obj := match k with
  | .L => { cls := .type "list_iterator", data := .fields #[.ref a, .int 0 0] }
  | .T => { cls := .type "tuple_iterator", data := .fields #[.ref a, .int 0 0] }
section
variable {X : Cx} {pins : List (Addr × Obj)} {σ : L2.St} {H : Hp} {s : Shared}
theorem sd_inv (I : Inv X pins σ H s) (k : Sd) {a : Addr} {xs : List V} (h : k.seq X.K H a xs) : ∃ its : List Value, Vals xs its ∧ k.holds s.heap a its.toArray ∧ a < s.heap.objs.size := by
  cases k with
  | L =>
    obtain ⟨its, rv, p, _⟩ := I.list h
    exact ⟨its, rv, p.isList, p.lt⟩
  | T =>
    obtain ⟨its, rv, p, _⟩ := I.tuple h
    exact ⟨its, rv, p, p.lt⟩
theorem sd_inj (I : Inv X pins σ H s) (k : Sd) {a : Addr} {xs ys : List V} (h : k.seq X.K H a xs) (h' : k.seq X.K H a ys) : xs = ys := by
  cases k with
  | L => exact I.list_inj h h'
  | T => exact I.tuple_inj h h'
end
theorem sd_draws (k : Sd) {prog : Program} {w : World} {A : Around} (hh : A.handled = none) (it a : Addr) (hne : a ≠ it) (items : Array Value) :
    Draws prog w A it [it, a] items.size (fun i v => items[i]? = some v) (fun i h => k.iter h it a i ∧ k.holds h a items) := match k with
  | .L => Draws.list hh it a hne items
  | .T => Draws.tuple hh it a hne items
theorem sd_begins (k : Sd) (a : Addr) (items : Array Value) : Begins (.ref a) (k.obj a) (fun h => k.holds h a items) := match k with
  | .L => begins_list a items
  | .T => begins_tuple a items
theorem sd_at {k : Sd} {h h' : Heap} {it a : Addr} {i : Nat} (st : k.iter h it a i) (q : ∀ o, h.get? it = some o → h'.get? it = some o) : k.iter h' it a i := match k, st with
  | .L, st => Heap.IsListIter.at st q
  | .T, st => Heap.IsTupleIter.at st q
theorem sd_rec {k : Sd} {h : Heap} {it a : Addr} {i : Nat} (st : k.iter h it a i) : ∃ o vs, h.get? it = some o ∧ o.data = .fields vs := match k, st with
  | .L, ⟨o, e, _, d⟩ => ⟨o, _, e, d⟩
  | .T, ⟨o, e, _, d⟩ => ⟨o, _, e, d⟩
theorem sd_start {k : Sd} {h : Heap} {it a : Addr} (e : h.get? it = some (k.obj a)) : k.iter h it a 0 := match k, e with
  | .L, e => ⟨_, e, rfl, rfl⟩
  | .T, e => ⟨_, e, rfl, rfl⟩

/-! ### zip of two -/
def ItzK (K : PySem.W.Frag) (k l : Sd) (a b : Addr) : It :=
  ⟨fun i H => ∃ (xs ys : List V) (x y : V), k.seq K H a xs ∧ l.seq K H b ys ∧ xs[i]? = some x ∧ ys[i]? = some y,
    fun i H v H' => ∃ T x y, v = .ref T ∧ H T = none ∧ H' = upd H T (.tup [x, y]) ∧ (∀ xs, k.seq K H a xs → xs[i]? = some x) ∧ ∀ ys, l.seq K H b ys → ys[i]? = some y,
    fun i H => ∃ xs ys : List V, k.seq K H a xs ∧ l.seq K H b ys ∧ i = min xs.length ys.length⟩
theorem turn_zipK {P : Program} {w : World} {K : PySem.W.Frag} {elts : List Expr} {kk : Nat} {tpos : Pos} (k l : Sd) {a b z TI TO i1 i2 : Addr} (S : ZipSep2 z TI TO i1 i2 [i1, a] [i2, b]) (ha : a ≠ i1) (hb : b ≠ i2) :
    Turn P w K (.Tuple elts kk tpos) (ItzK K k l a b) [z, TI, TO, i1, i2] z (fun i h => IsZip h z TI TO .none ∧ IsTupOf2 h TI (.ref i1) (.ref i2) ∧ (∃ x y, IsTupOf2 h TO x y) ∧ k.iter h i1 a i ∧ l.iter h i2 b i) where
  mem := by simp
  obj := fun i h st c hc => by
    obtain ⟨hz, hTI, ⟨x, y, hTO⟩, h1, h2⟩ := st
    obtain ⟨o1, v1, e1, d1⟩ := sd_rec h1
    obtain ⟨o2, v2, e2, d2⟩ := sd_rec h2
    have e' : c = z ∨ c = TI ∨ c = TO ∨ c = i1 ∨ c = i2 := by simpa using hc
    rcases e' with q | q | q | q | q
    · rw [q]; exact ⟨_, hz, fun v q => nomatch q⟩
    · rw [q]; exact ⟨_, hTI, fun v q => nomatch q⟩
    · rw [q]; exact ⟨_, hTO, fun v q => nomatch q⟩
    · rw [q]; exact ⟨o1, e1, fun v q => by rw [d1] at q; cases q⟩
    · rw [q]; exact ⟨o2, e2, fun v q => by rw [d2] at q; cases q⟩
  keep := fun i h h' st q => by
    obtain ⟨hz, hTI, ⟨x, y, hTO⟩, h1, h2⟩ := st
    exact ⟨q z (by simp) _ hz, q TI (by simp) _ hTI, ⟨x, y, q TO (by simp) _ hTO⟩, sd_at h1 fun o e => q i1 (by simp) o e, sd_at h2 fun o e => q i2 (by simp) o e⟩
  item := by
    intro X hP hw hK hc i pins s σ H E I hf st hg
    subst hP hw hK
    obtain ⟨hz, hTI, ⟨x0, y0, hTO⟩, h1, h2⟩ := st
    obtain ⟨xs, ys, x, y, hqx, hqy, hx, hy⟩ := hg
    obtain ⟨its, rv, p, _⟩ := sd_inv I k hqx
    obtain ⟨its2, rv2, p2, _⟩ := sd_inv I l hqy
    obtain ⟨u, hu, ru⟩ := rv.get hx
    obtain ⟨u2, hu2, ru2⟩ := rv2.get hy
    have hzl : z < s.heap.objs.size := Heap.lt_size hz
    have D1 := sd_draws k (prog := X.prog) (w := X.w) (A := X.A.in1) (I.ok.hd hc) i1 a ha its.toArray
    have D2 := sd_draws l (prog := X.prog) (w := X.w) (A := X.A.in1) (I.ok.hd hc) i2 b hb its2.toArray
    have hlt1 : i < its.toArray.size := by
      have := (List.getElem?_eq_some_iff.mp hu).1
      simpa using this
    have hlt2 : i < its2.toArray.size := by
      have := (List.getElem?_eq_some_iff.mp hu2).1
      simpa using this
    refine wpAny_pyNext_zipD2_item S D1 D2 hz hTI hTO ⟨h1, p⟩ ⟨h2, p2⟩ hlt1 hlt2 fun x1 x2 h' tk e1 e2 z' TO' st1' st2' hT hsz hk => ?_
    have ex1 : x1 = u := by
      have e1' : its[i]? = some x1 := by simpa using e1
      rw [hu] at e1'
      exact (Option.some.inj e1').symm
    have ex2 : x2 = u2 := by
      have e2' : its2[i]? = some x2 := by simpa using e2
      rw [hu2] at e2'
      exact (Option.some.inj e2').symm
    subst ex1
    subst ex2
    refine ⟨_, rfl, wpAny_letOwnedTupleGo_zip (s := { s with heap := h', toks := tk }) z' fun h'' z'' sb => ?_⟩
    have hT2 : h''.get? s.heap.objs.size = some { cls := .type "tuple", data := .seq #[x1, x2] } := (sb.2 _ (Nat.ne_of_gt hzl)).trans hT
    have new : ObjOk X.prog X.w (upd H s.heap.objs.size (.tup [x, y])) h'' s.heap.objs.size (.tup [x, y]) :=
      ⟨by show 2 ≤ sizeLine; decide, [x1, x2], .cons ru (.cons ru2 .nil), ⟨_, hT2, rfl, _, rfl⟩⟩
    have I1 : Inv X pins σ (upd H s.heap.objs.size (.tup [x, y])) { s with heap := h'', toks := tk } :=
      I.turnedNew (t' := tk) (ch := [z, TI, TO, i1, i2]) (fun c o hb q => (sb.2 c (fun q' => hb (by simp [q']))).trans (hk c o (fun q' => hb (by simp [q'])) (fun q' => hb (by simp [q'])) (fun q' => hb (by simp [q'])) (fun q' => hb (by simp [q'])) q)) hf (Nat.le_refl _) new
    refine ⟨.ref s.heap.objs.size, _, I1, rfl, ⟨_, x, y, rfl, I.hok.fresh (Nat.le_refl _), rfl, fun l' hl => by rw [sd_inj I k hl hqx]; exact hx, fun l' hl => by rw [sd_inj I l hl hqy]; exact hy⟩, ⟨z'', ?_, ⟨x1, x2, ?_⟩, ?_, ?_⟩, fun c hcm => ?_⟩
    · exact (sb.2 _ S.TIz).trans (hk _ _ S.TIz S.TITO S.TIi1 S.TIi2 hTI)
    · exact (sb.2 _ S.TOz).trans TO'
    · exact sd_at st1'.1 fun o q => (sb.2 _ (Ne.symm S.zi1)).trans q
    · exact sd_at st2'.1 fun o q => (sb.2 _ (Ne.symm S.zi2)).trans q
    · have hlt : c < s.heap.objs.size := by
        have e' : c = z ∨ c = TI ∨ c = TO ∨ c = i1 ∨ c = i2 := by simpa using hcm
        rcases e' with q | q | q | q | q
        · rw [q]; exact hzl
        · rw [q]; exact Heap.lt_size hTI
        · rw [q]; exact Heap.lt_size hTO
        · rw [q]; obtain ⟨_, _, e1, _⟩ := sd_rec h1; exact Heap.lt_size e1
        · rw [q]; obtain ⟨_, _, e2, _⟩ := sd_rec h2; exact Heap.lt_size e2
      rw [upd_ne (Nat.ne_of_lt hlt)]
      exact (hf c hcm).1
  done := by
    intro X hP hw hK hc i pins s σ H E I hf st hg
    subst hP hw hK
    obtain ⟨hz, hTI, ⟨x0, y0, hTO⟩, h1, h2⟩ := st
    obtain ⟨xs, ys, hqx, hqy, hend⟩ := hg
    obtain ⟨its, rv, p, _⟩ := sd_inv I k hqx
    obtain ⟨its2, rv2, p2, _⟩ := sd_inv I l hqy
    have l1 := rv.length
    have l2 := rv2.length
    have D1 := sd_draws k (prog := X.prog) (w := X.w) (A := X.A.in1) (I.ok.hd hc) i1 a ha its.toArray
    have D2 := sd_draws l (prog := X.prog) (w := X.w) (A := X.A.in1) (I.ok.hd hc) i2 b hb its2.toArray
    refine wpAny_pyNext_zipD2_end S D1 D2 hz hTI hTO ⟨h1, p⟩ ⟨h2, p2⟩ (by simp; omega) (by simp; omega) (by simp; omega) fun h' tk hk => ⟨rfl, I.turnedL (t' := tk) (ch := [z, TI, TO, i1, i2]) (fun c o hb q =>
      hk c o (fun q' => hb (by simp [q'])) (fun q' => hb (by simp [q'])) (fun q' => hb (by simp [q'])) (fun q' => hb (by simp [q'])) q) hf⟩
  self := fun A i s Q E st h => wpAny_pyIter_zip st.1 h
/-- the sides of what a value is walked as -/
def iZipK (K : PySem.W.Frag) (ta : TA) : TI := fun σ H R => ta σ H fun vs H1 => ∃ a b k l, vs = [.ref a, .ref b] ∧ (∃ xs, Sd.seq k K H1 a xs) ∧ (∃ ys, Sd.seq l K H1 b ys) ∧ R (ItzK K k l a b) H1
theorem pi_zipK {X : Cx} {e e2 : Expr} {ta : TA} {p pos tpos : Pos} {elts : List Expr} {kk : Nat} (hg : Gl X "zip") (hm : X.mg "zip" = none) (ha : PA X [e, e2] ta)
    (hs : starEach [e, e2] X.env = (false, eval e X.env) :: starEach [e2] X.env := by rfl) (hpl : (backTo pos (starEach [e2] X.env)).any (·.1) = false := by rfl) :
    PI X (.Tuple elts kk tpos) (.Call (.Name "zip" p) [e, e2] [] pos) (iZipK X.K ta) := by
  refine ⟨fun pins s σ H R I h => ?_⟩
  refine PyProof.Rows.Call_ (ld_blt I hg hm PyProof.Rows.boot_zip (PyProof.Rows.callWith_type1 (thn (ha.run pos pins s σ H _ I h) fun us s1 ⟨vs, H1, I1, r1, q1⟩ => ?_) hs hpl))
  obtain ⟨a, b, k, l, ex, ⟨xs, hqx⟩, ⟨ys, hqy⟩, q⟩ := q1
  subst ex
  cases r1 with
  | cons r rr =>
    cases rr with
    | cons r' rr =>
      cases rr
      cases r
      cases r'
      obtain ⟨its, rv, p1, la⟩ := sd_inv I1 k hqx
      obtain ⟨its2, rv2, p2, lb⟩ := sd_inv I1 l hqy
      refine zip_begins2 (sd_begins k a its.toArray) (sd_begins l b its2.toArray) p1 p2 fun h' hz hTI hTO h1 h2 hsz hk => wpAny_pyIter_zip hz ?_
      have I2 : Inv X pins σ H1 { s1 with heap := h' } := I1.kept (t' := s1.toks) hk
      have S := zip_sep2 (N := s1.heap.objs.size) (fp1 := [a]) (fp2 := [b]) (fun c hc => by rw [List.mem_singleton.mp hc]; exact la) (fun c hc => by rw [List.mem_singleton.mp hc]; exact lb)
      refine ⟨s1.heap.objs.size + 4, [s1.heap.objs.size + 4, s1.heap.objs.size + 2, s1.heap.objs.size + 3, s1.heap.objs.size, s1.heap.objs.size + 1], _, _, H1, rfl, I2,
        turn_zipK k l S (Nat.ne_of_lt la) (Nat.ne_of_lt (Nat.lt_succ_of_lt lb)), ⟨hz, hTI, ⟨_, _, hTO⟩, sd_start h1, sd_start h2⟩, fun c hcm => ?_, q⟩
      have e' : c = s1.heap.objs.size + 4 ∨ c = s1.heap.objs.size + 2 ∨ c = s1.heap.objs.size + 3 ∨ c = s1.heap.objs.size ∨ c = s1.heap.objs.size + 1 := by simpa using hcm
      have hle : s1.heap.objs.size ≤ c := by
        rcases e' with z | z | z | z | z
        · rw [z]; exact Nat.le_add_right _ _
        · rw [z]; exact Nat.le_add_right _ _
        · rw [z]; exact Nat.le_add_right _ _
        · rw [z]; exact Nat.le_refl _
        · rw [z]; exact Nat.le_add_right _ _
      exact I1.fpOk hle (I1.hok.fresh hle)

/-! ### enumerate of one -/
def IteK (K : PySem.W.Frag) (k : Sd) (a : Addr) : It :=
  ⟨fun i H => ∃ (xs : List V) (x : V), k.seq K H a xs ∧ xs[i]? = some x, fun i H v H' => ∃ T x, v = .ref T ∧ H T = none ∧ H' = upd H T (.tup [.int (i : Nat), x]) ∧ ∀ xs, k.seq K H a xs → xs[i]? = some x, fun i H => ∃ xs : List V, k.seq K H a xs ∧ i = xs.length⟩
theorem turn_enumK {P : Program} {w : World} {K : PySem.W.Frag} {elts : List Expr} {kk : Nat} {tpos : Pos} (k : Sd) {a e it : Addr} (hei : e ≠ it) (hea : e ≠ a) (hai : a ≠ it) :
    Turn P w K (.Tuple elts kk tpos) (IteK K k a) [e, it] e (fun i h => (∃ old, IsEnum h e it ((i : Nat) : Int) old) ∧ k.iter h it a i) where
  mem := by simp
  obj := fun i h st b hb => by
    obtain ⟨⟨old, he⟩, hi⟩ := st
    obtain ⟨o, v, ho, hd⟩ := sd_rec hi
    have e' : b = e ∨ b = it := by simpa using hb
    rcases e' with z | z
    · rw [z]; exact ⟨_, he, fun v q => nomatch q⟩
    · rw [z]; exact ⟨o, ho, fun v q => by rw [hd] at q; cases q⟩
  keep := fun i h h' st q => let ⟨⟨old, he⟩, hi⟩ := st; ⟨⟨old, q e (by simp) _ he⟩, sd_at hi fun o z => q it (by simp) o z⟩
  item := by
    intro X hP hw hK hc i pins s σ H E I hf st hg
    subst hP hw hK
    obtain ⟨⟨old, he⟩, hit⟩ := st
    obtain ⟨xs, x, hq, hx⟩ := hg
    obtain ⟨its, rv, p, _⟩ := sd_inv I k hq
    obtain ⟨u, hu, ru⟩ := rv.get hx
    have hel : e < s.heap.objs.size := Heap.lt_size he
    have hil : it < s.heap.objs.size := by obtain ⟨_, _, q, _⟩ := sd_rec hit; exact Heap.lt_size q
    have D1 := sd_draws k (prog := X.prog) (w := X.w) (A := X.A.in1) (I.ok.hd hc) it a hai its.toArray
    have hlt : i < its.toArray.size := by
      have := (List.getElem?_eq_some_iff.mp hu).1
      simpa using this
    refine wpAny_pyNext_enum_itemD D1 he ⟨hit, p⟩ hlt hei (by simp [hei, hea]) fun x1 h' tk e1 ho st' hT hsz hk => ?_
    have ex1 : x1 = u := by
      have e1' : its[i]? = some x1 := by simpa using e1
      rw [hu] at e1'
      exact (Option.some.inj e1').symm
    subst ex1
    refine ⟨_, rfl, wpAny_letOwnedTupleGo_enum (s := { s with heap := h', toks := tk + 1 }) ho fun h'' he' sb => ?_⟩
    have hT2 : h''.get? s.heap.objs.size = some { cls := .type "tuple", data := .seq #[.int i tk, x1] } := (sb.2 _ (Nat.ne_of_gt hel)).trans hT
    have new : ObjOk X.prog X.w (upd H s.heap.objs.size (.tup [.int (i : Nat), x])) h'' s.heap.objs.size (.tup [.int (i : Nat), x]) :=
      ⟨by show 2 ≤ sizeLine; decide, [.int i tk, x1], .cons ⟨_, rfl⟩ (.cons ru .nil), ⟨_, hT2, rfl, _, rfl⟩⟩
    have I1 : Inv X pins σ (upd H s.heap.objs.size (.tup [.int (i : Nat), x])) { s with heap := h'', toks := tk + 1 } :=
      I.turnedNew (ch := [e, it]) (fun b ob hb q => (sb.2 b (fun z => hb (by simp [z]))).trans (hk b ob (fun z => hb (by simp [z])) (fun z => hb (by simp [z])) q)) hf (Nat.le_refl _) new
    refine ⟨.ref s.heap.objs.size, _, I1, rfl, ⟨_, x, rfl, I.hok.fresh (Nat.le_refl _), rfl, fun ys hy => by rw [sd_inj I k hy hq]; exact hx⟩, ⟨⟨x1, ?_⟩, sd_at st'.1 fun o q => (sb.2 it (Ne.symm hei)).trans q⟩, fun b hb => ?_⟩
    · have e1 : ((i + 1 : Nat) : Int) = (i : Int) + 1 := by omega
      rw [e1]; exact he'
    · have hb' : b < s.heap.objs.size := by
        have e' : b = e ∨ b = it := by simpa using hb
        rcases e' with z | z
        · rw [z]; exact hel
        · rw [z]; exact hil
      rw [upd_ne (Nat.ne_of_lt hb')]
      exact (hf b hb).1
  done := by
    intro X hP hw hK hc i pins s σ H E I hf st hg
    subst hP hw hK
    obtain ⟨⟨old, he⟩, hit⟩ := st
    obtain ⟨xs, hq, hx⟩ := hg
    obtain ⟨its, rv, p, _⟩ := sd_inv I k hq
    obtain ⟨f0, f1, f2, f3, f4, f5⟩ := hf it (by simp)
    have hl := rv.length
    have D1 := sd_draws k (prog := X.prog) (w := X.w) (A := X.A.in1) (I.ok.hd hc) it a hai its.toArray
    have hn : its.toArray.size = i := by simp; omega
    exact wpAny_pyNext_enum_endD (n := its.toArray.size) D1 he (by rw [hn]; exact ⟨hit, p⟩) fun h' eb => ⟨rfl, I.turned (t' := s.toks) (fun b o hb q => eb b o hb q) f0 f1 f3 f4 f5⟩
  self := fun A i s Q E st h => let ⟨⟨_, he⟩, _⟩ := st; wpAny_pyIter_enum he h
def iEnumK (K : PySem.W.Frag) (ta : TA) : TI := fun σ H R => ta σ H fun vs H1 => ∃ a k, vs = [.ref a] ∧ (∃ xs, Sd.seq k K H1 a xs) ∧ R (IteK K k a) H1
theorem meets_enumK {v : Value} {o : Obj} {P : Heap → Prop} (B : Begins v o P) :
    Meets (Builtin.«enumerate.__new__» ⟨[.type "enumerate", v], []⟩) (fun _ R s => P s.heap ∧
      R (.ok (.ret (.ref (s.heap.push o).objs.size))) { s with heap := (s.heap.push o).push { cls := .type "enumerate", data := .fields #[.none, .bool false, .ref s.heap.objs.size, rawInt 0, .none, .none] } }) :=
  .of_wp fun prog w A R s h => by
    obtain ⟨hp, gg, dr, tk, os⟩ := s
    obtain ⟨hb, h⟩ := h
    have hsub := sub_enumerate
    have start : ∀ {A' : Around} {E : Value → Shared → Prop} {Q : Value → Shared → Prop}, Q (.ref hp.objs.size) ⟨hp.push o, gg, dr, tk, os⟩ → wpAny (model prog w) A' (pyIter v) Q E ⟨hp, gg, dr, tk, os⟩ :=
      fun q => B.iter prog w _ _ ⟨hp, gg, dr, tk, os⟩ _ hb q
    wp_walk using start
    refine wpAny_stack_any fun st => wpAny_pure ?_
    split
    · rename_i c _ _ _ _ _
      cases (c == Value.type "enumerate") <;> (wp_walk using start; exact ⟨_, rfl, h⟩)
    · wp_walk using start
      exact ⟨_, rfl, h⟩
theorem call_enumK {prog : Program} {w : World} {A : Around} {E : Value → Shared → Prop} {s : Shared} {v : Value} {o : Obj} {P : Heap → Prop} {Q : Value → Shared → Prop} (B : Begins v o P) (hb : P s.heap)
    (h : ∀ h', IsEnum h' (s.heap.objs.size + 1) s.heap.objs.size 0 .none → h'.get? s.heap.objs.size = some o → (∀ b o, s.heap.get? b = some o → h'.get? b = some o) → Q (.ref (s.heap.objs.size + 1)) { s with heap := h' }) :
    wpAny (model prog w) A (call (.type "enumerate") [v]) Q E s := by
  refine callType_new F.called_enumerate (by decide) (F.typeCall_enumerate_1 _) (F.newCall_enumerate_1 _) (fun obj => F.args_object_init_2 obj _) F.entry_enumerate_new (meets_enumK B) ⟨hb, ?_⟩
  have hz : (s.heap.push o).objs.size = s.heap.objs.size + 1 := Heap.size_push ..
  show _ ∧ _
  rw [hz]
  have he : IsEnum ((s.heap.push o).push { cls := .type "enumerate", data := .fields #[.none, .bool false, .ref s.heap.objs.size, rawInt 0, .none, .none] }) (s.heap.objs.size + 1) s.heap.objs.size 0 .none := by
    have q := Heap.get?_push_size (s.heap.push o) (o := { cls := .type "enumerate", data := .fields #[.none, .bool false, .ref s.heap.objs.size, rawInt 0, .none, .none] }) rfl
    rw [hz] at q
    exact q
  exact ⟨⟨_, he, rfl⟩, h _ he (Heap.get?_push_of_some _ (Heap.get?_push_size _ B.free)) fun b u x => Heap.get?_push_of_some _ (Heap.get?_push_of_some _ x)⟩
theorem pi_enumK {X : Cx} {e : Expr} {ta : TA} {p pos tpos : Pos} {elts : List Expr} {kk : Nat} (hg : Gl X "enumerate") (hm : X.mg "enumerate" = none) (ha : PA X [e] ta) (hs : starEach [e] X.env = [(false, eval e X.env)] := by rfl) :
    PI X (.Tuple elts kk tpos) (.Call (.Name "enumerate" p) [e] [] pos) (iEnumK X.K ta) := by
  refine ⟨fun pins s σ H R I h => ?_⟩
  refine PyProof.Rows.Call_ (ld_blt I hg hm PyProof.Rows.boot_enumerate (PyProof.Rows.callWith_type1 (thn (ha.run pos pins s σ H _ I h) fun us s1 ⟨vs, H1, I1, r1, q1⟩ => ?_) hs rfl))
  obtain ⟨a, k, ex, ⟨xs, hqx⟩, q⟩ := q1
  subst ex
  cases r1 with
  | cons r rr =>
    cases rr
    cases r
    obtain ⟨its, rv, p1, la⟩ := sd_inv I1 k hqx
    refine call_enumK (sd_begins k a its.toArray) p1 fun h' he h1 hk => wpAny_pyIter_enum he ?_
    have I2 : Inv X pins σ H1 { s1 with heap := h' } := I1.kept (t' := s1.toks) hk
    refine ⟨s1.heap.objs.size + 1, [s1.heap.objs.size + 1, s1.heap.objs.size], _, _, H1, rfl, I2, turn_enumK k (Nat.succ_ne_self _) (Nat.ne_of_gt (Nat.lt_succ_of_lt la)) (Nat.ne_of_lt la), ⟨⟨.none, he⟩, sd_start h1⟩, fun b hb => ?_, q⟩
    have e' : b = s1.heap.objs.size + 1 ∨ b = s1.heap.objs.size := by simpa using hb
    have hle : s1.heap.objs.size ≤ b := by
      rcases e' with z | z
      · rw [z]; exact Nat.le_add_right _ _
      · rw [z]; exact Nat.le_refl _
    exact I1.fpOk hle (I1.hok.fresh hle)

/-! ### a list or a tuple itself -/
def iSeqK (K : PySem.W.Frag) (tl : TE) : TI := fun σ H R => tl σ H fun x H1 => ∃ a, x = .ref a ∧ (((∃ xs, SqL K H1 a xs) ∧ R (Itl K a) H1) ∨ ((∃ xs, SqT K H1 a xs) ∧ R (Itt K a) H1))
theorem pi_seqK {X : Cx} {tg l : Expr} {tl : TE} (hl : PE X l tl) : PI X tg l (iSeqK X.K tl) := by
  refine ⟨fun pins s σ H R I h => ?_⟩
  refine thn (hl.run pins s σ H _ I h) fun v s1 ⟨x, H1, I1, r1, q1⟩ => ?_
  obtain ⟨a, e, q⟩ := q1
  subst e
  cases r1
  have new : ∀ {b : Addr}, b ∈ [s1.heap.objs.size] → FpOk X pins H1 b := fun {b} hb => by
    rw [List.mem_singleton.mp hb]
    exact I1.fpOk (Nat.le_refl _) (I1.hok.fresh (Nat.le_refl _))
  rcases q with ⟨⟨xs, hq⟩, q⟩ | ⟨⟨xs, hq⟩, q⟩
  · obtain ⟨its, rv, p, hz⟩ := I1.list hq
    exact wpAny_pyIter_list p.isList ⟨s1.heap.objs.size, [s1.heap.objs.size], _, _, H1, rfl, I1.kept (t' := s1.toks) fun b o e => Heap.get?_push_of_some _ e, turn_list a _, ⟨_, Heap.get?_push_size _ rfl, rfl, rfl⟩, fun b hb => new hb, q⟩
  · obtain ⟨its, rv, p, hz⟩ := I1.tuple hq
    exact wpAny_pyIter_tuple (show s1.heap.IsTuple a its.toArray from p) ⟨s1.heap.objs.size, [s1.heap.objs.size], _, _, H1, rfl, I1.kept (t' := s1.toks) fun b o e => Heap.get?_push_of_some _ e, turn_tuple a _, ⟨_, Heap.get?_push_size _ rfl, rfl, rfl⟩, fun b hb => new hb, q⟩
end Lp

/-! # The pure layer, part 6: iterables as data, targets, comprehensions, fresh lists -/
namespace Lp
open PySem L2

/-! ### what is read stands in the heap -/
section
variable {K : PySem.W.Frag} {H : Hp}
mutual
/-- what is read stands in the heap -/
theorem Rep.dom {F : Addr → Prop} (g : ∀ a, H a ≠ none → F a) : ∀ (d : D) (v : V), Rep K All H d v → Rep K F H d v
  | .non, v, h => by rw [Rep] at h ⊢; exact h
  | .bl b, v, h => by rw [Rep] at h ⊢; exact h
  | .int i, v, h => by rw [Rep] at h ⊢; exact h
  | .str x, v, h => by rw [Rep] at h ⊢; exact h
  | .tup ds, v, h => by
    rw [Rep] at h ⊢
    obtain ⟨a, vs, e, q, r⟩ := h
    exact ⟨a, vs, e, q, Reps.dom g ds vs r⟩
  | .lst ds, v, h => by
    rw [Rep] at h ⊢
    obtain ⟨a, vs, e, _, q, r⟩ := h
    exact ⟨a, vs, e, g a (by rw [q]; intro z; cases z), q, Reps.dom g ds vs r⟩
  | .fix ds, v, h => by
    rw [Rep] at h ⊢
    obtain ⟨a, vs, e, q, r⟩ := h
    refine ⟨a, vs, e, ?_, Reps.dom g ds vs r⟩
    rcases q with q | q | q
    · exact .inl ⟨g a (by rw [q.2]; intro z; cases z), q.2⟩
    · exact .inr (.inl q)
    · exact .inr (.inr q)
  | .dic ks ds, v, h => by
    rw [Rep] at h ⊢
    obtain ⟨a, vs, e, _, q, l, r⟩ := h
    exact ⟨a, vs, e, g a (by rw [q]; intro z; cases z), q, l, Reps.dom g ds vs r⟩
  | .obj fs ds, v, h => by
    rw [Rep] at h ⊢
    obtain ⟨a, C, dx, vs, e, _, q, l, r⟩ := h
    exact ⟨a, C, dx, vs, e, g a (by rw [q]; intro z; cases z), q, l, Reps.dom g ds vs r⟩
theorem Reps.dom {F : Addr → Prop} (g : ∀ a, H a ≠ none → F a) : ∀ (ds : List D) (vs : List V), Reps K All H ds vs → Reps K F H ds vs
  | [], vs, h => by rw [Reps] at h ⊢; exact h
  | d :: ds, vs, h => by
    rw [Reps] at h ⊢
    obtain ⟨v, r, e, h1, h2⟩ := h
    exact ⟨v, r, e, Rep.dom g d v h1, Reps.dom g ds r h2⟩
end
end

/-- J gives the items ds, one a turn, while P stands -/
structure Yields (K : PySem.W.Frag) (F : Addr → Prop) (J : It) (P : Hp → Prop) (ds : List D) : Prop where
  go : ∀ i H, i < ds.length → P H → J.go i H
  stop : ∀ H, P H → J.stop ds.length H
  yld : ∀ i H x H' d, P H → ds[i]? = some d → J.yld i H x H' → Same H H' ∧ Rep K F H' d x
  keeps : ∀ H H', P H → Keeps F H H' → P H'
abbrev repI (K : PySem.W.Frag) : Hp → Hp → List D → It → Prop := fun _ H ds J => ∃ P : Hp → Prop, P H ∧ Yields K (fun a => H a ≠ none) J P ds
abbrev PIx (X : Cx) (W : WX) (tg it : Expr) (f : En → R (List D)) : Prop := PI X tg it (Rg (repI X.K) X.K X.mg W f)
theorem convI {X : Cx} {tg it : Expr} {t u : TI} (h : PI X tg it t) (k : ∀ σ H Q, u σ H Q → t σ H Q) : PI X tg it u := ⟨fun pins s σ H R I z => h.run pins s σ H R I (k σ H R z)⟩

/-- a list or tuple at a of the data ds -/
def Sdr (K : PySem.W.Frag) (F : Addr → Prop) (k : Sd) (a : Addr) (ds : List D) (H : Hp) : Prop := ∃ vs, (match k with
  | .L => LsF K F H a vs
  | .T => SqT K H a vs) ∧ Reps K F H ds vs
theorem Sdr.seq {K : PySem.W.Frag} {F : Addr → Prop} {k : Sd} {a : Addr} {ds : List D} {H : Hp} (h : Sdr K F k a ds H) : ∃ vs, k.seq K H a vs ∧ Reps K F H ds vs := by
  obtain ⟨vs, h, r⟩ := h
  cases k with
  | L => exact ⟨vs, h.sq, r⟩
  | T => exact ⟨vs, h, r⟩
theorem Sdr.keeps {K : PySem.W.Frag} {F : Addr → Prop} {k : Sd} {a : Addr} {ds : List D} {H H' : Hp} (h : Sdr K F k a ds H) (q : Keeps F H H') : Sdr K F k a ds H' := by
  obtain ⟨vs, h, r⟩ := h
  cases k with
  | L => exact ⟨vs, h.keeps q fun _ z => z, Reps.keeps q (fun _ z => z) ds vs r⟩
  | T => exact ⟨vs, sqT_keeps q h, Reps.keeps q (fun _ z => z) ds vs r⟩
def itemsD : D → R (List D)
  | .lst ds => .ok ds
  | .tup ds => .ok ds
  | .fix ds => .ok ds
  | _ => .no
theorem itemsD_rep {K : PySem.W.Frag} {F : Addr → Prop} {H : Hp} {d : D} {v : V} {ds : List D} (e : itemsD d = .ok ds) (r : Rep K F H d v) : ∃ a k, v = .ref a ∧ Sdr K F k a ds H := by
  cases d with
  | lst es =>
    cases e
    obtain ⟨a, vs, e, fa, h, rr⟩ := r.lst
    exact ⟨a, .L, e, vs, .inl ⟨fa, h⟩, rr⟩
  | tup es =>
    cases e
    obtain ⟨a, vs, e, h, rr⟩ := r.tup
    exact ⟨a, .T, e, vs, h, rr⟩
  | fix es =>
    cases e
    obtain ⟨a, vs, e, h, rr⟩ := r.fix
    exact ⟨a, .L, e, vs, h, rr⟩
  | _ => cases e
theorem itemsD_ex {d : D} {c : Str} (e : itemsD d = .ex c) : False := by cases d <;> cases e
section
variable {K : PySem.W.Frag} {F : Addr → Prop}
theorem y_list (a : Addr) (ds : List D) : Yields K F (Itl K a) (Sdr K F .L a ds) ds where
  go := fun i H hi h => by
    obtain ⟨vs, q, r⟩ := h.seq
    obtain ⟨v, hv, _⟩ := r.get (List.getElem?_eq_getElem hi)
    exact ⟨vs, v, q, hv⟩
  stop := fun H h => by
    obtain ⟨vs, q, r⟩ := h.seq
    exact ⟨vs, q, Nat.le_of_eq r.length.symm⟩
  yld := fun i H x H' d h e y => by
    obtain ⟨vs, q, r⟩ := h.seq
    obtain ⟨e', y⟩ := y
    subst e'
    obtain ⟨v, hv, rv⟩ := r.get e
    rw [y vs q] at hv
    rw [Option.some.inj hv]
    exact ⟨Same.refl _, rv⟩
  keeps := fun H H' h k => h.keeps k
theorem y_tup (a : Addr) (ds : List D) : Yields K F (Itt K a) (Sdr K F .T a ds) ds where
  go := fun i H hi h => by
    obtain ⟨vs, q, r⟩ := h.seq
    obtain ⟨v, hv, _⟩ := r.get (List.getElem?_eq_getElem hi)
    exact ⟨vs, v, q, hv⟩
  stop := fun H h => by
    obtain ⟨vs, q, r⟩ := h.seq
    exact ⟨vs, q, Nat.le_of_eq r.length.symm⟩
  yld := fun i H x H' d h e y => by
    obtain ⟨vs, q, r⟩ := h.seq
    obtain ⟨e', y⟩ := y
    subst e'
    obtain ⟨v, hv, rv⟩ := r.get e
    rw [y vs q] at hv
    rw [Option.some.inj hv]
    exact ⟨Same.refl _, rv⟩
  keeps := fun H H' h k => h.keeps k
/-- the pairs of two rows -/
def zipT (xs ys : List D) : List D := List.zipWith (fun x y => .tup [x, y]) xs ys
theorem y_zip (k l : Sd) (a b : Addr) (xs ys : List D) : Yields K F (ItzK K k l a b) (fun H => Sdr K F k a xs H ∧ Sdr K F l b ys H) (zipT xs ys) where
  go := fun i H hi h => by
    obtain ⟨vs, q, r⟩ := h.1.seq
    obtain ⟨us, q2, r2⟩ := h.2.seq
    unfold zipT at hi
    rw [List.length_zipWith] at hi
    obtain ⟨v, hv, _⟩ := r.get (List.getElem?_eq_getElem (show i < xs.length by omega))
    obtain ⟨u, hu, _⟩ := r2.get (List.getElem?_eq_getElem (show i < ys.length by omega))
    exact ⟨vs, us, v, u, q, q2, hv, hu⟩
  stop := fun H h => by
    obtain ⟨vs, q, r⟩ := h.1.seq
    obtain ⟨us, q2, r2⟩ := h.2.seq
    exact ⟨vs, us, q, q2, by unfold zipT; rw [List.length_zipWith, r.length, r2.length]⟩
  yld := fun i H x H' d h e y => by
    obtain ⟨vs, q, r⟩ := h.1.seq
    obtain ⟨us, q2, r2⟩ := h.2.seq
    obtain ⟨T, v, u, ev, hT, e', y1, y2⟩ := y
    subst e'
    subst ev
    unfold zipT at e
    rw [List.getElem?_zipWith] at e
    cases e1 : xs[i]? with
    | none => rw [e1] at e; cases e
    | some d1 =>
      cases e2 : ys[i]? with
      | none => rw [e1, e2] at e; cases e
      | some d2 =>
        rw [e1, e2] at e
        obtain ⟨v', hv, rv⟩ := r.get e1
        obtain ⟨u', hu, ru⟩ := r2.get e2
        rw [y1 vs q] at hv
        rw [y2 us q2] at hu
        rw [← Option.some.inj hv] at rv
        rw [← Option.some.inj hu] at ru
        rw [← Option.some.inj e]
        exact ⟨same_new hT, rep_tup hT (.cons rv (.one ru))⟩
  keeps := fun H H' h k => ⟨h.1.keeps k, h.2.keeps k⟩
/-- the pairs of a place and what stands there -/
def enumT (i : Nat) : List D → List D
  | [] => []
  | d :: ds => .tup [.int i, d] :: enumT (i + 1) ds
theorem enumT_len : ∀ (ds : List D) (i : Nat), (enumT i ds).length = ds.length
  | [], _ => rfl
  | d :: ds, i => by rw [enumT, List.length_cons, enumT_len ds, List.length_cons]
theorem enumT_get : ∀ (ds : List D) (k i : Nat), (enumT k ds)[i]? = ds[i]?.map fun d => .tup [.int ((k + i : Nat) : Int), d]
  | [], k, i => by simp [enumT]
  | d :: ds, k, 0 => by simp [enumT]
  | d :: ds, k, i + 1 => by
    rw [enumT, List.getElem?_cons_succ, List.getElem?_cons_succ, enumT_get ds, show k + 1 + i = k + (i + 1) by omega]
theorem y_enum (k : Sd) (a : Addr) (xs : List D) : Yields K F (IteK K k a) (Sdr K F k a xs) (enumT 0 xs) where
  go := fun i H hi h => by
    obtain ⟨vs, q, r⟩ := h.seq
    rw [enumT_len] at hi
    obtain ⟨v, hv, _⟩ := r.get (List.getElem?_eq_getElem hi)
    exact ⟨vs, v, q, hv⟩
  stop := fun H h => by
    obtain ⟨vs, q, r⟩ := h.seq
    exact ⟨vs, q, by rw [enumT_len, r.length]⟩
  yld := fun i H x H' d h e y => by
    obtain ⟨vs, q, r⟩ := h.seq
    obtain ⟨T, v, ev, hT, e', y1⟩ := y
    subst e'
    subst ev
    rw [enumT_get] at e
    cases e1 : xs[i]? with
    | none => rw [e1] at e; cases e
    | some d1 =>
      rw [e1] at e
      obtain ⟨v', hv, rv⟩ := r.get e1
      rw [y1 vs q] at hv
      rw [← Option.some.inj hv] at rv
      rw [← Option.some.inj e]
      refine ⟨same_new hT, rep_tup hT (.cons ?_ (.one rv))⟩
      rw [Nat.zero_add]
      exact rep_int
  keeps := fun H H' h k => h.keeps k
/-- lo, lo + 1, .., n of them -/
def rangeL (lo : Int) : Nat → List D
  | 0 => []
  | n + 1 => .int lo :: rangeL (lo + 1) n
theorem rangeL_len : ∀ (n : Nat) (lo : Int), (rangeL lo n).length = n
  | 0, _ => rfl
  | n + 1, lo => by rw [rangeL, List.length_cons, rangeL_len n]
theorem rangeL_get : ∀ (n : Nat) (lo : Int) (i : Nat) (d : D), (rangeL lo n)[i]? = some d → d = .int (lo + i)
  | 0, _, i, d, h => by simp [rangeL] at h
  | n + 1, lo, 0, d, h => by simp [rangeL] at h; rw [← h]; simp
  | n + 1, lo, i + 1, d, h => by
    rw [rangeL, List.getElem?_cons_succ] at h
    rw [rangeL_get n _ i d h]
    congr 1
    omega
theorem y_range (lo : Int) (n : Nat) : Yields K F (Itr lo n) (fun _ => True) (rangeL lo n) where
  go := fun i H hi _ => by rw [rangeL_len] at hi; exact hi
  stop := fun H _ => Nat.le_of_eq (rangeL_len n lo).symm
  yld := fun i H x H' d _ e y => by
    obtain ⟨e', ex⟩ := y
    subst e'
    rw [rangeL_get n lo i d e, ex]
    exact ⟨Same.refl _, rep_int⟩
  keeps := fun _ _ _ _ => trivial
end

/-! ### iterables, any data -/
section
variable {X : Cx} {W : WX} {tg a b : Expr} {fa fb : En → R D} {pos p tpos : Pos} {elts : List Expr} {kk : Nat} {fs : En → R (List D)}
namespace I
def items (f : En → R D) : En → R (List D) := fun e => (f e).bind itemsD
def zipD : List D → R (List D)
  | [x, y] => (itemsD x).bind fun xs => (itemsD y).bind fun ys => .ok (zipT xs ys)
  | _ => .no
def zip (f : En → R (List D)) : En → R (List D) := fun e => (f e).bind zipD
def enumD : List D → R (List D)
  | [x] => (itemsD x).bind fun xs => .ok (enumT 0 xs)
  | _ => .no
def enum (f : En → R (List D)) : En → R (List D) := fun e => (f e).bind enumD
def rangeD1 : List D → R (List D)
  | [.int j] => if j < 4611686018427387904 ∧ -4611686018427387904 ≤ j then .ok (rangeL 0 j.toNat) else .no
  | _ => .no
def rangeD2 : List D → R (List D)
  | [.int i, .int j] => if (i < 4611686018427387904 ∧ -4611686018427387904 ≤ i) ∧ (j < 4611686018427387904 ∧ -4611686018427387904 ≤ j) then .ok (rangeL i (j - i).toNat) else .no
  | _ => .no
def range1 (f : En → R (List D)) : En → R (List D) := fun e => (f e).bind rangeD1
def range2 (f : En → R (List D)) : En → R (List D) := fun e => (f e).bind rangeD2
end I
section
variable {K : PySem.W.Frag} {F : Addr → Prop} {H : Hp}
theorem seq_it {d : D} {v : V} {ds : List D} (r : Rep K F H d v) (q : itemsD d = .ok ds) : ∃ a k, v = .ref a ∧ (∃ vs, Sd.seq k K H a vs) ∧ Sdr K F k a ds H := by
  obtain ⟨a, k, e, z⟩ := itemsD_rep q r
  obtain ⟨vs, hs, _⟩ := z.seq
  exact ⟨a, k, e, ⟨vs, hs⟩, z⟩
theorem zipD_inv {ds total : List D} (q : I.zipD ds = .ok total) : ∃ x y xs ys, ds = [x, y] ∧ itemsD x = .ok xs ∧ itemsD y = .ok ys ∧ total = zipT xs ys := by
  unfold I.zipD at q
  split at q
  · rename_i x y
    cases q1 : itemsD x with
    | ok xs =>
      cases q2 : itemsD y with
      | ok ys =>
        rw [q1, q2] at q
        exact ⟨x, y, xs, ys, rfl, q1, q2, (R.ok.inj q).symm⟩
      | ex c => exact (itemsD_ex q2).elim
      | no => rw [q1, q2] at q; cases q
    | ex c => exact (itemsD_ex q1).elim
    | no => rw [q1] at q; cases q
  · cases q
theorem zip_it {ds total : List D} {vs : List V} (r : Reps K F H ds vs) (q : I.zipD ds = .ok total) : ∃ a b k l, vs = [.ref a, .ref b] ∧ (∃ us, Sd.seq k K H a us) ∧ (∃ us, Sd.seq l K H b us) ∧ ∃ P : Hp → Prop, P H ∧ Yields K F (ItzK K k l a b) P total := by
  obtain ⟨x, y, xs, ys, e1, q1, q2, e2⟩ := zipD_inv q
  subst e1
  subst e2
  obtain ⟨v, u, e, rv, ru⟩ := r.two_
  obtain ⟨a, k, ea, h1, z⟩ := seq_it rv q1
  obtain ⟨b, l, eb, h2, z2⟩ := seq_it ru q2
  exact ⟨a, b, k, l, by rw [e, ea, eb], h1, h2, _, ⟨z, z2⟩, y_zip k l a b xs ys⟩
theorem zipD_ex {ds : List D} {c : Str} (q : I.zipD ds = .ex c) : False := by
  unfold I.zipD at q
  split at q
  · rename_i x y
    cases q1 : itemsD x with
    | ok xs =>
      rw [q1] at q
      cases q2 : itemsD y with
      | ok ys => rw [q2] at q; cases q
      | ex c => exact itemsD_ex q2
      | no => rw [q2] at q; cases q
    | ex c => exact itemsD_ex q1
    | no => rw [q1] at q; cases q
  · cases q
theorem enumD_inv {ds total : List D} (q : I.enumD ds = .ok total) : ∃ x xs, ds = [x] ∧ itemsD x = .ok xs ∧ total = enumT 0 xs := by
  unfold I.enumD at q
  split at q
  · rename_i x
    cases q1 : itemsD x with
    | ok xs =>
      rw [q1] at q
      exact ⟨x, xs, rfl, q1, (R.ok.inj q).symm⟩
    | ex c => exact (itemsD_ex q1).elim
    | no => rw [q1] at q; cases q
  · cases q
theorem enum_it {ds total : List D} {vs : List V} (r : Reps K F H ds vs) (q : I.enumD ds = .ok total) : ∃ a k, vs = [.ref a] ∧ (∃ us, Sd.seq k K H a us) ∧ ∃ P : Hp → Prop, P H ∧ Yields K F (IteK K k a) P total := by
  obtain ⟨x, xs, e1, q1, e2⟩ := enumD_inv q
  subst e1
  subst e2
  obtain ⟨v, e, rv⟩ := r.one_
  obtain ⟨a, k, ea, h1, z⟩ := seq_it rv q1
  exact ⟨a, k, by rw [e, ea], h1, _, z, y_enum k a xs⟩
theorem enumD_ex {ds : List D} {c : Str} (q : I.enumD ds = .ex c) : False := by
  unfold I.enumD at q
  split at q
  · rename_i x
    cases q1 : itemsD x with
    | ok xs => rw [q1] at q; cases q
    | ex c => exact itemsD_ex q1
    | no => rw [q1] at q; cases q
  · cases q
theorem range1_it {ds total : List D} {vs : List V} (r : Reps K F H ds vs) (q : I.rangeD1 ds = .ok total) : ∃ j : Int, vs = [.int j] ∧ (j < 4611686018427387904 ∧ -4611686018427387904 ≤ j) ∧ ∃ P : Hp → Prop, P H ∧ Yields K F (Itr 0 j.toNat) P total := by
  unfold I.rangeD1 at q
  split at q
  · rename_i j
    split at q
    · rename_i c
      obtain ⟨v, e, rv⟩ := r.one_
      rw [← R.ok.inj q]
      exact ⟨j, by rw [e, rv.int], c, _, trivial, y_range 0 j.toNat⟩
    · cases q
  · cases q
theorem rangeD1_ex {ds : List D} {c : Str} (q : I.rangeD1 ds = .ex c) : False := by
  unfold I.rangeD1 at q
  split at q
  · split at q <;> cases q
  · cases q
theorem range2_it {ds total : List D} {vs : List V} (r : Reps K F H ds vs) (q : I.rangeD2 ds = .ok total) : ∃ i j : Int, vs = [.int i, .int j] ∧ ((i < 4611686018427387904 ∧ -4611686018427387904 ≤ i) ∧ (j < 4611686018427387904 ∧ -4611686018427387904 ≤ j)) ∧ ∃ P : Hp → Prop, P H ∧ Yields K F (Itr i (j - i).toNat) P total := by
  unfold I.rangeD2 at q
  split at q
  · rename_i i j
    split at q
    · rename_i c
      obtain ⟨v, u, e, rv, ru⟩ := r.two_
      rw [← R.ok.inj q]
      exact ⟨i, j, by rw [e, rv.int, ru.int], c, _, trivial, y_range i (j - i).toNat⟩
    · cases q
  · cases q
theorem rangeD2_ex {ds : List D} {c : Str} (q : I.rangeD2 ds = .ex c) : False := by
  unfold I.rangeD2 at q
  split at q
  · split at q <;> cases q
  · cases q
end
theorem Rg.split {α β : Type} {rep : Hp → Hp → α → β → Prop} {K : PySem.W.Frag} {mg : Str → Option Value} {σ : L2.St} {H : Hp} {f : En → R α} {r : R α} {Q : β → Hp → Prop} (h : Rg rep K mg W f σ H Q) (q : ∀ e, f e = r) (nx : ∀ c, r ≠ .ex c) : ∃ a, r = .ok a := by
  obtain ⟨e, _, h⟩ := h
  rw [q e] at h
  cases r with
  | ok a => exact ⟨a, rfl⟩
  | ex c => exact absurd rfl (nx c)
  | no => exact h.elim
theorem pix_seq (ha : PX X W a fa) : PIx X W tg a (I.items fa) := convI (pi_seqK ha) fun σ H Q h =>
  Rg.seq (k := fun d _ => itemsD d) h fun d v H1 s1 r1 h1 => by
    obtain ⟨ds, q⟩ := h1.split (fun _ => rfl) fun c z => itemsD_ex z
    obtain ⟨a, k, e, hs, z⟩ := seq_it (Rep.dom (F := fun a => H1 a ≠ none) (fun _ h => h) _ _ r1) q
    cases k with
    | L => exact ⟨a, e, .inl ⟨hs, h1.get (fun _ => q) (Same.refl H1) ⟨_, z, y_list a ds⟩⟩⟩
    | T => exact ⟨a, e, .inr ⟨hs, h1.get (fun _ => q) (Same.refl H1) ⟨_, z, y_tup a ds⟩⟩⟩
theorem pix_zip (hg : Gl X "zip") (hm : X.mg "zip" = none) (ha : PXs X W [a, b] fs)
    (hs : starEach [a, b] X.env = (false, eval a X.env) :: starEach [b] X.env := by rfl) (hpl : (backTo pos (starEach [b] X.env)).any (·.1) = false := by rfl) :
    PIx X W (.Tuple elts kk tpos) (.Call (.Name "zip" p) [a, b] [] pos) (I.zip fs) := convI (pi_zipK hg hm ha hs hpl) fun σ H Q h =>
  Rg.seq (k := fun d _ => I.zipD d) h fun ds vs H1 s1 r1 h1 => by
    obtain ⟨t, q⟩ := h1.split (fun _ => rfl) fun c z => zipD_ex z
    obtain ⟨a, b, k, l, e, us, ws, z⟩ := zip_it (Reps.dom (F := fun a => H1 a ≠ none) (fun _ h => h) _ _ r1) q
    exact ⟨a, b, k, l, e, us, ws, h1.get (fun _ => q) (Same.refl H1) z⟩
theorem pix_enum (hg : Gl X "enumerate") (hm : X.mg "enumerate" = none) (ha : PXs X W [a] fs) (hs : starEach [a] X.env = [(false, eval a X.env)] := by rfl) :
    PIx X W (.Tuple elts kk tpos) (.Call (.Name "enumerate" p) [a] [] pos) (I.enum fs) := convI (pi_enumK hg hm ha hs) fun σ H Q h =>
  Rg.seq (k := fun d _ => I.enumD d) h fun ds vs H1 s1 r1 h1 => by
    obtain ⟨t, q⟩ := h1.split (fun _ => rfl) fun c z => enumD_ex z
    obtain ⟨a, k, e, us, z⟩ := enum_it (Reps.dom (F := fun a => H1 a ≠ none) (fun _ h => h) _ _ r1) q
    exact ⟨a, k, e, us, h1.get (fun _ => q) (Same.refl H1) z⟩
theorem pix_range1 (hg : Gl X "range") (hm : X.mg "range" = none) (ha : PXs X W [a] fs) (hs : starEach [a] X.env = [(false, eval a X.env)] := by rfl) : PIx X W tg (.Call (.Name "range" p) [a] [] pos) (I.range1 fs) :=
  convI (pi_range1 hg hm ha hs) fun σ H Q h => Rg.seq (k := fun d _ => I.rangeD1 d) h fun ds vs H1 s1 r1 h1 => by
    obtain ⟨t, q⟩ := h1.split (fun _ => rfl) fun c z => rangeD1_ex z
    obtain ⟨j, e, c, z⟩ := range1_it (Reps.dom (F := fun a => H1 a ≠ none) (fun _ h => h) _ _ r1) q
    exact ⟨j, e, by omega, by omega, h1.get (fun _ => q) (Same.refl H1) z⟩
theorem pix_range2 (hg : Gl X "range") (hm : X.mg "range" = none) (ha : PXs X W [a, b] fs) (hs : starEach [a, b] X.env = [(false, eval a X.env), (false, eval b X.env)] := by rfl) (hs2 : starEach [b] X.env = [(false, eval b X.env)] := by rfl) : PIx X W tg (.Call (.Name "range" p) [a, b] [] pos) (I.range2 fs) :=
  convI (pi_range2 hg hm ha hs hs2) fun σ H Q h => Rg.seq (k := fun d _ => I.rangeD2 d) h fun ds vs H1 s1 r1 h1 => by
    obtain ⟨t, q⟩ := h1.split (fun _ => rfl) fun c z => rangeD2_ex z
    obtain ⟨i, j, e, c, z⟩ := range2_it (Reps.dom (F := fun a => H1 a ≠ none) (fun _ h => h) _ _ r1) q
    exact ⟨i, j, e, ⟨by omega, by omega, by omega, by omega⟩, h1.get (fun _ => q) (Same.refl H1) z⟩
end

/-! ### targets -/
inductive Tg where
  | nm (i : Nat) | tp (ts : List Tg)
mutual
/-- which slots take what -/
def bindT : Tg → D → R (List (Nat × D))
  | .nm i, d => .ok [(i, d)]
  | .tp ts, .tup ds => bindTs ts ds
  | .tp _, _ => .no
def bindTs : List Tg → List D → R (List (Nat × D))
  | [], [] => .ok []
  | t :: ts, d :: ds => (bindT t d).bind fun b => (bindTs ts ds).bind fun bs => .ok (b ++ bs)
  | _, _ => .no
end
/-- the slots set, one after another -/
def setsV (σ : L2.St) : List (Nat × D) → List V → L2.St
  | (i, _) :: bs, w :: ws => setsV (σ.set i (some w)) bs ws
  | _, _ => σ
def gT (K : PySem.W.Frag) (t : Tg) : TG := fun v σ H Q => ∃ F d bs, Rep K F H d v ∧ bindT t d = .ok bs ∧ ∀ ws : List V, Reps K F H (bs.map (·.2)) ws → Q (setsV σ bs ws) H
def gTs (K : PySem.W.Frag) (ts : List Tg) : TGs := fun vs σ H Q => ∃ F ds bs, Reps K F H ds vs ∧ bindTs ts ds = .ok bs ∧ ∀ ws : List V, Reps K F H (bs.map (·.2)) ws → Q (setsV σ bs ws) H
theorem convG {X : Cx} {x : Expr} {t u : TG} (h : PG X x t) (k : ∀ v σ H Q, u v σ H Q → t v σ H Q) : PG X x u := ⟨fun pins s σ H v w Q I r z => h.run pins s σ H v w Q I r (k v σ H Q z)⟩
theorem convGs {X : Cx} {x : List Expr} {t u : TGs} (h : PGs X x t) (k : ∀ v σ H Q, u v σ H Q → t v σ H Q) : PGs X x u := ⟨fun pins s σ H v w Q I r z => h.run pins s σ H v w Q I r (k v σ H Q z)⟩
section
variable {X : Cx} {pos : Pos}
theorem pt_name {i : Nat} {x : Str} (hN : X.N.Nodup) (hi : X.N[i]? = some x := by rfl) (hx : Loc X.env.scope x := by first | exact Or.inl rfl | exact Or.inr rfl) (hf : X.fn x = true ∨ X.env.scope.names.lookup x = some .local := by first | exact .inl rfl | exact .inr rfl | assumption) : PG X (.Name x pos) (gT X.K (.nm i)) :=
  convG (pg_name hN hi hx hf) fun v σ H Q ⟨F, d, bs, r, e, q⟩ => by
    rw [bindT] at e
    cases e
    exact q [v] (.one r)
theorem pts_nil' : PGs X [] (gTs X.K []) := convGs pgs_nil fun vs σ H Q ⟨F, ds, bs, r, e, q⟩ => by
  cases ds with
  | nil =>
    rw [bindTs] at e
    cases e
    rw [Reps] at r
    exact ⟨r, q [] .nil⟩
  | cons d ds => rw [bindTs] at e; cases e; all_goals (intros; contradiction)
theorem setsV_append : ∀ (bs cs : List (Nat × D)) (ws us : List V) (σ : L2.St), bs.length = ws.length → setsV σ (bs ++ cs) (ws ++ us) = setsV (setsV σ bs ws) cs us
  | [], cs, [], us, σ, _ => rfl
  | (i, d) :: bs, cs, w :: ws, us, σ, h => by
    show setsV (σ.set i (some w)) (bs ++ cs) (ws ++ us) = _
    rw [setsV_append bs cs ws us _ (by simpa using h)]
    rfl
  | [], cs, w :: ws, us, σ, h => by simp at h
  | (i, d) :: bs, cs, [], us, σ, h => by simp at h
theorem pts_cons' {e : Expr} {es : List Expr} {t : Tg} {ts : List Tg} (h1 : PG X e (gT X.K t)) (h2 : PGs X es (gTs X.K ts))
    (hs : (assignEach (e :: es) X.env).map (·.2) = assign e X.env :: (assignEach es X.env).map (·.2) := by rfl) : PGs X (e :: es) (gTs X.K (t :: ts)) :=
  convGs (pgs_cons h1 h2 hs) fun vs σ H Q ⟨F, ds, bs, r, e, q⟩ => by
    cases ds with
    | nil => rw [bindTs] at e; cases e; all_goals (intros; contradiction)
    | cons d ds =>
      rw [bindTs] at e
      rw [Reps] at r
      obtain ⟨v, rest, ev, r1, r2⟩ := r
      cases q1 : bindT t d with
      | ok b =>
        cases q2 : bindTs ts ds with
        | ok bs' =>
          rw [q1, q2] at e
          have eb : bs = b ++ bs' := (R.ok.inj e).symm
          refine ⟨v, rest, ev, F, d, b, r1, q1, fun ws rw1 => ⟨F, ds, bs', r2, q2, fun us rw2 => ?_⟩⟩
          rw [← setsV_append b bs' ws us σ (by have := rw1.length; simpa using this), ← eb]
          refine q (ws ++ us) ?_
          rw [eb, List.map_append]
          exact rw1.append rw2
        | ex c => rw [q1, q2] at e; cases e
        | no => rw [q1, q2] at e; cases e
      | ex c => rw [q1] at e; cases e
      | no => rw [q1] at e; cases e
theorem bindTs_len : ∀ {ts : List Tg} {ds : List D} {bs : List (Nat × D)}, bindTs ts ds = .ok bs → ds.length = ts.length
  | [], [], _, _ => rfl
  | [], d :: ds, bs, e => by rw [bindTs] at e; cases e; all_goals (intros; contradiction)
  | t :: ts, [], bs, e => by rw [bindTs] at e; cases e; all_goals (intros; contradiction)
  | t :: ts, d :: ds, bs, e => by
    rw [bindTs] at e
    cases q1 : bindT t d with
    | ok b =>
      cases q2 : bindTs ts ds with
      | ok bs' => rw [List.length_cons, List.length_cons, bindTs_len q2]
      | ex c => rw [q1, q2] at e; cases e
      | no => rw [q1, q2] at e; cases e
    | ex c => rw [q1] at e; cases e
    | no => rw [q1] at e; cases e
theorem pt_tup {es : List Expr} {k : Nat} {ts : List Tg} (hc : X.calm = true) (h : PGs X es (gTs X.K ts)) (hn : (assignEach es X.env).length = ts.length := by rfl) (hst : (assignEach es X.env).findIdx? (·.1) = none := by rfl) :
    PG X (.Tuple es k pos) (gT X.K (.tp ts)) := convG (pg_tup (n := ts.length) hc h hn hst) fun v σ H Q ⟨F, d, bs, r, e, q⟩ => by
  cases d with
  | tup ds =>
    rw [bindT] at e
    obtain ⟨a, vs, ev, hs, rr⟩ := r.tup
    exact ⟨a, vs, ev, hs, by rw [← rr.length]; exact bindTs_len e, F, ds, bs, rr, e, q⟩
  | _ => rw [bindT] at e; cases e; all_goals (intros; contradiction)
end
/-- the same of the mirror's slots -/
def setsE (e : En) : List (Nat × D) → En
  | (i, d) :: bs => setsE (e.set i (.sh d)) bs
  | [] => e
def wipeE (e : En) : List Nat → En
  | [] => e
  | v :: vs => (wipeE e vs).set v .no
section
variable {K : PySem.W.Frag} {H : Hp} {σ : L2.St} {e : En}
theorem vw_set (e : En) (i j : Nat) (s : Sl) : vw (e.set i s) j = if i = j ∧ j < e.length then s.vw else vw e j := by
  unfold vw
  rw [List.getElem?_set]
  by_cases h : i = j
  · subst h
    rw [if_pos rfl]
    by_cases c : i < e.length
    · rw [if_pos c, if_pos ⟨rfl, c⟩]; rfl
    · rw [if_neg c, if_neg (fun z => c z.2), List.getElem?_eq_none (by omega)]
  · rw [if_neg h, if_neg (fun z => h z.1)]
theorem View.set (w : View K H σ e) {i : Nat} {d : D} {v : V} (r : Rep K All H d v) : View K H (σ.set i (some v)) (e.set i (.sh d)) := ⟨by rw [List.length_set, List.length_set]; exact w.len, fun j d' q => by
  have hl := w.len
  rw [vw_set] at q
  by_cases h : i = j ∧ j < e.length
  · rw [if_pos h] at q
    have ed : d = d' := Option.some.inj q
    obtain ⟨h1, h2⟩ := h
    subst h1
    exact ⟨v, by rw [List.getElem?_set_self (by omega)], ed ▸ r⟩
  · rw [if_neg h] at q
    obtain ⟨u, hu, ru⟩ := w.get j d' q
    by_cases c : i = j
    · subst c
      have hb : ¬ i < e.length := fun z => h ⟨rfl, z⟩
      unfold vw at q
      rw [List.getElem?_eq_none (by omega)] at q
      cases q
    · exact ⟨u, by rw [List.getElem?_set_ne c]; exact hu, ru⟩⟩
theorem View.sets : ∀ {bs : List (Nat × D)} {ws : List V} {σ : L2.St} {e : En}, View K H σ e → Reps K All H (bs.map (·.2)) ws → View K H (setsV σ bs ws) (setsE e bs)
  | [], ws, σ, e, V, r => by
    rw [List.map_nil, Reps] at r
    subst r
    exact V
  | (i, d) :: bs, ws, σ, e, V, r => by
    rw [List.map_cons, Reps] at r
    obtain ⟨v, rest, ev, h1, h2⟩ := r
    subst ev
    show View K H (setsV (σ.set i (some v)) bs rest) (setsE (e.set i (.sh d)) bs)
    exact View.sets (View.set V h1) h2
theorem wipeE_length (e : En) : ∀ vs : List Nat, (wipeE e vs).length = e.length
  | [] => rfl
  | v :: vs => by rw [wipeE, List.length_set, wipeE_length e vs]
theorem wipe_length (σ : L2.St) : ∀ vs : List Nat, (L2.wipe σ vs).length = σ.length
  | [] => rfl
  | v :: vs => by
    show ((L2.wipe σ vs).set v none).length = _
    rw [List.length_set, wipe_length σ vs]
theorem View.wipe (V : View K H σ e) (vs : List Nat) : View K H (L2.wipe σ vs) (wipeE e vs) := ⟨by rw [wipe_length, wipeE_length]; exact V.len, fun j d q => by
  have key : ∀ vs : List Nat, vw (wipeE e vs) j = some d → vw e j = some d ∧ j ∉ vs := by
    intro vs
    induction vs with
    | nil => intro q; exact ⟨q, by simp⟩
    | cons v vs ih =>
      intro q
      rw [wipeE, vw_set] at q
      by_cases h : v = j ∧ j < (wipeE e vs).length
      · rw [if_pos h] at q; cases q
      · rw [if_neg h] at q
        obtain ⟨q1, q2⟩ := ih q
        refine ⟨q1, fun hm => ?_⟩
        rcases List.mem_cons.mp hm with z | z
        · refine h ⟨z.symm, ?_⟩
          rw [wipeE_length]
          unfold vw at q1
          cases c : e[j]? with
          | none => rw [c] at q1; cases q1
          | some s => exact (List.getElem?_eq_some_iff.mp c).1
        · exact q2 z
  obtain ⟨q1, q2⟩ := key vs q
  obtain ⟨v, hv, r⟩ := V.get j d q1
  refine ⟨v, ?_, r⟩
  have out : ∀ vs : List Nat, j ∉ vs → (L2.wipe σ vs)[j]? = σ[j]? := by
    intro vs
    induction vs with
    | nil => intro _; rfl
    | cons w vs ih =>
      intro hm
      show ((L2.wipe σ vs).set w none)[j]? = σ[j]?
      rw [List.getElem?_set_ne (fun z => hm (by rw [z]; exact List.mem_cons_self)), ih fun z => hm (List.mem_cons_of_mem _ z)]
  rw [out vs q2]
  exact hv⟩
theorem wipe_set_in {σ : L2.St} {i : Nat} {o : Option V} : ∀ {vs : List Nat}, i ∈ vs → L2.wipe (σ.set i o) vs = L2.wipe σ vs
  | v :: vs, h => by
    show (L2.wipe (σ.set i o) vs).set v none = (L2.wipe σ vs).set v none
    by_cases c : i ∈ vs
    · rw [wipe_set_in c]
    · have e : v = i := by
        rcases List.mem_cons.mp h with z | z
        · exact z.symm
        · exact absurd z c
      subst e
      have out : ∀ vs : List Nat, v ∉ vs → L2.wipe (σ.set v o) vs = (L2.wipe σ vs).set v o := by
        intro vs
        induction vs with
        | nil => intro _; rfl
        | cons w ws ih =>
          intro hm
          show (L2.wipe (σ.set v o) ws).set w none = ((L2.wipe σ ws).set w none).set v o
          rw [ih fun z => hm (List.mem_cons_of_mem _ z), List.set_comm _ _ (fun z => hm (by rw [z]; exact List.mem_cons_self))]
      rw [out vs c, List.set_set]
theorem wipe_wipe (σ : L2.St) (vs : List Nat) : L2.wipe (L2.wipe σ vs) vs = L2.wipe σ vs := by
  have key : ∀ ws : List Nat, (∀ v ∈ ws, v ∈ vs) → L2.wipe (L2.wipe σ ws) vs = L2.wipe σ vs := by
    intro ws
    induction ws with
    | nil => intro _; rfl
    | cons w ws ih =>
      intro h
      show L2.wipe ((L2.wipe σ ws).set w none) vs = _
      rw [wipe_set_in (h w List.mem_cons_self)]
      exact ih fun v hv => h v (List.mem_cons_of_mem _ hv)
  exact key vs fun _ h => h
theorem wipe_sets {vs : List Nat} : ∀ {bs : List (Nat × D)} {ws : List V} {σ : L2.St}, (∀ p ∈ bs, p.1 ∈ vs) → L2.wipe (setsV σ bs ws) vs = L2.wipe σ vs
  | [], ws, σ, _ => by cases ws <;> rfl
  | (i, d) :: bs, [], σ, _ => rfl
  | (i, d) :: bs, w :: ws, σ, h => by
    show L2.wipe (setsV (σ.set i (some w)) bs ws) vs = _
    rw [wipe_sets (bs := bs) (ws := ws) fun p hp => h p (List.mem_cons_of_mem _ hp), wipe_set_in (h (i, d) List.mem_cons_self)]
end
end Lp

/-! # The pure layer, part 7: fresh lists, comprehensions, calls of own functions -/
namespace Lp
open PySem L2

/-! ### a new list -/
section
variable {K : PySem.W.Frag} {H : Hp}
theorem Reps.fresh {ds : List D} {vs : List V} {p : Addr} {o : HO} (r : Reps K All H ds vs) (hp : H p = none) : Reps K (fun a => a ≠ p) (upd H p o) ds vs :=
  (Reps.dom (F := fun a => a ≠ p) (fun a ha z => ha (by rw [z]; exact hp)) ds vs r).mono (same_new hp)
end
abbrev repF (K : PySem.W.Frag) : Hp → Hp → List D → V → Prop := fun H H' ds v => ∃ p vs, v = .ref p ∧ H p = none ∧ H' p = some (.lst vs) ∧ Reps K (fun a => a ≠ p) H' ds vs
instance {K : PySem.W.Frag} : MonoR (repF K) := ⟨fun H H1 H' a b s ⟨p, vs, e, n, q⟩ => ⟨p, vs, e, s.free n, q⟩⟩
abbrev PF (X : Cx) (W : WX) (x : Expr) (f : En → R (List D)) : Prop := PE X x (Rg (repF X.K) X.K X.mg W f)
theorem repF.new {K : PySem.W.Frag} {H : Hp} {p : Addr} {ds : List D} {vs : List V} (hp : H p = none) (r : Reps K All H ds vs) : repF K H (upd H p (.lst vs)) ds (.ref p) := ⟨p, vs, rfl, hp, upd_same, r.fresh hp⟩
def okLst (ds : List D) : R D := .ok (.lst ds)
section
variable {X : Cx} {W : WX} {a b : Expr} {fa fb : En → R D} {pos : Pos} {x : Expr}
theorem px_of_pf {f : En → R (List D)} (h : PF X W x f) : PX X W x (E.call okLst f) := convE h fun σ H Q z =>
  Rg.seq (k := fun ds _ => okLst ds) z fun ds v H1 s1 r1 h1 => by
    obtain ⟨p, vs, e, n, q, rr⟩ := r1
    refine h1.get (fun _ => rfl) (Same.refl H1) ?_
    rw [e]
    show Rep X.K All H1 (.lst ds) (.ref p)
    rw [Rep]
    exact ⟨p, vs, rfl, trivial, q, rr.all⟩
namespace Fl
def lst (f : En → R (List D)) : En → R (List D) := fun e => (f e).bind fun ds => if ds.length ≤ 16777216 then .ok ds else .no
def add2 : D → D → R (List D)
  | .lst ds, .lst es => if ds.length + es.length ≤ 16777216 then .ok (ds ++ es) else .no
  | _, _ => .no
def add (a b : En → R D) : En → R (List D) := fun e => (a e).bind fun x => (b e).bind fun y => add2 x y
def rep2 : D → D → R (List D)
  | .lst ds, .int k => if 0 ≤ k ∧ k ≤ 1000 ∧ ds.length ≤ 1000 then .ok (List.replicate k.toNat ds).flatten else .no
  | _, _ => .no
def rep (a b : En → R D) : En → R (List D) := fun e => (a e).bind fun x => (b e).bind fun y => rep2 x y
def cut : D → Option Int → Option Int → R (List D)
  | .lst ds, lo, hi => .ok (cutD ds lo hi)
  | _, _, _ => .no
def slice (a : En → R D) (lo hi : En → R (Option Int)) : En → R (List D) := fun e => (a e).bind fun d => (lo e).bind fun l => (hi e).bind fun h => cut d l h
def rev1 : D → R (List D)
  | .lst ds => .ok ds.reverse
  | _ => .no
def rev (a : En → R D) : En → R (List D) := fun e => (a e).bind rev1
def list1 : List D → R (List D)
  | [.lst ds] => .ok ds
  | [.tup ds] => .ok ds
  | _ => .no
def list (f : En → R (List D)) : En → R (List D) := fun e => (f e).bind list1
def sort1 : List D → R (List D)
  | [.lst ds] => (R.of (asInts ds)).bind fun ns => .ok ((ns.mergeSort fun a b => decide (a ≤ b)).map D.int)
  | _ => .no
def sort (f : En → R (List D)) : En → R (List D) := fun e => (f e).bind sort1
end Fl
variable {fs : En → R (List D)} {es : List Expr}
theorem pf_lst (h : PXs X W es fs) : PF X W (.List es pos) (Fl.lst fs) := convE (pe_lst h) fun σ H Q z =>
  Rg.seq (k := fun ds _ => if ds.length ≤ 16777216 then R.ok ds else .no) z fun ds vs H1 s1 r1 h1 => by
    by_cases hl : ds.length ≤ 16777216
    · exact ⟨sl_le (by rw [← r1.length]; exact hl), fun p hp => h1.get (fun _ => if_pos hl) (same_new hp) (repF.new hp r1)⟩
    · exact (h1.no fun _ => if_neg hl).elim
theorem pf_add (ha : PX X W a fa) (hb : PX X W b fb) : PF X W (.BinOp a .Add b pos) (Fl.add fa fb) := convE (pe_op op_cat ha hb) fun σ H Q h =>
  h.seq fun d v H1 s1 r1 h1 => Rg.seq (k := fun y _ => Fl.add2 d y) h1 fun d2 v2 H2 s2 r2 h2 => by
    cases d with
    | lst ds =>
      cases d2 with
      | lst es =>
        by_cases c : ds.length + es.length ≤ 16777216
        · obtain ⟨a, vs, ex, _, hH, rr⟩ := (r1.mono s2).lst
          obtain ⟨b, us, ey, _, hB, rb⟩ := r2.lst
          exact ⟨a, b, vs, us, ex, ey, hH, hB, sl_le (by rw [← rr.length, ← rb.length]; exact c), fun p hp => h2.get (fun _ => if_pos c) (same_new hp) (repF.new hp (rr.append rb))⟩
        · exact (h2.no fun _ => if_neg c).elim
      | _ => exact (h2.no fun _ => rfl).elim
    | _ => exact (h2.no fun _ => rfl).elim
theorem pf_rep (ha : PX X W a fa) (hb : PX X W b fb) : PF X W (.BinOp a .Mult b pos) (Fl.rep fa fb) := convE (pe_op op_rep ha hb) fun σ H Q h =>
  h.seq fun d v H1 s1 r1 h1 => Rg.seq (k := fun y _ => Fl.rep2 d y) h1 fun d2 v2 H2 s2 r2 h2 => by
    cases d with
    | lst ds =>
      cases d2 with
      | int k =>
        by_cases c : 0 ≤ k ∧ k ≤ 1000 ∧ ds.length ≤ 1000
        · obtain ⟨a, vs, ex, _, hH, rr⟩ := (r1.mono s2).lst
          have hl := rr.length
          refine ⟨a, k, vs, ex, r2.int, hH, by omega, by omega, sl_le ?_, fun p hp => h2.get (fun _ => if_pos c) (same_new hp) (repF.new hp (rr.flat _))⟩
          have g1 : k.toNat ≤ 1000 := by omega
          have g2 : vs.length * k.toNat ≤ 1000 * 1000 := Nat.mul_le_mul (by omega) g1
          omega
        · exact (h2.no fun _ => if_neg c).elim
      | _ => exact (h2.no fun _ => rfl).elim
    | _ => exact (h2.no fun _ => by cases d2 <;> rfl).elim
variable {lo hi : Option Expr} {fl fh : En → R (Option Int)} {p2 : Pos}
theorem pf_slice (ha : PX X W a fa) (hl : PXo X W lo fl) (hh : PXo X W hi fh) : PF X W (.Subscript a (.Slice lo hi none p2) pos) (Fl.slice fa fl fh) := convE (pe_slice sl_list ha hl hh) fun σ H Q h =>
  h.seq fun d v H1 s1 r1 h1 => Rg.seq (rep := repO) h1 fun l l2 H2 s2 r2 h2 => Rg.seq (rep := repO) (k := fun h _ => Fl.cut d l h) h2 fun u u2 H3 s3 r3 h3 => by
    subst r2
    subst r3
    cases d with
    | lst ds =>
      obtain ⟨p, vs, e, _, hH, rv⟩ := ((r1.mono s2).mono s3).lst
      exact ⟨p, vs, e, SqL.of hH, fun q hq => h3.get (fun _ => rfl) (same_new hq) (repF.new hq (rv.cut _ _))⟩
    | _ => exact (h3.no fun _ => rfl).elim
theorem pf_rev {k : Nat} {p1 p2 p3 pos : Pos} (ha : PX X W a fa) : PF X W (.Subscript a (.Slice none none (some (.UnaryOp .USub (.Constant (.int 1) k p1) p2)) p3) pos) (Fl.rev fa) := convE (pe_revL ha) fun σ H Q h =>
  Rg.seq (k := fun x _ => Fl.rev1 x) h fun d v H1 s1 r1 h1 => by
    cases d with
    | lst ds =>
      obtain ⟨p, vs, e, _, hH, rv⟩ := r1.lst
      exact ⟨p, vs, e, SqL.of hH, fun q hq => h1.get (fun _ => rfl) (same_new hq) (repF.new hq rv.reverse)⟩
    | _ => exact (h1.no fun _ => rfl).elim
variable {y : Str} {p : Pos}
theorem pf_list (hg : Gl X "list") (hm : X.mg "list" = none) (ha : PXs X W [a] fs) (he : starEach [a] X.env = (false, eval a X.env) :: starEach [] X.env := by rfl) (hpl : (backTo pos (starEach [] X.env)).any (·.1) = false := by rfl) :
    PF X W (.Call (.Name "list" p) [a] [] pos) (Fl.list fs) := convE (pe_callTy call_list_of hg hm (by decide +kernel) ha (by decide) (by decide) he hpl) fun σ H Q h =>
  Rg.seq (k := fun ds _ => Fl.list1 ds) h fun ds vs H1 s1 r1 h1 => by
    match ds, r1, h1 with
    | [d], r1, h1 =>
      obtain ⟨v, e, rv⟩ := r1.one_
      cases d with
      | lst es =>
        obtain ⟨p, us, eu, _, hH, rr⟩ := rv.lst
        exact ⟨p, us, by rw [e, eu], .inl (SqL.of hH), fun l hl => h1.get (fun _ => rfl) (same_new hl) (repF.new hl rr)⟩
      | tup es =>
        obtain ⟨p, us, eu, hH, rr⟩ := rv.tup
        exact ⟨p, us, by rw [e, eu], .inr hH, fun l hl => h1.get (fun _ => rfl) (same_new hl) (repF.new hl rr)⟩
      | _ => exact (h1.no fun _ => rfl).elim
    | [], _, h1 => exact (h1.no fun _ => rfl).elim
    | x :: y :: z, r1, h1 => exact (h1.no fun _ => by cases x <;> rfl).elim
theorem pf_sortI (hg : Gl X "sorted") (hm : X.mg "sorted" = none) (ha : PXs X W [a] fs) (he : starEach [a] X.env = (false, eval a X.env) :: starEach [] X.env := by rfl) (hpl : (backTo pos (starEach [] X.env)).any (·.1) = false := by rfl) :
    PF X W (.Call (.Name "sorted" p) [a] [] pos) (Fl.sort fs) := convE (pe_callB cr_sortedI hg hm (by decide +kernel) ha (by decide) (by decide) he hpl) fun σ H Q h =>
  Rg.seq (k := fun ds _ => Fl.sort1 ds) h fun ds vs H1 s1 r1 h1 => by
    match ds, r1, h1 with
    | [d], r1, h1 =>
      obtain ⟨v, e, rv⟩ := r1.one_
      cases d with
      | lst es =>
        obtain ⟨p, us, eu, _, hH, rr⟩ := rv.lst
        cases c : asInts es with
        | none => exact (h1.no fun _ => show (R.of (asInts es)).bind _ = .no by rw [c]; rfl).elim
        | some ns =>
          have ed := asInts_eq c
          rw [ed] at rr
          rw [rr.ints] at hH
          refine ⟨p, ns, by rw [e, eu], SqL.of hH, fun ns' q hp hs hn => ?_⟩
          have en : ns' = ns.mergeSort fun a b => decide (a ≤ b) := sorted_eq (hp.trans (List.mergeSort_perm ns _).symm) hs (mergeSort_le ns)
          rw [en]
          exact h1.get (fun _ => show (R.of (asInts es)).bind _ = _ by rw [c]; rfl) (same_new hn) (repF.new hn Reps.of_ints)
      | _ => exact (h1.no fun _ => rfl).elim
    | [], _, h1 => exact (h1.no fun _ => rfl).elim
    | x :: y :: z, r1, h1 => exact (h1.no fun _ => by cases x <;> rfl).elim
end

/-! ### comprehensions, of pure items -/
def R.noex {α : Type} : R α → R α
  | .ok a => .ok a
  | _ => .no
/-- nothing is wished of an exception -/
abbrev W0 : WX := fun _ _ _ _ => False
/-- an item ahead of a row -/
def consP (y : D) (r : R (List D)) : R (List D) := if y.pure = true then r.bind fun ys => .ok (y :: ys) else .no
def lcM (t : Tg) (vs : List Nat) (test : En → R Bool) (elt : En → R D) (e : En) : List D → R (List D)
  | [] => .ok []
  | x :: xs => (bindT t x).noex.bind fun bs => (test (setsE (wipeE e vs) bs)).noex.bind fun b => match b with
    | true => (elt (setsE (wipeE e vs) bs)).noex.bind fun y => consP y (lcM t vs test elt e xs)
    | false => lcM t vs test elt e xs
namespace Fl
def comp (f : En → R (List D)) (t : Tg) (vs : List Nat) (test : En → R Bool) (elt : En → R D) : En → R (List D) := fun e => (f e).bind fun ds => if ds.length ≤ 16777000 then lcM t vs test elt e ds else .no
end Fl
def B.yes : En → R Bool := fun _ => .ok true
mutual
def Tg.slots : Tg → List Nat
  | .nm i => [i]
  | .tp ts => Tg.slotss ts
def Tg.slotss : List Tg → List Nat
  | [] => []
  | t :: ts => t.slots ++ Tg.slotss ts
end
mutual
theorem bindT_slots : ∀ (t : Tg) (d : D) (bs : List (Nat × D)), bindT t d = .ok bs → ∀ p ∈ bs, p.1 ∈ t.slots
  | .nm i, d, bs, h, p, hp => by
    rw [bindT] at h
    cases h
    rw [List.mem_singleton.mp hp, Tg.slots]
    exact List.mem_cons_self
  | .tp ts, .tup ds, bs, h, p, hp => by
    rw [bindT] at h
    rw [Tg.slots]
    exact bindTs_slots ts ds bs h p hp
  | .tp ts, .non, bs, h, p, hp => by rw [bindT] at h; cases h; all_goals (intros; contradiction)
  | .tp ts, .bl _, bs, h, p, hp => by rw [bindT] at h; cases h; all_goals (intros; contradiction)
  | .tp ts, .int _, bs, h, p, hp => by rw [bindT] at h; cases h; all_goals (intros; contradiction)
  | .tp ts, .str _, bs, h, p, hp => by rw [bindT] at h; cases h; all_goals (intros; contradiction)
  | .tp ts, .lst _, bs, h, p, hp => by rw [bindT] at h; cases h; all_goals (intros; contradiction)
  | .tp ts, .fix _, bs, h, p, hp => by rw [bindT] at h; cases h; all_goals (intros; contradiction)
  | .tp ts, .dic _ _, bs, h, p, hp => by rw [bindT] at h; cases h; all_goals (intros; contradiction)
  | .tp ts, .obj _ _, bs, h, p, hp => by rw [bindT] at h; cases h; all_goals (intros; contradiction)
theorem bindTs_slots : ∀ (ts : List Tg) (ds : List D) (bs : List (Nat × D)), bindTs ts ds = .ok bs → ∀ p ∈ bs, p.1 ∈ Tg.slotss ts
  | [], [], bs, h, p, hp => by rw [bindTs] at h; cases h; cases hp
  | [], d :: ds, bs, h, p, hp => by rw [bindTs] at h; cases h; all_goals (intros; contradiction)
  | t :: ts, [], bs, h, p, hp => by rw [bindTs] at h; cases h; all_goals (intros; contradiction)
  | t :: ts, d :: ds, bs, h, p, hp => by
    rw [bindTs] at h
    rw [Tg.slotss]
    cases q1 : bindT t d with
    | ok b =>
      cases q2 : bindTs ts ds with
      | ok b2 =>
        rw [q1, q2] at h
        cases h
        rcases List.mem_append.mp hp with z | z
        · exact List.mem_append_left _ (bindT_slots t d b q1 p z)
        · exact List.mem_append_right _ (bindTs_slots ts ds b2 q2 p z)
      | ex c => rw [q1, q2] at h; cases h
      | no => rw [q1, q2] at h; cases h
    | ex c => rw [q1] at h; cases h
    | no => rw [q1] at h; cases h
end
section
variable {X : Cx} {W : WX} {elt tg it : Expr} {ifs : List Expr} {scope : Scope} {own : List (Str × Nat)} {pos : Pos} {fi : En → R (List D)} {t : Tg} {ft : En → R Bool} {fe : En → R D}
theorem lcM_ok {e : En} {vs : List Nat} {x : D} {xs rest : List D} (h : lcM t vs ft fe e (x :: xs) = .ok rest) :
    ∃ bs b, bindT t x = .ok bs ∧ ft (setsE (wipeE e vs) bs) = .ok b ∧ (b = false → lcM t vs ft fe e xs = .ok rest) ∧ (b = true → ∃ y ys, fe (setsE (wipeE e vs) bs) = .ok y ∧ y.pure = true ∧ lcM t vs ft fe e xs = .ok ys ∧ rest = y :: ys) := by
  rw [lcM] at h
  cases q1 : bindT t x with
  | ok bs =>
    rw [q1] at h
    replace h : ((ft (setsE (wipeE e vs) bs)).noex.bind fun b => match b with
      | true => (fe (setsE (wipeE e vs) bs)).noex.bind fun y => consP y (lcM t vs ft fe e xs)
      | false => lcM t vs ft fe e xs) = .ok rest := h
    cases q2 : ft (setsE (wipeE e vs) bs) with
    | ok b =>
      rw [q2] at h
      refine ⟨bs, b, rfl, q2, fun eb => ?_, fun eb => ?_⟩
      · subst eb; exact h
      · subst eb
        replace h : ((fe (setsE (wipeE e vs) bs)).noex.bind fun y => consP y (lcM t vs ft fe e xs)) = .ok rest := h
        cases q3 : fe (setsE (wipeE e vs) bs) with
        | ok y =>
          rw [q3] at h
          replace h : (if y.pure = true then (lcM t vs ft fe e xs).bind fun ys => R.ok (y :: ys) else .no) = .ok rest := h
          by_cases c : y.pure = true
          · rw [if_pos c] at h
            cases q4 : lcM t vs ft fe e xs with
            | ok ys => rw [q4] at h; exact ⟨y, ys, rfl, c, rfl, (R.ok.inj h).symm⟩
            | ex c => rw [q4] at h; cases h
            | no => rw [q4] at h; cases h
          · rw [if_neg c] at h; cases h
        | ex c => rw [q3] at h; cases h
        | no => rw [q3] at h; cases h
    | ex c => rw [q2] at h; cases h
    | no => rw [q2] at h; cases h
  | ex c => rw [q1] at h; cases h
  | no => rw [q1] at h; cases h
theorem lcM_ex {e : En} {vs : List Nat} {c : Str} : ∀ {xs : List D}, lcM t vs ft fe e xs = .ex c → False
  | [], h => by rw [lcM] at h; cases h
  | x :: xs, h => by
    rw [lcM] at h
    cases q1 : bindT t x with
    | ok bs =>
      rw [q1] at h
      replace h : ((ft (setsE (wipeE e vs) bs)).noex.bind fun b => match b with
        | true => (fe (setsE (wipeE e vs) bs)).noex.bind fun y => consP y (lcM t vs ft fe e xs)
        | false => lcM t vs ft fe e xs) = .ex c := h
      cases q2 : ft (setsE (wipeE e vs) bs) with
      | ok b =>
        rw [q2] at h
        cases b with
        | false => exact lcM_ex (xs := xs) h
        | true =>
          replace h : ((fe (setsE (wipeE e vs) bs)).noex.bind fun y => consP y (lcM t vs ft fe e xs)) = .ex c := h
          cases q3 : fe (setsE (wipeE e vs) bs) with
          | ok y =>
            rw [q3] at h
            replace h : (if y.pure = true then (lcM t vs ft fe e xs).bind fun ys => R.ok (y :: ys) else .no) = .ex c := h
            by_cases c' : y.pure = true
            · rw [if_pos c'] at h
              cases q4 : lcM t vs ft fe e xs with
              | ok ys => rw [q4] at h; cases h
              | ex c => exact lcM_ex q4
              | no => rw [q4] at h; cases h
            · rw [if_neg c'] at h; cases h
          | ex c => rw [q3] at h; cases h
          | no => rw [q3] at h; cases h
      | ex c => rw [q2] at h; cases h
      | no => rw [q2] at h; cases h
    | ex c => rw [q1] at h; cases h
    | no => rw [q1] at h; cases h
/-- the reading of a comprehension -/
theorem lc_conv {K : PySem.W.Frag} {mg : Str → Option Value} {vs : List Nat} (hv : ∀ i ∈ t.slots, i ∈ vs) {σ : L2.St} {H : Hp} {Q : VK}
    (h : Rg (repF K) K mg W (Fl.comp fi t vs ft fe) σ H Q) : tLc (Rg (repI K) K mg W fi) (gT K t) (tT K mg W0 ft) (tX K mg W0 fe) vs σ H Q := by
  refine Rg.seq (k := fun ds e => if ds.length ≤ 16777000 then lcM t vs ft fe e ds else .no) h fun ds J H1 s1 r1 h1 => ?_
  obtain ⟨P, hP, Y⟩ := r1
  obtain ⟨e, V, h1⟩ := h1
  by_cases c : ds.length ≤ 16777000
  · replace h1 : Fin (repF K) mg W σ H1 (if ds.length ≤ 16777000 then lcM t vs ft fe e ds else .no) Q := h1
    rw [if_pos c] at h1
    intro D hD
    cases q : lcM t vs ft fe e ds with
    | ok total =>
      rw [q] at h1
      refine ⟨fun i m H => m = ds.length - i ∧ i ≤ ds.length ∧ Same H1 H ∧ P H ∧ ∃ acc ys rest, H D = some (.lst acc) ∧ Reps K (fun a => a ≠ D) H ys acc ∧ lcM t vs ft fe e (ds.drop i) = .ok rest ∧ total = ys ++ rest ∧ ys.length ≤ i, ⟨ds.length, by simp, Nat.zero_le _, same_new hD, ?_, [], [], total, upd_same, .nil, by simpa using q, rfl, Nat.le_refl _⟩, ?_⟩
      · exact Y.keeps _ _ hP (.of_same (same_new hD))
      · rintro i m H2 ⟨rfl, hi, sm, p, acc, ys, rest, hDa, ra, hr, et, hy⟩
        by_cases hlt : i < ds.length
        · refine .inr ⟨Y.go i H2 hlt p, fun H3 => i + 1 ≤ ds.length ∧ Same H1 H3 ∧ P H3 ∧ ∃ acc ys rest, H3 D = some (.lst acc) ∧ Reps K (fun a => a ≠ D) H3 ys acc ∧ lcM t vs ft fe e (ds.drop (i + 1)) = .ok rest ∧ total = ys ++ rest ∧ ys.length ≤ i + 1,
            fun H3 z => ⟨ds.length - (i + 1), by omega, rfl, z⟩, fun x H3 y => ?_⟩
          have hd : ds.drop i = ds[i] :: ds.drop (i + 1) := List.drop_eq_getElem_cons hlt
          rw [hd] at hr
          obtain ⟨bs, b, q1, q2, qf, qt⟩ := lcM_ok hr
          obtain ⟨s3, rx⟩ := Y.yld i H2 x H3 ds[i] p (List.getElem?_eq_getElem hlt) y
          have p3 := Y.keeps _ _ p (.of_same s3)
          refine ⟨All, ds[i], bs, rx.all, q1, fun ws rws => ⟨?_, ?_⟩⟩
          · rw [wipe_sets fun z hz => hv _ (bindT_slots t _ bs q1 z hz), wipe_wipe]
          · have V3 : View K H3 (setsV (L2.wipe σ vs) bs ws) (setsE (wipeE e vs) bs) := View.sets ((V.mono ((sm.trans s3))).wipe vs) rws
            refine ⟨_, V3, ?_⟩
            rw [q2]
            intro b2 H4 s4 eb
            have eb' : b = b2 := eb
            subst eb'
            have sm4 : Same H1 H4 := (sm.trans s3).trans s4
            have p4 := Y.keeps _ _ p3 (.of_same s4)
            have hD4 : H4 D = some (.lst acc) := s4 _ _ (s3 _ _ hDa)
            have ra4 := (ra.mono s3).mono s4
            cases b with
            | false => exact ⟨hlt, sm4, p4, acc, ys, rest, hD4, ra4, qf rfl, et, by omega⟩
            | true =>
              obtain ⟨y, yr, qe, py, qr, er⟩ := qt rfl
              refine ⟨_, V3.mono s4, ?_⟩
              rw [qe]
              intro w H5 s5 rw5
              refine ⟨acc, s5 _ _ hD4, ?_, ?_⟩
              · have := ra4.length
                exact Nat.lt_of_lt_of_le (by omega : acc.length < 16777216) (by rw [sizeLine_eq]; exact Nat.le_refl _)
              · have k5 : Keeps (fun a => a ≠ D) H5 (upd H5 D (.lst (acc ++ [w]))) := fun b o eb fb => by
                  by_cases z : b = D
                  · subst z
                    rw [s5 _ _ hD4] at eb
                    rcases fb with f | ⟨xs, f⟩ | ⟨ob, u, f⟩
                    · exact absurd rfl f
                    · rw [f] at eb; cases eb
                    · rw [f] at eb; cases eb
                  · rw [upd_ne z]; exact eb
                refine ⟨hlt, fun b o eb => ?_, ?_, acc ++ [w], ys ++ [y], yr, upd_same, ?_, qr, by rw [et, er, List.append_assoc]; rfl, by rw [List.length_append, List.length_singleton]; omega⟩
                · by_cases z : b = D
                  · subst z; rw [hD] at eb; cases eb
                  · rw [upd_ne z]; exact s5 _ _ (sm4 _ _ eb)
                · refine Y.keeps _ _ (Y.keeps _ _ p4 (.of_same s5)) fun b o eb fb => k5 b o eb ?_
                  rcases fb with f | f
                  · exact .inl fun z => f (by rw [z]; exact hD)
                  · exact .inr f
                · exact (Reps.keeps k5 (fun _ z => z) _ _ (ra4.mono s5)).append (.one (Rep.keeps k5 (fun _ z => z) _ _ (Rep.of_pure y w py rw5)))
        · have ei : i = ds.length := by omega
          subst ei
          refine .inl ⟨Y.stop H2 p, ?_⟩
          rw [List.drop_length, lcM] at hr
          cases hr
          rw [List.append_nil] at et
          subst et
          exact h1 (.ref D) H2 sm ⟨D, acc, rfl, hD, hDa, ra⟩
    | ex c => exact (lcM_ex q).elim
    | no => rw [q] at h1; exact h1.elim
  · replace h1 : Fin (repF K) mg W σ H1 (if ds.length ≤ 16777000 then lcM t vs ft fe e ds else .no) Q := h1
    rw [if_neg c] at h1
    exact h1.elim
end
end Lp

/-! # The pure layer, part 8: comprehensions, calls of own functions -/
namespace Lp
open PySem L2

/-! ### comprehensions -/
section
variable {X : Cx} {W : WX} {elt tg it c : Expr} {ifs : List Expr} {scope : Scope} {own : List (Str × Nat)} {pos : Pos} {fi : En → R (List D)} {t : Tg} {ft : En → R Bool} {fe : En → R D}
theorem convTs {X : Cx} {x : List Expr} {t u : TT} (h : PTs X x t) (k : ∀ σ H Q, u σ H Q → t σ H Q) : PTs X x u := ⟨fun pins s σ H Q I z => h.run pins s σ H Q I (k σ H Q z)⟩
theorem pts_no : PTs X [] (tT X.K X.mg W B.yes) := convTs pts_nil fun σ H Q h => h.get (fun _ => rfl) (Same.refl H) rfl
theorem pts_if (h : PB X W c ft) : PTs X [c] (tT X.K X.mg W ft) := pts_one h
theorem pf_lc (hc : X.calm = true) (hN : X.N.Nodup) (hv : ∀ i ∈ t.slots, i ∈ own.map (·.2)) (hi : PIx X W tg it fi) (ok : BlkOk X.N X.env.scope scope own)
    (hg : ∀ (s : Shared) (H : Hp) (C : Addr) (cl : List (Str × Addr)) (fp : List Addr), PG (X.blk s H scope (compEnvC scope cl C X.env) fp) tg (gT X.K t))
    (ht : ∀ (s : Shared) (H : Hp) (C : Addr) (cl : List (Str × Addr)) (fp : List Addr), PTs (X.blk s H scope (compEnvC scope cl C X.env) fp) ifs (tT X.K X.mg W0 ft))
    (he : ∀ (s : Shared) (H : Hp) (C : Addr) (cl : List (Str × Addr)) (fp : List Addr), PX (X.blk s H scope (compEnvC scope cl C X.env) fp) W0 elt fe) (hs : ∀ x, foldedSetIterable it X.env x = pure x := by intro _; rfl) :
    PF X W (.ListComp elt [⟨tg, it, ifs, 0⟩] scope pos) (Fl.comp fi t (own.map (·.2)) ft fe) :=
  convE (pe_lc hc hN hi ok hg ht he hs) fun σ H Q h => lc_conv hv h
end

/-! ### own functions -/
/-- what an own function promises: m of its n arguments -/
def spG {β : Type} (rep : Hp → Hp → β → V → Prop) (K : PySem.W.Frag) (mg : Str → Option Value) (n : Nat) (m : List D → R β) : Sp := fun vs H Q E => vs.length = n ∧ ∃ ds, Reps K All H ds vs ∧ Fin rep mg (fun c d _ H => E c d H) [] H (m ds) Q
theorem Fin.exk {α β : Type} {rep : Hp → Hp → α → β → Prop} {mg : Str → Option Value} {W W' : WX} {σ σ' : L2.St} {H : Hp} {r : R α} {Q : β → Hp → Prop} (h : Fin rep mg W σ H r Q) (w : ∀ C H', W (.ref C) none σ H' → W' (.ref C) none σ' H') : Fin rep mg W' σ' H r Q := by
  cases r with
  | ok a => exact h
  | ex c => exact fun C H' e s => w _ _ (h C H' e s)
  | no => exact h
section
variable {X : Cx} {W : WX} {k n : Nat} {f : Addr} {fd : FuncData} {ps : List Str} {x : Str} {p pos : Pos} {e : Expr} {es : List Expr} {fs : En → R (List D)}
theorem pg_call {β : Type} {rep : Hp → Hp → β → V → Prop} [MonoR rep] {m : List D → R β} (F : FnOk X.prog X.w X.K X.mg X.base (L2.CX X.prog X.w) k f fd ps (spG rep X.K X.mg n m)) (tk : Takes X W) (hr : Room k X.A) (hg : Gl X x) (hm : X.mg x = some (.ref f))
    (hk : PySem.W.keepIn X.K (.ref f) = true) (hb : Binds X.K fd ps []) (hn : ∀ ds, ds.length = n ∨ m ds = .no) (ha : PXs X W (e :: es) fs) (hdb : (x == ("__debug__" : Str)) = false := by decide)
    (he : starEach (e :: es) X.env = (false, eval e X.env) :: starEach es X.env := by rfl) (hpl : (backTo pos (starEach es X.env)).any (·.1) = false := by rfl) :
    PE X (.Call (.Name x p) (e :: es) [] pos) (Rg rep X.K X.mg W fun e => (fs e).bind m) := convE (pe_callS F hr hg hm hk hb (passAt tk) ha hdb he hpl) fun σ H Q h =>
  Rg.seq (k := fun ds _ => m ds) h fun ds vs H1 s1 r1 h1 => by
    rcases hn ds with l | l
    · obtain ⟨e, _, h1⟩ := h1
      exact ⟨by rw [← r1.length]; exact l, ds, r1, h1.exk fun _ _ z => z⟩
    · exact (h1.no fun _ => l).elim
theorem px_call {m : List D → R D} (F : FnOk X.prog X.w X.K X.mg X.base (L2.CX X.prog X.w) k f fd ps (spG (repX X.K) X.K X.mg n m)) (tk : Takes X W) (hr : Room k X.A) (hg : Gl X x) (hm : X.mg x = some (.ref f))
    (hk : PySem.W.keepIn X.K (.ref f) = true) (hb : Binds X.K fd ps []) (hn : ∀ ds, ds.length = n ∨ m ds = .no) (ha : PXs X W (e :: es) fs) (hdb : (x == ("__debug__" : Str)) = false := by decide)
    (he : starEach (e :: es) X.env = (false, eval e X.env) :: starEach es X.env := by rfl) (hpl : (backTo pos (starEach es X.env)).any (·.1) = false := by rfl) :
    PX X W (.Call (.Name x p) (e :: es) [] pos) (E.call m fs) := pg_call F tk hr hg hm hk hb hn ha hdb he hpl
namespace Fl
def call (m : List D → R (List D)) (f : En → R (List D)) : En → R (List D) := fun e => (f e).bind m
end Fl
theorem pf_call {m : List D → R (List D)} (F : FnOk X.prog X.w X.K X.mg X.base (L2.CX X.prog X.w) k f fd ps (spG (repF X.K) X.K X.mg n m)) (tk : Takes X W) (hr : Room k X.A) (hg : Gl X x) (hm : X.mg x = some (.ref f))
    (hk : PySem.W.keepIn X.K (.ref f) = true) (hb : Binds X.K fd ps []) (hn : ∀ ds, ds.length = n ∨ m ds = .no) (ha : PXs X W (e :: es) fs) (hdb : (x == ("__debug__" : Str)) = false := by decide)
    (he : starEach (e :: es) X.env = (false, eval e X.env) :: starEach es X.env := by rfl) (hpl : (backTo pos (starEach es X.env)).any (·.1) = false := by rfl) :
    PF X W (.Call (.Name x p) (e :: es) [] pos) (Fl.call m fs) := pg_call F tk hr hg hm hk hb hn ha hdb he hpl
end
end Lp

/-! # The pure layer, part 9: the state at a statement -/
namespace Lp
open PySem L2

/-! ### owned data -/
section
variable {K : PySem.W.Frag} {F F' : Addr → Prop} {H H' : Hp}
theorem OwnL.imp {P P' : D → V → List Addr → Prop} : ∀ {ds : List D} {vs : List V} {B : List Addr}, (∀ d v C, (∀ a ∈ C, a ∈ B) → P d v C → P' d v C) → OwnL P ds vs B → OwnL P' ds vs B
  | [], vs, B, _, h => by rw [OwnL] at h ⊢; exact h
  | d :: ds, vs, B, k, h => by
    rw [OwnL] at h ⊢
    obtain ⟨v, r, B1, B2, e1, e2, h1, h2⟩ := h
    refine ⟨v, r, B1, B2, e1, e2, k d v B1 (fun a ha => by rw [e2]; exact List.mem_append_left _ ha) h1, OwnL.imp (fun d v C hC p => k d v C (fun a ha => by rw [e2]; exact List.mem_append_right _ (hC a ha)) p) h2⟩
theorem OwnL.reps {P : D → V → List Addr → Prop} : ∀ {ds : List D} {vs : List V} {B : List Addr}, (∀ d v C, (∀ a ∈ C, a ∈ B) → P d v C → Rep K F H d v) → OwnL P ds vs B → Reps K F H ds vs
  | [], vs, B, _, h => by rw [OwnL] at h; rw [Reps]; exact h.1
  | d :: ds, vs, B, k, h => by
    rw [OwnL] at h
    obtain ⟨v, r, B1, B2, e1, e2, h1, h2⟩ := h
    rw [e1]
    exact .cons (k d v B1 (fun a ha => by rw [e2]; exact List.mem_append_left _ ha) h1) (OwnL.reps (fun d v C hC p => k d v C (fun a ha => by rw [e2]; exact List.mem_append_right _ (hC a ha)) p) h2)
theorem OwnL.all {P : D → V → List Addr → Prop} {Z : Addr → Prop} : ∀ {ds : List D} {vs : List V} {B : List Addr}, (∀ d v C, P d v C → ∀ a ∈ C, Z a) → OwnL P ds vs B → ∀ a ∈ B, Z a
  | [], vs, B, _, h, a, ha => by rw [OwnL] at h; rw [h.2] at ha; cases ha
  | d :: ds, vs, B, k, h, a, ha => by
    rw [OwnL] at h
    obtain ⟨v, r, B1, B2, e1, e2, h1, h2⟩ := h
    rw [e2] at ha
    rcases List.mem_append.mp ha with z | z
    · exact k d v B1 h1 a z
    · exact OwnL.all k h2 a z
/-- read, at F' with all of A in it -/
theorem Own.rep (f : ∀ b, F b → F' b) : ∀ (s : Shape) (d : D) (v : V) (A : List Addr), (∀ a ∈ A, F' a) → Own K F H s d v A → Rep K F' H d v := by
  intro s
  induction s using Shape.rec (motive_2 := fun ss => ∀ (ds : List D) (vs : List V) (B : List Addr), (∀ a ∈ B, F' a) → Owns K F H ss ds vs B → Reps K F' H ds vs) with
  | leaf =>
    intro d v A hA h
    rw [Own] at h
    exact Rep.keeps (fun _ _ e _ => e) f _ _ h.2
  | node s ih =>
    intro d v A hA h
    cases d with
    | lst ds =>
      rw [Own] at h
      obtain ⟨a, vs, B, e, hH, eA, h⟩ := h
      subst eA
      rw [Rep]
      exact ⟨a, vs, e, hA a List.mem_cons_self, hH, OwnL.reps (fun d v C hC p => ih d v C (fun a ha => hA a (List.mem_cons_of_mem _ (hC a ha))) p) h⟩
    | dic ks ds =>
      rw [Own] at h
      obtain ⟨a, vs, B, e, hH, l, eA, h⟩ := h
      subst eA
      rw [Rep]
      exact ⟨a, vs, e, hA a List.mem_cons_self, hH, l, OwnL.reps (fun d v C hC p => ih d v C (fun a ha => hA a (List.mem_cons_of_mem _ (hC a ha))) p) h⟩
    | _ => exact (show False by simp only [Own] at h).elim
  | obj ss ih =>
    intro d v A hA h
    cases d with
    | obj fs ds =>
      rw [Own] at h
      obtain ⟨a, C, dx, vs, B, e, hH, l, eA, h⟩ := h
      subst eA
      rw [Rep]
      exact ⟨a, C, dx, vs, e, hA a List.mem_cons_self, hH, l, ih ds vs B (fun a ha => hA a (List.mem_cons_of_mem _ ha)) h⟩
    | _ => exact (show False by simp only [Own] at h).elim
  | me s ih =>
    intro d v A hA h
    rw [Own] at h
    exact ih d v A hA h
  | nil => 
    rename_i ds vs B hB h
    rw [Owns] at h
    rw [h.1, h.2.1]
    exact .nil
  | cons s ss ih1 ih2 =>
    rename_i ds vs B hB h
    rw [Owns] at h
    obtain ⟨d, er, v, r, B1, B2, e1, e2, e3, h1, h2⟩ := h
    subst e1 e2 e3
    exact .cons (ih1 d v B1 (fun a ha => hB a (List.mem_append_left _ ha)) h1) (ih2 er r B2 (fun a ha => hB a (List.mem_append_right _ ha)) h2)
/-- kept where its addresses are -/
theorem Own.keeps (k : Keeps F H H') (f : ∀ b, F b → F' b) : ∀ (s : Shape) (d : D) (v : V) (A : List Addr), (∀ a ∈ A, ∀ o, H a = some o → H' a = some o) → Own K F H s d v A → Own K F' H' s d v A := by
  intro s
  induction s using Shape.rec (motive_2 := fun ss => ∀ (ds : List D) (vs : List V) (B : List Addr), (∀ a ∈ B, ∀ o, H a = some o → H' a = some o) → Owns K F H ss ds vs B → Owns K F' H' ss ds vs B) with
  | leaf =>
    intro d v A hA h
    rw [Own] at h ⊢
    exact ⟨h.1, Rep.keeps k f _ _ h.2⟩
  | node s ih =>
    intro d v A hA h
    cases d with
    | lst ds =>
      rw [Own] at h ⊢
      obtain ⟨a, vs, B, e, hH, eA, h⟩ := h
      subst eA
      exact ⟨a, vs, B, e, hA a List.mem_cons_self _ hH, rfl, OwnL.imp (fun d v C hC p => ih d v C (fun a ha => hA a (List.mem_cons_of_mem _ (hC a ha))) p) h⟩
    | dic ks ds =>
      rw [Own] at h ⊢
      obtain ⟨a, vs, B, e, hH, l, eA, h⟩ := h
      subst eA
      exact ⟨a, vs, B, e, hA a List.mem_cons_self _ hH, l, rfl, OwnL.imp (fun d v C hC p => ih d v C (fun a ha => hA a (List.mem_cons_of_mem _ (hC a ha))) p) h⟩
    | _ => exact (show False by simp only [Own] at h).elim
  | obj ss ih =>
    intro d v A hA h
    cases d with
    | obj fs ds =>
      rw [Own] at h ⊢
      obtain ⟨a, C, dx, vs, B, e, hH, l, eA, h⟩ := h
      subst eA
      exact ⟨a, C, dx, vs, B, e, hA a List.mem_cons_self _ hH, l, rfl, ih ds vs B (fun a ha => hA a (List.mem_cons_of_mem _ ha)) h⟩
    | _ => exact (show False by simp only [Own] at h).elim
  | me s ih =>
    intro d v A hA h
    rw [Own] at h ⊢
    exact ih d v A hA h
  | nil => 
    rename_i ds vs B hB h
    rw [Owns] at h ⊢
    exact h
  | cons s ss ih1 ih2 =>
    rename_i ds vs B hB h
    rw [Owns] at h ⊢
    obtain ⟨d, er, v, r, B1, B2, e1, e2, e3, h1, h2⟩ := h
    subst e1 e2 e3
    exact ⟨d, er, v, r, B1, B2, rfl, rfl, rfl, ih1 d v B1 (fun a ha => hB a (List.mem_append_left _ ha)) h1, ih2 er r B2 (fun a ha => hB a (List.mem_append_right _ ha)) h2⟩
/-- a cell that may be written -/
def Mut (o : HO) : Prop := (∃ xs, o = .lst xs) ∨ (∃ kvs, o = .dK kvs) ∨ ∃ C dx fs, o = .ins C dx fs
theorem Own.mut : ∀ (s : Shape) (d : D) (v : V) (A : List Addr), Own K F H s d v A → ∀ a ∈ A, ∃ o, H a = some o ∧ Mut o := by
  intro s
  induction s using Shape.rec (motive_2 := fun ss => ∀ (ds : List D) (vs : List V) (B : List Addr), Owns K F H ss ds vs B → ∀ a ∈ B, ∃ o, H a = some o ∧ Mut o) with
  | leaf =>
    intro d v A h a ha
    rw [Own] at h
    rw [h.1] at ha
    cases ha
  | node s ih =>
    intro d v A h a ha
    cases d with
    | lst ds =>
      rw [Own] at h
      obtain ⟨b, vs, B, e, hH, eA, h⟩ := h
      subst eA
      rcases List.mem_cons.mp ha with z | z
      · rw [z]; exact ⟨_, hH, .inl ⟨_, rfl⟩⟩
      · exact OwnL.all (fun d v C p => ih d v C p) h a z
    | dic ks ds =>
      rw [Own] at h
      obtain ⟨b, vs, B, e, hH, l, eA, h⟩ := h
      subst eA
      rcases List.mem_cons.mp ha with z | z
      · rw [z]; exact ⟨_, hH, .inr (.inl ⟨_, rfl⟩)⟩
      · exact OwnL.all (fun d v C p => ih d v C p) h a z
    | _ => exact (show False by simp only [Own] at h).elim
  | obj ss ih =>
    intro d v A h a ha
    cases d with
    | obj fs ds =>
      rw [Own] at h
      obtain ⟨b, C, dx, vs, B, e, hH, l, eA, h⟩ := h
      subst eA
      rcases List.mem_cons.mp ha with z | z
      · rw [z]; exact ⟨_, hH, .inr (.inr ⟨_, _, _, rfl⟩)⟩
      · exact ih ds vs B h a z
    | _ => exact (show False by simp only [Own] at h).elim
  | me s ih =>
    intro d v A h a ha
    rw [Own] at h
    exact ih d v A h a ha
  | nil => 
    rename_i ds vs B h a ha
    rw [Owns] at h
    rw [h.2.2] at ha
    cases ha
  | cons s ss ih1 ih2 =>
    rename_i ds vs B h a ha
    rw [Owns] at h
    obtain ⟨d, er, v, r, B1, B2, e1, e2, e3, h1, h2⟩ := h
    subst e1 e2 e3
    rcases List.mem_append.mp ha with z | z
    · exact ih1 d v B1 h1 a z
    · exact ih2 er r B2 h2 a z
end

/-! ### the state -/
/-- what a def's body has to keep: what stood ahead of it (P), which addresses were taken (dom), whether its answer is a new list (fl), and whether nothing that stood ahead is its own (pl) -/
structure Cc where
  P : Hp
  dom : Addr → Prop
  fl : Bool
  pl : Bool
  own : Addr → Prop
  me : Option V
def SlotOk (K : PySem.W.Frag) (F : Addr → Prop) (H : Hp) (ov : Option (Option V)) : Sl → List Addr → Prop
  | .no, A => A = []
  | .sh d, A => A = [] ∧ ∃ v, ov = some (some v) ∧ Rep K F H d v
  | .ow s d, A => ∃ v, ov = some (some v) ∧ Own K F H s d v A
structure StOk (c : Cc) (K : PySem.W.Frag) (F : Addr → Prop) (A : Nat → List Addr) (H : Hp) (σ : L2.St) (e : En) : Prop where
  len : σ.length = e.length
  pr : ∀ b o, c.P b = some o → H b = some o ∧ F b
  al : ∀ b, c.dom b → H b ≠ none
  pl : c.pl = true → ∀ b, c.dom b → F b
  po : ∀ b, c.dom b → ¬ c.own b → F b
  me : ∀ (i : Nat) (s : Shape) (d : D), e[i]? = some (Sl.ow (.me s) d) → ∃ v, σ[i]? = some (some v) ∧ c.me = some v
  fh : ∀ b, F b → H b ≠ none
  fa : ∀ i, ∀ a ∈ A i, ¬ F a
  dj : ∀ i j a, a ∈ A i → a ∈ A j → i = j
  nd : ∀ i, (A i).Nodup
  out : ∀ i, e.length ≤ i → A i = []
  sl : ∀ i s, e[i]? = some s → SlotOk K F H σ[i]? s (A i)
section
variable {c : Cc} {K : PySem.W.Frag} {F F' : Addr → Prop} {A : Nat → List Addr} {H H' : Hp} {σ : L2.St} {e : En}
theorem StOk.view (h : StOk c K F A H σ e) : View K H σ e := ⟨h.len, fun i d q => by
  unfold vw at q
  cases z : e[i]? with
  | none => rw [z] at q; cases q
  | some s =>
    rw [z] at q
    have k := h.sl i s z
    cases s with
    | no => cases q
    | sh d' =>
      cases q
      obtain ⟨_, v, e1, r⟩ := k
      exact ⟨v, e1, r.all⟩
    | ow s d' =>
      cases q
      obtain ⟨v, e1, r⟩ := k
      exact ⟨v, e1, Own.rep (fun _ _ => trivial) s d v _ (fun _ _ => trivial) r⟩⟩
theorem StOk.mono (h : StOk c K F A H σ e) (s : Same H H') : StOk c K F A H' σ e where
  len := h.len
  pr := fun b o q => ⟨s b o (h.pr b o q).1, (h.pr b o q).2⟩
  al := fun b q z => by
    cases k : H b with
    | none => exact h.al b q k
    | some o => rw [s b o k] at z; cases z
  pl := h.pl
  po := h.po
  me := h.me
  fh := fun b q z => by
    cases k : H b with
    | none => exact h.fh b q k
    | some o => rw [s b o k] at z; cases z
  fa := h.fa
  dj := h.dj
  nd := h.nd
  out := h.out
  sl := fun i sl q => by
    have k := h.sl i sl q
    cases sl with
    | no => exact k
    | sh d => obtain ⟨e0, v, e1, r⟩ := k; exact ⟨e0, v, e1, r.mono s⟩
    | ow s' d => obtain ⟨v, e1, r⟩ := k; exact ⟨v, e1, Own.keeps (.of_same s) (fun _ z => z) s' d v _ (fun a _ o e => s a o e) r⟩
/-- more is known to stay -/
theorem StOk.grow (h : StOk c K F A H σ e) (f : ∀ b, F b → F' b) (g : ∀ b, F' b → H b ≠ none) (n : ∀ i, ∀ a ∈ A i, ¬ F' a) : StOk c K F' A H σ e where
  len := h.len
  pr := fun b o q => ⟨(h.pr b o q).1, f b (h.pr b o q).2⟩
  al := h.al
  pl := fun p b q => f b (h.pl p b q)
  po := fun b q n => f b (h.po b q n)
  me := h.me
  fh := g
  fa := n
  dj := h.dj
  nd := h.nd
  out := h.out
  sl := fun i sl q => by
    have k := h.sl i sl q
    cases sl with
    | no => exact k
    | sh d => obtain ⟨e0, v, e1, r⟩ := k; exact ⟨e0, v, e1, Rep.keeps (fun _ _ e _ => e) f _ _ r⟩
    | ow s' d => obtain ⟨v, e1, r⟩ := k; exact ⟨v, e1, Own.keeps (fun _ _ e _ => e) f s' d v _ (fun a _ o e => e) r⟩
def putA (A : Nat → List Addr) (i : Nat) (B : List Addr) : Nat → List Addr := fun j => if j = i then B else A j
theorem putA_same {i : Nat} {B : List Addr} : putA A i B i = B := if_pos rfl
theorem putA_ne {i j : Nat} {B : List Addr} (h : j ≠ i) : putA A i B j = A j := if_neg h
/-- slot i anew, the heap changed at most at what slot i owned -/
theorem StOk.put (h : StOk c K F A H σ e) {i : Nat} {v : V} {s : Sl} {B : List Addr} (hi : i < e.length) (k : ∀ b o, H b = some o → b ∉ A i → H' b = some o)
    (t : ∀ b, H b ≠ none → H' b ≠ none) (hs : SlotOk K F H' (some (some v)) s B) (hn : B.Nodup) (hB : ∀ a ∈ B, ¬ F a ∧ ∀ j, j ≠ i → a ∉ A j) (hm : ∀ s0 d, s = .ow (.me s0) d → c.me = some v := by intro _ _ z; cases z) : StOk c K F (putA A i B) H' (σ.set i (some v)) (e.set i s) where
  len := by rw [List.length_set, List.length_set]; exact h.len
  pr := fun b o q => ⟨k b o (h.pr b o q).1 fun z => h.fa i b z (h.pr b o q).2, (h.pr b o q).2⟩
  al := fun b q => t b (h.al b q)
  pl := h.pl
  po := h.po
  me := fun j s0 d q => by
    by_cases z : i = j
    · subst z
      rw [List.getElem?_set_self hi] at q
      rw [List.getElem?_set_self (by rw [h.len]; exact hi)]
      exact ⟨v, rfl, hm s0 d (Option.some.inj q)⟩
    · rw [List.getElem?_set_ne z] at q
      rw [List.getElem?_set_ne z]
      exact h.me j s0 d q
  fh := fun b q => t b (h.fh b q)
  fa := fun j a ha => by
    by_cases z : j = i
    · subst z; rw [putA_same] at ha; exact (hB a ha).1
    · rw [putA_ne z] at ha; exact h.fa j a ha
  dj := fun j l a ha hb => by
    by_cases z : j = i
    · by_cases z2 : l = i
      · rw [z, z2]
      · rw [z, putA_same] at ha
        rw [putA_ne z2] at hb
        exact absurd hb ((hB a ha).2 l z2)
    · by_cases z2 : l = i
      · rw [z2, putA_same] at hb
        rw [putA_ne z] at ha
        exact absurd ha ((hB a hb).2 j z)
      · rw [putA_ne z] at ha
        rw [putA_ne z2] at hb
        exact h.dj j l a ha hb
  nd := fun j => by
    by_cases z : j = i
    · rw [z, putA_same]; exact hn
    · rw [putA_ne z]; exact h.nd j
  out := fun j hj => by
    rw [List.length_set] at hj
    rw [putA_ne (by omega)]
    exact h.out j hj
  sl := fun j s' q => by
    have kp : Keeps F H H' := fun b o eb fb => k b o eb fun z => by
      rcases fb with f | ⟨xs, f⟩ | ⟨ob, u, f⟩
      · exact h.fa i b z f
      · have q : ∃ s0, e[i]? = some s0 := ⟨_, List.getElem?_eq_getElem hi⟩
        obtain ⟨s0, q⟩ := q
        have q1 := h.sl i s0 q
        cases s0 with
        | no => rw [show A i = [] from q1] at z; cases z
        | sh d => rw [q1.1] at z; cases z
        | ow s1 d =>
          obtain ⟨u, _, r⟩ := q1
          obtain ⟨o', e1, m⟩ := Own.mut s1 d u _ r b z
          rw [e1] at eb
          cases eb
          rcases m with ⟨_, m⟩ | ⟨_, m⟩ | ⟨_, _, _, m⟩ <;> rw [m] at f <;> cases f
      · have q : ∃ s0, e[i]? = some s0 := ⟨_, List.getElem?_eq_getElem hi⟩
        obtain ⟨s0, q⟩ := q
        have q1 := h.sl i s0 q
        cases s0 with
        | no => rw [show A i = [] from q1] at z; cases z
        | sh d => rw [q1.1] at z; cases z
        | ow s1 d =>
          obtain ⟨u', _, r⟩ := q1
          obtain ⟨o', e1, m⟩ := Own.mut s1 d u' _ r b z
          rw [e1] at eb
          cases eb
          rcases m with ⟨_, m⟩ | ⟨_, m⟩ | ⟨_, _, _, m⟩ <;> rw [m] at f <;> cases f
    by_cases z : i = j
    · subst z
      rw [List.getElem?_set_self hi] at q
      cases q
      rw [List.getElem?_set_self (by rw [h.len]; exact hi), putA_same]
      exact hs
    · rw [List.getElem?_set_ne z] at q
      rw [List.getElem?_set_ne z, putA_ne (Ne.symm z)]
      have q1 := h.sl j s' q
      cases s' with
      | no => exact q1
      | sh d => obtain ⟨e0, u, e1, r⟩ := q1; exact ⟨e0, u, e1, Rep.keeps kp (fun _ z => z) _ _ r⟩
      | ow s1 d =>
        obtain ⟨u, e1, r⟩ := q1
        exact ⟨u, e1, Own.keeps kp (fun _ z => z) s1 d u _ (fun a ha o eo => k a o eo fun z2 => z (h.dj i j a z2 ha)) r⟩
theorem StOk.set_sh (h : StOk c K F A H σ e) {i : Nat} {v : V} {d : D} (r : Rep K F H d v) : ∃ A', StOk c K F A' H (σ.set i (some v)) (e.set i (.sh d)) := by
  by_cases hi : i < e.length
  · exact ⟨_, h.put (B := []) hi (fun _ _ e _ => e) (fun _ z => z) ⟨rfl, v, rfl, r⟩ (by simp) (by simp)⟩
  · refine ⟨A, ?_⟩
    rw [List.set_eq_of_length_le (show σ.length ≤ i by rw [h.len]; omega), List.set_eq_of_length_le (show e.length ≤ i by omega)]
    exact h
theorem StOk.sets (h : StOk c K F A H σ e) : ∀ {bs : List (Nat × D)} {ws : List V}, Reps K F H (bs.map (·.2)) ws → ∃ A', StOk c K F A' H (setsV σ bs ws) (setsE e bs) := by
  intro bs
  induction bs generalizing A σ e with
  | nil =>
    intro ws r
    rw [List.map_nil, Reps] at r
    subst r
    exact ⟨A, h⟩
  | cons b bs ih =>
    intro ws r
    rw [List.map_cons, Reps] at r
    obtain ⟨v, rest, ev, h1, h2⟩ := r
    subst ev
    obtain ⟨i, d⟩ := b
    obtain ⟨A1, k⟩ := h.set_sh (i := i) h1
    exact ih k h2
/-- all that stands is known to stay: nothing is owned any more -/
def Sl.frz : Sl → Sl
  | .ow _ d => .sh d
  | s => s
def frzA (e : En) : En := e.map Sl.frz
theorem StOk.frzA (h : StOk c K F A H σ e) : StOk c K (fun b => H b ≠ none) (fun _ => []) H σ (frzA e) where
  len := by unfold Lp.frzA; rw [List.length_map]; exact h.len
  pr := fun b o q => ⟨(h.pr b o q).1, by rw [(h.pr b o q).1]; exact fun z => nomatch z⟩
  al := h.al
  pl := fun _ b q => h.al b q
  po := fun b q _ => h.al b q
  me := fun i s d q => by
    unfold Lp.frzA at q
    rw [List.getElem?_map] at q
    cases z : e[i]? with
    | none => rw [z] at q; cases q
    | some s0 => rw [z] at q; cases s0 <;> cases q
  fh := fun b q => q
  fa := fun i a ha => absurd ha (by simp)
  dj := fun i j a ha => absurd ha (by simp)
  nd := fun i => List.nodup_nil
  out := fun i _ => rfl
  sl := fun i sl q => by
    unfold Lp.frzA at q
    rw [List.getElem?_map] at q
    cases z : e[i]? with
    | none => rw [z] at q; cases q
    | some s =>
      rw [z] at q
      have k := h.sl i s z
      cases s with
      | no => cases q; rfl
      | sh d => cases q; obtain ⟨_, v, e1, r⟩ := k; exact ⟨rfl, v, e1, Rep.keeps (fun _ _ e _ => e) (fun b f => h.fh b f) _ _ r⟩
      | ow s d => cases q; obtain ⟨v, e1, r⟩ := k; exact ⟨rfl, v, e1, Own.rep (fun b f => h.fh b f) s d v _ (fun a ha => by obtain ⟨o, e2, _⟩ := Own.mut s d v _ r a ha; rw [e2]; exact fun z => nomatch z) r⟩
def Sl.noOw : Sl → Bool
  | .ow _ _ => false
  | _ => true
def noOw (e : En) : Bool := e.all Sl.noOw
theorem StOk.noA (h : StOk c K F A H σ e) (n : noOw e = true) : A = fun _ => [] := by
  funext i
  by_cases hi : i < e.length
  · have q := h.sl i e[i] (List.getElem?_eq_getElem hi)
    have z : (e[i]).noOw = true := List.all_eq_true.mp n _ (List.getElem_mem hi)
    cases k : e[i] with
    | no => rw [k] at q; exact q
    | sh d => rw [k] at q; exact q.1
    | ow s d => rw [k] at z; cases z
  · exact h.out i (by omega)
/-- one slot -/
def frz1 (i : Nat) (e : En) : En := match e[i]? with
  | some (.ow _ d) => e.set i (.sh d)
  | _ => e
theorem StOk.frz1 (h : StOk c K F A H σ e) (i : Nat) : ∃ F' A', (∀ b, F b → F' b) ∧ StOk c K F' A' H σ (frz1 i e) := by
  unfold Lp.frz1
  cases z : e[i]? with
  | none => exact ⟨F, A, fun _ z => z, h⟩
  | some s =>
    cases s with
    | no => exact ⟨F, A, fun _ z => z, h⟩
    | sh d => exact ⟨F, A, fun _ z => z, h⟩
    | ow s d =>
      obtain ⟨v, e1, r⟩ := h.sl i _ z
      have m := Own.mut s d v _ r
      refine ⟨fun b => F b ∨ b ∈ A i, putA A i [], fun _ z => .inl z, ?_⟩
      show StOk c K _ _ H σ (e.set i (.sh d))
      refine ⟨by rw [List.length_set]; exact h.len, fun b o q => ⟨(h.pr b o q).1, .inl (h.pr b o q).2⟩, h.al, fun p b q => .inl (h.pl p b q), fun b q n => .inl (h.po b q n), fun j s' d' q => ?_, fun b q => ?_, fun j a ha => ?_, fun j l a ha hb => ?_, fun j => ?_, fun j hj => ?_, fun j s' q => ?_⟩
      · have hi : i < e.length := (List.getElem?_eq_some_iff.mp z).1
        by_cases zj : i = j
        · subst zj
          rw [List.getElem?_set_self hi] at q
          cases q
        · rw [List.getElem?_set_ne zj] at q
          exact h.me j s' d' q
      · rcases q with q | q
        · exact h.fh b q
        · obtain ⟨o, e2, _⟩ := m b q
          rw [e2]; exact fun z => nomatch z
      · by_cases zj : j = i
        · rw [zj, putA_same] at ha; cases ha
        · rw [putA_ne zj] at ha
          rintro (q | q)
          · exact h.fa j a ha q
          · exact zj (h.dj j i a ha q)
      · by_cases zj : j = i
        · rw [zj, putA_same] at ha; cases ha
        · by_cases zl : l = i
          · rw [zl, putA_same] at hb; cases hb
          · rw [putA_ne zj] at ha
            rw [putA_ne zl] at hb
            exact h.dj j l a ha hb
      · by_cases zj : j = i
        · rw [zj, putA_same]; exact List.nodup_nil
        · rw [putA_ne zj]; exact h.nd j
      · rw [List.length_set] at hj
        by_cases zj : j = i
        · rw [zj, putA_same]
        · rw [putA_ne zj]; exact h.out j hj
      · have hi : i < e.length := (List.getElem?_eq_some_iff.mp z).1
        by_cases zj : i = j
        · subst zj
          rw [List.getElem?_set_self hi] at q
          cases q
          rw [putA_same]
          exact ⟨rfl, v, e1, Own.rep (fun b f => .inl f) s d v _ (fun a ha => .inr ha) r⟩
        · rw [List.getElem?_set_ne zj] at q
          rw [putA_ne (Ne.symm zj)]
          have k := h.sl j s' q
          cases s' with
          | no => exact k
          | sh d => obtain ⟨e0, v, e1, r⟩ := k; exact ⟨e0, v, e1, Rep.keeps (fun _ _ e _ => e) (fun b f => .inl f) _ _ r⟩
          | ow s1 d => obtain ⟨v, e1, r⟩ := k; exact ⟨v, e1, Own.keeps (fun _ _ e _ => e) (fun b f => .inl f) s1 d v _ (fun a _ o e => e) r⟩
end
end Lp

/-! # The pure layer, part 10: statements -/
namespace Lp
open PySem L2

section
variable {K : PySem.W.Frag} {H : Hp}
mutual
theorem Rep.dom2 {F G : Addr → Prop} (g : ∀ a, G a → H a ≠ none → F a) : ∀ (d : D) (v : V), Rep K G H d v → Rep K F H d v
  | .non, v, h => by rw [Rep] at h ⊢; exact h
  | .bl b, v, h => by rw [Rep] at h ⊢; exact h
  | .int i, v, h => by rw [Rep] at h ⊢; exact h
  | .str x, v, h => by rw [Rep] at h ⊢; exact h
  | .tup ds, v, h => by
    rw [Rep] at h ⊢
    obtain ⟨a, vs, e, q, r⟩ := h
    exact ⟨a, vs, e, q, Reps.dom2 g ds vs r⟩
  | .lst ds, v, h => by
    rw [Rep] at h ⊢
    obtain ⟨a, vs, e, f, q, r⟩ := h
    exact ⟨a, vs, e, g a f (by rw [q]; intro z; cases z), q, Reps.dom2 g ds vs r⟩
  | .fix ds, v, h => by
    rw [Rep] at h ⊢
    obtain ⟨a, vs, e, q, r⟩ := h
    refine ⟨a, vs, e, ?_, Reps.dom2 g ds vs r⟩
    rcases q with q | q | q
    · exact .inl ⟨g a q.1 (by rw [q.2]; intro z; cases z), q.2⟩
    · exact .inr (.inl q)
    · exact .inr (.inr q)
  | .dic ks ds, v, h => by
    rw [Rep] at h ⊢
    obtain ⟨a, vs, e, f, q, l, r⟩ := h
    exact ⟨a, vs, e, g a f (by rw [q]; intro z; cases z), q, l, Reps.dom2 g ds vs r⟩
  | .obj fs ds, v, h => by
    rw [Rep] at h ⊢
    obtain ⟨a, C, dx, vs, e, f, q, l, r⟩ := h
    exact ⟨a, C, dx, vs, e, g a f (by rw [q]; intro z; cases z), q, l, Reps.dom2 g ds vs r⟩
theorem Reps.dom2 {F G : Addr → Prop} (g : ∀ a, G a → H a ≠ none → F a) : ∀ (ds : List D) (vs : List V), Reps K G H ds vs → Reps K F H ds vs
  | [], vs, h => by rw [Reps] at h ⊢; exact h
  | d :: ds, vs, h => by
    rw [Reps] at h ⊢
    obtain ⟨v, r, e, h1, h2⟩ := h
    exact ⟨v, r, e, Rep.dom2 g d v h1, Reps.dom2 g ds r h2⟩
end
end

/-! ### how a statement ends -/
inductive Out where
  | nx (e : En) | rt (d : D) | bk (e : En) | ct (e : En) | ex (c : Str) (e : En) | no
def Out.seq (o : Out) (f : En → Out) : Out := match o with
  | .nx e => f e
  | o => o
@[simp] theorem Out.seq_nx (e : En) (f : En → Out) : (Out.nx e).seq f = f e := .trans rfl rfl
@[simp] theorem Out.seq_rt (d : D) (f : En → Out) : (Out.rt d).seq f = .rt d := .trans rfl rfl
@[simp] theorem Out.seq_bk (e : En) (f : En → Out) : (Out.bk e).seq f = .bk e := .trans rfl rfl
@[simp] theorem Out.seq_ct (e : En) (f : En → Out) : (Out.ct e).seq f = .ct e := .trans rfl rfl
@[simp] theorem Out.seq_ex (c : Str) (e : En) (f : En → Out) : (Out.ex c e).seq f = .ex c e := .trans rfl rfl
@[simp] theorem Out.seq_no (f : En → Out) : Out.no.seq f = .no := .trans rfl rfl
def R.out {α : Type} (r : R α) (e : En) (k : α → Out) : Out := match r with
  | .ok a => k a
  | .ex c => .ex c e
  | .no => .no
@[simp] theorem R.out_ok {α : Type} (a : α) (e : En) (k : α → Out) : (R.ok a).out e k = k a := .trans rfl rfl
@[simp] theorem R.out_ex {α : Type} (c : Str) (e : En) (k : α → Out) : (R.ex c : R α).out e k = .ex c e := .trans rfl rfl
@[simp] theorem R.out_no {α : Type} (e : En) (k : α → Out) : (R.no : R α).out e k = .no := .trans rfl rfl
def retOk (c : Cc) (K : PySem.W.Frag) (H : Hp) (d : D) (v : V) : Prop :=
  if c.fl = true then ∃ ds p vs, d = .lst ds ∧ v = .ref p ∧ ¬ c.dom p ∧ H p = some (.lst vs) ∧ Reps K (fun a => a ≠ p) H ds vs else Rep K All H d v
def Done (c : Cc) (H : Hp) : Prop := (∀ b o, c.P b = some o → H b = some o) ∧ ∀ b, c.dom b → H b ≠ none
def FinS (c : Cc) (K : PySem.W.Frag) (mg : Str → Option Value) (W : WX) (D : Ends) : Out → Prop
  | .nx e => ∀ σ H F A, StOk c K F A H σ e → D.nx σ H
  | .bk e => ∀ σ H F A, StOk c K F A H σ e → D.bk σ H
  | .ct e => ∀ σ H F A, StOk c K F A H σ e → D.ct σ H
  | .rt d => ∀ v H, Done c H → retOk c K H d v → D.rt v H
  | .ex cl e => ∀ C σ H F A, mg cl = some (.ref C) → StOk c K F A H σ e → W (.ref C) none σ H
  | .no => False
theorem StOk.done {c : Cc} {K : PySem.W.Frag} {F : Addr → Prop} {A : Nat → List Addr} {H : Hp} {σ : L2.St} {e : En} (h : StOk c K F A H σ e) : Done c H := ⟨fun b o q => (h.pr b o q).1, h.al⟩
def SR (c : Cc) (K : PySem.W.Frag) (mg : Str → Option Value) (W : WX) (m : En → Out) : TS := fun D σ H => ∃ e F A, StOk c K F A H σ e ∧ FinS c K mg W D (m e)
abbrev PM (X : Cx) (c : Cc) (W : WX) (st : Stmt) (m : En → Out) : Prop := PS X st (SR c X.K X.mg W m)
abbrev PMs (X : Cx) (c : Cc) (W : WX) (sts : List Stmt) (m : En → Out) : Prop := PSs X sts (SR c X.K X.mg W m)

/-! ### a value that is known to stay -/
def FinZ {α β : Type} (rep : (Addr → Prop) → Hp → α → β → Prop) (c : Cc) (K : PySem.W.Frag) (mg : Str → Option Value) (W : WX) (e : En) (F : Addr → Prop) (A : Nat → List Addr) (σ : L2.St) (H : Hp) (r : R α) (Q : β → Hp → Prop) : Prop := match r with
  | .ok a => ∀ b H' F', Same H H' → (∀ x, F x → F' x) → StOk c K F' A H' σ e → rep F' H' a b → Q b H'
  | .ex cl => ∀ C H', mg cl = some (.ref C) → Same H H' → W (.ref C) none σ H'
  | .no => False
def Rz {α β : Type} (rep : (Addr → Prop) → Hp → α → β → Prop) (c : Cc) (K : PySem.W.Frag) (mg : Str → Option Value) (W : WX) (f : En → R α) : L2.St → Hp → (β → Hp → Prop) → Prop := fun σ H Q => ∃ e F A, StOk c K F A H σ e ∧ FinZ rep c K mg W e F A σ H (f e) Q
abbrev repZ (K : PySem.W.Frag) : (Addr → Prop) → Hp → D → V → Prop := fun F H d v => Rep K F H d v
abbrev repZs (K : PySem.W.Frag) : (Addr → Prop) → Hp → List D → List V → Prop := fun F H d v => Reps K F H d v
abbrev repJ (K : PySem.W.Frag) : (Addr → Prop) → Hp → List D → It → Prop := fun F H ds J => ∃ P : Hp → Prop, P H ∧ Yields K F J P ds
abbrev PZ (X : Cx) (c : Cc) (W : WX) (x : Expr) (f : En → R D) : Prop := PE X x (Rz (repZ X.K) c X.K X.mg W f)
abbrev PZs (X : Cx) (c : Cc) (W : WX) (x : List Expr) (f : En → R (List D)) : Prop := PA X x (Rz (repZs X.K) c X.K X.mg W f)
abbrev PJ (X : Cx) (c : Cc) (W : WX) (tg it : Expr) (f : En → R (List D)) : Prop := PI X tg it (Rz (repJ X.K) c X.K X.mg W f)
namespace Z
def px (f : En → R D) : En → R D := fun e => (f e).bind fun d => if (d.pure || noOw e) = true then .ok d else .no
def pf (f : En → R (List D)) : En → R D := fun e => (f e).bind fun ds => if (D.pures ds || noOw e) = true then .ok (.lst ds) else .no
def var (i : Nat) : En → R D := fun e => match e[i]? with
  | some (.sh d) => .ok d
  | _ => .no
end Z
section
variable {c : Cc} {K : PySem.W.Frag} {mg : Str → Option Value} {W : WX} {σ : L2.St} {H : Hp} {Q : VK} {F : Addr → Prop} {A : Nat → List Addr} {e : En}
theorem StOk.dm (ok : StOk c K F A H σ e) (n : noOw e = true) : StOk c K (fun b => H b ≠ none) A H σ e := by
  have hA := ok.noA n
  exact ok.grow (fun b f => ok.fh b f) (fun b f => f) fun i a ha => by rw [hA] at ha; cases ha
theorem StOk.free (ok : StOk c K F A H σ e) {p : Addr} (hp : H p = none) (i : Nat) : p ∉ A i := fun z => by
  by_cases hi : i < e.length
  · have q := ok.sl i e[i] (List.getElem?_eq_getElem hi)
    cases k : e[i] with
    | no => rw [k] at q; rw [show A i = [] from q] at z; cases z
    | sh d => rw [k] at q; rw [q.1] at z; cases z
    | ow s d =>
      rw [k] at q
      obtain ⟨v, _, r⟩ := q
      obtain ⟨o, e1, _⟩ := Own.mut s d v _ r p z
      rw [hp] at e1; cases e1
  · rw [ok.out i (by omega)] at z; cases z
theorem z_px {f : En → R D} (h : Rz (repZ K) c K mg W (Z.px f) σ H Q) : tX K mg W f σ H Q := by
  obtain ⟨e, F, A, ok, h⟩ := h
  refine ⟨e, ok.view, ?_⟩
  replace h : FinZ (repZ K) c K mg W e F A σ H ((f e).bind fun d => if (d.pure || noOw e) = true then .ok d else .no) Q := h
  cases q : f e with
  | ok d =>
    rw [q] at h
    replace h : FinZ (repZ K) c K mg W e F A σ H (if (d.pure || noOw e) = true then .ok d else .no) Q := h
    intro v H1 s1 r1
    by_cases g : (d.pure || noOw e) = true
    · rw [if_pos g] at h
      rcases Bool.or_eq_true_iff.mp g with g | g
      · exact h v H1 F s1 (fun _ z => z) (ok.mono s1) (Rep.of_pure d v g r1)
      · exact h v H1 (fun b => H1 b ≠ none) s1 (fun b f => (ok.mono s1).fh b f) ((ok.mono s1).dm g) (Rep.dom (fun _ z => z) d v r1)
    · rw [if_neg g] at h; exact h.elim
  | ex cl => rw [q] at h; exact h
  | no => rw [q] at h; exact h
theorem z_pf {f : En → R (List D)} (h : Rz (repZ K) c K mg W (Z.pf f) σ H Q) : Rg (repF K) K mg W f σ H Q := by
  obtain ⟨e, F, A, ok, h⟩ := h
  refine ⟨e, ok.view, ?_⟩
  replace h : FinZ (repZ K) c K mg W e F A σ H ((f e).bind fun ds => if (D.pures ds || noOw e) = true then .ok (.lst ds) else .no) Q := h
  cases q : f e with
  | ok ds =>
    rw [q] at h
    replace h : FinZ (repZ K) c K mg W e F A σ H (if (D.pures ds || noOw e) = true then .ok (.lst ds) else .no) Q := h
    rintro v H1 s1 ⟨p, vs, ev, hp, hH, r1⟩
    by_cases g : (D.pures ds || noOw e) = true
    · rw [if_pos g] at h
      rcases Bool.or_eq_true_iff.mp g with g | g
      · refine h v H1 (fun b => F b ∨ b = p) s1 (fun _ z => .inl z) ((ok.mono s1).grow (fun _ z => .inl z) (fun b z => ?_) fun i a ha z => ?_) ?_
        · rcases z with z | z
          · exact (ok.mono s1).fh b z
          · rw [z, hH]; exact fun z => nomatch z
        · rcases z with z | z
          · exact ok.fa i a ha z
          · rw [z] at ha; exact ok.free hp i ha
        · show Rep K _ H1 (.lst ds) v
          rw [Rep]
          exact ⟨p, vs, ev, .inr rfl, hH, Reps.of_pure ds vs g r1⟩
      · refine h v H1 (fun b => H1 b ≠ none) s1 (fun b f => (ok.mono s1).fh b f) ((ok.mono s1).dm g) ?_
        show Rep K _ H1 (.lst ds) v
        rw [Rep]
        exact ⟨p, vs, ev, (by rw [hH]; exact fun z => (nomatch z)), hH, Reps.dom (fun _ z => z) ds vs r1.all⟩
    · rw [if_neg g] at h; exact h.elim
  | ex cl => rw [q] at h; exact h
  | no => rw [q] at h; exact h
end
section
variable {X : Cx} {c : Cc} {W : WX} {x a b : Expr} {es : List Expr} {pos p : Pos}
theorem pz_px {f : En → R D} (h : PX X W x f) : PZ X c W x (Z.px f) := convE h fun σ H Q z => z_px z
theorem pz_pf {f : En → R (List D)} (h : PF X W x f) : PZ X c W x (Z.pf f) := convE h fun σ H Q z => z_pf z
theorem pz_var (i : Nat) {x : Str} {pos : Pos} (hN : X.N[i]? = some x := by rfl) (hv : Vis X.env.scope x := by first | exact Or.inl rfl | exact Or.inr (Or.inl rfl) | exact Or.inr (Or.inr rfl)) (hd : (x == ("__debug__" : Str)) = false := by decide)
    (hcd : (x == ("__classdict__" : Str)) = false := by decide) : PZ X c W (.Name x pos) (Z.var i) := convE (pe_var hN hv hd hcd) fun σ H Q h => by
  obtain ⟨e, F, A, ok, h⟩ := h
  unfold Z.var at h
  cases q : e[i]? with
  | none => rw [q] at h; exact h.elim
  | some s =>
    cases s with
    | no => rw [q] at h; exact h.elim
    | ow s d => rw [q] at h; exact h.elim
    | sh d =>
      rw [q] at h
      obtain ⟨_, v, hv, r⟩ := ok.sl i _ q
      exact ⟨v, hv, h v H F (Same.refl H) (fun _ z => z) ok r⟩
theorem pzs_nil : PZs X c W [] E.nil := convA pa_nil fun σ H Q ⟨e, F, A, ok, h⟩ => h [] H F (Same.refl H) (fun _ z => z) ok .nil
theorem pzs_cons {fa : En → R D} {fs : En → R (List D)} (ha : PZ X c W a fa) (hr : PZs X c W es fs) (hs : starEach (a :: es) X.env = (false, eval a X.env) :: starEach es X.env := by rfl) : PZs X c W (a :: es) (E.cons fa fs) :=
  convA (pa_cons ha hr hs) fun σ H Q ⟨e, F, A, ok, h⟩ => by
    refine ⟨e, F, A, ok, ?_⟩
    replace h : FinZ (repZs X.K) c X.K X.mg W e F A σ H ((fa e).bind fun x => (fs e).bind fun xs => .ok (x :: xs)) Q := h
    cases q : fa e with
    | ok d =>
      rw [q] at h
      intro v H1 F1 s1 f1 ok1 r1
      refine ⟨e, F1, A, ok1, ?_⟩
      replace h : FinZ (repZs X.K) c X.K X.mg W e F A σ H ((fs e).bind fun xs => .ok (d :: xs)) Q := h
      cases q2 : fs e with
      | ok ds =>
        rw [q2] at h
        intro vs H2 F2 s2 f2 ok2 r2
        exact h (v :: vs) H2 F2 (s1.trans s2) (fun b z => f2 b (f1 b z)) ok2 (.cons (Rep.keeps (.of_same s2) f2 _ _ r1) r2)
      | ex cl => rw [q2] at h; exact fun C H' e s => h C H' e (s1.trans s)
      | no => rw [q2] at h; exact h
    | ex cl => rw [q] at h; exact h
    | no => rw [q] at h; exact h
/-- one reading, its value used once -/
theorem Rz.bnd {α β γ δ : Type} {rep : (Addr → Prop) → Hp → α → β → Prop} {rep' : (Addr → Prop) → Hp → γ → δ → Prop} {K : PySem.W.Frag} {mg : Str → Option Value} {σ : L2.St} {H : Hp} {f : En → R α} {g : α → R γ} {Q : δ → Hp → Prop} {Q' : β → Hp → Prop}
    (h : Rz rep' c K mg W (fun e => (f e).bind g) σ H Q) (q : ∀ a b H1 F, rep F H1 a b → (∀ r d, g a = .ok r → rep' F H1 r d → Q d H1) → (∃ r, g a = .ok r) ∨ (∃ cl, g a = .ex cl) → Q' b H1) : Rz rep c K mg W f σ H Q' := by
  obtain ⟨e, F, A, ok, h⟩ := h
  refine ⟨e, F, A, ok, ?_⟩
  replace h : FinZ rep' c K mg W e F A σ H ((f e).bind g) Q := h
  cases z : f e with
  | ok a =>
    rw [z] at h
    intro b H1 F1 s1 f1 ok1 r1
    replace h : FinZ rep' c K mg W e F A σ H (g a) Q := h
    refine q a b H1 F1 r1 (fun r d eg rr => ?_) ?_
    · rw [eg] at h
      exact h d H1 F1 s1 f1 ok1 rr
    · cases eg : g a with
      | ok r => exact .inl ⟨r, rfl⟩
      | ex cl => exact .inr ⟨cl, rfl⟩
      | no => rw [eg] at h; exact h.elim
  | ex cl => rw [z] at h; exact h
  | no => rw [z] at h; exact h
variable {tg : Expr} {tpos : Pos} {elts : List Expr} {kk : Nat} {fs : En → R (List D)} {fa : En → R D}
theorem pj_seq (ha : PZ X c W a fa) : PJ X c W tg a (I.items fa) := convI (pi_seqK ha) fun σ H Q h => Rz.bnd h fun d v H1 F1 r1 q g => by
  rcases g with ⟨ds, g⟩ | ⟨cl, g⟩
  · obtain ⟨a, k, e, hs, z⟩ := seq_it r1 g
    cases k with
    | L => exact ⟨a, e, .inl ⟨hs, q ds _ g ⟨_, z, y_list a ds⟩⟩⟩
    | T => exact ⟨a, e, .inr ⟨hs, q ds _ g ⟨_, z, y_tup a ds⟩⟩⟩
  · exact (itemsD_ex g).elim
theorem pj_zip (hg : Gl X "zip") (hm : X.mg "zip" = none) (ha : PZs X c W [a, b] fs)
    (hs : starEach [a, b] X.env = (false, eval a X.env) :: starEach [b] X.env := by rfl) (hpl : (backTo pos (starEach [b] X.env)).any (·.1) = false := by rfl) :
    PJ X c W (.Tuple elts kk tpos) (.Call (.Name "zip" p) [a, b] [] pos) (I.zip fs) := convI (pi_zipK hg hm ha hs hpl) fun σ H Q h => Rz.bnd h fun ds vs H1 F1 r1 q g => by
  rcases g with ⟨t, g⟩ | ⟨cl, g⟩
  · obtain ⟨a, b, k, l, e, us, ws, z⟩ := zip_it r1 g
    exact ⟨a, b, k, l, e, us, ws, q t _ g z⟩
  · exact (zipD_ex g).elim
theorem pj_enum (hg : Gl X "enumerate") (hm : X.mg "enumerate" = none) (ha : PZs X c W [a] fs) (hs : starEach [a] X.env = [(false, eval a X.env)] := by rfl) :
    PJ X c W (.Tuple elts kk tpos) (.Call (.Name "enumerate" p) [a] [] pos) (I.enum fs) := convI (pi_enumK hg hm ha hs) fun σ H Q h => Rz.bnd h fun ds vs H1 F1 r1 q g => by
  rcases g with ⟨t, g⟩ | ⟨cl, g⟩
  · obtain ⟨a, k, e, us, z⟩ := enum_it r1 g
    exact ⟨a, k, e, us, q t _ g z⟩
  · exact (enumD_ex g).elim
theorem pj_range1 (hg : Gl X "range") (hm : X.mg "range" = none) (ha : PZs X c W [a] fs) (hs : starEach [a] X.env = [(false, eval a X.env)] := by rfl) : PJ X c W tg (.Call (.Name "range" p) [a] [] pos) (I.range1 fs) :=
  convI (pi_range1 hg hm ha hs) fun σ H Q h => Rz.bnd h fun ds vs H1 F1 r1 q g => by
    rcases g with ⟨t, g⟩ | ⟨cl, g⟩
    · obtain ⟨j, e, c, z⟩ := range1_it r1 g
      exact ⟨j, e, by omega, by omega, q t _ g z⟩
    · exact (rangeD1_ex g).elim
theorem pj_range2 (hg : Gl X "range") (hm : X.mg "range" = none) (ha : PZs X c W [a, b] fs) (hs : starEach [a, b] X.env = [(false, eval a X.env), (false, eval b X.env)] := by rfl) (hs2 : starEach [b] X.env = [(false, eval b X.env)] := by rfl) : PJ X c W tg (.Call (.Name "range" p) [a, b] [] pos) (I.range2 fs) :=
  convI (pi_range2 hg hm ha hs hs2) fun σ H Q h => Rz.bnd h fun ds vs H1 F1 r1 q g => by
    rcases g with ⟨t, g⟩ | ⟨cl, g⟩
    · obtain ⟨i, j, e, c, z⟩ := range2_it r1 g
      exact ⟨i, j, e, ⟨by omega, by omega, by omega, by omega⟩, q t _ g z⟩
    · exact (rangeD2_ex g).elim
end

/-! ### statements -/
section
variable {c : Cc} {K : PySem.W.Frag} {mg : Str → Option Value} {W : WX} {σ : L2.St} {H : Hp} {F : Addr → Prop} {A : Nat → List Addr} {e : En} {D : Ends}
/-- a reading ahead of what comes -/
theorem Rg.out {α β : Type} {rep : Hp → Hp → α → β → Prop} {f : En → R α} {k : α → Out} {Q : β → Hp → Prop} (ok : StOk c K F A H σ e) (h : FinS c K mg W D ((f e).out e k))
    (q : ∀ a b H1, StOk c K F A H1 σ e → Same H H1 → rep H H1 a b → FinS c K mg W D (k a) → Q b H1) : Rg rep K mg W f σ H Q := by
  refine ⟨e, ok.view, ?_⟩
  cases z : f e with
  | ok a => rw [z] at h; exact fun b H1 s r => q a b H1 (ok.mono s) s r h
  | ex cl => rw [z] at h; exact fun C H1 g s => h C σ H1 F A g (ok.mono s)
  | no => rw [z] at h; exact h
theorem Rz.out {α β : Type} {rep : (Addr → Prop) → Hp → α → β → Prop} {f : En → R α} {k : α → Out} {Q : β → Hp → Prop} (ok : StOk c K F A H σ e) (h : FinS c K mg W D ((f e).out e k))
    (q : ∀ a b H1 F1, StOk c K F1 A H1 σ e → Same H H1 → (∀ x, F x → F1 x) → rep F1 H1 a b → FinS c K mg W D (k a) → Q b H1) : Rz rep c K mg W f σ H Q := by
  refine ⟨e, F, A, ok, ?_⟩
  cases z : f e with
  | ok a => rw [z] at h; exact fun b H1 F1 s f1 ok1 r => q a b H1 F1 ok1 s f1 r h
  | ex cl => rw [z] at h; exact fun C H1 g s => h C σ H1 F A g (ok.mono s)
  | no => rw [z] at h; exact h
end
namespace S
def seq (a b : En → Out) : En → Out := fun e => (a e).seq b
def nil : En → Out := fun e => .nx e
def drop (f : En → R D) : En → Out := fun e => (f e).out e fun _ => .nx e
def ret (f : En → R D) : En → Out := fun e => (f e).out e fun d => .rt d
def retF (f : En → R (List D)) : En → Out := fun e => (f e).out e fun ds => .rt (.lst ds)
def withL (i : Nat) (e : En) (k : List D → Out) : Out := match e[i]? with
  | some (.ow (.node .leaf) (.lst ds)) => k ds
  | _ => .no
def putL (i : Nat) (e : En) (ds : List D) : Out := .nx (e.set i (.ow (.node .leaf) (.lst ds)))
def retO (i : Nat) : En → Out := fun e => withL i e fun ds => .rt (.lst ds)
def retN : En → Out := fun _ => .rt .non
def ite (t : En → R Bool) (a b : En → Out) : En → Out := fun e => (t e).out e fun k => if k = true then a e else b e
def set (i : Nat) (f : En → R D) : En → Out := fun e => (f e).out e fun d => .nx (e.set i (.sh d))
def own (i : Nat) (f : En → R (List D)) : En → Out := fun e => (f e).out e fun ds => if (D.pures ds || noOw e) = true then putL i e ds else .no
def bind (t : Tg) (f : En → R D) : En → Out := fun e => (f e).out e fun d => match bindT t d with
  | .ok bs => .nx (setsE e bs)
  | _ => .no
def app (i : Nat) (f : En → R D) : En → Out := fun e => withL i e fun ds => (f e).out e fun d => if ds.length < 16777216 then putL i e (ds ++ [d]) else .no
def ext (i : Nat) (f : En → R D) : En → Out := fun e => withL i e fun ds => (f e).out e fun d => match d with
  | .lst es => if D.pures es = true ∧ ds.length + es.length ≤ 16777216 then putL i e (ds ++ es) else .no
  | _ => .no
def setD (ds : List D) (k d : D) : Option (List D) := match k with
  | .int k => (ixN ds.length k).map fun j => ds.set j d
  | _ => none
def putM (i : Nat) (e : En) : Option (List D) → Out
  | some ds => putL i e ds
  | none => .no
def seti (i : Nat) (fv fi : En → R D) : En → Out := fun e => withL i e fun ds => (fv e).out e fun d => (fi e).out e fun k => putM i e (setD ds k d)
def raise (cl : Str) : En → Out := fun e => .ex cl e
def frzA (m : En → Out) : En → Out := fun e => m (Lp.frzA e)
def frz (i : Nat) (m : En → Out) : En → Out := fun e => m (Lp.frz1 i e)
def never : En → Out := fun _ => .no
def brk : En → Out := fun e => .bk e
def cont : En → Out := fun e => .ct e
end S
def loopM (t : Tg) (body : En → Out) : List D → En → Out
  | [], e => .nx e
  | x :: xs, e => match bindT t x with
    | .ok bs => match body (setsE e bs) with
      | .nx e' => loopM t body xs e'
      | .ct e' => loopM t body xs e'
      | .bk e' => .nx e'
      | o => o
    | _ => .no
def whileM (t : En → R Bool) (body : En → Out) : Nat → En → Out
  | 0, _ => .no
  | n + 1, e => (t e).out e fun k => if k = true then (match body e with
      | .nx e' => whileM t body n e'
      | .ct e' => whileM t body n e'
      | .bk e' => .nx e'
      | o => o) else .nx e
namespace S
def loop (fi : En → R (List D)) (t : Tg) (body : En → Out) : En → Out := fun e => (fi e).out e fun ds => loopM t body ds e
def while_ (t : En → R Bool) (body : En → Out) : En → Out := fun e => whileM t body 1000000 e
end S
end Lp

/-! # The pure layer, part 11: the rules of statements -/
namespace Lp
open PySem L2

section
variable {X : Cx} {c : Cc} {W : WX} {x : Expr} {st : Stmt} {rest a b : List Stmt} {pos p : Pos} {m m1 m2 : En → Out}
theorem retOk_x {c : Cc} {K : PySem.W.Frag} {H : Hp} {d : D} {v : V} (hf : c.fl = false) (r : Rep K All H d v) : retOk c K H d v := by
  unfold retOk
  rw [if_neg (by rw [hf]; exact Bool.false_ne_true)]
  exact r
theorem pms_nil : PMs X c W [] S.nil := convSs pss_nil fun D σ H ⟨e, F, A, ok, h⟩ => h σ H F A ok
theorem seq_conv {D : Ends} {σ : L2.St} {H : Hp} (h : SR c X.K X.mg W (S.seq m1 m2) D σ H) : tSeq (SR c X.K X.mg W m1) (SR c X.K X.mg W m2) D σ H := by
  obtain ⟨e, F, A, ok, h⟩ := h
  refine ⟨e, F, A, ok, ?_⟩
  replace h : FinS c X.K X.mg W D ((m1 e).seq m2) := h
  cases q : m1 e with
  | nx e' => rw [q] at h; exact fun σ1 H1 F1 A1 ok1 => ⟨e', F1, A1, ok1, h⟩
  | rt d => rw [q] at h; exact h
  | bk e => rw [q] at h; exact h
  | ct e => rw [q] at h; exact h
  | ex cl e => rw [q] at h; exact h
  | no => rw [q] at h; exact h
theorem pms_cons (h1 : PM X c W st m1) (h2 : PMs X c W rest m2) : PMs X c W (st :: rest) (S.seq m1 m2) := convSs (pss_cons h1 h2) fun D σ H h => seq_conv h
theorem pms_one (h : PM X c W st m) : PMs X c W [st] m := pss_one h
theorem pm_never : PM X c W st S.never := ⟨fun _ _ _ _ _ _ ⟨_, _, _, _, h⟩ => h.elim⟩
theorem pms_never : PMs X c W rest S.never := ⟨fun _ _ _ _ _ _ ⟨_, _, _, _, h⟩ => h.elim⟩
theorem pm_pass : PM X c W (.Pass pos) S.nil := convS ps_pass fun D σ H ⟨e, F, A, ok, h⟩ => h σ H F A ok
theorem pm_brk : PM X c W (.Break pos) S.brk := convS ps_break fun D σ H ⟨e, F, A, ok, h⟩ => h σ H F A ok
theorem pm_cont : PM X c W (.Continue pos) S.cont := convS ps_continue fun D σ H ⟨e, F, A, ok, h⟩ => h σ H F A ok
theorem pm_drop {f : En → R D} (h : PX X W x f) (hs : swapsWith x none pos.line X.env = pure false := by rfl) : PM X c W (.Expr x pos) (S.drop f) :=
  convS (ps_expr h hs) fun D σ H ⟨e, F, A, ok, h⟩ => Rg.out ok h fun a b H1 ok1 s r k => k σ H1 F A ok1
theorem pm_ret {f : En → R D} (hf : c.fl = false) (h : PX X W x f) : PM X c W (.Return (some x) pos) (S.ret f) :=
  convS (ps_ret h) fun D σ H ⟨e, F, A, ok, h⟩ => Rg.out ok h fun a b H1 ok1 s r k => k b H1 ok1.done (retOk_x hf r)
theorem pm_retN (hf : c.fl = false) : PM X c W (.Return none pos) S.retN := convS ps_retN fun D σ H ⟨e, F, A, ok, h⟩ => h .non H ok.done (retOk_x hf rep_non)
theorem pm_retF {f : En → R (List D)} (hf : c.fl = true) (h : PF X W x f) : PM X c W (.Return (some x) pos) (S.retF f) :=
  convS (ps_ret h) fun D σ H ⟨e, F, A, ok, h⟩ => Rg.out ok h fun ds v H1 ok1 s ⟨p, vs, ev, hp, hH, r⟩ k => k v H1 ok1.done (by
    unfold retOk
    rw [if_pos hf]
    exact ⟨ds, p, vs, rfl, ev, fun z => ok.al p z hp, hH, r⟩)
theorem pm_retO (i : Nat) {x : Str} {pos p : Pos} (hf : c.fl = true) (hp : c.pl = true) (hN : X.N[i]? = some x := by rfl) (hv : Vis X.env.scope x := by first | exact Or.inl rfl | exact Or.inr (Or.inl rfl) | exact Or.inr (Or.inr rfl)) (hd : (x == ("__debug__" : Str)) = false := by decide)
    (hcd : (x == ("__classdict__" : Str)) = false := by decide) : PM X c W (.Return (some (.Name x p)) pos) (S.retO i) := convS (ps_ret (pe_var hN hv hd hcd)) fun D σ H ⟨e, F, A, ok, h⟩ => by
  unfold S.retO S.withL at h
  split at h
  · rename_i ds q
    obtain ⟨v, e1, o⟩ := ok.sl i _ q
    rw [Own] at o
    obtain ⟨p, vs, B, ev, hH, eA, o⟩ := o
    have np : ¬ F p := ok.fa i p (by rw [eA]; exact List.mem_cons_self)
    refine ⟨v, e1, h v H ok.done ?_⟩
    unfold retOk
    rw [if_pos hf]
    refine ⟨ds, p, vs, rfl, ev, fun z => np (ok.pl hp p z), hH, OwnL.reps (P := Own X.K F H .leaf) (fun d v C hC q => ?_) o⟩
    rw [Own] at q
    exact Rep.keeps (fun _ _ e _ => e) (fun b fb => fun (z : b = p) => np (z ▸ fb)) _ _ q.2
  · exact h.elim
theorem pm_if {t : Expr} {ft : En → R Bool} (ht : PB X W t ft) (ha : PMs X c W a m1) (hb : PMs X c W b m2) : PM X c W (.If t a b pos) (S.ite ft m1 m2) :=
  convS (ps_if ht ha hb) fun D σ H ⟨e, F, A, ok, h⟩ => Rg.out ok h fun k k2 H1 ok1 s r q => by
    have r' : k = k2 := r
    subst r'
    cases k with
    | true => exact ⟨e, F, A, ok1, q⟩
    | false => exact ⟨e, F, A, ok1, q⟩
/-! names set -/
theorem convAsg {i : Nat} {t u : TE} (h : PS X st (tAsg t (gName i))) (k : ∀ σ H Q, u σ H Q → t σ H Q) : PS X st (tAsg u (gName i)) := convS h fun D σ H z => k σ H _ z
theorem pm_setZ {i : Nat} {f : En → R D} (h : PS X st (tAsg (Rz (repZ X.K) c X.K X.mg W f) (gName i))) : PM X c W st (S.set i f) :=
  convS h fun D σ H ⟨e, F, A, ok, h⟩ => Rz.out ok h fun d v H1 F1 ok1 s f1 r q => by
    obtain ⟨A', ok2⟩ := ok1.set_sh (i := i) r
    exact q _ H1 F1 A' ok2
theorem pm_setX {i : Nat} {f : En → R D} (h : PS X st (tAsg (tX X.K X.mg W f) (gName i))) : PM X c W st (S.set i (Z.px f)) := pm_setZ (convAsg h fun σ H Q z => z_px z)
theorem pm_setF {i : Nat} {f : En → R (List D)} (h : PS X st (tAsg (Rg (repF X.K) X.K X.mg W f) (gName i))) : PM X c W st (S.set i (Z.pf f)) := pm_setZ (convAsg h fun σ H Q z => z_pf z)
theorem StOk.put_new {K : PySem.W.Frag} {F : Addr → Prop} {A : Nat → List Addr} {H0 H : Hp} {σ : L2.St} {e : En} {i : Nat} {p : Addr} {ds : List D} {vs : List V} (ok0 : StOk c K F A H0 σ e) (hi : i < e.length) (s : Same H0 H) (hp : H0 p = none) (hH : H p = some (.lst vs)) (r : Reps K (fun a => a ≠ p) H ds vs)
    (g : (D.pures ds || noOw e) = true) : ∃ F' A', StOk c K F' A' H (σ.set i (some (.ref p))) (e.set i (.ow (.node .leaf) (.lst ds))) := by
  have ok := ok0.mono s
  have key : ∀ F' : Addr → Prop, StOk c K F' A H σ e → ¬ F' p → Reps K F' H ds vs → StOk c K F' (putA A i [p]) H (σ.set i (some (.ref p))) (e.set i (.ow (.node .leaf) (.lst ds))) := fun F' ok' np r' => by
    refine ok'.put hi (fun _ _ e _ => e) (fun _ z => z) ⟨.ref p, rfl, ?_⟩ (by simp) fun a ha => ?_
    · rw [Own]
      refine ⟨p, vs, [], rfl, hH, rfl, ?_⟩
      have go : ∀ (ds : List D) (vs : List V), Reps K F' H ds vs → OwnL (Own K F' H .leaf) ds vs [] := by
        intro ds
        induction ds with
        | nil => intro vs h; rw [Reps] at h; rw [OwnL]; exact ⟨h, rfl⟩
        | cons d ds ih =>
          intro vs h
          rw [Reps] at h
          obtain ⟨v, r, e, h1, h2⟩ := h
          rw [OwnL]
          exact ⟨v, r, [], [], e, rfl, by rw [Own]; exact ⟨rfl, h1⟩, ih r h2⟩
      exact go ds vs r'
    · have ea : a = p := List.mem_singleton.mp ha
      rw [ea]
      exact ⟨np, fun j _ => ok0.free hp j⟩
  rcases Bool.or_eq_true_iff.mp g with g | g
  · exact ⟨F, _, key F ok (fun z => ok0.fh p z hp) (Reps.of_pure ds vs g r)⟩
  · refine ⟨fun b => H b ≠ none ∧ b ≠ p, _, key _ (ok.grow (fun b f => ⟨ok.fh b f, fun z => ok0.fh b f (by rw [z]; exact hp)⟩) (fun b f => f.1) fun j a ha => ?_) (fun z => z.2 rfl) (Reps.dom2 (fun a f z => ⟨z, f⟩) ds vs r)⟩
    rw [ok.noA g] at ha
    cases ha
theorem pm_own {i : Nat} {f : En → R (List D)} (h : PS X st (tAsg (Rg (repF X.K) X.K X.mg W f) (gName i))) : PM X c W st (S.own i f) :=
  convS h fun Ed σ H ⟨e, F, A, ok, h⟩ => Rg.out ok h fun ds v H1 ok1 s ⟨p, vs, ev, hp, hH, r⟩ q => by
    subst ev
    replace q : FinS c X.K X.mg W Ed (if (D.pures ds || noOw e) = true then S.putL i e ds else .no) := q
    by_cases g : (D.pures ds || noOw e) = true
    · rw [if_pos g] at q
      by_cases hi : i < e.length
      · obtain ⟨F', A', ok2⟩ := ok.put_new hi s hp hH r g
        exact q _ H1 F' A' ok2
      · refine q _ H1 F A ?_
        rw [List.set_eq_of_length_le (show σ.length ≤ i by rw [ok.len]; omega), List.set_eq_of_length_le (show e.length ≤ i by omega)]
        exact ok1
    · rw [if_neg g] at q; exact q.elim
theorem asg_set {i : Nat} {y : Str} {t : TE} {pos' : Pos} (hN : X.N.Nodup) (he : PE X x t) (hi : X.N[i]? = some y := by rfl) (hx : Loc X.env.scope y := by first | exact Or.inl rfl | exact Or.inr rfl) (hs : swapsWith x (some (.Name y pos')) pos.line X.env = pure false := by rfl)
    (hf : X.fn y = true ∨ X.env.scope.names.lookup y = some .local := by first | exact .inl rfl | exact .inr rfl | assumption) : PS X (.Assign [.Name y pos'] x pos) (tAsg t (gName i)) := ps_set hN hi hx he hs hf
theorem asg_lc {elt tg it : Expr} {ifs : List Expr} {scope : Scope} {own : List (Str × Nat)} {fi : En → R (List D)} {t : Tg} {ft : En → R Bool} {fe : En → R D} {i : Nat} {y : Str} {py spos : Pos} (hc : X.calm = true) (hN : X.N.Nodup) (hy : X.N[i]? = some y) (hyl : X.env.scope.names.lookup y = some .local)
    (hsw : swapsWith (.ListComp elt [⟨tg, it, ifs, 0⟩] scope pos) (some (.Name y py)) spos.line X.env = pure true) (hv : ∀ i ∈ t.slots, i ∈ own.map (·.2)) (hi : PIx X W tg it fi) (ok : BlkOk X.N X.env.scope scope own)
    (hg : ∀ (s : Shared) (H : Hp) (C : Addr) (cl : List (Str × Addr)) (fp : List Addr), PG (X.blk s H scope (compEnvC scope cl C X.env) fp) tg (gT X.K t))
    (ht : ∀ (s : Shared) (H : Hp) (C : Addr) (cl : List (Str × Addr)) (fp : List Addr), PTs (X.blk s H scope (compEnvC scope cl C X.env) fp) ifs (tT X.K X.mg W0 ft))
    (he : ∀ (s : Shared) (H : Hp) (C : Addr) (cl : List (Str × Addr)) (fp : List Addr), PX (X.blk s H scope (compEnvC scope cl C X.env) fp) W0 elt fe) (hs : ∀ x, foldedSetIterable it X.env x = pure x := by intro _; rfl) :
    PS X (.Assign [.Name y py] (.ListComp elt [⟨tg, it, ifs, 0⟩] scope pos) spos) (tAsg (Rg (repF X.K) X.K X.mg W (Fl.comp fi t (own.map (·.2)) ft fe)) (gName i)) :=
  convAsg (ps_setLc hc hN hy hyl hsw hi ok hg ht he hs) fun σ H Q h => lc_conv hv h
theorem pm_bind {tg : Expr} {t : Tg} {f : En → R D} (he : PZ X c W x f) (hg : PG X tg (gT X.K t)) (hs : swapsWithSole [tg] x pos.line X.env = pure false := by rfl) (hw : swappedStores [tg] x X.env = pure none := by rfl)
    (h1 : (assignEach [tg] X.env).map (·.2) = [assign tg X.env] := by rfl) : PM X c W (.Assign [tg] x pos) (S.bind t f) := convS (ps_asg he hg hs hw h1) fun D σ H ⟨e, F, A, ok, h⟩ =>
  Rz.out ok h fun d v H1 F1 ok1 s f1 r q => by
    cases qb : bindT t d with
    | ok bs =>
      rw [qb] at q
      refine ⟨F1, d, bs, r, qb, fun ws rws => ?_⟩
      obtain ⟨A', ok2⟩ := ok1.sets rws
      exact q _ H1 F1 A' ok2
    | ex cl => rw [qb] at q; exact q.elim
    | no => rw [qb] at q; exact q.elim
/-! own lists changed -/
theorem OwnL.leaf {K : PySem.W.Frag} {F : Addr → Prop} {H : Hp} : ∀ {ds : List D} {vs : List V} {B : List Addr}, OwnL (Own K F H .leaf) ds vs B → B = [] ∧ Reps K F H ds vs
  | [], vs, B, h => by rw [OwnL] at h; rw [Reps]; exact ⟨h.2, h.1⟩
  | d :: ds, vs, B, h => by
    rw [OwnL] at h
    obtain ⟨v, r, B1, B2, e1, e2, h1, h2⟩ := h
    rw [Own] at h1
    obtain ⟨g1, g2⟩ := OwnL.leaf h2
    subst e1
    rw [e2, h1.1, g1]
    exact ⟨rfl, .cons h1.2 g2⟩
theorem OwnL.of_leaf {K : PySem.W.Frag} {F : Addr → Prop} {H : Hp} : ∀ {ds : List D} {vs : List V}, Reps K F H ds vs → OwnL (Own K F H .leaf) ds vs []
  | [], vs, h => by rw [Reps] at h; rw [OwnL]; exact ⟨h, rfl⟩
  | d :: ds, vs, h => by
    rw [Reps] at h
    obtain ⟨v, r, e, h1, h2⟩ := h
    rw [OwnL]
    exact ⟨v, r, [], [], e, rfl, by rw [Own]; exact ⟨rfl, h1⟩, OwnL.of_leaf h2⟩
/-- a slot with an own list: its place, its items -/
theorem StOk.lst {K : PySem.W.Frag} {F : Addr → Prop} {A : Nat → List Addr} {H : Hp} {σ : L2.St} {e : En} {i : Nat} {ds : List D} (ok : StOk c K F A H σ e) (q : e[i]? = some (.ow (.node .leaf) (.lst ds))) :
    ∃ p vs, σ[i]? = some (some (.ref p)) ∧ H p = some (.lst vs) ∧ A i = [p] ∧ Reps K F H ds vs := by
  obtain ⟨v, e1, o⟩ := ok.sl i _ q
  rw [Own] at o
  obtain ⟨p, vs, B, ev, hH, eA, o⟩ := o
  obtain ⟨eB, r⟩ := OwnL.leaf o
  exact ⟨p, vs, by rw [e1, ev], hH, by rw [eA, eB], r⟩
theorem set_back {σ : L2.St} {i : Nat} {v : V} (h : σ[i]? = some (some v)) : σ.set i (some v) = σ := by
  apply List.ext_getElem?
  intro j
  by_cases z : i = j
  · subst z
    rw [List.getElem?_set_self (List.getElem?_eq_some_iff.mp h).1, h]
  · rw [List.getElem?_set_ne z]
theorem StOk.put_lst {K : PySem.W.Frag} {F : Addr → Prop} {A : Nat → List Addr} {H : Hp} {σ : L2.St} {e : En} {i : Nat} {ds es : List D} {p : Addr} {us : List V} (ok : StOk c K F A H σ e) (q : e[i]? = some (.ow (.node .leaf) (.lst ds)))
    (hp : σ[i]? = some (some (.ref p))) (hA : A i = [p]) (r : Reps K F H es us) : StOk c K F A (upd H p (.lst us)) σ (e.set i (.ow (.node .leaf) (.lst es))) := by
  have np : ¬ F p := ok.fa i p (by rw [hA]; exact List.mem_cons_self)
  have hi : i < e.length := (List.getElem?_eq_some_iff.mp q).1
  obtain ⟨p', vs, e1, hH, eA, _⟩ := ok.lst q
  have ep : p' = p := by
    rw [hp] at e1
    cases e1
    rfl
  subst ep
  have kp : Keeps F H (upd H p' (.lst us)) := fun b o eb fb => by
    by_cases z : b = p'
    · subst z
      rcases fb with f | ⟨xs, f⟩ | ⟨ob, u, f⟩
      · exact absurd f np
      · rw [hH] at eb; rw [f] at eb; cases eb
      · rw [hH] at eb; rw [f] at eb; cases eb
    · rw [upd_ne z]; exact eb
  have := ok.put (i := i) (v := .ref p') (s := .ow (.node .leaf) (.lst es)) (B := [p']) (H' := upd H p' (.lst us)) hi (fun b o eb nb => by
      rw [hA] at nb
      rw [upd_ne (by simpa using nb)]; exact eb) (fun b hb => by
      by_cases z : b = p'
      · rw [z, upd_same]; exact fun z => (nomatch z)
      · rw [upd_ne z]; exact hb) ⟨.ref p', rfl, by rw [Own]; exact ⟨p', us, [], rfl, upd_same, rfl, OwnL.of_leaf (Reps.keeps kp (fun _ z => z) _ _ r)⟩⟩ (by simp) (fun a ha => by
      have ea : a = p' := List.mem_singleton.mp ha
      rw [ea]
      exact ⟨np, fun j hj z => hj (ok.dj j i p' z (by rw [hA]; exact List.mem_cons_self))⟩)
  rw [set_back hp] at this
  have eA' : putA A i [p'] = A := by
    funext j
    by_cases z : j = i
    · rw [z, putA_same, hA]
    · rw [putA_ne z]
  rw [eA'] at this
  exact this
/-- the slot is looked at ahead of all -/
theorem withL_inv {K : PySem.W.Frag} {mg : Str → Option Value} {Ed : Ends} {i : Nat} {e : En} {k : List D → Out} (h : FinS c K mg W Ed (S.withL i e k)) : ∃ ds, e[i]? = some (.ow (.node .leaf) (.lst ds)) ∧ FinS c K mg W Ed (k ds) := by
  unfold S.withL at h
  split at h
  · rename_i ds q; exact ⟨ds, q, h⟩
  · exact h.elim
variable {y : Str} {p1 p2 p3 p4 : Pos}
end
end Lp

/-! # The pure layer, part 12: own lists changed, loops, errors, defs -/
namespace Lp
open PySem L2

section
variable {X : Cx} {c : Cc} {W : WX} {x a b : Expr} {st : Stmt} {rest body : List Stmt} {pos p p1 p2 p3 p4 : Pos} {m m1 m2 : En → Out} {y : Str} {i : Nat}
theorem pzs_one {f : En → R D} (ha : PZ X c W a f) (hs : starEach [a] X.env = (false, eval a X.env) :: starEach [] X.env := by rfl) : PZs X c W [a] (E.cons f E.nil) := pzs_cons ha pzs_nil hs
/-- x.append(a) -/
theorem pm_app {f : En → R D} (ha : PZ X c W a f) (hN : X.N[i]? = some y := by rfl) (hv : Vis X.env.scope y := by first | exact Or.inl rfl | exact Or.inr (Or.inl rfl) | exact Or.inr (Or.inr rfl)) (hd : (y == ("__debug__" : Str)) = false := by decide)
    (hcd : (y == ("__classdict__" : Str)) = false := by decide)
    (hbase : attributeBase (.Name y p1) "append" X.env (eval (.Name y p1) X.env) = eval (.Name y p1) X.env := by rfl)
    (hfew : ((backTo p3 (starEach [a] X.env)).all (fun x => !x.1) && (backToKw p3 (keywordEach [] X.env)).all (fun x => x.1.isSome)
      && decide ([a].length + ([] : List Keyword).length + (if ([] : List Keyword).isEmpty then 0 else 1) < 30)) = true := by rfl)
    (hline : (p2.endLine == p3.line) = true := by rfl) (hs : starEach [a] X.env = (false, eval a X.env) :: starEach [] X.env := by rfl) (hplain : (backTo p3 (starEach [] X.env)).any (·.1) = false := by rfl)
    (hsw : swapsWith (.Call (.Attribute (.Name y p1) "append" p2) [a] [] p3) none pos.line X.env = pure false := by rfl) :
    PM X c W (.Expr (.Call (.Attribute (.Name y p1) "append" p2) [a] [] p3) pos) (S.app i f) :=
  convS (ps_expr (pe_bm PySem.F.plainAttrs_list PySem.F.slot_list_append PySem.F.type_list_append mt_append (pe_var hN hv hd hcd) (pzs_one ha hs) hbase hfew hline hs hplain) hsw) fun Ed σ H ⟨e, F, A, ok, h⟩ => by
    obtain ⟨ds, q, h⟩ := withL_inv h
    obtain ⟨p, vs, e1, hH, eA, r⟩ := ok.lst q
    refine ⟨.ref p, e1, .inl ⟨rfl, vs, SqL.of hH⟩, e, F, A, ok, ?_⟩
    replace h : FinS c X.K X.mg W Ed ((f e).out e fun d => if ds.length < 16777216 then S.putL i e (ds ++ [d]) else .no) := h
    show FinZ _ c X.K X.mg W e F A σ H ((f e).bind fun x => R.ok [x]) _
    cases z : f e with
    | ok d =>
      rw [z] at h
      intro us H1 F1 s1 f1 ok1 r1
      obtain ⟨v, eu, rv⟩ := Reps.one_ r1
      replace h : FinS c X.K X.mg W Ed (if ds.length < 16777216 then S.putL i e (ds ++ [d]) else .no) := h
      by_cases l : ds.length < 16777216
      · rw [if_pos l] at h
        obtain ⟨p', vs1, e1', hH1, eA', r'⟩ := ok1.lst q
        have ep : p' = p := by rw [e1] at e1'; cases e1'; rfl
        subst ep
        exact ⟨p', vs1, v, rfl, eu, hH1, by rw [← r'.length, sizeLine_eq]; exact l, h σ _ F1 A (ok1.put_lst q e1 eA' (r'.append (.one rv)))⟩
      · rw [if_neg l] at h; exact h.elim
    | ex cl => rw [z] at h; exact fun C H1 g s => h C σ H1 F A g (ok.mono s)
    | no => rw [z] at h; exact h
/-- x.extend(a) -/
theorem pm_ext {f : En → R D} (ha : PX X W a f) (hN : X.N[i]? = some y := by rfl) (hv : Vis X.env.scope y := by first | exact Or.inl rfl | exact Or.inr (Or.inl rfl) | exact Or.inr (Or.inr rfl)) (hd : (y == ("__debug__" : Str)) = false := by decide)
    (hcd : (y == ("__classdict__" : Str)) = false := by decide)
    (hbase : attributeBase (.Name y p1) "extend" X.env (eval (.Name y p1) X.env) = eval (.Name y p1) X.env := by rfl)
    (hfew : ((backTo p3 (starEach [a] X.env)).all (fun x => !x.1) && (backToKw p3 (keywordEach [] X.env)).all (fun x => x.1.isSome)
      && decide ([a].length + ([] : List Keyword).length + (if ([] : List Keyword).isEmpty then 0 else 1) < 30)) = true := by rfl)
    (hline : (p2.endLine == p3.line) = true := by rfl) (hs : starEach [a] X.env = (false, eval a X.env) :: starEach [] X.env := by rfl) (hplain : (backTo p3 (starEach [] X.env)).any (·.1) = false := by rfl)
    (hsw : swapsWith (.Call (.Attribute (.Name y p1) "extend" p2) [a] [] p3) none pos.line X.env = pure false := by rfl) :
    PM X c W (.Expr (.Call (.Attribute (.Name y p1) "extend" p2) [a] [] p3) pos) (S.ext i f) :=
  convS (ps_expr (pe_bm PySem.F.plainAttrs_list PySem.F.slot_list_extend PySem.F.type_list_extend mt_extend (pe_var hN hv hd hcd) (pxs_cons ha pxs_nil hs) hbase hfew hline hs hplain) hsw) fun Ed σ H ⟨e, F, A, ok, h⟩ => by
    obtain ⟨ds, q, h⟩ := withL_inv h
    obtain ⟨p, vs, e1, hH, eA, r⟩ := ok.lst q
    refine ⟨.ref p, e1, .inl ⟨rfl, vs, SqL.of hH⟩, e, ok.view, ?_⟩
    show Fin _ X.mg W σ H ((f e).bind fun x => R.ok [x]) _
    cases z : f e with
    | ok d =>
      rw [z] at h
      intro us H1 s1 r1
      have ok1 := ok.mono s1
      obtain ⟨v, eu, rv⟩ := Reps.one_ r1
      cases d with
      | lst es =>
        replace h : FinS c X.K X.mg W Ed (if D.pures es = true ∧ ds.length + es.length ≤ 16777216 then S.putL i e (ds ++ es) else .no) := h
        by_cases l : D.pures es = true ∧ ds.length + es.length ≤ 16777216
        · rw [if_pos l] at h
          obtain ⟨p', vs1, e1', hH1, eA', r'⟩ := ok1.lst q
          have ep : p' = p := by rw [e1] at e1'; cases e1'; rfl
          subst ep
          obtain ⟨b, zs, eb, _, hB, rz⟩ := rv.lst
          refine ⟨p', b, vs1, zs, rfl, by rw [eu, eb], hH1, hB, by rw [← r'.length, ← rz.length, sizeLine_eq]; exact l.2, h σ _ F A (ok1.put_lst q e1 eA' (r'.append (Reps.of_pure es zs l.1 rz)))⟩
        · rw [if_neg l] at h; exact h.elim
      | _ => exact h.elim
    | ex cl => rw [z] at h; exact fun C H1 g s => h C σ H1 F A g (ok.mono s)
    | no => rw [z] at h; exact h
/-- x[b] = a -/
theorem pm_seti {fv fi : En → R D} (ha : PZ X c W a fv) (hb : PX X W b fi) (hN : X.N[i]? = some y := by rfl) (hv : Vis X.env.scope y := by first | exact Or.inl rfl | exact Or.inr (Or.inl rfl) | exact Or.inr (Or.inr rfl)) (hd : (y == ("__debug__" : Str)) = false := by decide)
    (hcd : (y == ("__classdict__" : Str)) = false := by decide)
    (has : ∀ v, assign (.Subscript (.Name y p1) b p2) X.env v = (do
      let ov ← holding [v] (eval (.Name y p1) X.env)
      let iv ← holding [v, ov] (eval b X.env)
      standAt p2
      holding [v, ov, iv] (setItem ov iv v)
      release [v, ov, iv] []) := by intro _; rfl)
    (hs : swapsWithSole [.Subscript (.Name y p1) b p2] a pos.line X.env = pure false := by rfl) (hw : swappedStores [.Subscript (.Name y p1) b p2] a X.env = pure none := by rfl)
    (h1 : (assignEach [.Subscript (.Name y p1) b p2] X.env).map (·.2) = [assign (.Subscript (.Name y p1) b p2) X.env] := by rfl) :
    PM X c W (.Assign [.Subscript (.Name y p1) b p2] a pos) (S.seti i fv fi) :=
  convS (ps_asg ha (pg_sub (pe_var hN hv hd hcd) hb set_list has) hs hw h1) fun Ed σ H ⟨e, F, A, ok, h⟩ => by
    obtain ⟨ds, q, h⟩ := withL_inv h
    refine Rz.out ok h fun d v H1 F1 ok1 s1 f1 r1 h => ?_
    obtain ⟨p, vs, e1, hH, eA, r⟩ := ok1.lst q
    refine ⟨.ref p, e1, Rg.out ok1 h fun k kv H2 ok2 s2 r2 h => ?_⟩
    obtain ⟨p', vs2, e2, hH2, eA2, rr⟩ := ok2.lst q
    have ep : p' = p := by rw [e1] at e2; cases e2; rfl
    subst ep
    cases k with
    | int k =>
      replace h : FinS c X.K X.mg W Ed (S.putM i e ((ixN ds.length k).map fun j => ds.set j d)) := h
      cases z : ixN ds.length k with
      | none => rw [z] at h; exact h.elim
      | some j =>
        rw [z] at h
        refine ⟨p', vs2, k, j, rfl, r2.int, hH2, by rw [← rr.length]; exact z, h σ _ F1 A (ok2.put_lst q e2 eA2 (rr.set j (Rep.keeps (.of_same s2) (fun _ z => z) _ _ r1)))⟩
    | _ => exact h.elim
/-! what is known to stay -/
theorem pms_frzA (h : PMs X c W rest m) : PMs X c W rest (S.frzA m) := convSs h fun Ed σ H ⟨e, F, A, ok, z⟩ => ⟨_, _, _, ok.frzA, z⟩
theorem pms_frz (i : Nat) (h : PMs X c W rest m) : PMs X c W rest (S.frz i m) := convSs h fun Ed σ H ⟨e, F, A, ok, z⟩ => by
  obtain ⟨F', A', _, ok'⟩ := ok.frz1 i
  exact ⟨_, _, _, ok', z⟩
/-! loops -/
theorem pm_for {tg it : Expr} {fi : En → R (List D)} {t : Tg} (hp : PassesOwn (model X.prog X.w) X.A X.env X.xe) (hc : X.calm = true) (hi : PJ X c W tg it fi) (hg : PG X tg (gT X.K t)) (hb : ∀ P : Hp, PMs X { c with P := P } W body m)
    (hs : ∀ x, foldedSetIterable it X.env x = pure x := by intro _; rfl) : PM X c W (.For tg it body [] pos) (S.loop fi t m) := by
  have hb' : PSs X body (fun Ed σ H => ∃ P, SR { c with P := P } X.K X.mg W m Ed σ H) := ⟨fun pins s σ H Ed I ⟨P, z⟩ => (hb P).run pins s σ H Ed I z⟩
  refine convS (ps_for hp hc hi hg hb' hs) fun Ed σ H ⟨e, F, A, ok, h⟩ => ?_
  refine Rz.out ok h fun ds J H1 F0 ok1 s1 f1 ⟨Pj, hPj, Y⟩ h => ?_
  -- F2: known at the start, with all tuples
  let F2 : Addr → Prop := fun b => F0 b ∨ (∃ xs, H1 b = some (.tup xs)) ∨ ∃ ob u, H1 b = some (.frz ob u)
  have okS : StOk c X.K F2 A H1 σ e := ok1.grow (fun _ z => .inl z) (fun b z => by
    rcases z with z | ⟨_, z⟩ | ⟨_, _, z⟩
    · exact ok1.fh b z
    · rw [z]; exact fun z => (nomatch z)
    · rw [z]; exact fun z => (nomatch z)) fun i a ha z => by
      have mu : ∃ o, H1 a = some o ∧ Mut o := by
        by_cases hi : i < e.length
        · have q := ok1.sl i e[i] (List.getElem?_eq_getElem hi)
          cases k : e[i] with
          | no => rw [k] at q; rw [show A i = [] from q] at ha; cases ha
          | sh d => rw [k] at q; rw [q.1] at ha; cases ha
          | ow s d =>
            rw [k] at q
            obtain ⟨v, _, r⟩ := q
            exact Own.mut s d v _ r a ha
        · rw [ok1.out i (by omega)] at ha; cases ha
      obtain ⟨o, eo, mu⟩ := mu
      rcases z with z | ⟨xs, z⟩ | ⟨ob, u, z⟩
      · exact ok1.fa i a ha z
      · rw [eo] at z; cases z
        rcases mu with ⟨_, mu⟩ | ⟨_, mu⟩ | ⟨_, _, _, mu⟩ <;> cases mu
      · rw [eo] at z; cases z
        rcases mu with ⟨_, mu⟩ | ⟨_, mu⟩ | ⟨_, _, _, mu⟩ <;> cases mu
  haveI : ∀ b, Decidable (F2 b) := fun b => Classical.propDecidable _
  let P' : Hp := fun b => if F2 b then H1 b else none
  have hP : ∀ b q, c.P b = some q → P' b = some q := fun b q z => by
    obtain ⟨g1, g2⟩ := okS.pr b q z
    show (if F2 b then H1 b else none) = some q
    rw [if_pos g2]; exact g1
  have up : ∀ {F A H σ e}, StOk { c with P := P' } X.K F A H σ e → StOk c X.K F A H σ e := fun z => ⟨z.len, fun b o q => z.pr b o (hP b o q), z.al, z.pl, z.po, z.me, z.fh, z.fa, z.dj, z.nd, z.out, z.sl⟩
  have hpr : ∀ b o, P' b = some o → H1 b = some o ∧ F2 b := fun b o q => by
    have q : (if F2 b then H1 b else none) = some o := q
    by_cases g : F2 b
    · rw [if_pos g] at q; exact ⟨q, g⟩
    · rw [if_neg g] at q; cases q
  have start : StOk { c with P := P' } X.K F2 A H1 σ e := ⟨okS.len, hpr, okS.al, okS.pl, okS.po, okS.me, okS.fh, okS.fa, okS.dj, okS.nd, okS.out, okS.sl⟩
  have kept : ∀ {F A H σ e}, StOk { c with P := P' } X.K F A H σ e → Pj H ∧ ∀ b, F0 b → F b := fun {F A H σ e} z => by
    refine ⟨Y.keeps _ _ hPj fun b o eb fb => ?_, fun b fb => ?_⟩
    · have g : F2 b := by
        rcases fb with f | ⟨xs, f⟩ | ⟨ob, u, f⟩
        · exact .inl f
        · exact .inr (.inl ⟨xs, by rw [eb, f]⟩)
        · exact .inr (.inr ⟨ob, u, by rw [eb, f]⟩)
      exact (z.pr b o (by show (if F2 b then H1 b else none) = _; rw [if_pos g]; exact eb)).1
    · cases eb : H1 b with
      | none => exact absurd eb (ok1.fh b fb)
      | some o => exact (z.pr b o (by show (if F2 b then H1 b else none) = _; rw [if_pos (Or.inl fb)]; exact eb)).2
  refine ⟨fun i n σ H => n = ds.length - i ∧ i ≤ ds.length ∧ ∃ e F A, StOk { c with P := P' } X.K F A H σ e ∧ FinS c X.K X.mg W Ed (loopM t m (ds.drop i) e), ⟨ds.length, by simp, Nat.zero_le _, e, F2, A, start, by simpa using h⟩, ?_⟩
  rintro i n σ2 H2 ⟨rfl, hi, e2, F3, A3, ok2, h2⟩
  obtain ⟨hp2, f02⟩ := kept ok2
  by_cases hlt : i < ds.length
  · refine .inr ⟨Y.go i H2 hlt hp2, fun σ' H' => i + 1 ≤ ds.length ∧ ∃ e F A, StOk { c with P := P' } X.K F A H' σ' e ∧ FinS c X.K X.mg W Ed (loopM t m (ds.drop (i + 1)) e), fun σ' H' z => ⟨ds.length - (i + 1), by omega, rfl, z⟩, fun x H3 yl => ?_⟩
    have hd : ds.drop i = ds[i] :: ds.drop (i + 1) := List.drop_eq_getElem_cons hlt
    rw [hd, loopM] at h2
    obtain ⟨s3, rx⟩ := Y.yld i H2 x H3 ds[i] hp2 (List.getElem?_eq_getElem hlt) yl
    have ok3 := ok2.mono s3
    cases qb : bindT t ds[i] with
    | ok bs =>
      rw [qb] at h2
      refine ⟨F3, ds[i], bs, Rep.keeps (fun _ _ e _ => e) f02 _ _ rx, qb, fun ws rws => ?_⟩
      obtain ⟨A4, ok4⟩ := ok3.sets rws
      refine ⟨P', _, F3, A4, ok4, ?_⟩
      replace h2 : FinS c X.K X.mg W Ed (match m (setsE e2 bs) with
        | .nx e' => loopM t m (ds.drop (i + 1)) e'
        | .ct e' => loopM t m (ds.drop (i + 1)) e'
        | .bk e' => .nx e'
        | o => o) := h2
      cases qm : m (setsE e2 bs) with
      | nx e' => rw [qm] at h2; exact fun σ' H' F' A' ok' => ⟨hlt, e', F', A', ok', h2⟩
      | ct e' => rw [qm] at h2; exact fun σ' H' F' A' ok' => ⟨hlt, e', F', A', ok', h2⟩
      | bk e' => rw [qm] at h2; exact fun σ' H' F' A' ok' => h2 σ' H' F' A' (up ok')
      | rt d => rw [qm] at h2; exact fun v H dn r => h2 v H ⟨fun b o q => dn.1 b o (hP b o q), dn.2⟩ r
      | ex cl e' => rw [qm] at h2; exact fun C σ' H' F' A' g ok' => h2 C σ' H' F' A' g (up ok')
      | no => rw [qm] at h2; exact h2
    | ex cl => rw [qb] at h2; exact h2.elim
    | no => rw [qb] at h2; exact h2.elim
  · have ei : i = ds.length := by omega
    subst ei
    rw [List.drop_length, loopM] at h2
    exact .inl ⟨Y.stop H2 hp2, h2 σ2 H2 F3 A3 (up ok2)⟩
theorem pm_while {t : Expr} {ft : En → R Bool} (hp : PassesOwn (model X.prog X.w) X.A X.env X.xe) (ht : PB X W t ft) (hb : PMs X c W body m) : PM X c W (.While t body [] pos) (S.while_ ft m) :=
  convS (ps_while hp ht hb) fun Ed σ H ⟨e, F, A, ok, h⟩ => by
    refine ⟨fun n σ H => ∃ e F A, StOk c X.K F A H σ e ∧ FinS c X.K X.mg W Ed (whileM ft m n e), ⟨1000000, e, F, A, ok, h⟩, ?_⟩
    rintro n σ2 H2 ⟨e2, F2, A2, ok2, h2⟩
    cases n with
    | zero => exact h2.elim
    | succ n =>
      rw [whileM] at h2
      refine Rg.out ok2 h2 fun k k2 H3 ok3 s3 r h3 => ?_
      have r' : k = k2 := r
      subst r'
      cases k with
      | true =>
        refine ⟨fun σ' H' => ∃ e F A, StOk c X.K F A H' σ' e ∧ FinS c X.K X.mg W Ed (whileM ft m n e), fun σ' H' z => ⟨n, Nat.lt_succ_self n, z⟩, e2, F2, A2, ok3, ?_⟩
        replace h3 : FinS c X.K X.mg W Ed (match m e2 with
          | .nx e' => whileM ft m n e'
          | .ct e' => whileM ft m n e'
          | .bk e' => .nx e'
          | o => o) := h3
        cases qm : m e2 with
        | nx e' => rw [qm] at h3; exact fun σ' H' F' A' ok' => ⟨e', F', A', ok', h3⟩
        | ct e' => rw [qm] at h3; exact fun σ' H' F' A' ok' => ⟨e', F', A', ok', h3⟩
        | bk e' => rw [qm] at h3; exact h3
        | rt d => rw [qm] at h3; exact h3
        | ex cl e' => rw [qm] at h3; exact h3
        | no => rw [qm] at h3; exact h3
      | false => exact h3 σ2 H3 F2 A2 ok3
end
end Lp

/-! # The pure layer, part 13: own errors, defs -/
namespace Lp
open PySem L2 PySem.Spec PyProof.Rows PySem.W PySem.Calls

/-! ### errors -/
/-- an own class of errors, by what the head tells of it -/
def OwnEx (K : PySem.W.Frag) (mg : Str → Option Value) (x : Str) : Prop := ∃ C, mg x = some (.ref C) ∧ PySem.W.excIn K C He.veBase "ValueError.__new__" = true ∧ PySem.W.keepIn K (.ref C) = true ∧ PySem.W.subIn K (.ref C) (.type "BaseException") = some true ∧ PySem.W.typeIn K (.ref C) = some (.type "type")
section
variable {X : Cx} {c : Cc} {W : WX} {rest body : List Stmt} {m h : En → Out} {x : Str} {pos p p2 p3 : Pos} {j : Nat} {t : Str}
theorem pm_raise (hc : X.calm = true) (tk : Takes X W) (o : OwnEx X.K X.mg x) (hg : Gl X x) (hdb : (x == ("__debug__" : Str)) = false := by decide) : PM X c W (.Raise (some (.Call (.Name x p) [.Constant (.str t) j p2] [] p3)) none pos) (S.raise x) := by
  obtain ⟨C, gC, q, kC, sb, ty⟩ := o
  exact convS (ps_raise hc tk (pmk_own PySem.F.excBase_ValueError q gC kC (raises_own sb ty) hg hdb)) fun Ed σ H ⟨e, F, A, ok, h⟩ => h C σ H F A gC ok
def Out.noEx : Out → Out
  | .ex _ _ => .no
  | o => o
def tryH (cl : Str) (e : En) : List (List (Str × Bool) × (En → Out)) → Out
  | [] => .ex cl e
  | (tab, h) :: r => match tab.lookup cl with
    | some true => (h e).noEx
    | some false => tryH cl e r
    | none => .no
namespace S
def try_ (body : En → Out) (hs : List (List (Str × Bool) × (En → Out))) : En → Out := fun e => match body e with
  | .ex cl e' => tryH cl e' hs
  | o => o
end S
def HR (X : Cx) (c : Cc) (hds : List ExceptHandler) (l : List (List (Str × Bool) × (En → Out))) : Prop :=
  ∃ L, HdsOk X hds L ∧ ∀ (Wout : WX) (Ed : Ends) (cl : Str) (e : En), FinS c X.K X.mg Wout Ed (tryH cl e l) → ∀ C σ H F A, X.mg cl = some (.ref C) → StOk c X.K F A H σ e → wMany X.K Wout Ed L (.ref C) none σ H
theorem hr_nil : HR X c [] [] := ⟨[], .nil, fun Wout Ed cl e h C σ H F A g ok => h C σ H F A g ok⟩
/-- which class is told by which name: what 'except x' says of it -/
def ExTab (K : PySem.W.Frag) (mg : Str → Option Value) (x : Str) (tab : List (Str × Bool)) : Prop := ∃ C', mg x = some (.ref C') ∧ ∀ cl b, tab.lookup cl = some b → ∀ C, mg cl = some (.ref C) → PySem.W.exmOne K (.ref C) (.ref C') = some b
theorem hr_cons {tab : List (Str × Bool)} {hds : List ExceptHandler} {l : List (List (Str × Bool) × (En → Out))} {b₀ : Stmt} {suite : List Stmt} {np pos' : Pos} (hx : ExTab X.K X.mg x tab) (hg : Gl X x)
    (hsu : ∀ (a : Addr) (pn : List (Addr × Obj)), PMs (X.suite a pn) c W0 (b₀ :: suite) h) (r : HR X c hds l) (hdb : (x == ("__debug__" : Str)) = false := by decide) : HR X c (.ExceptHandler (some (.Name x np)) none (b₀ :: suite) pos' :: hds) ((tab, h) :: l) := by
  obtain ⟨C', gC, hx⟩ := hx
  obtain ⟨L, hL, r⟩ := r
  refine ⟨(.ref C', fun _ _ _ => SR c X.K X.mg W0 h) :: L, .cons ⟨hg, hdb, .inl gC⟩ (fun a oe cls d pn _ _ => hsu a _) hL, fun Wout Ed cl e hf C σ H F A g ok => ?_⟩
  rw [tryH] at hf
  cases q : tab.lookup cl with
  | none => rw [q] at hf; exact hf.elim
  | some b =>
    rw [q] at hf
    refine ⟨b, hx cl b q C g, fun eb a ha => ?_, fun eb => ?_⟩
    · subst eb
      refine ⟨e, F, A, ok, ?_⟩
      replace hf : FinS c X.K X.mg Wout Ed (h e).noEx := hf
      cases z : h e with
      | ex cl e' => rw [z] at hf; exact hf.elim
      | nx e' => rw [z] at hf; exact hf
      | rt d => rw [z] at hf; exact hf
      | bk e' => rw [z] at hf; exact hf
      | ct e' => rw [z] at hf; exact hf
      | no => rw [z] at hf; exact hf
    · subst eb
      exact r Wout Ed cl e hf C σ H F A g ok
theorem pm_try {h₀ : ExceptHandler} {hds : List ExceptHandler} {l : List (List (Str × Bool) × (En → Out))} (hs : X.stack = X.env :: X.outer) (hf : X.env.frame = some X.env.locals) (tk : Takes X W)
    (hb : ∀ (W : WX) (pn : List (Addr × Obj)) (xe : Value → Shared → Prop), Takes (X.tr pn xe) W → PassesOwn (model X.prog X.w) X.A X.env xe → PMs (X.tr pn xe) c W body m) (hh : HR X c (h₀ :: hds) l) : PM X c W (.Try body (h₀ :: hds) [] [] pos) (S.try_ m l) := by
  obtain ⟨L, hL, hh⟩ := hh
  refine convS (ps_try_many hs hf tk (tb := fun W => SR c X.K X.mg W m) hb hL) fun Ed σ H ⟨e, F, A, ok, h⟩ => ⟨e, F, A, ok, ?_⟩
  replace h : FinS c X.K X.mg W Ed (match m e with
    | .ex cl e' => tryH cl e' l
    | o => o) := h
  cases q : m e with
  | ex cl e' => rw [q] at h; exact fun C σ H F A g ok' => hh W Ed cl e' h C σ H F A g ok'
  | nx e' => rw [q] at h; exact h
  | rt d => rw [q] at h; exact h
  | bk e' => rw [q] at h; exact h
  | ct e' => rw [q] at h; exact h
  | no => rw [q] at h; exact h
end

/-! ### defs -/
namespace Fn
def run (n loc : Nat) (m : En → Out) (ds : List D) : Out := if ds.length = n then m (ds.map Sl.sh ++ List.replicate loc .no) else .no
def outX : Out → R D
  | .nx _ => .ok .non
  | .rt d => .ok d
  | .ex c _ => .ex c
  | _ => .no
def outF : Out → R (List D)
  | .rt (.lst ds) => .ok ds
  | .ex c _ => .ex c
  | _ => .no
def X (n loc : Nat) (m : En → Out) (ds : List D) : R D := outX (run n loc m ds)
def F (n loc : Nat) (m : En → Out) (ds : List D) : R (List D) := outF (run n loc m ds)
theorem X_len (n loc : Nat) (m : En → Out) (ds : List D) : ds.length = n ∨ X n loc m ds = .no := by
  by_cases h : ds.length = n
  · exact .inl h
  · exact .inr (by unfold X run; rw [if_neg h]; rfl)
theorem F_len (n loc : Nat) (m : En → Out) (ds : List D) : ds.length = n ∨ F n loc m ds = .no := by
  by_cases h : ds.length = n
  · exact .inl h
  · exact .inr (by unfold F run; rw [if_neg h]; rfl)
end Fn
section
variable {P : Program} {w : World} {K : PySem.W.Frag} {mg : Str → Option Value} {base : Heap} {x qual : Str} {params : Arguments} {body : List Stmt} {scope : Scope} {f : Addr} {fd : FuncData} {N ps : List Str} {k loc : Nat} {m : En → Out}
theorem start_ok {H : Hp} {ds : List D} {vs : List V} {fl : Bool} (r : Reps K All H ds vs) (hN : N.length = vs.length + loc) :
    StOk ⟨H, fun b => H b ≠ none, fl, true, fun _ => True, none⟩ K (fun b => H b ≠ none) (fun _ => []) H (L2.start N vs) (ds.map Sl.sh ++ List.replicate loc .no) where
  len := by
    have := r.length
    unfold L2.start
    rw [List.length_append, List.length_append, List.length_map, List.length_map, List.length_replicate, List.length_replicate, this]
    omega
  pr := fun b o q => ⟨q, (by rw [show H b = some o from q]; exact fun z => (nomatch z))⟩
  al := fun b q => q
  pl := fun _ b q => q
  po := fun b q n => q
  me := fun i s d q => by
    by_cases hi : i < ds.length
    · rw [List.getElem?_append_left (by rw [List.length_map]; exact hi), List.getElem?_map, List.getElem?_eq_getElem hi] at q
      cases q
    · rw [List.getElem?_append_right (by rw [List.length_map]; omega)] at q
      have z := List.eq_of_mem_replicate (List.mem_of_getElem? q)
      cases z
  fh := fun b q => q
  fa := fun i a ha => absurd ha (by simp)
  dj := fun i j a ha => absurd ha (by simp)
  nd := fun i => List.nodup_nil
  out := fun i _ => rfl
  sl := fun i s q => by
    have l := r.length
    by_cases hi : i < ds.length
    · rw [List.getElem?_append_left (by rw [List.length_map]; exact hi), List.getElem?_map, List.getElem?_eq_getElem hi] at q
      cases q
      obtain ⟨v, hv, rv⟩ := r.get (List.getElem?_eq_getElem hi)
      refine ⟨rfl, v, ?_, Rep.dom (fun _ z => z) _ _ rv⟩
      unfold L2.start
      rw [List.getElem?_append_left (by rw [List.length_map]; omega), List.getElem?_map, hv]
      rfl
    · rw [List.getElem?_append_right (by rw [List.length_map]; omega)] at q
      have : s = .no := by
        have z := List.mem_of_getElem? q
        exact List.eq_of_mem_replicate z
      rw [this]
      rfl
theorem fnX (F : FunD K x qual params body scope [] [] f fd) (S : FnScope N ps scope) (hN : N.length = ps.length + loc)
    (hb : ∀ (cdv : Value) (A : Around) (outer : List Env) (s : Shared) (H : Hp) (E : XK) (c : Cc), Room k (A.deeper (envOfC qual scope s.heap.objs.size f cdv)) → c.fl = false → c.pl = true →
      PMs (cxOf (L2.CX P w) P w K mg base N qual scope f cdv A outer s H E) c (fun cls d _ H => E cls d H) body m) : FnOk P w K mg base (L2.CX P w) (k + 1) f fd ps (spG (repX K) K mg ps.length (Fn.X ps.length loc m)) := by
  refine F.ok S (fun vs H Q E h => h.1) fun cdv A outer s H vs Q E hr h => ⟨_, hb cdv A outer s H E ⟨H, fun b => H b ≠ none, false, true, fun _ => True, none⟩ hr rfl rfl, ?_⟩
  obtain ⟨hl, ds, r, fin⟩ := h
  refine ⟨_, _, _, start_ok r (by rw [hl]; exact hN), ?_⟩
  have e1 : Fn.run ps.length loc m ds = m (ds.map Sl.sh ++ List.replicate loc .no) := if_pos (by rw [r.length]; exact hl)
  replace fin : Fin (repX K) mg (fun c d _ H => E c d H) [] H (Fn.outX (Fn.run ps.length loc m ds)) Q := fin
  rw [e1] at fin
  cases q : m (ds.map Sl.sh ++ List.replicate loc .no) with
  | nx e => rw [q] at fin; exact fun σ H' F A ok => fin .non H' (fun b o z => (ok.pr b o z).1) rep_non
  | rt d =>
    rw [q] at fin
    intro v H' dn rt
    unfold retOk at rt
    rw [if_neg Bool.false_ne_true] at rt
    exact fin v H' (fun b o z => dn.1 b o z) rt
  | ex cl e => rw [q] at fin; exact fun C σ H' F A g ok => fin C H' g (fun b o z => (ok.pr b o z).1)
  | bk e => rw [q] at fin; exact fin.elim
  | ct e => rw [q] at fin; exact fin.elim
  | no => rw [q] at fin; exact fin.elim
theorem fnF (F : FunD K x qual params body scope [] [] f fd) (S : FnScope N ps scope) (hN : N.length = ps.length + loc)
    (hb : ∀ (cdv : Value) (A : Around) (outer : List Env) (s : Shared) (H : Hp) (E : XK) (c : Cc), Room k (A.deeper (envOfC qual scope s.heap.objs.size f cdv)) → c.fl = true → c.pl = true →
      PMs (cxOf (L2.CX P w) P w K mg base N qual scope f cdv A outer s H E) c (fun cls d _ H => E cls d H) body m) : FnOk P w K mg base (L2.CX P w) (k + 1) f fd ps (spG (repF K) K mg ps.length (Fn.F ps.length loc m)) := by
  refine F.ok S (fun vs H Q E h => h.1) fun cdv A outer s H vs Q E hr h => ⟨_, hb cdv A outer s H E ⟨H, fun b => H b ≠ none, true, true, fun _ => True, none⟩ hr rfl rfl, ?_⟩
  obtain ⟨hl, ds, r, fin⟩ := h
  refine ⟨_, _, _, start_ok r (by rw [hl]; exact hN), ?_⟩
  have e1 : Fn.run ps.length loc m ds = m (ds.map Sl.sh ++ List.replicate loc .no) := if_pos (by rw [r.length]; exact hl)
  replace fin : Fin (repF K) mg (fun c d _ H => E c d H) [] H (Fn.outF (Fn.run ps.length loc m ds)) Q := fin
  rw [e1] at fin
  cases q : m (ds.map Sl.sh ++ List.replicate loc .no) with
  | nx e => rw [q] at fin; exact fin.elim
  | rt d =>
    rw [q] at fin
    intro v H' dn rt
    unfold retOk at rt
    rw [if_pos rfl] at rt
    obtain ⟨ds', p, vs', ed, ev, np, hH, rr⟩ := rt
    subst ed
    refine fin v H' (fun b o z => dn.1 b o z) ⟨p, vs', ev, ?_, hH, rr⟩
    cases k : H p with
    | none => rfl
    | some o => exact absurd (show H p ≠ none by rw [k]; exact fun z => (nomatch z)) np
  | ex cl e => rw [q] at fin; exact fun C σ H' F A g ok => fin C H' g (fun b o z => (ok.pr b o z).1)
  | bk e => rw [q] at fin; exact fin.elim
  | ct e => rw [q] at fin; exact fin.elim
  | no => rw [q] at fin; exact fin.elim
end
end Lp

/-! # The pure layer, part 14: isinstance, chains, truth, places, the module's own values -/
namespace Lp
open PySem L2

/-! ### isinstance -/
def tyN : D → Option String
  | .non => some "NoneType"
  | .bl _ => some "bool"
  | .int _ => some "int"
  | .str _ => some "str"
  | .tup _ => some "tuple"
  | .lst _ => some "list"
  | .fix _ => some "list"
  | .dic _ _ => some "dict"
  | .obj _ _ => none
theorem rep_ty {K : PySem.W.Frag} {F : Addr → Prop} {H : Hp} {d : D} {v : V} {t : String} (r : Rep K F H d v) (e : tyN d = some t) : TyX K H v (.type t) := by
  cases d with
  | non => cases e; rw [Rep] at r; rw [r]; exact .base .non
  | bl b => cases e; rw [Rep] at r; rw [r]; exact .base (.bl b)
  | int b => cases e; rw [Rep] at r; rw [r]; exact .base (.int b)
  | str b => cases e; rw [Rep] at r; rw [r]; exact .base (.str b)
  | tup ds =>
    cases e
    obtain ⟨a, vs, e, h, _⟩ := r.tup
    rw [e]
    rcases h with (h | ⟨o, h⟩) | ⟨o, its, n, hk, hc, _⟩
    · exact .base (.tup h)
    · exact .fTuple h
    · exact .kTuple hk hc
  | lst ds =>
    cases e
    obtain ⟨a, vs, e, _, h, _⟩ := r.lst
    rw [e]
    exact .base (.lst h)
  | fix ds =>
    cases e
    obtain ⟨a, vs, e, h, _⟩ := r.fix
    rw [e]
    rcases h with h | ⟨o, h⟩ | ⟨o, its, n, hk, hc, _⟩
    · exact .base (.lst h.2)
    · exact .base (.frz h)
    · exact .kList hk hc
  | dic ks ds =>
    cases e
    rw [Rep] at r
    obtain ⟨a, vs, e, _, h, _⟩ := r
    rw [e]
    exact .base (.dK h)
  | obj fs ds => cases e
/-- what isinstance says of T -/
def isTab (T : String) : List (String × Bool) := match T with
  | "int" => [("NoneType", false), ("bool", true), ("int", true), ("str", false), ("tuple", false), ("list", false), ("dict", false)]
  | "bool" => [("NoneType", false), ("bool", true), ("int", false), ("str", false), ("tuple", false), ("list", false), ("dict", false)]
  | "str" => [("NoneType", false), ("bool", false), ("int", false), ("str", true), ("tuple", false), ("list", false), ("dict", false)]
  | "tuple" => [("NoneType", false), ("bool", false), ("int", false), ("str", false), ("tuple", true), ("list", false), ("dict", false)]
  | "list" => [("NoneType", false), ("bool", false), ("int", false), ("str", false), ("tuple", false), ("list", true), ("dict", false)]
  | "dict" => [("NoneType", false), ("bool", false), ("int", false), ("str", false), ("tuple", false), ("list", false), ("dict", true)]
  | _ => []
theorem isTab_ok {T t : String} {b : Bool} (h : (isTab T).lookup t = some b) : kitB t T = some b := by
  have key : ∀ T ∈ ["int", "bool", "str", "tuple", "list", "dict"], ∀ p ∈ isTab T, kitB p.1 T = some p.2 := by decide +kernel
  have m : T ∈ ["int", "bool", "str", "tuple", "list", "dict"] := by
    unfold isTab at h
    split at h <;> first | decide | cases h
  have : (t, b) ∈ isTab T := by
    generalize isTab T = l at h
    induction l with
    | nil => cases h
    | cons p l ih =>
      obtain ⟨x, y⟩ := p
      rw [List.lookup_cons] at h
      split at h
      · rename_i e
        rw [beq_iff_eq] at e
        cases h
        rw [e]
        exact List.mem_cons_self
      · exact List.mem_cons_of_mem _ (ih h)
  exact key T m _ this
def isInt : D → R D
  | .int _ => .ok (.bl true)
  | .bl _ => .ok (.bl true)
  | .obj _ _ => .no
  | _ => .ok (.bl false)
def isBool : D → R D
  | .bl _ => .ok (.bl true)
  | .obj _ _ => .no
  | _ => .ok (.bl false)
def isStr : D → R D
  | .str _ => .ok (.bl true)
  | .obj _ _ => .no
  | _ => .ok (.bl false)
def isTup : D → R D
  | .tup _ => .ok (.bl true)
  | .obj _ _ => .no
  | _ => .ok (.bl false)
def isLst : D → R D
  | .lst _ => .ok (.bl true)
  | .fix _ => .ok (.bl true)
  | .obj _ _ => .no
  | _ => .ok (.bl false)
/-- g says of data what isinstance says of T -/
def IsG (T : String) (g : D → R D) : Prop := ∀ d, (tyN d = none → g d = .no) ∧ ∀ t, tyN d = some t → ∃ b, (isTab T).lookup t = some b ∧ g d = .ok (.bl b)
theorem isg_int : IsG "int" isInt := fun d => by cases d <;> exact ⟨fun e => by first | (cases e; done) | rfl, fun t e => by first | (cases e; exact ⟨_, rfl, rfl⟩) | cases e⟩
theorem isg_bool : IsG "bool" isBool := fun d => by cases d <;> exact ⟨fun e => by first | (cases e; done) | rfl, fun t e => by first | (cases e; exact ⟨_, rfl, rfl⟩) | cases e⟩
theorem isg_str : IsG "str" isStr := fun d => by cases d <;> exact ⟨fun e => by first | (cases e; done) | rfl, fun t e => by first | (cases e; exact ⟨_, rfl, rfl⟩) | cases e⟩
theorem isg_tup : IsG "tuple" isTup := fun d => by cases d <;> exact ⟨fun e => by first | (cases e; done) | rfl, fun t e => by first | (cases e; exact ⟨_, rfl, rfl⟩) | cases e⟩
theorem isg_lst : IsG "list" isLst := fun d => by cases d <;> exact ⟨fun e => by first | (cases e; done) | rfl, fun t e => by first | (cases e; exact ⟨_, rfl, rfl⟩) | cases e⟩
section
variable {X : Cx} {W : WX} {a b d : Expr} {fa fb fd : En → R D} {pos p p2 : Pos} {x y : Str} {T : String} {g : D → R D}
theorem px_isi (hg : IsG T g) (g1 : Gl X "isinstance") (m1 : X.mg "isinstance" = none) (g2 : Gl X x) (m2 : X.mg x = none) (hv : bootBuiltins x = some (.type T)) (ha : PX X W a fa) (hn : x ≠ "__name__" := by decide) (hdb : (x == ("__debug__" : Str)) = false := by decide)
    (he : starEach [a, .Name x p2] X.env = (false, eval a X.env) :: starEach [.Name x p2] X.env := by rfl) (he2 : starEach [.Name x p2] X.env = (false, eval (.Name x p2) X.env) :: starEach [] X.env := by rfl) (hpl : (backTo pos (starEach [.Name x p2] X.env)).any (·.1) = false := by rfl) :
    PX X W (.Call (.Name "isinstance" p) [a, .Name x p2] [] pos) (E.un g fa) :=
  convE (pe_callB call_isi g1 m1 (by decide +kernel) (pa_cons ha (pa_cons (pe_bltn (v := .ty T) g2 m2 hv rfl hn hdb) pa_nil he2) he) (by decide) (by decide) he hpl) fun σ H Q h =>
  Rg.seq (k := fun d _ => g d) h fun d v H1 s1 r1 h1 => by
    obtain ⟨gn, gs⟩ := hg d
    cases q : tyN d with
    | none => exact (h1.no fun _ => gn q).elim
    | some t =>
      obtain ⟨b, e1, e2⟩ := gs t q
      exact ⟨v, .ty T, .type t, .type T, b, rfl, .ty T, rep_ty r1 q, kit_ty (isTab_ok e1), h1.get (fun _ => e2) (Same.refl H1) rep_bl⟩
/-! ### a op b op c -/
namespace E
def chain (g1 g2 : D → D → R D) (a b c : En → R D) : En → R D := fun e => (a e).bind fun x => (b e).bind fun y => (g1 x y).bind fun k => match k with
  | .bl true => (c e).bind fun z => g2 y z
  | .bl false => .ok (.bl false)
  | _ => .no
end E
variable {op op' : CmpOp} {g1 g2 : D → D → R D}
theorem chain_conv {σ : L2.St} {H : Hp} {Q : VK} {r r' : R2} (h1 : ∀ (d e : D) (x y : V) (H : Hp) (Q : VK) (mg : Str → Option Value) (W : WX) (σ : L2.St), Rep X.K All H d x → Rep X.K All H e y → tX X.K mg W (fun _ => g1 d e) σ H Q → r x y H Q)
    (h2 : ∀ (d e : D) (x y : V) (H : Hp) (Q : VK) (mg : Str → Option Value) (W : WX) (σ : L2.St), Rep X.K All H d x → Rep X.K All H e y → tX X.K mg W (fun _ => g2 d e) σ H Q → r' x y H Q)
    (h : tX X.K X.mg W (E.chain g1 g2 fa fb fd) σ H Q) : tChain r r' (tX X.K X.mg W fa) (tX X.K X.mg W fb) (tX X.K X.mg W fd) σ H Q :=
  Rg.seq (k := fun x e => (fb e).bind fun y => (g1 x y).bind fun k => match k with
    | .bl true => (fd e).bind fun z => g2 y z
    | .bl false => .ok (.bl false)
    | _ => .no) h fun d1 v1 H1 s1 r1 k1 => Rg.seq (k := fun y e => (g1 d1 y).bind fun k => match k with
    | .bl true => (fd e).bind fun z => g2 y z
    | .bl false => .ok (.bl false)
    | _ => .no) k1 fun d2 v2 H2 s2 r2 k2 => by
    refine h1 d1 d2 v1 v2 H2 _ X.mg W σ (r1.mono s2) r2 (Rg.seq (f := fun _ => g1 d1 d2) (k := fun k e => match k with
      | .bl true => (fd e).bind fun z => g2 d2 z
      | .bl false => .ok (.bl false)
      | _ => .no) k2 fun dk vk H3 s3 r3 k3 => ?_)
    cases dk with
    | bl k =>
      refine ⟨k, r3.bl, ?_⟩
      cases k with
      | true => exact Rg.seq (k := fun z _ => g2 d2 z) k3 fun d4 v4 H4 s4 r4 k4 => h2 d2 d4 v2 v4 H4 Q X.mg W σ ((r2.mono s3).mono s4) r4 k4
      | false => exact k3.get (fun _ => rfl) (Same.refl H3) rep_bl
    | _ => exact (k3.no fun _ => rfl).elim
theorem px_chain (ho : OpD X (compareOp op) g1) (ho' : OpD X (compareOp op') g2) (ha : PX X W a fa) (hb : PX X W b fb) (hd : PX X W d fd) (hm : lastMarks [op, op'] [b, d] = false := by with_unfolding_all rfl) : PX X W (.Compare a [op, op'] [b, d] pos) (E.chain g1 g2 fa fb fd) := by
  obtain ⟨r, hr, q1⟩ := ho
  obtain ⟨r', hr', q2⟩ := ho'
  exact convE (pe_chain hr hr' ha hb hd hm) fun σ H Q h => chain_conv q1 q2 h
theorem pb_chain (ho : OpD X (compareOp op) g1) (ho' : OpD X (compareOp op') g2) (ha : PX X W a fa) (hb : PX X W b fb) (hd : PX X W d fd) (hm : lastMarks [op, op'] [b, d] = false := by with_unfolding_all rfl) : PB X W (.Compare a [op, op'] [b, d] pos) (B.val (E.chain g1 g2 fa fb fd)) := by
  obtain ⟨r, hr, q1⟩ := ho
  obtain ⟨r', hr', q2⟩ := ho'
  exact convT (pt_chain hr hr' ha hb hd hm) fun σ H Q h => chain_conv q1 q2 (val_conv h fun k H1 q => ⟨k, rfl, q⟩)
/-! ### truth -/
theorem Rep.nonv {K : PySem.W.Frag} {F : Addr → Prop} {H : Hp} {v : V} (r : Rep K F H .non v) : v = .non := by rw [Rep] at r; exact r
theorem Rep.dicv {K : PySem.W.Frag} {F : Addr → Prop} {H : Hp} {ks : List Key} {ds : List D} {v : V} (r : Rep K F H (.dic ks ds) v) : ∃ a vs, v = .ref a ∧ F a ∧ H a = some (.dK (ks.zip vs)) ∧ ks.length = vs.length ∧ Reps K F H ds vs := by rw [Rep] at r; exact r
def truD : D → R Bool
  | .non => .ok false
  | .bl b => .ok b
  | .int i => .ok (i != 0)
  | .str z => if z.length ≤ 16777216 then .ok ((z.length : Int) != 0) else .no
  | .tup ds => .ok (!ds.isEmpty)
  | .lst ds => .ok (!ds.isEmpty)
  | .fix ds => .ok (!ds.isEmpty)
  | .dic ks _ => .ok (!ks.isEmpty)
  | .obj _ _ => .no
namespace B
def tru (a : En → R D) : En → R Bool := fun e => (a e).bind truD
end B
theorem Reps.isEmpty {K : PySem.W.Frag} {F : Addr → Prop} {H : Hp} {ds : List D} {vs : List V} (r : Reps K F H ds vs) : (!ds.isEmpty) = !vs.isEmpty := by
  cases ds with
  | nil => rw [Reps] at r; rw [r]; rfl
  | cons d ds => rw [Reps] at r; obtain ⟨v, r, e, _⟩ := r; rw [e]; rfl
theorem pb_tru (ha : PX X W a fa) (he : ∀ whole, isTrue a X.env whole = (do let v ← whole; standAt a.pos; holding [v] (truthy v)) := by intro _; rfl) : PB X W a (B.tru fa) := convT (pt_truth ha he) fun σ H Q h =>
  Rg.seq (k := fun d _ => truD d) h fun d v H1 s1 r1 h1 => by
    cases d with
    | non => rw [Rep.nonv r1]; exact ⟨_, rfl, h1.get (fun _ => rfl) (Same.refl H1) rfl⟩
    | bl b => rw [r1.bl]; exact ⟨_, rfl, h1.get (fun _ => rfl) (Same.refl H1) rfl⟩
    | int b => rw [r1.int]; exact ⟨_, rfl, h1.get (fun _ => rfl) (Same.refl H1) rfl⟩
    | str z =>
      rw [r1.str]
      by_cases l : z.length ≤ 16777216
      · exact ⟨_, ⟨by rw [sizeLine_eq]; exact l, rfl⟩, h1.get (fun _ => if_pos l) (Same.refl H1) rfl⟩
      · exact (h1.no fun _ => if_neg l).elim
    | tup ds =>
      obtain ⟨a, vs, e, hH, rr⟩ := r1.tup
      rw [e]
      exact ⟨_, .inr (.inl ⟨vs, hH, rr.isEmpty⟩), h1.get (fun _ => rfl) (Same.refl H1) rfl⟩
    | lst ds =>
      obtain ⟨a, vs, e, _, hH, rr⟩ := r1.lst
      rw [e]
      exact ⟨_, .inl ⟨vs, SqL.of hH, rr.isEmpty⟩, h1.get (fun _ => rfl) (Same.refl H1) rfl⟩
    | fix ds =>
      obtain ⟨a, vs, e, hH, rr⟩ := r1.fix
      rw [e]
      exact ⟨_, .inl ⟨vs, hH.sq, rr.isEmpty⟩, h1.get (fun _ => rfl) (Same.refl H1) rfl⟩
    | dic ks ds =>
      obtain ⟨a, vs, e, _, hH, l, rr⟩ := Rep.dicv r1
      rw [e]
      refine ⟨!ks.isEmpty, .inr (.inr ⟨_, hH, ?_⟩), h1.get (fun _ => rfl) (Same.refl H1) rfl⟩
      cases ks with
      | nil => cases vs with
        | nil => rfl
        | cons _ _ => cases l
      | cons k ks => cases vs with
        | nil => cases l
        | cons _ _ => rfl
    | obj fs ds => exact (h1.no fun _ => rfl).elim
theorem px_notT {t : En → R Bool} (h : PT X (.UnaryOp .Not a pos) (tT X.K X.mg W t)) : PB X W (.UnaryOp .Not a pos) t := h
/-! ### list.index -/
def idxD : List PyData → PyData → Nat → Option Nat
  | [], _, _ => none
  | z :: zs, d, n => if PyData.eqv z d = true then some n else idxD zs d (n + 1)
theorem idxD_ok : ∀ {zs : List PyData} {d : PyData} {n j : Nat}, idxD zs d n = some j → ∃ i z, j = n + i ∧ zs[i]? = some z ∧ PyData.eqv z d = true ∧ ∀ (m : Nat) (z' : PyData), m < i → zs[m]? = some z' → PyData.eqv z' d = false
  | [], d, n, j, h => by rw [idxD] at h; cases h
  | z :: zs, d, n, j, h => by
    rw [idxD] at h
    by_cases e : PyData.eqv z d = true
    · rw [if_pos e] at h
      exact ⟨0, z, (Option.some.inj h).symm, rfl, e, fun m z' hm => absurd hm (Nat.not_lt_zero m)⟩
    · rw [if_neg e] at h
      obtain ⟨i, z2, e1, e2, e3, e4⟩ := idxD_ok h
      refine ⟨i + 1, z2, by omega, e2, e3, fun m z' hm hz => ?_⟩
      cases m with
      | zero => rw [List.getElem?_cons_zero] at hz; cases hz; simpa using e
      | succ m => exact e4 m z' (by omega) hz
/-- SeqAt's shape: at most 64 deep, nothing but plain data -/
def indexD (ds : List D) (d : D) : R D := if SeqAt.shaped (D.lst ds).py = true ∧ SeqAt.shaped d.py = true ∧ (D.lst ds).dt 9 = true ∧ d.dt 9 = true then (R.of (idxD (D.pys ds) d.py 0)).bind fun j => .ok (.int (j : Nat)) else .no
def index1 (ds : List D) : List D → R D
  | [d] => indexD ds d
  | _ => .no
namespace E
/-- a method of a list -/
def methL (g : List D → List D → R D) (o : En → R D) (a : En → R (List D)) : En → R D := fun e => (o e).bind fun x => match x with
  | .lst ds => (a e).bind fun xs => g ds xs
  | _ => .no
end E
theorem px_index {fs : En → R (List D)} {p2 p3 : Pos} (hu : X.A.units + 65 < cLine) (ho : PX X W a fa) (hb : PXs X W [b] fs)
    (hbase : attributeBase a "index" X.env (eval a X.env) = eval a X.env := by rfl)
    (hfew : ((backTo p3 (starEach [b] X.env)).all (fun x => !x.1) && (backToKw p3 (keywordEach [] X.env)).all (fun x => x.1.isSome)
      && decide ([b].length + ([] : List Keyword).length + (if ([] : List Keyword).isEmpty then 0 else 1) < 30)) = true := by rfl)
    (hline : (p2.endLine == p3.line) = true := by rfl) (hs : starEach [b] X.env = (false, eval b X.env) :: starEach [] X.env := by rfl) (hplain : (backTo p3 (starEach [] X.env)).any (·.1) = false := by rfl) :
    PX X W (.Call (.Attribute a "index" p2) [b] [] p3) (E.methL index1 fa fs) :=
  convE (pe_bm PySem.F.plainAttrs_list PySem.F.slot_list_index PySem.F.type_list_index (mt_indexD hu) ho hb hbase hfew hline hs hplain) fun σ H Q h =>
  Rg.seq (k := fun x e => match x with
    | .lst ds => (fs e).bind fun xs => index1 ds xs
    | _ => .no) h fun d v H1 s1 r1 h1 => by
    cases d with
    | lst ds =>
      obtain ⟨q, vs, e, fq, hH, rr⟩ := r1.lst
      refine ⟨?_, Rg.seq (k := fun xs _ => index1 ds xs) h1 fun es us H2 s2 r2 h2 => ?_⟩
      · rw [e]; exact .inl ⟨rfl, vs, SqL.of hH⟩
      · match es, r2, h2 with
        | [d], r2, h2 =>
          obtain ⟨w, ew, rw1⟩ := r2.one_
          by_cases c : SeqAt.shaped (D.lst ds).py = true ∧ SeqAt.shaped d.py = true ∧ (D.lst ds).dt 9 = true ∧ d.dt 9 = true
          · cases q : idxD (D.pys ds) d.py 0 with
            | none => exact (h2.no fun _ => show (if _ then _ else _) = _ by rw [if_pos c, q]; rfl).elim
            | some j =>
              obtain ⟨i, z, e1, e2, e3, e4⟩ := idxD_ok q
              have e5 : i = j := by omega
              subst e5
              have dp := Rep.dp _ 9 _ c.2.2.1 (r1.mono s2)
              have dq := Rep.dp _ 9 _ c.2.2.2 rw1
              have c1 := c.1
              rw [D.py] at dp c1
              rw [e] at dp ⊢
              exact ⟨_, w, d.py, D.pys ds, i, z, rfl, ew, dp, dq, c1, c.2.1, e2, e3, e4, h2.get (fun _ => show (if _ then _ else _) = _ by rw [if_pos c, q]; rfl) (Same.refl H2) rep_int⟩
          · exact (h2.no fun _ => show (if _ then _ else _) = _ from if_neg c).elim
        | [], _, h2 => exact (h2.no fun _ => rfl).elim
        | x :: y :: z, r2, h2 => exact (h2.no fun _ => rfl).elim
    | _ => exact (h1.no fun _ => rfl).elim
end
end Lp

/-! # The pure layer, part 15: the module's own values, names changed -/
namespace Lp
open PySem L2

section
variable {X : Cx} {c : Cc} {W : WX} {a : Expr} {pos p : Pos} {x y : Str} {i : Nat} {fa : En → R D}
theorem px_globI {n : Int} (hg : Gl X x) (hm : ∃ t, X.mg x = some (.int n t)) (hd : (x == ("__debug__" : Str)) = false := by decide) : PX X W (.Name x pos) (E.c (.int n)) := by
  obtain ⟨t, hm⟩ := hm
  exact px_glob hg hm (v := .int n) ⟨t, rfl⟩ (fun _ => rep_int) hd
theorem px_globS {z : Str} (hg : Gl X x) (hm : ∃ t, X.mg x = some (.str z t)) (hd : (x == ("__debug__" : Str)) = false := by decide) : PX X W (.Name x pos) (E.c (.str z)) := by
  obtain ⟨t, hm⟩ := hm
  exact px_glob hg hm (v := .str z) ⟨t, rfl⟩ (fun _ => rep_str) hd
theorem px_globD {q : Addr} {d : D} (hg : Gl X x) (hm : X.mg x = some (.ref q)) (r : ∀ H, Rep X.K All H d (.ref q)) (hd : (x == ("__debug__" : Str)) = false := by decide) : PX X W (.Name x pos) (E.c d) := px_glob hg hm (v := .ref q) rfl r hd
/-! x op= a -/
def IpD (X : Cx) (op : Operator) (g : D → D → R D) : Prop := ∃ ti : TIp, PIp X op ti ∧ ∀ (d e : D) (x y : V) (H : Hp) (Q : VK) (mg : Str → Option Value) (W : WX) (σ : L2.St), Rep X.K All H d x → Rep X.K All H e y → tX X.K mg W (fun _ => g d e) σ H Q → ti x y H Q
def addI : D → D → R D
  | .int i, .int j => .ok (.int (i + j))
  | _, _ => .no
theorem id_add : IpD X .Add addI := ⟨_, ip_add, fun d e x y H Q mg W σ r1 r2 z => by
  cases d with
  | int i =>
    cases e with
    | int j => exact ⟨i, j, r1.int, r2.int, z.get (fun _ => rfl) (Same.refl H) rep_int⟩
    | _ => exact (z.no fun _ => rfl).elim
  | _ => exact (z.no fun _ => rfl).elim⟩
theorem id_sub : IpD X .Sub subD := ⟨_, ip_sub, fun d e x y H Q mg W σ r1 r2 z => by
  cases d with
  | int i =>
    cases e with
    | int j => exact ⟨i, j, r1.int, r2.int, z.get (fun _ => rfl) (Same.refl H) rep_int⟩
    | _ => exact (z.no fun _ => rfl).elim
  | _ => exact (z.no fun _ => rfl).elim⟩
namespace S
def aug (i : Nat) (g : D → D → R D) (f : En → R D) : En → Out := fun e => match e[i]? with
  | some (.sh d0) => (f e).out e fun d => (g d0 d).out e fun r => if r.pure = true then .nx (e.set i (.sh r)) else .no
  | _ => .no
end S
theorem pm_aug {op : Operator} {g : D → D → R D} (hN : X.N.Nodup) (ho : IpD X op g) (he : PX X W a fa) (hi : X.N[i]? = some y := by rfl) (hx : Loc X.env.scope y := by first | exact Or.inl rfl | exact Or.inr rfl) (hf : X.fn y = true ∨ X.env.scope.names.lookup y = some .local := by first | exact .inl rfl | exact .inr rfl | assumption) :
    PM X c W (.AugAssign (.Name y p) op a pos) (S.aug i g fa) := by
  obtain ⟨ti, hti, hq⟩ := ho
  refine convS (ps_aug hN hi hx he hti hf) fun Ed σ H ⟨e, F, A, ok, h⟩ => ?_
  unfold S.aug at h
  cases q : e[i]? with
  | none => rw [q] at h; exact h.elim
  | some s =>
    cases s with
    | no => rw [q] at h; exact h.elim
    | ow s d => rw [q] at h; exact h.elim
    | sh d0 =>
      rw [q] at h
      obtain ⟨_, v, hv, r0⟩ := ok.sl i _ q
      refine ⟨v, hv, Rg.out ok h fun d y H1 ok1 s1 r1 h1 => ?_⟩
      refine hq d0 d v y H1 _ X.mg W σ (r0.all.mono s1) r1 (Rg.out (f := fun _ => g d0 d) ok1 h1 fun r z H2 ok2 s2 r2 h2 => ?_)
      replace h2 : FinS c X.K X.mg W Ed (if r.pure = true then .nx (e.set i (.sh r)) else .no) := h2
      by_cases pr : r.pure = true
      · rw [if_pos pr] at h2
        obtain ⟨A', ok3⟩ := ok2.set_sh (i := i) (Rep.of_pure (F' := F) r z pr r2)
        exact h2 _ H2 F A' ok3
      · rw [if_neg pr] at h2; exact h2.elim
end
end Lp

/-! # The pure layer, part 16: words for the printed walks -/
namespace Lp
open PySem L2 PySem.Spec PyProof.Rows PySem.W PySem.Calls

/-- an own function, as its callers know it -/
def Fk (P : Program) (w : World) (K : PySem.W.Frag) (mg : Str → Option Value) (base : Heap) (k : Nat) (x : Str) (ps : List Str) (sp : Sp) : Prop :=
  ∃ a fd, FnOk P w K mg base (L2.CX P w) k a fd ps sp ∧ mg x = some (.ref a) ∧ PySem.W.keepIn K (.ref a) = true ∧ Binds K fd ps []
section
variable {X : Cx} {W : WX} {k n : Nat} {ps : List Str} {x : Str} {p pos : Pos} {e : Expr} {es : List Expr} {fs : En → R (List D)}
theorem px_own {m : List D → R D} (F : Fk X.prog X.w X.K X.mg X.base k x ps (spG (repX X.K) X.K X.mg n m)) (tk : Takes X W) (hr : Room k X.A) (hg : Gl X x) (hn : ∀ ds, ds.length = n ∨ m ds = .no) (ha : PXs X W (e :: es) fs) (hdb : (x == ("__debug__" : Str)) = false := by decide)
    (he : starEach (e :: es) X.env = (false, eval e X.env) :: starEach es X.env := by rfl) (hpl : (backTo pos (starEach es X.env)).any (·.1) = false := by rfl) :
    PX X W (.Call (.Name x p) (e :: es) [] pos) (E.call m fs) := by
  obtain ⟨a, fd, F, hm, hk, hb⟩ := F
  exact px_call F tk hr hg hm hk hb hn ha hdb he hpl
theorem pf_own {m : List D → R (List D)} (F : Fk X.prog X.w X.K X.mg X.base k x ps (spG (repF X.K) X.K X.mg n m)) (tk : Takes X W) (hr : Room k X.A) (hg : Gl X x) (hn : ∀ ds, ds.length = n ∨ m ds = .no) (ha : PXs X W (e :: es) fs) (hdb : (x == ("__debug__" : Str)) = false := by decide)
    (he : starEach (e :: es) X.env = (false, eval e X.env) :: starEach es X.env := by rfl) (hpl : (backTo pos (starEach es X.env)).any (·.1) = false := by rfl) :
    PF X W (.Call (.Name x p) (e :: es) [] pos) (Fl.call m fs) := by
  obtain ⟨a, fd, F, hm, hk, hb⟩ := F
  exact pf_call F tk hr hg hm hk hb hn ha hdb he hpl
end
section
variable {P : Program} {w : World} {K : PySem.W.Frag} {mg : Str → Option Value} {base : Heap} {x qual : Str} {params : Arguments} {body : List Stmt} {scope : Scope} {f : Addr} {fd : FuncData} {N ps : List Str} {k loc : Nat} {m : En → Out}
theorem fnX' (F : FunD K x qual params body scope [] [] f fd) (S : FnScope N ps scope) (hN : N.length = ps.length + loc)
    (hb : ∀ (cdv : Value) (A : Around) (outer : List Env) (s : Shared) (H : Hp) (E : XK) (c : Cc), Room k (A.deeper (envOfC qual scope s.heap.objs.size f cdv)) → c.fl = false → c.pl = true →
      Takes (cxOf (L2.CX P w) P w K mg base N qual scope f cdv A outer s H E) (fun cls d _ H => E cls d H) →
      PassesOwn (model P w) (A.deeper (envOfC qual scope s.heap.objs.size f cdv)) (envOfC qual scope s.heap.objs.size f cdv) (cxOf (L2.CX P w) P w K mg base N qual scope f cdv A outer s H E).xe →
      PMs (cxOf (L2.CX P w) P w K mg base N qual scope f cdv A outer s H E) c (fun cls d _ H => E cls d H) body m) : FnOk P w K mg base (L2.CX P w) (k + 1) f fd ps (spG (repX K) K mg ps.length (Fn.X ps.length loc m)) :=
  fnX F S hN fun cdv A outer s H E c hr h1 h2 => hb cdv A outer s H E c hr h1 h2 (takes_of rfl rfl rfl rfl) (passes_of (X := cxOf (L2.CX P w) P w K mg base N qual scope f cdv A outer s H E) rfl)
/-- the law's def, at its script -/
theorem law_sp {H : Hp} {a : Addr} {ns : List Int} {m : List D → R D} (hm : m [.fix (ns.map D.int)] = .ok (.bl true)) (hS : SqL K H a (ns.map V.int)) : spG (repX K) K mg 1 m [.ref a] H (fun v _ => v = .bl true) fun _ _ _ => False := by
  refine ⟨rfl, [.fix (ns.map D.int)], .one ?_, ?_⟩
  · rw [Rep]
    exact ⟨a, _, rfl, .of hS trivial, Reps.of_ints⟩
  · rw [hm]
    exact fun b H' _ r => r.bl
theorem cx_none {outer : List Env} {H : Hp} {s s' : Shared} {u : Value} (h : L2.CX P w outer H s (fun _ _ _ => False) u s') : False := by
  obtain ⟨_, _, _, _, _, _, _, _, _, _, _, _, z⟩ := h
  exact z
/-- the law's def lets nothing out -/
theorem fn_calm {sp : Sp} (F : FnOk P w K mg base (L2.CX P w) k f fd ps sp) : FnOk P w K mg base CX0 k f fd ps (fun vs H Q _ => sp vs H Q fun _ _ _ => False) :=
  ⟨fun vs H Q E h => F.len _ _ _ _ h, fun A outer s H args us vs Q E hr he hb hv hs => codeAny_mono (F.run A outer s H args us vs Q (fun _ _ _ => False) hr he hb hv hs) fun r s' q => by
    cases r with
    | error e => exact (cx_none q).elim
    | ok fl => cases fl <;> exact q⟩
theorem fkX (F : FunD K x qual params body scope [] [] f fd) (hm : mg x = some (.ref f)) (bd : Binds K fd ps []) (S : FnScope N ps scope) (hN : N.length = ps.length + loc)
    (hb : ∀ (cdv : Value) (A : Around) (outer : List Env) (s : Shared) (H : Hp) (E : XK) (c : Cc), Room k (A.deeper (envOfC qual scope s.heap.objs.size f cdv)) → c.fl = false → c.pl = true →
      Takes (cxOf (L2.CX P w) P w K mg base N qual scope f cdv A outer s H E) (fun cls d _ H => E cls d H) →
      PassesOwn (model P w) (A.deeper (envOfC qual scope s.heap.objs.size f cdv)) (envOfC qual scope s.heap.objs.size f cdv) (cxOf (L2.CX P w) P w K mg base N qual scope f cdv A outer s H E).xe →
      PMs (cxOf (L2.CX P w) P w K mg base N qual scope f cdv A outer s H E) c (fun cls d _ H => E cls d H) body m) : Fk P w K mg base (k + 1) x ps (spG (repX K) K mg ps.length (Fn.X ps.length loc m)) :=
  ⟨f, fd, fnX F S hN fun cdv A outer s H E c hr h1 h2 => hb cdv A outer s H E c hr h1 h2 (takes_of rfl rfl rfl rfl) (passes_of (X := cxOf (L2.CX P w) P w K mg base N qual scope f cdv A outer s H E) rfl), hm, F.kp, bd⟩
theorem fkF (F : FunD K x qual params body scope [] [] f fd) (hm : mg x = some (.ref f)) (bd : Binds K fd ps []) (S : FnScope N ps scope) (hN : N.length = ps.length + loc)
    (hb : ∀ (cdv : Value) (A : Around) (outer : List Env) (s : Shared) (H : Hp) (E : XK) (c : Cc), Room k (A.deeper (envOfC qual scope s.heap.objs.size f cdv)) → c.fl = true → c.pl = true →
      Takes (cxOf (L2.CX P w) P w K mg base N qual scope f cdv A outer s H E) (fun cls d _ H => E cls d H) →
      PassesOwn (model P w) (A.deeper (envOfC qual scope s.heap.objs.size f cdv)) (envOfC qual scope s.heap.objs.size f cdv) (cxOf (L2.CX P w) P w K mg base N qual scope f cdv A outer s H E).xe →
      PMs (cxOf (L2.CX P w) P w K mg base N qual scope f cdv A outer s H E) c (fun cls d _ H => E cls d H) body m) : Fk P w K mg base (k + 1) x ps (spG (repF K) K mg ps.length (Fn.F ps.length loc m)) :=
  ⟨f, fd, fnF F S hN fun cdv A outer s H E c hr h1 h2 => hb cdv A outer s H E c hr h1 h2 (takes_of rfl rfl rfl rfl) (passes_of (X := cxOf (L2.CX P w) P w K mg base N qual scope f cdv A outer s H E) rfl), hm, F.kp, bd⟩
end
theorem Room_units65 {k : Nat} {A : Around} (r : Room k A) : A.units + 65 < cLine := by have := r.un; omega
theorem extab_nil {K : PySem.W.Frag} {mg : Str → Option Value} {C' : Addr} : ∀ (cl : Str) (b : Bool), List.lookup cl ([] : List (Str × Bool)) = some b → ∀ C, mg cl = some (.ref C) → PySem.W.exmOne K (.ref C) (.ref C') = some b := fun cl b h => by cases h
theorem extab_cons {K : PySem.W.Frag} {mg : Str → Option Value} {C' D : Addr} {x : Str} {k : Bool} {l : List (Str × Bool)} (hx : mg x = some (.ref D)) (he : PySem.W.exmOne K (.ref D) (.ref C') = some k)
    (r : ∀ (cl : Str) (b : Bool), List.lookup cl l = some b → ∀ C, mg cl = some (.ref C) → PySem.W.exmOne K (.ref C) (.ref C') = some b) : ∀ (cl : Str) (b : Bool), List.lookup cl ((x, k) :: l) = some b → ∀ C, mg cl = some (.ref C) → PySem.W.exmOne K (.ref C) (.ref C') = some b := fun cl b h C hC => by
  rw [List.lookup_cons] at h
  split at h
  · rename_i e
    rw [beq_iff_eq] at e
    subst e
    cases h
    rw [hx] at hC
    cases hC
    exact he
  · exact r cl b h C hC
def blkB (N : List Str) (sc scope : Scope) (own : List (Str × Nat)) : Bool :=
  scope.names.all (fun y => scope.names.lookup y.1 == some y.2) && (own.all (fun p => N[p.2]? == some p.1) && (scope.names.all (fun y => if y.2 == .free then (sc.names.lookup y.1 == some .cell || sc.names.lookup y.1 == some .free) else true) &&
    scope.names.all (fun y => if y.2 == .local || y.2 == .cell then ((own.map (·.1)).contains y.1 || !N.contains y.1) else true)))
theorem blk_of {N : List Str} {sc scope : Scope} {own : List (Str × Nat)} (h : blkB N sc scope own = true) (hk : scope.kind = .function := by rfl) : BlkOk N sc scope own := by
  unfold blkB at h
  rw [Bool.and_eq_true, Bool.and_eq_true, Bool.and_eq_true, List.all_eq_true, List.all_eq_true, List.all_eq_true, List.all_eq_true] at h
  obtain ⟨h1, h2, h3, h4⟩ := h
  refine ⟨hk, fun y hy => by simpa using h1 y hy, fun p hp => by simpa using h2 p hp, fun y hy e => ?_, fun y hy e => ?_⟩
  · have := h3 y hy
    rw [if_pos (by rw [e]; rfl), Bool.or_eq_true] at this
    rcases this with z | z
    · exact .inl (by simpa using z)
    · exact .inr (by simpa using z)
  · have := h4 y hy
    rw [if_pos (by rcases e with e | e <;> rw [e] <;> rfl), Bool.or_eq_true] at this
    rcases this with z | z
    · exact .inl (by simpa using z)
    · exact .inr (by simpa using z)
end Lp

/-! # The pure layer, part 17: dicts -/
namespace Lp
open PySem L2

/-! ### d[k] = v of data -/
def hasK (ks : List Key) (k : Key) : Bool := ks.any fun k' => decide (k' = k)
def keysP (ks : List Key) (k : Key) : List Key := if hasK ks k = true then ks else ks ++ [k]
def valsP {α : Type} (ks : List Key) (ds : List α) (k : Key) (d : α) : List α := if hasK ks k = true then List.zipWith (fun k' d' => if k' = k then d else d') ks ds else ds ++ [d]
theorem any_zip (k : Key) : ∀ (ks : List Key) (vs : List V), ks.length = vs.length → ((ks.zip vs).any fun kv => decide (kv.1 = k)) = hasK ks k
  | [], _, _ => rfl
  | x :: ks, [], h => by cases h
  | x :: ks, y :: vs, h => by
    rw [List.zip_cons_cons, List.any_cons, any_zip k ks vs (by simpa using h)]
    rfl
theorem map_zip_put (k : Key) (v : V) : ∀ (ks : List Key) (vs : List V), ks.length = vs.length → (ks.zip vs).map (fun kv => if kv.1 = k then (kv.1, v) else kv) = ks.zip (List.zipWith (fun k' d' => if k' = k then v else d') ks vs)
  | [], _, _ => rfl
  | x :: ks, [], h => by cases h
  | x :: ks, y :: vs, h => by
    rw [List.zip_cons_cons, List.map_cons, map_zip_put k v ks vs (by simpa using h), List.zipWith_cons_cons, List.zip_cons_cons]
    by_cases e : x = k
    · rw [if_pos e, if_pos e]
    · rw [if_neg e, if_neg e]
theorem putK_zip (ks : List Key) (vs : List V) (k : Key) (v : V) (h : ks.length = vs.length) : putK (ks.zip vs) k v = (keysP ks k).zip (valsP ks vs k v) := by
  unfold putK keysP valsP
  rw [any_zip k ks vs h]
  by_cases c : hasK ks k = true
  · rw [if_pos c, if_pos c, if_pos c, map_zip_put k v ks vs h]
  · rw [if_neg c, if_neg c, if_neg c, List.zip_append h]
    rfl
theorem valsP_len {α : Type} (ks : List Key) (ds : List α) (k : Key) (d : α) (h : ks.length = ds.length) : (keysP ks k).length = (valsP ks ds k d).length := by
  unfold keysP valsP
  by_cases c : hasK ks k = true
  · rw [if_pos c, if_pos c, List.length_zipWith, ← h, Nat.min_self]
  · rw [if_neg c, if_neg c, List.length_append, List.length_append, h]; rfl
theorem Reps.zipW {K : PySem.W.Frag} {F : Addr → Prop} {H : Hp} {k : Key} {d : D} {v : V} (r : Rep K F H d v) : ∀ (ks : List Key) {ds : List D} {vs : List V}, Reps K F H ds vs → Reps K F H (List.zipWith (fun k' d' => if k' = k then d else d') ks ds) (List.zipWith (fun k' d' => if k' = k then v else d') ks vs)
  | [], ds, vs, h => by rw [List.zipWith_nil_left, List.zipWith_nil_left]; exact .nil
  | x :: ks, [], vs, h => by rw [Reps] at h; subst h; rw [List.zipWith_nil_right, List.zipWith_nil_right]; exact .nil
  | x :: ks, e :: ds, vs, h => by
    rw [Reps] at h
    obtain ⟨u, rest, ev, h1, h2⟩ := h
    subst ev
    rw [List.zipWith_cons_cons, List.zipWith_cons_cons]
    refine .cons ?_ (Reps.zipW r ks h2)
    by_cases c : x = k
    · rw [if_pos c, if_pos c]; exact r
    · rw [if_neg c, if_neg c]; exact h1
theorem Reps.valsP {K : PySem.W.Frag} {F : Addr → Prop} {H : Hp} {ks : List Key} {ds : List D} {vs : List V} {k : Key} {d : D} {v : V} (h : Reps K F H ds vs) (r : Rep K F H d v) : Reps K F H (valsP ks ds k d) (valsP ks vs k v) := by
  unfold Lp.valsP
  by_cases c : hasK ks k = true
  · rw [if_pos c, if_pos c]; exact Reps.zipW r ks h
  · rw [if_neg c, if_neg c]; exact h.append (.one r)
def keyD : D → Option Key
  | .int i => some (.inl i)
  | .str x => some (.inr x)
  | _ => none
theorem keyD_rep {K : PySem.W.Frag} {F : Addr → Prop} {H : Hp} {d : D} {v : V} {k : Key} (e : keyD d = some k) (r : Rep K F H d v) : v = kV k := by
  cases d with
  | int i => cases e; exact r.int
  | str x => cases e; exact r.str
  | _ => cases e
/-! ### a new dict -/
abbrev repFd (K : PySem.W.Frag) : Hp → Hp → List Key × List D → V → Prop := fun H H' kd v => ∃ p vs, v = .ref p ∧ H p = none ∧ H' p = some (.dK (kd.1.zip vs)) ∧ kd.1.length = vs.length ∧ Reps K (fun a => a ≠ p) H' kd.2 vs
instance {K : PySem.W.Frag} : MonoR (repFd K) := ⟨fun H H1 H' a b s ⟨p, vs, e, n, q⟩ => ⟨p, vs, e, s.free n, q⟩⟩
abbrev PFd (X : Cx) (W : WX) (x : Expr) (f : En → R (List Key × List D)) : Prop := PE X x (Rg (repFd X.K) X.K X.mg W f)
namespace Fd
def nil : En → R (List Key × List D) := fun _ => .ok ([], [])
def one1 (k d : D) : R (List Key × List D) := match keyD k with
  | some k => if d.pure = true then .ok ([k], [d]) else .no
  | none => .no
/-- {k: v}, both without errors of their own -/
def one (fk fv : En → R D) : En → R (List Key × List D) := fun e => (fk e).noex.bind fun k => (fv e).noex.bind fun d => one1 k d
end Fd
section
variable {X : Cx} {c : Cc} {W : WX} {pos p1 p2 p3 : Pos} {k v a b : Expr} {fk fv : En → R D} {i : Nat} {y : Str} {st : Stmt}
theorem pfd_nil : PFd X W (.Dict [] [] pos) Fd.nil := convE pe_dnewK fun σ H Q h p hp =>
  h.get (fun _ => rfl) (same_new hp) ⟨p, [], rfl, hp, upd_same, rfl, .nil⟩
theorem pfd_one (hk : PX X W0 k fk) (hv : PX X W0 v fv) : PFd X W (.Dict [some k] [v] pos) (Fd.one fk fv) :=
  convE (pe_disp (pps_cons hk hv pps_nil) rfl rfl (by simp) (by simp)) fun σ H Q ⟨e, V, h⟩ p hp => by
    have s0 : Same H (upd H p (.dK [])) := same_new hp
    unfold Fd.one at h
    show tX X.K X.mg W0 fk σ (upd H p (.dK [])) _
    cases q1 : fk e with
    | ok kd =>
      refine ⟨e, V.mono s0, ?_⟩
      rw [q1] at h ⊢
      intro x H1 s1 r1
      show tX X.K X.mg W0 fv σ H1 _
      refine ⟨e, (V.mono s0).mono s1, ?_⟩
      cases q2 : fv e with
      | ok vd =>
        rw [q2] at h
        intro y H2 s2 r2
        replace h : Fin (repFd X.K) X.mg W σ H (Fd.one1 kd vd) Q := h
        unfold Fd.one1 at h
        cases q3 : keyD kd with
        | none => rw [q3] at h; exact h.elim
        | some k =>
          rw [q3] at h
          replace h : Fin (repFd X.K) X.mg W σ H (if vd.pure = true then .ok ([k], [vd]) else .no) Q := h
          by_cases pv : vd.pure = true
          · rw [if_pos pv] at h
            have hp2 : H2 p = some (.dK []) := s2 _ _ (s1 _ _ upd_same)
            have ek := keyD_rep q3 r1
            refine ⟨hp2, [(k, y)], by rw [ek]; rfl, by simp, ?_⟩
            have sH2 : Same H H2 := (s0.trans s1).trans s2
            have sm : Same H (upd H2 p (.dK (mergeK [] [(k, y)]))) := fun b o eb => by
              have nb : b ≠ p := fun z => by rw [z, hp] at eb; cases eb
              rw [upd_ne nb]; exact sH2 b o eb
            refine h (.ref p) _ sm ⟨p, [y], rfl, hp, upd_same, rfl, ?_⟩
            have kp : Keeps (fun a => a ≠ p) H2 (upd H2 p (.dK (mergeK [] [(k, y)]))) := fun b o eb fb => by
              by_cases z : b = p
              · subst z
                rw [hp2] at eb
                rcases fb with f | ⟨xs, f⟩ | ⟨ob, u, f⟩
                · exact absurd rfl f
                · rw [f] at eb; cases eb
                · rw [f] at eb; cases eb
              · rw [upd_ne z]; exact eb
            exact .one (Rep.keeps kp (fun _ z => z) _ _ (Rep.of_pure vd y pv r2))
          · rw [if_neg pv] at h; exact h.elim
      | ex cl => rw [q2] at h; exact h.elim
      | no => rw [q2] at h; exact h.elim
    | ex cl => rw [q1] at h; exact h.elim
    | no => rw [q1] at h; exact h.elim

/-! own dicts -/
theorem StOk.put_newD {K : PySem.W.Frag} {F : Addr → Prop} {A : Nat → List Addr} {H0 H : Hp} {σ : L2.St} {e : En} {p : Addr} {ks : List Key} {ds : List D} {vs : List V} (ok0 : StOk c K F A H0 σ e) (hi : i < e.length) (s : Same H0 H) (hp : H0 p = none) (hH : H p = some (.dK (ks.zip vs))) (hl : ks.length = vs.length) (r : Reps K (fun a => a ≠ p) H ds vs)
    (g : D.pures ds = true) : ∃ A', StOk c K F A' H (σ.set i (some (.ref p))) (e.set i (.ow (.node .leaf) (.dic ks ds))) := by
  have ok := ok0.mono s
  refine ⟨_, ok.put (B := [p]) hi (fun _ _ e _ => e) (fun _ z => z) ⟨.ref p, rfl, ?_⟩ (by simp) fun a ha => ?_⟩
  · rw [Own]
    exact ⟨p, vs, [], rfl, hH, hl, rfl, OwnL.of_leaf (Reps.of_pure ds vs g r)⟩
  · have ea : a = p := List.mem_singleton.mp ha
    rw [ea]
    exact ⟨fun z => ok0.fh p z hp, fun j _ => ok0.free hp j⟩
theorem StOk.dic {K : PySem.W.Frag} {F : Addr → Prop} {A : Nat → List Addr} {H : Hp} {σ : L2.St} {e : En} {ks : List Key} {ds : List D} (ok : StOk c K F A H σ e) (q : e[i]? = some (.ow (.node .leaf) (.dic ks ds))) :
    ∃ p vs, σ[i]? = some (some (.ref p)) ∧ H p = some (.dK (ks.zip vs)) ∧ ks.length = vs.length ∧ A i = [p] ∧ Reps K F H ds vs := by
  obtain ⟨v, e1, o⟩ := ok.sl i _ q
  rw [Own] at o
  obtain ⟨p, vs, B, ev, hH, hl, eA, o⟩ := o
  obtain ⟨eB, r⟩ := OwnL.leaf o
  exact ⟨p, vs, by rw [e1, ev], hH, hl, by rw [eA, eB], r⟩
theorem StOk.put_dic {K : PySem.W.Frag} {F : Addr → Prop} {A : Nat → List Addr} {H : Hp} {σ : L2.St} {e : En} {ks ls : List Key} {ds es : List D} {p : Addr} {us : List V} (ok : StOk c K F A H σ e) (q : e[i]? = some (.ow (.node .leaf) (.dic ks ds)))
    (hp : σ[i]? = some (some (.ref p))) (hA : A i = [p]) (hl : ls.length = us.length) (r : Reps K F H es us) : StOk c K F A (upd H p (.dK (ls.zip us))) σ (e.set i (.ow (.node .leaf) (.dic ls es))) := by
  have np : ¬ F p := ok.fa i p (by rw [hA]; exact List.mem_cons_self)
  have hi : i < e.length := (List.getElem?_eq_some_iff.mp q).1
  obtain ⟨p', vs, e1, hH, _, eA, _⟩ := ok.dic q
  have ep : p' = p := by
    rw [hp] at e1
    cases e1
    rfl
  subst ep
  have kp : Keeps F H (upd H p' (.dK (ls.zip us))) := fun b o eb fb => by
    by_cases z : b = p'
    · subst z
      rcases fb with f | ⟨xs, f⟩ | ⟨ob, u, f⟩
      · exact absurd f np
      · rw [hH] at eb; rw [f] at eb; cases eb
      · rw [hH] at eb; rw [f] at eb; cases eb
    · rw [upd_ne z]; exact eb
  have := ok.put (i := i) (v := .ref p') (s := .ow (.node .leaf) (.dic ls es)) (B := [p']) (H' := upd H p' (.dK (ls.zip us))) hi (fun b o eb nb => by
      rw [hA] at nb
      rw [upd_ne (by simpa using nb)]; exact eb) (fun b hb => by
      by_cases z : b = p'
      · rw [z, upd_same]; exact fun z => (nomatch z)
      · rw [upd_ne z]; exact hb) ⟨.ref p', rfl, by rw [Own]; exact ⟨p', us, [], rfl, upd_same, hl, rfl, OwnL.of_leaf (Reps.keeps kp (fun _ z => z) _ _ r)⟩⟩ (by simp) (fun a ha => by
      have ea : a = p' := List.mem_singleton.mp ha
      rw [ea]
      exact ⟨np, fun j hj z => hj (ok.dj j i p' z (by rw [hA]; exact List.mem_cons_self))⟩)
  rw [set_back hp] at this
  have eA' : putA A i [p'] = A := by
    funext j
    by_cases z : j = i
    · rw [z, putA_same, hA]
    · rw [putA_ne z]
  rw [eA'] at this
  exact this
namespace S
def ownD (i : Nat) (f : En → R (List Key × List D)) : En → Out := fun e => (f e).out e fun kd => if D.pures kd.2 = true then .nx (e.set i (.ow (.node .leaf) (.dic kd.1 kd.2))) else .no
def withD (i : Nat) (e : En) (k : List Key → List D → Out) : Out := match e[i]? with
  | some (.ow (.node .leaf) (.dic ks ds)) => k ks ds
  | _ => .no
def putK1 (i : Nat) (e : En) (ks : List Key) (ds : List D) (k d : D) : Out := match keyD k with
  | some k => if ks.length < 16777216 then .nx (e.set i (.ow (.node .leaf) (.dic (keysP ks k) (valsP ks ds k d)))) else .no
  | none => .no
/-- x[k] = v -/
def dput (i : Nat) (fv fk : En → R D) : En → Out := fun e => withD i e fun ks ds => (fv e).out e fun d => (fk e).out e fun k => putK1 i e ks ds k d
end S
theorem pm_ownD {f : En → R (List Key × List D)} (h : PS X st (tAsg (Rg (repFd X.K) X.K X.mg W f) (gName i))) : PM X c W st (S.ownD i f) :=
  convS h fun Ed σ H ⟨e, F, A, ok, h⟩ => Rg.out ok h fun kd v H1 ok1 s ⟨p, vs, ev, hp, hH, hl, r⟩ q => by
    subst ev
    replace q : FinS c X.K X.mg W Ed (if D.pures kd.2 = true then .nx (e.set i (.ow (.node .leaf) (.dic kd.1 kd.2))) else .no) := q
    by_cases g : D.pures kd.2 = true
    · rw [if_pos g] at q
      by_cases hi : i < e.length
      · obtain ⟨A', ok2⟩ := ok.put_newD hi s hp hH hl r g
        exact q _ H1 F A' ok2
      · refine q _ H1 F A ?_
        rw [List.set_eq_of_length_le (show σ.length ≤ i by rw [ok.len]; omega), List.set_eq_of_length_le (show e.length ≤ i by omega)]
        exact ok1
    · rw [if_neg g] at q; exact q.elim
theorem withD_inv {K : PySem.W.Frag} {mg : Str → Option Value} {Ed : Ends} {e : En} {k : List Key → List D → Out} (h : FinS c K mg W Ed (S.withD i e k)) : ∃ ks ds, e[i]? = some (.ow (.node .leaf) (.dic ks ds)) ∧ FinS c K mg W Ed (k ks ds) := by
  unfold S.withD at h
  split at h
  · rename_i ks ds q; exact ⟨ks, ds, q, h⟩
  · exact h.elim
theorem pm_dput (hu : X.A.units + 1 < cLine) (ha : PZ X c W a fv) (hb : PX X W b fk) (hN : X.N[i]? = some y := by rfl) (hv : Vis X.env.scope y := by first | exact Or.inl rfl | exact Or.inr (Or.inl rfl) | exact Or.inr (Or.inr rfl)) (hd : (y == ("__debug__" : Str)) = false := by decide)
    (hcd : (y == ("__classdict__" : Str)) = false := by decide) (hs : swapsWith a (some (.Subscript (.Name y p1) b p2)) pos.line X.env = pure false := by rfl) : PM X c W (.Assign [.Subscript (.Name y p1) b p2] a pos) (S.dput i fv fk) :=
  convS (ps_dput hu (pe_var hN hv hd hcd) hb ha hs) fun Ed σ H ⟨e, F, A, ok, h⟩ => by
    obtain ⟨ks, ds, q, h⟩ := withD_inv h
    refine Rz.out ok h fun d v H1 F1 ok1 s1 f1 r1 h => ?_
    obtain ⟨p, vs, e1, hH, hl, eA, r⟩ := ok1.dic q
    refine ⟨.ref p, e1, Rg.out ok1 h fun k kv H2 ok2 s2 r2 h => ?_⟩
    obtain ⟨p', vs2, e2, hH2, hl2, eA2, rr⟩ := ok2.dic q
    have ep : p' = p := by rw [e1] at e2; cases e2; rfl
    subst ep
    replace h : FinS c X.K X.mg W Ed (match keyD k with
      | some k => if ks.length < 16777216 then .nx (e.set i (.ow (.node .leaf) (.dic (keysP ks k) (valsP ks ds k d)))) else .no
      | none => .no) := h
    cases z : keyD k with
    | none => rw [z] at h; exact h.elim
    | some kk =>
      rw [z] at h
      replace h : FinS c X.K X.mg W Ed (if ks.length < 16777216 then .nx (e.set i (.ow (.node .leaf) (.dic (keysP ks kk) (valsP ks ds kk d)))) else .no) := h
      by_cases g : ks.length < 16777216
      · rw [if_pos g] at h
        have ek := keyD_rep z r2
        refine ⟨p', upd H2 p' (.dK (putK (ks.zip vs2) kk v)), rfl, ?_, ?_⟩
        · rw [ek]
          exact DPut.k hH2 (by rw [List.length_zip, sizeLine_eq]; omega)
        · rw [putK_zip ks vs2 kk v hl2]
          exact h σ _ F1 A (ok2.put_dic q e2 eA2 (valsP_len ks vs2 kk v hl2) (rr.valsP (Rep.keeps (.of_same s2) (fun _ z => z) _ _ r1)))
      · rw [if_neg g] at h; exact h.elim
theorem Room_units1 {k : Nat} {A : Around} (r : Room k A) : A.units + 1 < cLine := by have := r.un; omega
/-! sorted(d) -/
def intKs : List Key → Option (List Int)
  | [] => some []
  | .inl i :: r => (intKs r).map (i :: ·)
  | _ => none
theorem intKs_eq : ∀ {ks : List Key} {ns : List Int}, intKs ks = some ns → ks = ns.map Sum.inl
  | [], ns, h => by cases h; rfl
  | .inl i :: r, ns, h => by
    rw [intKs] at h
    cases q : intKs r with
    | none => rw [q] at h; cases h
    | some ms =>
      rw [q] at h
      cases h
      rw [intKs_eq q]; rfl
  | .inr _ :: r, ns, h => by cases h
namespace Fl
def sortD1 : List D → R (List D)
  | [.dic ks ds] => (R.of (intKs ks)).bind fun ns => if ns.length < 64 then .ok ((ns.mergeSort fun a b => decide (a ≤ b)).map D.int) else .no
  | _ => .no
def sortD (f : En → R (List D)) : En → R (List D) := fun e => (f e).bind sortD1
end Fl
theorem map_fst_zip_ : ∀ (ks : List Key) (vs : List V), ks.length = vs.length → (ks.zip vs).map (·.1) = ks
  | [], _, _ => rfl
  | k :: ks, [], h => by cases h
  | k :: ks, v :: vs, h => by rw [List.zip_cons_cons, List.map_cons, map_fst_zip_ ks vs (by simpa using h)]
theorem pf_sortD {fs : En → R (List D)} {p : Pos} (hc : X.calm = true) (hg : Gl X "sorted") (hm : X.mg "sorted" = none) (ha : PXs X W [a] fs) (he : starEach [a] X.env = (false, eval a X.env) :: starEach [] X.env := by rfl) (hpl : (backTo pos (starEach [] X.env)).any (·.1) = false := by rfl) :
    PF X W (.Call (.Name "sorted" p) [a] [] pos) (Fl.sortD fs) := convE (pe_callB (call_sortedDI hc) hg hm (by decide +kernel) ha (by decide) (by decide) he hpl) fun σ H Q h =>
  Rg.seq (k := fun ds _ => Fl.sortD1 ds) h fun ds vs H1 s1 r1 h1 => by
    match ds, r1, h1 with
    | [d], r1, h1 =>
      obtain ⟨v, e, rv⟩ := r1.one_
      cases d with
      | dic ks es =>
        obtain ⟨p, us, eu, _, hH, hl, rr⟩ := Rep.dicv rv
        cases q : intKs ks with
        | none => exact (h1.no fun _ => show (R.of (intKs ks)).bind _ = .no by rw [q]; rfl).elim
        | some ns =>
          by_cases g : ns.length < 64
          · refine ⟨p, ks.zip us, ns, by rw [e, eu], .of hH, by rw [map_fst_zip_ ks us hl]; exact intKs_eq q, g, fun ys l hp hs hn => ?_⟩
            have en : ys = ns.mergeSort fun a b => decide (a ≤ b) := sorted_eq (hp.trans (List.mergeSort_perm ns _).symm) hs (mergeSort_le ns)
            rw [en]
            exact h1.get (fun _ => show (R.of (intKs ks)).bind _ = _ by rw [q]; exact if_pos g) (same_new hn) (repF.new hn Reps.of_ints)
          · exact (h1.no fun _ => show (R.of (intKs ks)).bind _ = .no by rw [q]; exact if_neg g).elim
      | _ => exact (h1.no fun _ => rfl).elim
    | [], _, h1 => exact (h1.no fun _ => rfl).elim
    | x :: y :: z, r1, h1 => exact (h1.no fun _ => by cases x <;> rfl).elim
end
end Lp

/-! # The mirrors (printed by tools/gen.py) -/
namespace Mi
open PySem L2 Lp
def b_law_mix : En → Out := (S.seq (S.ret (E.bin modD (E.bin modD (E.bin powD (E.bin modD (E.bin mulD (E.var 0) (E.c (.int 48271))) (E.var 1)) (E.c (.int 3))) (E.var 1)) (E.var 2))) S.nil)
def law_mix : List D → R D := Fn.X 3 0 b_law_mix

def b_law_seed : En → Out := (S.seq (S.ret (E.bin modD (E.bin powD (E.bin modD (E.bin addD (E.bin addD (E.bin mulD (E.var 0) (E.c (.int 1103515245))) (E.bin mulD (E.c (.int 7919)) (E.var 1))) (E.c (.int 12345))) (E.c (.int 2147483647))) (E.c (.int 5))) (E.c (.int 2147483647)))) S.nil)
def law_seed : List D → R D := Fn.X 2 0 b_law_seed

def b_law_cell : En → Out := (S.seq (S.ite (B.val (E.bin ltD (E.var 1) (E.call (on1 lenD) (E.cons (E.var 0) E.nil)))) (S.seq (S.ret (E.bin ixD (E.var 0) (E.var 1))) S.nil) S.nil) (S.seq (S.ret (E.c (.int 0))) S.nil))
def law_cell : List D → R D := Fn.X 2 0 b_law_cell

def b_law_pick : En → Out := (S.seq (S.ret (E.bin modD (E.bin divD (E.var 0) (E.c (.int 97))) (E.var 1))) S.nil)
def law_pick : List D → R D := Fn.X 2 0 b_law_pick

def l1_law_asks : En → Out := (S.seq (S.set 6 (Z.px (E.call Mi.law_seed (E.cons (E.bin addD (E.call Mi.law_cell (E.cons (E.var 0) (E.cons (E.bin addD (E.bin addD (E.var 1) (E.c (.int 1))) (E.bin modD (E.var 5) (E.c (.int 6)))) E.nil))) (E.bin mulD (E.c (.int 31)) (E.var 5))) (E.cons (E.var 5) E.nil))))) (S.seq (S.set 4 (Z.px (E.call (on2 min2D) (E.cons (E.c (.int 999)) (E.cons (E.bin addD (E.var 4) (E.bin ixD (E.call lstD (E.cons (E.c (.int 0)) (E.cons (E.c (.int 1)) (E.cons (E.bin modD (E.bin divD (E.var 6) (E.c (.int 7))) (E.c (.int 20))) E.nil)))) (E.call Mi.law_pick (E.cons (E.var 6) (E.cons (E.c (.int 3)) E.nil))))) E.nil))))) (S.seq (S.app 3 (Z.px (E.call tupD (E.cons (E.var 4) (E.cons (E.bin addD (E.c (.int 1)) (E.bin modD (E.bin divD (E.var 6) (E.c (.int 11))) (E.bin ixD (E.call lstD (E.cons (E.c (.int 99)) (E.cons (E.c (.int 10)) E.nil))) (E.bin modD (E.bin divD (E.var 6) (E.c (.int 5))) (E.c (.int 2)))))) E.nil))))) S.nil)))
def b_law_asks : En → Out := (S.seq (S.own 3 (Fl.lst E.nil)) (S.seq (S.set 4 (Z.px (E.c (.int 0)))) (S.seq (S.loop (I.range1 (E.cons (Z.px (E.call Mi.law_mix (E.cons (E.call Mi.law_cell (E.cons (E.var 0) (E.cons (E.var 1) E.nil))) (E.cons (E.c (.int 9949)) (E.cons (E.bin addD (E.var 2) (E.c (.int 1))) E.nil))))) E.nil)) (.nm 5) Mi.l1_law_asks) (S.frz 3 (S.seq (S.ret (E.call (on1 tupleD) (E.cons (E.var 3) E.nil))) S.nil)))))
def law_asks : List D → R D := Fn.X 3 4 b_law_asks

def l1_law_begins : En → Out := (S.seq (S.set 6 (Z.pf (Fl.rev (E.call okLst (Fl.sort (E.cons (E.call okLst (Fl.comp (I.range1 (E.cons (E.var 3) E.nil)) (.nm 7) [7] B.yes (E.bin addD (E.bin ixD (E.var 2) (E.var 7)) (E.bin ixD (E.bin ixD (E.var 1) (E.var 7)) (E.c (.int 1)))))) E.nil)))))) (S.seq (S.set 8 (Z.var 4)) (S.seq (S.ite (B.val (E.bin geD (E.call (on1 lenD) (E.cons (E.var 6) E.nil)) (E.var 0))) (S.seq (S.set 8 (Z.px (E.call (on2 max2D) (E.cons (E.var 4) (E.cons (E.bin ixD (E.var 6) (E.bin subD (E.var 0) (E.c (.int 1)))) E.nil))))) S.nil) S.nil) (S.seq (S.app 2 (Z.var 8)) S.nil))))
def b_law_begins : En → Out := (S.seq (S.own 2 (Fl.lst E.nil)) (S.seq (S.loop (I.enum (E.cons (Z.var 1) E.nil)) (.tp [(.nm 3), (.tp [(.nm 4), (.nm 5)])]) Mi.l1_law_begins) (S.seq (S.retO 2) S.nil)))
def law_begins : List D → R (List D) := Fn.F 2 7 b_law_begins

def b_is_within : En → Out := (S.seq (S.ret (E.andV (E.un isInt (E.var 0)) (E.andV (E.notV (E.un isBool (E.var 0))) (E.chain leD leD (E.var 1) (E.var 0) (E.var 2))))) S.nil)
def is_within : List D → R D := Fn.X 3 0 b_is_within

def b_look_number : En → Out := (S.seq (S.ite (B.not (B.tru (E.call Mi.is_within (E.cons (E.var 0) (E.cons (E.var 1) (E.cons (E.var 2) E.nil)))))) (S.seq (S.raise "BadNumber") S.nil) S.nil) S.nil)
def look_number : List D → R D := Fn.X 3 0 b_look_number

def l1_look_plan : En → Out := (S.seq (S.ite (B.or (B.not (B.tru (E.un isTup (E.var 2)))) (B.or (B.val (E.bin neD (E.call (on1 lenD) (E.cons (E.var 2) E.nil)) (E.c (.int 2)))) (B.not (B.tru (E.call Mi.is_within (E.cons (E.bin ixD (E.var 2) (E.c (.int 0))) (E.cons (E.var 1) (E.cons (E.c (.int 999)) E.nil)))))))) (S.seq (S.raise "BadPlan") S.nil) S.nil) (S.seq (S.ite (B.not (B.tru (E.call Mi.is_within (E.cons (E.bin ixD (E.var 2) (E.c (.int 1))) (E.cons (E.c (.int 1)) (E.cons (E.c (.int 99)) E.nil)))))) (S.seq (S.raise "BadPlan") S.nil) S.nil) (S.seq (S.set 1 (Z.px (E.bin ixD (E.var 2) (E.c (.int 0))))) S.nil)))
def b_look_plan : En → Out := (S.seq (S.ite (B.or (B.not (B.tru (E.un isTup (E.var 0)))) (B.val (E.bin gtD (E.call (on1 lenD) (E.cons (E.var 0) E.nil)) (E.c (.int 40))))) (S.seq (S.raise "BadPlan") S.nil) S.nil) (S.seq (S.set 1 (Z.px (E.c (.int 0)))) (S.seq (S.loop (I.items (Z.var 0)) (.nm 2) Mi.l1_look_plan) S.nil)))
def look_plan : List D → R D := Fn.X 1 2 b_look_plan

def l1_begins_of : En → Out := (S.seq (S.set 6 (Z.px (E.call (on1 (onInts minI)) (E.cons (E.var 2) E.nil)))) (S.seq (S.set 7 (Z.px (E.call (on2 max2D) (E.cons (E.var 4) (E.cons (E.var 6) E.nil))))) (S.seq (S.seti 2 (Z.px (E.bin addD (E.var 7) (E.var 5))) (E.methL index1 (E.var 2) (E.cons (E.var 6) E.nil))) (S.seq (S.app 3 (Z.var 7)) S.nil))))
def b_begins_of : En → Out := (S.seq (S.own 2 (Fl.rep (E.call lstD (E.cons (E.c (.int 0)) E.nil)) (E.var 0))) (S.seq (S.own 3 (Fl.lst E.nil)) (S.seq (S.loop (I.items (Z.var 1)) (.tp [(.nm 4), (.nm 5)]) Mi.l1_begins_of) (S.frz 2 (S.seq (S.retO 3) S.nil)))))
def begins_of : List D → R (List D) := Fn.F 2 6 b_begins_of

def b_longest_of : En → Out := (S.seq (S.ret (E.call (on1 (onInts maxI)) (E.cons (E.call okLst (Fl.add (E.call lstD (E.cons (E.c (.int 0)) E.nil)) (E.call okLst (Fl.comp (I.zip (E.cons (E.call okLst (Fl.call Mi.begins_of (E.cons (E.var 0) (E.cons (E.var 1) E.nil)))) (E.cons (E.var 1) E.nil))) (.tp [(.nm 2), (.nm 3)]) [2, 3] B.yes (E.bin subD (E.var 2) (E.bin ixD (E.var 3) (E.c (.int 0)))))))) E.nil))) S.nil)
def longest_of : List D → R D := Fn.X 2 2 b_longest_of

def b_longest : En → Out := (S.seq (S.drop (E.call Mi.look_number (E.cons (E.var 0) (E.cons (E.c (.int 1)) (E.cons (E.c (.int 40)) E.nil))))) (S.seq (S.drop (E.call Mi.look_plan (E.cons (E.var 1) E.nil))) (S.seq (S.ret (E.call Mi.longest_of (E.cons (E.var 0) (E.cons (E.var 1) E.nil)))) S.nil)))
def longest : List D → R D := Fn.X 2 0 b_longest

def b_begins : En → Out := (S.seq (S.drop (E.call Mi.look_number (E.cons (E.var 0) (E.cons (E.c (.int 1)) (E.cons (E.c (.int 40)) E.nil))))) (S.seq (S.drop (E.call Mi.look_plan (E.cons (E.var 1) E.nil))) (S.seq (S.retF (Fl.call Mi.begins_of (E.cons (E.var 0) (E.cons (E.var 1) E.nil)))) S.nil)))
def begins : List D → R (List D) := Fn.F 2 0 b_begins

def l1_busy : En → Out := (S.seq (S.set 5 (Z.px (E.call (on2 max2D) (E.cons (E.var 5) (E.cons (E.call (on1 lenD) (E.cons (E.call okLst (Fl.comp (I.items (E.var 2)) (.tp [(.nm 7), (.nm 8)]) [7, 8] (B.val (E.chain leD ltD (E.var 7) (E.var 3) (E.var 8))) (E.c (.int 1)))) E.nil)) E.nil))))) S.nil)
def b_busy : En → Out := (S.seq (S.drop (E.call Mi.look_number (E.cons (E.var 0) (E.cons (E.c (.int 1)) (E.cons (E.c (.int 40)) E.nil))))) (S.seq (S.drop (E.call Mi.look_plan (E.cons (E.var 1) E.nil))) (S.seq (S.set 2 (Z.pf (Fl.comp (I.zip (E.cons (E.call okLst (Fl.call Mi.begins_of (E.cons (E.var 0) (E.cons (E.var 1) E.nil)))) (E.cons (E.var 1) E.nil))) (.tp [(.nm 3), (.nm 4)]) [3, 4] B.yes (E.call tupD (E.cons (E.var 3) (E.cons (E.bin addD (E.var 3) (E.bin ixD (E.var 4) (E.c (.int 1)))) E.nil)))))) (S.seq (S.set 5 (Z.px (E.c (.int 0)))) (S.seq (S.loop (I.items (Z.var 2)) (.tp [(.nm 3), (.nm 6)]) Mi.l1_busy) (S.seq (S.ret (E.var 5)) S.nil))))))
def busy : List D → R D := Fn.X 2 7 b_busy

def l1_fewest : En → Out := (S.seq (S.aug 2 addI (E.c (.int 1))) S.nil)
def b_fewest : En → Out := (S.seq (S.drop (E.call Mi.look_plan (E.cons (E.var 0) E.nil))) (S.seq (S.drop (E.call Mi.look_number (E.cons (E.var 1) (E.cons (E.c (.int 0)) (E.cons (E.c (.int 999)) E.nil))))) (S.seq (S.set 2 (Z.px (E.c (.int 1)))) (S.seq (S.while_ (B.val (E.bin gtD (E.call Mi.longest_of (E.cons (E.var 2) (E.cons (E.var 0) E.nil))) (E.var 1))) Mi.l1_fewest) (S.seq (S.ret (E.var 2)) S.nil)))))
def fewest : List D → R D := Fn.X 2 1 b_fewest

def l1_law_k07 : En → Out := (S.seq (S.set 5 (Z.px (E.call (on2 max2D) (E.cons (E.var 5) (E.cons (E.call (on1 lenD) (E.cons (E.call okLst (Fl.comp (I.range1 (E.cons (E.call (on1 lenD) (E.cons (E.var 1) E.nil)) E.nil)) (.nm 4) [4] (B.val (E.chain leD ltD (E.bin ixD (E.var 3) (E.var 4)) (E.var 6) (E.bin addD (E.bin ixD (E.var 3) (E.var 4)) (E.bin ixD (E.bin ixD (E.var 1) (E.var 4)) (E.c (.int 1)))))) (E.var 4))) E.nil)) E.nil))))) S.nil)
def l2_law_k07 : En → Out := (S.seq (S.try_ (S.seq (S.ite (B.val (E.bin eqD (E.var 10) (E.c (.int 0)))) (S.seq (S.drop (E.call okLst (Fl.call Mi.begins (E.cons (E.var 2) (E.cons (E.var 8) E.nil))))) S.nil) (S.seq (S.ite (B.val (E.bin eqD (E.var 10) (E.c (.int 1)))) (S.seq (S.drop (E.call Mi.longest (E.cons (E.bin ixD (E.call lstD (E.cons (E.c (.int 0)) (E.cons (E.c (.int 41)) (E.cons (E.c .non) (E.cons (E.c (.bl true)) E.nil))))) (E.bin modD (E.call Mi.law_cell (E.cons (E.var 0) (E.cons (E.c (.int 9)) E.nil))) (E.c (.int 4)))) (E.cons (E.var 8) E.nil)))) S.nil) (S.seq (S.ite (B.val (E.bin eqD (E.var 10) (E.c (.int 2)))) (S.seq (S.drop (E.call Mi.fewest (E.cons (E.var 8) (E.cons (E.c .non) E.nil)))) S.nil) (S.seq (S.drop (E.call Mi.fewest (E.cons (E.var 1) (E.cons (E.bin ixD (E.call lstD (E.cons (E.un negD (E.c (.int 1))) (E.cons (E.c (.int 1000)) (E.cons (E.c .non) (E.cons (E.c (.bl true)) E.nil))))) (E.bin modD (E.call Mi.law_cell (E.cons (E.var 0) (E.cons (E.c (.int 9)) E.nil))) (E.c (.int 4)))) E.nil)))) S.nil)) S.nil)) S.nil)) S.nil) [([("PoolError", false), ("BadNumber", false), ("BadPlan", true)], (S.seq (S.app 9 (Z.px (E.c (.str "plan")))) S.nil)), ([("PoolError", false), ("BadNumber", true), ("BadPlan", false)], (S.seq (S.app 9 (Z.px (E.c (.str "number")))) S.nil))]) S.nil)
def b_law_k07 : En → Out := (S.seq (S.set 1 (Z.px (E.call Mi.law_asks (E.cons (E.var 0) (E.cons (E.c (.int 0)) (E.cons (E.c (.int 30)) E.nil)))))) (S.seq (S.set 2 (Z.px (E.bin addD (E.c (.int 1)) (E.bin modD (E.call Mi.law_cell (E.cons (E.var 0) (E.cons (E.c (.int 7)) E.nil))) (E.bin ixD (E.call lstD (E.cons (E.c (.int 40)) (E.cons (E.c (.int 5)) E.nil))) (E.bin modD (E.call Mi.law_cell (E.cons (E.var 0) (E.cons (E.c (.int 8)) E.nil))) (E.c (.int 2)))))))) (S.seq (S.set 3 (Z.pf (Fl.call Mi.law_begins (E.cons (E.var 2) (E.cons (E.var 1) E.nil))))) (S.seq (S.ite (B.or (B.val (E.bin neD (E.call okLst (Fl.call Mi.begins (E.cons (E.var 2) (E.cons (E.var 1) E.nil)))) (E.var 3))) (B.not (B.tru (E.un isLst (E.call okLst (Fl.call Mi.begins (E.cons (E.var 2) (E.cons (E.var 1) E.nil)))))))) (S.seq (S.ret (E.c (.bl false))) S.nil) S.nil) (S.seq (S.ite (B.val (E.bin neD (E.call Mi.longest (E.cons (E.var 2) (E.cons (E.var 1) E.nil))) (E.call (on1 (onInts maxI)) (E.cons (E.call okLst (Fl.add (E.call lstD (E.cons (E.c (.int 0)) E.nil)) (E.call okLst (Fl.comp (I.range1 (E.cons (E.call (on1 lenD) (E.cons (E.var 1) E.nil)) E.nil)) (.nm 4) [4] B.yes (E.bin subD (E.bin ixD (E.var 3) (E.var 4)) (E.bin ixD (E.bin ixD (E.var 1) (E.var 4)) (E.c (.int 0)))))))) E.nil)))) (S.seq (S.ret (E.c (.bl false))) S.nil) S.nil) (S.seq (S.set 5 (Z.px (E.c (.int 0)))) (S.seq (S.loop (I.items (Z.var 3)) (.nm 6) Mi.l1_law_k07) (S.seq (S.ite (B.or (B.val (E.bin neD (E.call Mi.busy (E.cons (E.var 2) (E.cons (E.var 1) E.nil))) (E.var 5))) (B.val (E.bin gtD (E.var 5) (E.var 2)))) (S.seq (S.ret (E.c (.bl false))) S.nil) S.nil) (S.seq (S.set 7 (Z.pf (Fl.lst (E.cons (E.call okLst (Fl.list (E.cons (E.var 1) E.nil))) (E.cons (E.c .non) (E.cons (E.bin addD (E.var 1) (E.call tupD (E.cons (E.call tupD (E.cons (E.c (.int 1000)) (E.cons (E.c (.int 1)) E.nil))) E.nil))) (E.cons (E.bin addD (E.var 1) (E.call tupD (E.cons (E.call tupD (E.cons (E.c (.int 999)) (E.cons (E.c (.int 0)) E.nil))) E.nil))) (E.cons (E.bin addD (E.var 1) (E.call tupD (E.cons (E.call tupD (E.cons (E.c (.int 999)) (E.cons (E.c (.int 100)) E.nil))) E.nil))) (E.cons (E.bin addD (E.var 1) (E.call tupD (E.cons (E.call tupD (E.cons (E.c (.bl true)) (E.cons (E.c (.int 1)) E.nil))) E.nil))) E.nil))))))))) (S.seq (S.set 7 (Z.px (E.bin addD (E.var 7) (E.call lstD (E.cons (E.call tupD (E.cons (E.call tupD (E.cons (E.c (.int 5)) (E.cons (E.c (.int 1)) E.nil))) (E.cons (E.call tupD (E.cons (E.c (.int 4)) (E.cons (E.c (.int 1)) E.nil))) E.nil))) (E.cons (E.bin mulD (E.call tupD (E.cons (E.call tupD (E.cons (E.c (.int 0)) (E.cons (E.c (.int 1)) E.nil))) E.nil)) (E.c (.int 41))) (E.cons (E.bin addD (E.slice (E.var 1) E.none (E.part (E.c (.int 39)))) (E.call tupD (E.cons (E.call lstD (E.cons (E.c (.int 999)) (E.cons (E.c (.int 1)) E.nil))) E.nil))) (E.cons (E.bin addD (E.slice (E.var 1) E.none (E.part (E.c (.int 39)))) (E.call tupD (E.cons (E.call tupD (E.cons (E.c (.int 999)) E.nil)) E.nil))) E.nil)))))))) (S.seq (S.set 8 (Z.px (E.bin ixD (E.var 7) (E.bin modD (E.call Mi.law_cell (E.cons (E.var 0) (E.cons (E.c (.int 9)) E.nil))) (E.c (.int 10)))))) (S.seq (S.own 9 (Fl.lst E.nil)) (S.seq (S.loop (I.range1 (E.cons (Z.px (E.c (.int 4))) E.nil)) (.nm 10) Mi.l2_law_k07) (S.frz 9 (S.seq (S.ret (E.bin eqD (E.var 9) (E.call lstD (E.cons (E.c (.str "plan")) (E.cons (E.c (.str "number")) (E.cons (E.c (.str "plan")) (E.cons (E.c (.str "number")) E.nil))))))) S.nil)))))))))))))))
def law_k07 : List D → R D := Fn.X 1 10 b_law_k07

def l1_law_k08 : En → Out := (S.seq (S.ite (B.or (B.val (E.bin gtD (E.bin ixD (E.var 5) (E.var 6)) (E.bin ixD (E.var 4) (E.var 6)))) (B.val (E.bin ltD (E.bin ixD (E.var 5) (E.var 6)) (E.bin ixD (E.bin ixD (E.var 1) (E.var 6)) (E.c (.int 0)))))) (S.seq (S.ret (E.c (.bl false))) S.nil) S.nil) S.nil)
def b_law_k08 : En → Out := (S.seq (S.set 1 (Z.px (E.call Mi.law_asks (E.cons (E.var 0) (E.cons (E.c (.int 0)) (E.cons (E.c (.int 30)) E.nil)))))) (S.seq (S.set 2 (Z.px (E.bin addD (E.c (.int 1)) (E.bin modD (E.call Mi.law_cell (E.cons (E.var 0) (E.cons (E.c (.int 7)) E.nil))) (E.bin ixD (E.call lstD (E.cons (E.c (.int 40)) (E.cons (E.c (.int 5)) E.nil))) (E.bin modD (E.call Mi.law_cell (E.cons (E.var 0) (E.cons (E.c (.int 8)) E.nil))) (E.c (.int 2)))))))) (S.seq (S.set 3 (Z.px (E.call (on2 min2D) (E.cons (E.c (.int 40)) (E.cons (E.bin addD (E.bin addD (E.var 2) (E.c (.int 1))) (E.bin modD (E.call Mi.law_cell (E.cons (E.var 0) (E.cons (E.c (.int 9)) E.nil))) (E.c (.int 6)))) E.nil))))) (S.seq (S.set 4 (Z.pf (Fl.call Mi.begins (E.cons (E.var 2) (E.cons (E.var 1) E.nil))))) (S.seq (S.set 5 (Z.pf (Fl.call Mi.begins (E.cons (E.var 3) (E.cons (E.var 1) E.nil))))) (S.seq (S.loop (I.range1 (E.cons (Z.px (E.call (on1 lenD) (E.cons (E.var 1) E.nil))) E.nil)) (.nm 6) Mi.l1_law_k08) (S.seq (S.ite (B.or (B.val (E.bin gtD (E.call Mi.longest (E.cons (E.var 3) (E.cons (E.var 1) E.nil))) (E.call Mi.longest (E.cons (E.var 2) (E.cons (E.var 1) E.nil))))) (B.val (E.bin gtD (E.call Mi.busy (E.cons (E.var 3) (E.cons (E.var 1) E.nil))) (E.var 3)))) (S.seq (S.ret (E.c (.bl false))) S.nil) S.nil) (S.seq (S.ite (B.or (B.val (E.bin neD (E.var 4) (E.call okLst (Fl.sort (E.cons (E.var 4) E.nil))))) (B.or (B.val (E.bin neD (E.call okLst (Fl.call Mi.begins (E.cons (E.c (.int 40)) (E.cons (E.var 1) E.nil)))) (E.call okLst (Fl.comp (I.items (E.var 1)) (.nm 7) [7] B.yes (E.bin ixD (E.var 7) (E.c (.int 0))))))) (B.val (E.bin neD (E.call Mi.longest (E.cons (E.c (.int 40)) (E.cons (E.var 1) E.nil))) (E.c (.int 0)))))) (S.seq (S.ret (E.c (.bl false))) S.nil) S.nil) (S.seq (S.ite (B.val (E.bin geD (E.var 2) (E.call Mi.busy (E.cons (E.c (.int 40)) (E.cons (E.var 1) E.nil))))) (S.seq (S.ret (E.bin eqD (E.var 4) (E.call okLst (Fl.call Mi.begins (E.cons (E.c (.int 40)) (E.cons (E.var 1) E.nil)))))) S.nil) S.nil) (S.seq (S.ret (E.bin gtD (E.call Mi.longest (E.cons (E.var 2) (E.cons (E.var 1) E.nil))) (E.c (.int 0)))) S.nil))))))))))
def law_k08 : List D → R D := Fn.X 1 7 b_law_k08

def l1_law_k09 : En → Out := (S.seq (S.ite (B.or (B.val (E.bin gtD (E.bin ixD (E.var 5) (E.bin subD (E.var 9) (E.c (.int 1)))) (E.bin ixD (E.var 4) (E.var 9)))) (B.or (B.val (E.bin gtD (E.bin ixD (E.var 8) (E.var 9)) (E.bin ixD (E.var 4) (E.var 9)))) (B.val (E.bin gtD (E.bin ixD (E.var 5) (E.bin subD (E.var 9) (E.c (.int 1)))) (E.bin ixD (E.var 8) (E.var 9)))))) (S.seq (S.ret (E.c (.bl false))) S.nil) S.nil) S.nil)
def b_law_k09 : En → Out := (S.seq (S.set 1 (Z.px (E.bin addD (E.call Mi.law_asks (E.cons (E.var 0) (E.cons (E.c (.int 0)) (E.cons (E.c (.int 30)) E.nil)))) (E.call tupD (E.cons (E.call tupD (E.cons (E.c (.int 999)) (E.cons (E.c (.int 5)) E.nil))) E.nil))))) (S.seq (S.set 2 (Z.px (E.bin addD (E.c (.int 1)) (E.bin modD (E.call Mi.law_cell (E.cons (E.var 0) (E.cons (E.c (.int 7)) E.nil))) (E.c (.int 5)))))) (S.seq (S.set 3 (Z.px (E.call Mi.law_mix (E.cons (E.call Mi.law_cell (E.cons (E.var 0) (E.cons (E.c (.int 8)) E.nil))) (E.cons (E.c (.int 9949)) (E.cons (E.call (on1 lenD) (E.cons (E.var 1) E.nil)) E.nil)))))) (S.seq (S.set 4 (Z.pf (Fl.call Mi.begins (E.cons (E.var 2) (E.cons (E.var 1) E.nil))))) (S.seq (S.set 5 (Z.pf (Fl.call Mi.begins (E.cons (E.var 2) (E.cons (E.bin addD (E.slice (E.var 1) E.none (E.part (E.var 3))) (E.slice (E.var 1) (E.part (E.bin addD (E.var 3) (E.c (.int 1)))) E.none)) E.nil))))) (S.seq (S.bind (.tp [(.nm 6), (.nm 7)]) (Z.px (E.bin ixD (E.var 1) (E.var 3)))) (S.seq (S.set 8 (Z.pf (Fl.call Mi.begins (E.cons (E.var 2) (E.cons (E.bin addD (E.bin addD (E.slice (E.var 1) E.none (E.part (E.var 3))) (E.call tupD (E.cons (E.call tupD (E.cons (E.var 6) (E.cons (E.bin addD (E.c (.int 1)) (E.bin modD (E.call Mi.law_cell (E.cons (E.var 0) (E.cons (E.c (.int 9)) E.nil))) (E.var 7))) E.nil))) E.nil))) (E.slice (E.var 1) (E.part (E.bin addD (E.var 3) (E.c (.int 1)))) E.none)) E.nil))))) (S.seq (S.ite (B.or (B.val (E.bin neD (E.slice (E.var 5) E.none (E.part (E.var 3))) (E.slice (E.var 4) E.none (E.part (E.var 3))))) (B.val (E.bin neD (E.slice (E.var 8) E.none (E.part (E.bin addD (E.var 3) (E.c (.int 1))))) (E.slice (E.var 4) E.none (E.part (E.bin addD (E.var 3) (E.c (.int 1)))))))) (S.seq (S.ret (E.c (.bl false))) S.nil) S.nil) (S.seq (S.loop (I.range2 (E.cons (Z.px (E.bin addD (E.var 3) (E.c (.int 1)))) (E.cons (Z.px (E.call (on1 lenD) (E.cons (E.var 1) E.nil))) E.nil))) (.nm 9) Mi.l1_law_k09) (S.seq (S.ret (E.andV (E.bin leD (E.call Mi.longest (E.cons (E.var 2) (E.cons (E.slice (E.var 1) E.none (E.part (E.var 3))) E.nil))) (E.call Mi.longest (E.cons (E.var 2) (E.cons (E.var 1) E.nil)))) (E.bin leD (E.call Mi.fewest (E.cons (E.slice (E.var 1) E.none (E.part (E.var 3))) (E.cons (E.c (.int 3)) E.nil))) (E.call Mi.fewest (E.cons (E.var 1) (E.cons (E.c (.int 3)) E.nil)))))) S.nil))))))))))
def law_k09 : List D → R D := Fn.X 1 9 b_law_k09

def b_law_whole : En → Out := (S.seq (S.ret (E.andV (E.un isInt (E.var 0)) (E.notV (E.un isBool (E.var 0))))) S.nil)
def law_whole : List D → R D := Fn.X 1 0 b_law_whole

def b_law_k10 : En → Out := (S.seq (S.set 1 (Z.px (E.call Mi.law_asks (E.cons (E.var 0) (E.cons (E.c (.int 0)) (E.cons (E.c (.int 30)) E.nil)))))) (S.seq (S.set 2 (Z.px (E.bin ixD (E.call lstD (E.cons (E.c (.int 0)) (E.cons (E.bin modD (E.call Mi.law_cell (E.cons (E.var 0) (E.cons (E.c (.int 7)) E.nil))) (E.c (.int 40))) (E.cons (E.bin modD (E.call Mi.law_cell (E.cons (E.var 0) (E.cons (E.c (.int 7)) E.nil))) (E.c (.int 1000))) E.nil)))) (E.bin modD (E.call Mi.law_cell (E.cons (E.var 0) (E.cons (E.c (.int 8)) E.nil))) (E.c (.int 3)))))) (S.seq (S.set 3 (Z.px (E.call Mi.fewest (E.cons (E.var 1) (E.cons (E.var 2) E.nil))))) (S.seq (S.ite (B.or (B.not (B.tru (E.call Mi.law_whole (E.cons (E.var 3) E.nil)))) (B.not (B.val (E.chain leD leD (E.c (.int 1)) (E.var 3) (E.call (on2 max2D) (E.cons (E.c (.int 1)) (E.cons (E.call (on1 lenD) (E.cons (E.var 1) E.nil)) E.nil))))))) (S.seq (S.ret (E.c (.bl false))) S.nil) S.nil) (S.seq (S.set 4 (Z.pf (Fl.call Mi.law_begins (E.cons (E.var 3) (E.cons (E.var 1) E.nil))))) (S.seq (S.ite (B.val (E.bin neD (E.call okLst (Fl.comp (I.range1 (E.cons (E.call (on1 lenD) (E.cons (E.var 1) E.nil)) E.nil)) (.nm 5) [5] (B.val (E.bin gtD (E.bin subD (E.bin ixD (E.var 4) (E.var 5)) (E.bin ixD (E.bin ixD (E.var 1) (E.var 5)) (E.c (.int 0)))) (E.var 2))) (E.var 5))) (E.call lstD E.nil))) (S.seq (S.ret (E.c (.bl false))) S.nil) S.nil) (S.seq (S.ite (B.val (E.bin gtD (E.var 3) (E.c (.int 1)))) (S.seq (S.set 4 (Z.pf (Fl.call Mi.law_begins (E.cons (E.bin subD (E.var 3) (E.c (.int 1))) (E.cons (E.var 1) E.nil))))) (S.seq (S.ite (B.val (E.bin eqD (E.call okLst (Fl.comp (I.range1 (E.cons (E.call (on1 lenD) (E.cons (E.var 1) E.nil)) E.nil)) (.nm 5) [5] (B.val (E.bin gtD (E.bin subD (E.bin ixD (E.var 4) (E.var 5)) (E.bin ixD (E.bin ixD (E.var 1) (E.var 5)) (E.c (.int 0)))) (E.var 2))) (E.var 5))) (E.call lstD E.nil))) (S.seq (S.ret (E.c (.bl false))) S.nil) S.nil) S.nil)) S.nil) (S.seq (S.ret (E.orV (E.bin gtD (E.var 2) (E.c (.int 0))) (E.bin eqD (E.var 3) (E.call (on2 max2D) (E.cons (E.c (.int 1)) (E.cons (E.call Mi.busy (E.cons (E.c (.int 40)) (E.cons (E.var 1) E.nil))) E.nil)))))) S.nil))))))))
def law_k10 : List D → R D := Fn.X 1 5 b_law_k10

def b_law_lent_at : En → Out := (S.seq (S.set 2 (Z.pf (Fl.comp (I.zip (E.cons (E.call okLst (Fl.call Mi.law_begins (E.cons (E.var 0) (E.cons (E.var 1) E.nil)))) (E.cons (E.var 1) E.nil))) (.tp [(.nm 3), (.nm 4)]) [3, 4] B.yes (E.call tupD (E.cons (E.var 3) (E.cons (E.bin addD (E.var 3) (E.bin ixD (E.var 4) (E.c (.int 1)))) E.nil)))))) (S.seq (S.set 5 (Z.px (E.call (on1 (onInts maxI)) (E.cons (E.call okLst (Fl.add (E.call lstD (E.cons (E.c (.int 0)) E.nil)) (E.call okLst (Fl.comp (I.items (E.var 2)) (.tp [(.nm 3), (.nm 6)]) [3, 6] B.yes (E.var 6))))) E.nil)))) (S.seq (S.retF (Fl.comp (I.range1 (E.cons (E.var 5) E.nil)) (.nm 7) [7] B.yes (E.call (on1 lenD) (E.cons (E.call okLst (Fl.comp (I.items (E.var 2)) (.tp [(.nm 3), (.nm 6)]) [3, 6] (B.val (E.chain leD ltD (E.var 3) (E.var 7) (E.var 6))) (E.c (.int 1)))) E.nil)))) S.nil)))
def law_lent_at : List D → R (List D) := Fn.F 2 6 b_law_lent_at

def b_spans_of : En → Out := (S.seq (S.retF (Fl.comp (I.zip (E.cons (E.call okLst (Fl.call Mi.begins (E.cons (E.var 0) (E.cons (E.var 1) E.nil)))) (E.cons (E.var 1) E.nil))) (.tp [(.nm 2), (.nm 3)]) [2, 3] B.yes (E.call tupD (E.cons (E.var 2) (E.cons (E.bin addD (E.var 2) (E.bin ixD (E.var 3) (E.c (.int 1)))) E.nil))))) S.nil)
def spans_of : List D → R (List D) := Fn.F 2 2 b_spans_of

def l1_loads : En → Out := (S.seq (S.dput 3 (Z.px (E.c (.bl true))) (E.var 4)) (S.seq (S.dput 3 (Z.px (E.c (.bl true))) (E.var 5)) S.nil))
def l2_loads : En → Out := (S.seq (S.set 10 (Z.px (E.call (on1 lenD) (E.cons (E.call okLst (Fl.comp (I.items (E.var 2)) (.tp [(.nm 4), (.nm 5)]) [4, 5] (B.val (E.chain leD ltD (E.var 4) (E.var 8) (E.var 5))) (E.c (.int 1)))) E.nil)))) (S.seq (S.ite (B.and (B.tru (E.var 7)) (B.val (E.bin eqD (E.bin ixD (E.bin ixD (E.var 7) (E.un negD (E.c (.int 1)))) (E.c (.int 2))) (E.var 10)))) (S.seq (S.seti 7 (Z.px (E.call tupD (E.cons (E.bin ixD (E.bin ixD (E.var 7) (E.un negD (E.c (.int 1)))) (E.c (.int 0))) (E.cons (E.var 9) (E.cons (E.var 10) E.nil))))) (E.un negD (E.c (.int 1)))) S.nil) (S.seq (S.app 7 (Z.px (E.call tupD (E.cons (E.var 8) (E.cons (E.var 9) (E.cons (E.var 10) E.nil)))))) S.nil)) S.nil))
def b_loads : En → Out := (S.seq (S.set 2 (Z.pf (Fl.call Mi.spans_of (E.cons (E.var 0) (E.cons (E.var 1) E.nil))))) (S.seq (S.ownD 3 (Fd.one (E.c (.int 0)) (E.c (.bl true)))) (S.seq (S.loop (I.items (Z.var 2)) (.tp [(.nm 4), (.nm 5)]) Mi.l1_loads) (S.frz 3 (S.seq (S.set 6 (Z.pf (Fl.sortD (E.cons (E.var 3) E.nil)))) (S.seq (S.own 7 (Fl.lst E.nil)) (S.seq (S.loop (I.zip (E.cons (Z.var 6) (E.cons (Z.pf (Fl.slice (E.var 6) (E.part (E.c (.int 1))) E.none)) E.nil))) (.tp [(.nm 8), (.nm 9)]) Mi.l2_loads) (S.seq (S.retO 7) S.nil))))))))
def loads : List D → R (List D) := Fn.F 2 9 b_loads

def l1_law_stretches : En → Out := (S.seq (S.ite (B.and (B.val (E.bin neD (E.var 1) (E.call lstD E.nil))) (B.val (E.bin eqD (E.bin ixD (E.bin ixD (E.var 1) (E.un negD (E.c (.int 1)))) (E.c (.int 2))) (E.var 3)))) (S.seq (S.seti 1 (Z.px (E.call tupD (E.cons (E.bin ixD (E.bin ixD (E.var 1) (E.un negD (E.c (.int 1)))) (E.c (.int 0))) (E.cons (E.bin addD (E.var 2) (E.c (.int 1))) (E.cons (E.var 3) E.nil))))) (E.un negD (E.c (.int 1)))) S.nil) (S.seq (S.app 1 (Z.px (E.call tupD (E.cons (E.var 2) (E.cons (E.bin addD (E.var 2) (E.c (.int 1))) (E.cons (E.var 3) E.nil)))))) S.nil)) S.nil)
def b_law_stretches : En → Out := (S.seq (S.own 1 (Fl.lst E.nil)) (S.seq (S.loop (I.enum (E.cons (Z.var 0) E.nil)) (.tp [(.nm 2), (.nm 3)]) Mi.l1_law_stretches) (S.seq (S.retO 1) S.nil)))
def law_stretches : List D → R (List D) := Fn.F 1 3 b_law_stretches

def l1_free_times : En → Out := (S.seq (S.ite (B.val (E.bin eqD (E.var 5) (E.var 0))) (S.seq S.cont S.nil) S.nil) (S.seq (S.ite (B.and (B.tru (E.var 2)) (B.val (E.bin eqD (E.bin ixD (E.bin ixD (E.var 2) (E.un negD (E.c (.int 1)))) (E.c (.int 1))) (E.var 3)))) (S.seq (S.seti 2 (Z.px (E.call tupD (E.cons (E.bin ixD (E.bin ixD (E.var 2) (E.un negD (E.c (.int 1)))) (E.c (.int 0))) (E.cons (E.var 4) E.nil)))) (E.un negD (E.c (.int 1)))) S.nil) (S.seq (S.app 2 (Z.px (E.call tupD (E.cons (E.var 3) (E.cons (E.var 4) E.nil))))) S.nil)) S.nil))
def b_free_times : En → Out := (S.seq (S.own 2 (Fl.lst E.nil)) (S.seq (S.loop (I.items (Z.pf (Fl.call Mi.loads (E.cons (E.var 0) (E.cons (E.var 1) E.nil))))) (.tp [(.nm 3), (.nm 4), (.nm 5)]) Mi.l1_free_times) (S.seq (S.retO 2) S.nil)))
def free_times : List D → R (List D) := Fn.F 2 4 b_free_times

def b_law_k18 : En → Out := (S.seq (S.set 1 (Z.px (E.bin addD (E.c (.int 1)) (E.bin modD (E.call Mi.law_cell (E.cons (E.var 0) (E.cons (E.c (.int 0)) E.nil))) (E.c (.int 5)))))) (S.seq (S.set 2 (Z.px (E.call Mi.law_asks (E.cons (E.var 0) (E.cons (E.c (.int 1)) (E.cons (E.c (.int 25)) E.nil)))))) (S.seq (S.set 3 (Z.pf (Fl.call Mi.law_lent_at (E.cons (E.var 1) (E.cons (E.var 2) E.nil))))) (S.seq (S.ite (B.val (E.bin neD (E.call okLst (Fl.call Mi.loads (E.cons (E.var 1) (E.cons (E.var 2) E.nil)))) (E.call okLst (Fl.call Mi.law_stretches (E.cons (E.var 3) E.nil))))) (S.seq (S.ret (E.c (.bl false))) S.nil) S.nil) (S.seq (S.set 4 (Z.pf (Fl.comp (I.items (E.call okLst (Fl.call Mi.law_stretches (E.cons (E.call okLst (Fl.comp (I.items (E.var 3)) (.nm 7) [7] B.yes (E.bin ltD (E.var 7) (E.var 1)))) E.nil)))) (.tp [(.nm 5), (.nm 6), (.nm 7)]) [5, 6, 7] (B.tru (E.var 7)) (E.call tupD (E.cons (E.var 5) (E.cons (E.var 6) E.nil)))))) (S.seq (S.ret (E.bin eqD (E.call okLst (Fl.call Mi.free_times (E.cons (E.var 1) (E.cons (E.var 2) E.nil)))) (E.var 4))) S.nil))))))
def law_k18 : List D → R D := Fn.X 1 7 b_law_k18

def l1_law_k19 : En → Out := (S.seq (S.ite (B.or (B.val (E.bin neD (E.bin ixD (E.var 7) (E.c (.int 1))) (E.bin ixD (E.var 8) (E.c (.int 0))))) (B.or (B.val (E.bin eqD (E.bin ixD (E.var 7) (E.c (.int 2))) (E.bin ixD (E.var 8) (E.c (.int 2))))) (B.val (E.bin geD (E.bin ixD (E.var 7) (E.c (.int 0))) (E.bin ixD (E.var 7) (E.c (.int 1))))))) (S.seq (S.ret (E.c (.bl false))) S.nil) S.nil) S.nil)
def l2_law_k19 : En → Out := (S.seq (S.ite (B.and (B.val (E.bin gtD (E.var 6) (E.bin ixD (E.var 7) (E.c (.int 0))))) (B.and (B.val (E.bin ltD (E.var 9) (E.var 6))) (B.val (E.bin gtD (E.var 10) (E.bin ixD (E.var 7) (E.c (.int 0))))))) (S.seq (S.ret (E.c (.bl false))) S.nil) S.nil) S.nil)
def l3_law_k19 : En → Out := (S.seq (S.loop (I.items (Z.var 12)) (.tp [(.nm 9), (.nm 10)]) Mi.l2_law_k19) S.nil)
def b_law_k19 : En → Out := (S.seq (S.set 1 (Z.px (E.bin addD (E.c (.int 1)) (E.bin modD (E.call Mi.law_cell (E.cons (E.var 0) (E.cons (E.c (.int 0)) E.nil))) (E.c (.int 5)))))) (S.seq (S.set 2 (Z.px (E.call Mi.law_asks (E.cons (E.var 0) (E.cons (E.c (.int 1)) (E.cons (E.c (.int 25)) E.nil)))))) (S.seq (S.set 3 (Z.pf (Fl.call Mi.loads (E.cons (E.var 1) (E.cons (E.var 2) E.nil))))) (S.seq (S.set 4 (Z.pf (Fl.call Mi.begins (E.cons (E.var 1) (E.cons (E.var 2) E.nil))))) (S.seq (S.set 5 (Z.px (E.call (on1 (onInts maxI)) (E.cons (E.call okLst (Fl.add (E.call lstD (E.cons (E.c (.int 0)) E.nil)) (E.call okLst (Fl.comp (I.zip (E.cons (E.var 4) (E.cons (E.var 2) E.nil))) (.tp [(.nm 6), (.nm 7)]) [6, 7] B.yes (E.bin addD (E.var 6) (E.bin ixD (E.var 7) (E.c (.int 1)))))))) E.nil)))) (S.seq (S.ite (B.or (B.val (E.bin neD (E.bin eqD (E.var 3) (E.call lstD E.nil)) (E.bin eqD (E.var 2) (E.call tupD E.nil)))) (B.and (B.val (E.bin neD (E.var 3) (E.call lstD E.nil))) (B.or (B.val (E.bin neD (E.bin ixD (E.bin ixD (E.var 3) (E.c (.int 0))) (E.c (.int 0))) (E.c (.int 0)))) (B.val (E.bin neD (E.bin ixD (E.bin ixD (E.var 3) (E.un negD (E.c (.int 1)))) (E.c (.int 1))) (E.var 5)))))) (S.seq (S.ret (E.c (.bl false))) S.nil) S.nil) (S.seq (S.loop (I.zip (E.cons (Z.var 3) (E.cons (Z.pf (Fl.slice (E.var 3) (E.part (E.c (.int 1))) E.none)) E.nil))) (.tp [(.nm 7), (.nm 8)]) Mi.l1_law_k19) (S.seq (S.ite (B.val (E.bin neD (E.call (on1 (onInts sumI)) (E.cons (E.call okLst (Fl.comp (I.items (E.var 3)) (.tp [(.nm 9), (.nm 10), (.nm 11)]) [9, 10, 11] B.yes (E.bin mulD (E.bin subD (E.var 10) (E.var 9)) (E.var 11)))) E.nil)) (E.call (on1 (onInts sumI)) (E.cons (E.call okLst (Fl.comp (I.items (E.var 2)) (.nm 7) [7] B.yes (E.bin ixD (E.var 7) (E.c (.int 1))))) E.nil)))) (S.seq (S.ret (E.c (.bl false))) S.nil) S.nil) (S.seq (S.ite (B.val (E.bin neD (E.call (on1 (onInts maxI)) (E.cons (E.call okLst (Fl.add (E.call lstD (E.cons (E.c (.int 0)) E.nil)) (E.call okLst (Fl.comp (I.items (E.var 3)) (.tp [(.nm 9), (.nm 10), (.nm 11)]) [9, 10, 11] B.yes (E.var 11))))) E.nil)) (E.call Mi.busy (E.cons (E.var 1) (E.cons (E.var 2) E.nil))))) (S.seq (S.ret (E.c (.bl false))) S.nil) S.nil) (S.seq (S.set 12 (Z.pf (Fl.call Mi.free_times (E.cons (E.var 1) (E.cons (E.var 2) E.nil))))) (S.seq (S.loop (I.zip (E.cons (Z.var 4) (E.cons (Z.var 2) E.nil))) (.tp [(.nm 6), (.nm 7)]) Mi.l3_law_k19) (S.seq (S.set 13 (Z.px (E.call Mi.busy (E.cons (E.var 1) (E.cons (E.var 2) E.nil))))) (S.seq (S.set 14 (Z.px (E.call (on2 max2D) (E.cons (E.c (.int 1)) (E.cons (E.var 13) E.nil))))) (S.seq (S.ite (B.and (B.val (E.bin ltD (E.var 13) (E.var 1))) (B.val (E.bin neD (E.call tupD (E.cons (E.call okLst (Fl.call Mi.loads (E.cons (E.var 14) (E.cons (E.var 2) E.nil)))) (E.cons (E.call okLst (Fl.call Mi.begins (E.cons (E.var 14) (E.cons (E.var 2) E.nil)))) E.nil))) (E.call tupD (E.cons (E.var 3) (E.cons (E.var 4) E.nil)))))) (S.seq (S.ret (E.c (.bl false))) S.nil) S.nil) (S.seq (S.ite (B.and (B.val (E.bin neD (E.var 2) (E.call tupD E.nil))) (B.and (B.val (E.bin ltD (E.var 13) (E.var 1))) (B.val (E.bin neD (E.var 12) (E.call lstD (E.cons (E.call tupD (E.cons (E.c (.int 0)) (E.cons (E.var 5) E.nil))) E.nil)))))) (S.seq (S.ret (E.c (.bl false))) S.nil) S.nil) (S.seq (S.set 15 (Z.pf (Fl.call Mi.loads (E.cons (E.bin addD (E.var 1) (E.c (.int 1))) (E.cons (E.var 2) E.nil))))) (S.seq (S.ret (E.orV (E.bin eqD (E.var 15) (E.call lstD E.nil)) (E.bin leD (E.bin ixD (E.bin ixD (E.var 15) (E.un negD (E.c (.int 1)))) (E.c (.int 1))) (E.var 5)))) S.nil)))))))))))))))))
def law_k19 : List D → R D := Fn.X 1 15 b_law_k19

end Mi

/-! # Plain law, part A: how mirrors are computed -/
namespace Lp
open PySem
/-! ### the words, by their answers -/
@[simp] theorem E.c_eq (d : D) (e : En) : E.c d e = .ok d := .trans rfl rfl
@[simp] theorem E.var_eq (i : Nat) (e : En) : E.var i e = R.of (vw e i) := by unfold E.var; cases vw e i <;> rfl
@[simp] theorem E.un_eq (g : D → R D) (a : En → R D) (e : En) : E.un g a e = (a e).bind g := .trans rfl rfl
@[simp] theorem E.bin_eq (g : D → D → R D) (a b : En → R D) (e : En) : E.bin g a b e = (a e).bind fun x => (b e).bind fun y => g x y := .trans rfl rfl
@[simp] theorem E.nil_eq (e : En) : E.nil e = .ok [] := .trans rfl rfl
@[simp] theorem E.cons_eq (a : En → R D) (b : En → R (List D)) (e : En) : E.cons a b e = (a e).bind fun x => (b e).bind fun xs => .ok (x :: xs) := .trans rfl rfl
@[simp] theorem E.call_eq (m : List D → R D) (a : En → R (List D)) (e : En) : E.call m a e = (a e).bind m := .trans rfl rfl
@[simp] theorem E.ite_eq (t : En → R Bool) (a b : En → R D) (e : En) : E.ite t a b e = (t e).bind fun k => if k = true then a e else b e := .trans rfl rfl
@[simp] theorem E.andV_eq (a b : En → R D) (e : En) : E.andV a b e = (a e).bind fun x => match x with | .bl true => b e | .bl false => .ok (.bl false) | _ => .no := .trans rfl rfl
@[simp] theorem E.orV_eq (a b : En → R D) (e : En) : E.orV a b e = (a e).bind fun x => match x with | .bl true => .ok (.bl true) | .bl false => b e | _ => .no := .trans rfl rfl
@[simp] theorem E.notV_eq (a : En → R D) (e : En) : E.notV a e = (a e).bind fun x => match x with | .bl b => .ok (.bl (!b)) | _ => .no := .trans rfl rfl
@[simp] theorem E.chain_eq (g1 g2 : D → D → R D) (a b c : En → R D) (e : En) : E.chain g1 g2 a b c e = (a e).bind fun x => (b e).bind fun y => (g1 x y).bind fun k => match k with | .bl true => (c e).bind fun z => g2 y z | .bl false => .ok (.bl false) | _ => .no := .trans rfl rfl
@[simp] theorem E.methL_eq (g : List D → List D → R D) (o : En → R D) (a : En → R (List D)) (e : En) : E.methL g o a e = (o e).bind fun x => match x with | .lst ds => (a e).bind fun xs => g ds xs | _ => .no := .trans rfl rfl
@[simp] theorem E.none_eq (e : En) : E.none e = .ok Option.none := .trans rfl rfl
@[simp] theorem E.part_eq (f : En → R D) (e : En) : E.part f e = (f e).bind asPart := .trans rfl rfl
@[simp] theorem E.slice_eq (a : En → R D) (lo hi : En → R (Option Int)) (e : En) : E.slice a lo hi e = (a e).bind fun d => (lo e).bind fun l => (hi e).bind fun h => slD d l h := .trans rfl rfl
@[simp] theorem asPart_int (i : Int) : asPart (.int i) = .ok (some i) := .trans rfl rfl
@[simp] theorem B.val_eq (a : En → R D) (e : En) : B.val a e = (a e).bind fun x => match x with | .bl b => .ok b | _ => .no := .trans rfl rfl
@[simp] theorem B.tru_eq (a : En → R D) (e : En) : B.tru a e = (a e).bind truD := .trans rfl rfl
@[simp] theorem B.and_eq (a b : En → R Bool) (e : En) : B.and a b e = (a e).bind fun x => if x = true then b e else .ok false := .trans rfl rfl
@[simp] theorem B.or_eq (a b : En → R Bool) (e : En) : B.or a b e = (a e).bind fun x => if x = true then .ok true else b e := .trans rfl rfl
@[simp] theorem B.not_eq (a : En → R Bool) (e : En) : B.not a e = (a e).bind fun x => .ok (!x) := .trans rfl rfl
@[simp] theorem B.yes_eq (e : En) : B.yes e = .ok true := .trans rfl rfl
@[simp] theorem truD_bl (b : Bool) : truD (.bl b) = .ok b := .trans rfl rfl
@[simp] theorem truD_int (i : Int) : truD (.int i) = .ok (i != 0) := .trans rfl rfl
@[simp] theorem truD_lst (ds : List D) : truD (.lst ds) = .ok (!ds.isEmpty) := .trans rfl rfl
@[simp] theorem truD_tup (ds : List D) : truD (.tup ds) = .ok (!ds.isEmpty) := .trans rfl rfl
@[simp] theorem vw_nil (i : Nat) : vw [] i = none := .trans rfl rfl
@[simp] theorem vw_zero (s : Sl) (e : En) : vw (s :: e) 0 = s.vw := .trans rfl rfl
@[simp] theorem vw_succ (s : Sl) (e : En) (i : Nat) : vw (s :: e) (i + 1) = vw e i := .trans rfl rfl
@[simp] theorem Sl.vw_no : Sl.no.vw = none := .trans rfl rfl
@[simp] theorem Sl.vw_sh (d : D) : (Sl.sh d).vw = some d := .trans rfl rfl
@[simp] theorem Sl.vw_ow (s : Shape) (d : D) : (Sl.ow s d).vw = some d := .trans rfl rfl
@[simp] theorem Fl.lst_eq (f : En → R (List D)) (e : En) : Fl.lst f e = (f e).bind fun ds => if ds.length ≤ 16777216 then .ok ds else .no := .trans rfl rfl
@[simp] theorem Fl.add_eq (a b : En → R D) (e : En) : Fl.add a b e = (a e).bind fun x => (b e).bind fun y => Fl.add2 x y := .trans rfl rfl
@[simp] theorem Fl.rep_eq (a b : En → R D) (e : En) : Fl.rep a b e = (a e).bind fun x => (b e).bind fun y => Fl.rep2 x y := .trans rfl rfl
@[simp] theorem Fl.slice_eq (a : En → R D) (lo hi : En → R (Option Int)) (e : En) : Fl.slice a lo hi e = (a e).bind fun d => (lo e).bind fun l => (hi e).bind fun h => Fl.cut d l h := .trans rfl rfl
@[simp] theorem Fl.rev_eq (a : En → R D) (e : En) : Fl.rev a e = (a e).bind Fl.rev1 := .trans rfl rfl
@[simp] theorem Fl.list_eq (a : En → R (List D)) (e : En) : Fl.list a e = (a e).bind Fl.list1 := .trans rfl rfl
@[simp] theorem Fl.sort_eq (a : En → R (List D)) (e : En) : Fl.sort a e = (a e).bind Fl.sort1 := .trans rfl rfl
@[simp] theorem Fl.call_eq (m : List D → R (List D)) (a : En → R (List D)) (e : En) : Fl.call m a e = (a e).bind m := .trans rfl rfl
@[simp] theorem Fl.comp_eq (f : En → R (List D)) (t : Tg) (vs : List Nat) (test : En → R Bool) (elt : En → R D) (e : En) : Fl.comp f t vs test elt e = (f e).bind fun ds => if ds.length ≤ 16777000 then lcM t vs test elt e ds else .no := .trans rfl rfl
@[simp] theorem okLst_eq (ds : List D) : okLst ds = .ok (.lst ds) := .trans rfl rfl
@[simp] theorem I.items_eq (f : En → R D) (e : En) : I.items f e = (f e).bind itemsD := .trans rfl rfl
@[simp] theorem I.zip_eq (f : En → R (List D)) (e : En) : I.zip f e = (f e).bind I.zipD := .trans rfl rfl
@[simp] theorem I.enum_eq (f : En → R (List D)) (e : En) : I.enum f e = (f e).bind I.enumD := .trans rfl rfl
@[simp] theorem I.range1_eq (f : En → R (List D)) (e : En) : I.range1 f e = (f e).bind I.rangeD1 := .trans rfl rfl
@[simp] theorem I.range2_eq (f : En → R (List D)) (e : En) : I.range2 f e = (f e).bind I.rangeD2 := .trans rfl rfl
@[simp] theorem itemsD_lst (ds : List D) : itemsD (.lst ds) = .ok ds := .trans rfl rfl
@[simp] theorem itemsD_tup (ds : List D) : itemsD (.tup ds) = .ok ds := .trans rfl rfl
@[simp] theorem itemsD_fix (ds : List D) : itemsD (.fix ds) = .ok ds := .trans rfl rfl
@[simp] theorem zipD_eq (x y : D) : I.zipD [x, y] = (itemsD x).bind fun xs => (itemsD y).bind fun ys => .ok (zipT xs ys) := .trans rfl rfl
@[simp] theorem enumD_eq (x : D) : I.enumD [x] = (itemsD x).bind fun xs => .ok (enumT 0 xs) := .trans rfl rfl
@[simp] theorem Z.px_eq (f : En → R D) (e : En) : Z.px f e = (f e).bind fun d => if (d.pure || noOw e) = true then .ok d else .no := .trans rfl rfl
@[simp] theorem Z.pf_eq (f : En → R (List D)) (e : En) : Z.pf f e = (f e).bind fun ds => if (D.pures ds || noOw e) = true then .ok (.lst ds) else .no := .trans rfl rfl
@[simp] theorem Z.var_zero (d : D) (e : En) : Z.var 0 (.sh d :: e) = .ok d := .trans rfl rfl
@[simp] theorem Z.var_succ (s : Sl) (e : En) (i : Nat) : Z.var (i + 1) (s :: e) = Z.var i e := .trans rfl rfl
@[simp] theorem S.seq_eq (a b : En → Out) (e : En) : S.seq a b e = (a e).seq b := .trans rfl rfl
@[simp] theorem S.nil_eq (e : En) : S.nil e = .nx e := .trans rfl rfl
@[simp] theorem S.drop_eq (f : En → R D) (e : En) : S.drop f e = (f e).out e fun _ => .nx e := .trans rfl rfl
@[simp] theorem S.ret_eq (f : En → R D) (e : En) : S.ret f e = (f e).out e fun d => .rt d := .trans rfl rfl
@[simp] theorem S.retF_eq (f : En → R (List D)) (e : En) : S.retF f e = (f e).out e fun ds => .rt (.lst ds) := .trans rfl rfl
@[simp] theorem S.retO_eq (i : Nat) (e : En) : S.retO i e = S.withL i e fun ds => .rt (.lst ds) := .trans rfl rfl
@[simp] theorem S.retN_eq (e : En) : S.retN e = .rt .non := .trans rfl rfl
@[simp] theorem S.withL_zero (ds : List D) (e : En) (k : List D → Out) : S.withL 0 (.ow (.node .leaf) (.lst ds) :: e) k = k ds := .trans rfl rfl
@[simp] theorem S.withL_succ (s : Sl) (e : En) (i : Nat) (k : List D → Out) : S.withL (i + 1) (s :: e) k = S.withL i e k := .trans rfl rfl
@[simp] theorem S.putL_eq (i : Nat) (e : En) (ds : List D) : S.putL i e ds = .nx (e.set i (.ow (.node .leaf) (.lst ds))) := .trans rfl rfl
@[simp] theorem S.ite_eq (t : En → R Bool) (a b : En → Out) (e : En) : S.ite t a b e = (t e).out e fun k => if k = true then a e else b e := .trans rfl rfl
@[simp] theorem S.set_eq (i : Nat) (f : En → R D) (e : En) : S.set i f e = (f e).out e fun d => .nx (e.set i (.sh d)) := .trans rfl rfl
@[simp] theorem S.own_eq (i : Nat) (f : En → R (List D)) (e : En) : S.own i f e = (f e).out e fun ds => if (D.pures ds || noOw e) = true then S.putL i e ds else .no := .trans rfl rfl
@[simp] theorem S.bind_eq (t : Tg) (f : En → R D) (e : En) : S.bind t f e = (f e).out e fun d => match bindT t d with | .ok bs => .nx (setsE e bs) | _ => .no := .trans rfl rfl
@[simp] theorem S.app_eq (i : Nat) (f : En → R D) (e : En) : S.app i f e = S.withL i e fun ds => (f e).out e fun d => if ds.length < 16777216 then S.putL i e (ds ++ [d]) else .no := .trans rfl rfl
@[simp] theorem S.seti_eq (i : Nat) (fv fi : En → R D) (e : En) : S.seti i fv fi e = S.withL i e fun ds => (fv e).out e fun d => (fi e).out e fun k => S.putM i e (S.setD ds k d) := .trans rfl rfl
@[simp] theorem S.setD_int (ds : List D) (k : Int) (d : D) : S.setD ds (.int k) d = (L2.ixN ds.length k).map fun j => ds.set j d := .trans rfl rfl
@[simp] theorem S.putM_some (i : Nat) (e : En) (ds : List D) : S.putM i e (some ds) = S.putL i e ds := .trans rfl rfl
@[simp] theorem S.raise_eq (cl : Str) (e : En) : S.raise cl e = .ex cl e := .trans rfl rfl
@[simp] theorem S.frzA_eq (m : En → Out) (e : En) : S.frzA m e = m (Lp.frzA e) := .trans rfl rfl
@[simp] theorem S.frz_eq (i : Nat) (m : En → Out) (e : En) : S.frz i m e = m (frz1 i e) := .trans rfl rfl
@[simp] theorem S.never_eq (e : En) : S.never e = .no := .trans rfl rfl
@[simp] theorem S.brk_eq (e : En) : S.brk e = .bk e := .trans rfl rfl
@[simp] theorem S.cont_eq (e : En) : S.cont e = .ct e := .trans rfl rfl
@[simp] theorem S.loop_eq (fi : En → R (List D)) (t : Tg) (body : En → Out) (e : En) : S.loop fi t body e = (fi e).out e fun ds => loopM t body ds e := .trans rfl rfl
@[simp] theorem S.while_eq (t : En → R Bool) (body : En → Out) (e : En) : S.while_ t body e = whileM t body 1000000 e := .trans rfl rfl
@[simp] theorem noOw_nil : noOw [] = true := .trans rfl rfl
@[simp] theorem noOw_cons (s : Sl) (e : En) : noOw (s :: e) = (s.noOw && noOw e) := .trans rfl rfl
@[simp] theorem Sl.noOw_no : Sl.no.noOw = true := .trans rfl rfl
@[simp] theorem Sl.noOw_sh (d : D) : (Sl.sh d).noOw = true := .trans rfl rfl
@[simp] theorem Sl.noOw_ow (s : Shape) (d : D) : (Sl.ow s d).noOw = false := .trans rfl rfl
@[simp] theorem frz1_zero (s : Sl) (e : En) : frz1 0 (s :: e) = s.frz :: e := by cases s <;> rfl
@[simp] theorem frz1_succ (s : Sl) (e : En) (i : Nat) : frz1 (i + 1) (s :: e) = s :: frz1 i e := by
  unfold frz1
  rw [List.getElem?_cons_succ]
  cases e[i]? with
  | none => rfl
  | some s' => cases s' <;> rfl
@[simp] theorem Sl.frz_no : Sl.no.frz = .no := .trans rfl rfl
@[simp] theorem Sl.frz_sh (d : D) : (Sl.sh d).frz = .sh d := .trans rfl rfl
@[simp] theorem Sl.frz_ow (s : Shape) (d : D) : (Sl.ow s d).frz = .sh d := .trans rfl rfl
@[simp] theorem bindT_nm (i : Nat) (d : D) : bindT (.nm i) d = .ok [(i, d)] := by rw [bindT]
@[simp] theorem bindT_tp (ts : List Tg) (ds : List D) : bindT (.tp ts) (.tup ds) = bindTs ts ds := by rw [bindT]
@[simp] theorem bindTs_nil : bindTs [] [] = .ok [] := by rw [bindTs]
@[simp] theorem bindTs_cons (t : Tg) (ts : List Tg) (d : D) (ds : List D) : bindTs (t :: ts) (d :: ds) = (bindT t d).bind fun b => (bindTs ts ds).bind fun bs => .ok (b ++ bs) := by rw [bindTs]
@[simp] theorem setsE_nil (e : En) : setsE e [] = e := by cases e <;> rfl
@[simp] theorem setsE_cons (e : En) (i : Nat) (d : D) (bs : List (Nat × D)) : setsE e ((i, d) :: bs) = setsE (e.set i (.sh d)) bs := .trans rfl rfl
@[simp] theorem wipeE_nil (e : En) : wipeE e [] = e := .trans rfl rfl
@[simp] theorem wipeE_cons (e : En) (v : Nat) (vs : List Nat) : wipeE e (v :: vs) = (wipeE e vs).set v .no := .trans rfl rfl
@[simp] theorem R.noex_ok {α : Type} (a : α) : (R.ok a).noex = .ok a := .trans rfl rfl
@[simp] theorem Fn.X_eq (n loc : Nat) (m : En → Out) (ds : List D) : Fn.X n loc m ds = Fn.outX (Fn.run n loc m ds) := .trans rfl rfl
@[simp] theorem Fn.F_eq (n loc : Nat) (m : En → Out) (ds : List D) : Fn.F n loc m ds = Fn.outF (Fn.run n loc m ds) := .trans rfl rfl
@[simp] theorem Fn.run1 (loc : Nat) (m : En → Out) (a : D) : Fn.run 1 loc m [a] = m (.sh a :: List.replicate loc .no) := .trans rfl rfl
@[simp] theorem Fn.run2 (loc : Nat) (m : En → Out) (a b : D) : Fn.run 2 loc m [a, b] = m (.sh a :: .sh b :: List.replicate loc .no) := .trans rfl rfl
@[simp] theorem Fn.run3 (loc : Nat) (m : En → Out) (a b c : D) : Fn.run 3 loc m [a, b, c] = m (.sh a :: .sh b :: .sh c :: List.replicate loc .no) := .trans rfl rfl
@[simp] theorem Fn.outX_nx (e : En) : Fn.outX (.nx e) = .ok .non := .trans rfl rfl
@[simp] theorem Fn.outX_rt (d : D) : Fn.outX (.rt d) = .ok d := .trans rfl rfl
@[simp] theorem Fn.outX_ex (c : Str) (e : En) : Fn.outX (.ex c e) = .ex c := .trans rfl rfl
@[simp] theorem Fn.outF_rt (ds : List D) : Fn.outF (.rt (.lst ds)) = .ok ds := .trans rfl rfl
@[simp] theorem Fn.outF_ex (c : Str) (e : En) : Fn.outF (.ex c e) = .ex c := .trans rfl rfl
@[simp] theorem on1_eq (g : D → R D) (x : D) : on1 g [x] = g x := .trans rfl rfl
@[simp] theorem on2_eq (g : D → D → R D) (x y : D) : on2 g [x, y] = g x y := .trans rfl rfl
@[simp] theorem index1_eq (ds : List D) (d : D) : index1 ds [d] = indexD ds d := .trans rfl rfl
/-! ### values -/
@[simp] theorem D.pure_int (i : Int) : (D.int i).pure = true := by rw [D.pure]; all_goals (intros; contradiction)
@[simp] theorem D.pure_bl (i : Bool) : (D.bl i).pure = true := by rw [D.pure]; all_goals (intros; contradiction)
@[simp] theorem D.pure_str (i : Str) : (D.str i).pure = true := by rw [D.pure]; all_goals (intros; contradiction)
@[simp] theorem D.pure_non : D.non.pure = true := by rw [D.pure]; all_goals (intros; contradiction)
@[simp] theorem D.pure_tup (ds : List D) : (D.tup ds).pure = D.pures ds := by rw [D.pure]
@[simp] theorem D.pure_lst (ds : List D) : (D.lst ds).pure = false := by rw [D.pure]
@[simp] theorem D.pures_nil : D.pures [] = true := by rw [D.pures]
@[simp] theorem D.pures_cons (d : D) (ds : List D) : D.pures (d :: ds) = (d.pure && D.pures ds) := by rw [D.pures]
@[simp] theorem D.pures_app (ds es : List D) : D.pures (ds ++ es) = (D.pures ds && D.pures es) := D.pures_append
@[simp] theorem D.pures_ints (ns : List Int) : D.pures (ns.map D.int) = true := by rw [D.pures_all]; simp
@[simp] theorem addD_int (i j : Int) : addD (.int i) (.int j) = .ok (.int (i + j)) := .trans rfl rfl
@[simp] theorem addD_lst (ds es : List D) : addD (.lst ds) (.lst es) = if ds.length + es.length ≤ 16777216 then .ok (.lst (ds ++ es)) else .no := .trans rfl rfl
@[simp] theorem addD_tup (ds es : List D) : addD (.tup ds) (.tup es) = if ds.length + es.length ≤ 16777216 then .ok (.tup (ds ++ es)) else .no := .trans rfl rfl
@[simp] theorem addI_int (i j : Int) : addI (.int i) (.int j) = .ok (.int (i + j)) := .trans rfl rfl
@[simp] theorem subD_int (i j : Int) : subD (.int i) (.int j) = .ok (.int (i - j)) := .trans rfl rfl
@[simp] theorem negD_int (i : Int) : negD (.int i) = .ok (.int (-i)) := .trans rfl rfl
theorem mulD_int (i j : Int) (h : (-18446744073709551616 < i ∧ i < 18446744073709551616) ∨ (-18446744073709551616 < j ∧ j < 18446744073709551616)) : mulD (.int i) (.int j) = .ok (.int (i * j)) := if_pos h
@[simp] theorem ltD_int (i j : Int) : ltD (.int i) (.int j) = .ok (.bl (decide (i < j))) := .trans rfl rfl
@[simp] theorem leD_int (i j : Int) : leD (.int i) (.int j) = .ok (.bl (decide (i ≤ j))) := .trans rfl rfl
@[simp] theorem gtD_int (i j : Int) : gtD (.int i) (.int j) = .ok (.bl (decide (j < i))) := .trans rfl rfl
@[simp] theorem geD_int (i j : Int) : geD (.int i) (.int j) = .ok (.bl (decide (j ≤ i))) := .trans rfl rfl
@[simp] theorem max2D_int (i j : Int) : max2D (.int i) (.int j) = .ok (.int (max i j)) := .trans rfl rfl
@[simp] theorem min2D_int (i j : Int) : min2D (.int i) (.int j) = .ok (.int (min i j)) := .trans rfl rfl
@[simp] theorem lenD_lst (ds : List D) : lenD (.lst ds) = .ok (.int ds.length) := .trans rfl rfl
@[simp] theorem lenD_tup (ds : List D) : lenD (.tup ds) = .ok (.int ds.length) := .trans rfl rfl
@[simp] theorem lenD_fix (ds : List D) : lenD (.fix ds) = .ok (.int ds.length) := .trans rfl rfl
@[simp] theorem tupleD_lst (ds : List D) : tupleD (.lst ds) = .ok (.tup ds) := .trans rfl rfl
@[simp] theorem ixD_lst (ds : List D) (i : Int) : ixD (.lst ds) (.int i) = .of (L2.atI ds i) := .trans rfl rfl
@[simp] theorem ixD_tup (ds : List D) (i : Int) : ixD (.tup ds) (.int i) = .of (L2.atI ds i) := .trans rfl rfl
@[simp] theorem ixD_fix (ds : List D) (i : Int) : ixD (.fix ds) (.int i) = .of (L2.atI ds i) := .trans rfl rfl
@[simp] theorem tupD_two (a b : D) : tupD [a, b] = .ok (.tup [a, b]) := .trans rfl rfl
@[simp] theorem tupD_three (a b c : D) : tupD [a, b, c] = .ok (.tup [a, b, c]) := .trans rfl rfl
@[simp] theorem lstD_one (a : D) : lstD [a] = .ok (.lst [a]) := .trans rfl rfl
@[simp] theorem lstD_two (a b : D) : lstD [a, b] = .ok (.lst [a, b]) := .trans rfl rfl
@[simp] theorem lstD_three (a b c : D) : lstD [a, b, c] = .ok (.lst [a, b, c]) := .trans rfl rfl
@[simp] theorem lstD_nil : lstD [] = .ok (.lst []) := .trans rfl rfl
@[simp] theorem onInts_ints (g : List Int → R D) (ns : List Int) : onInts g (.lst (ns.map D.int)) = g ns := by
  unfold onInts
  simp
@[simp] theorem sort1_ints (ns : List Int) : Fl.sort1 [.lst (ns.map D.int)] = .ok ((ns.mergeSort fun a b => decide (a ≤ b)).map D.int) := by
  unfold Fl.sort1
  simp
@[simp] theorem add2_eq (ds es : List D) : Fl.add2 (.lst ds) (.lst es) = if ds.length + es.length ≤ 16777216 then .ok (ds ++ es) else .no := .trans rfl rfl
theorem atI_nat {α : Type} (xs : List α) (i : Nat) (h : i < xs.length) : L2.atI xs (i : Int) = some (xs[i]) := by
  unfold L2.atI L2.ixN
  rw [if_pos (Int.natCast_nonneg i), if_pos (by omega)]
  simp [h]
theorem atI_int {α : Type} (xs : List α) (i : Int) (h0 : 0 ≤ i) (h : i < xs.length) : L2.atI xs i = xs[i.toNat]? := by
  unfold L2.atI L2.ixN
  rw [if_pos h0, if_pos h]
  rfl
@[simp] theorem atI_zero {α : Type} (x : α) (xs : List α) : L2.atI (x :: xs) 0 = some x := by
  rw [atI_int _ _ (by omega) (by rw [List.length_cons]; omega)]; rfl
@[simp] theorem atI_one {α : Type} (x y : α) (xs : List α) : L2.atI (x :: y :: xs) 1 = some y := by
  rw [atI_int _ _ (by omega) (by rw [List.length_cons, List.length_cons]; omega)]; rfl
@[simp] theorem atI_two {α : Type} (x y z : α) (xs : List α) : L2.atI (x :: y :: z :: xs) 2 = some z := by
  rw [atI_int _ _ (by omega) (by rw [List.length_cons, List.length_cons, List.length_cons]; omega)]; rfl
theorem divD_int (i j : Int) (h : 0 < j ∧ j < 1073741824) : divD (.int i) (.int j) = .ok (.int (i / j)) := if_pos h
theorem modD_int (i j : Int) (h : 0 < j) : modD (.int i) (.int j) = .ok (.int (i % j)) := if_pos h
theorem powD_int (i j : Int) (h : 0 ≤ j ∧ j ≤ 1000000 ∧ i.natAbs < 18446744073709551616) : powD (.int i) (.int j) = .ok (.int (i ^ j.toNat)) := if_pos h
theorem rangeD1_int (j : Int) (h : 0 ≤ j ∧ j < 1000000) : I.rangeD1 [.int j] = .ok (rangeL 0 j.toNat) := if_pos (by omega)
theorem rangeD2_int (i j : Int) (h : (0 ≤ i ∧ i < 1000000) ∧ (0 ≤ j ∧ j < 1000000)) : I.rangeD2 [.int i, .int j] = .ok (rangeL i (j - i).toNat) := if_pos (by omega)
theorem seq_step {a b : En → Out} {e e' : En} (h : a e = .nx e') : S.seq a b e = b e' := by rw [S.seq_eq, h]; rfl
theorem seq_end {a b : En → Out} {e : En} {o : Out} (h : a e = o) (n : ∀ e', o ≠ .nx e') : S.seq a b e = o := by
  rw [S.seq_eq, h]
  cases o with
  | nx e' => exact absurd rfl (n e')
  | _ => rfl
theorem fn1 {loc : Nat} {m : En → Out} {a : D} {o : Out} (h : m (.sh a :: List.replicate loc .no) = o) : Fn.X 1 loc m [a] = Fn.outX o := by rw [← h]; rfl
theorem fn2 {loc : Nat} {m : En → Out} {a b : D} {o : Out} (h : m (.sh a :: .sh b :: List.replicate loc .no) = o) : Fn.X 2 loc m [a, b] = Fn.outX o := by rw [← h]; rfl
theorem fn3 {loc : Nat} {m : En → Out} {a b c : D} {o : Out} (h : m (.sh a :: .sh b :: .sh c :: List.replicate loc .no) = o) : Fn.X 3 loc m [a, b, c] = Fn.outX o := by rw [← h]; rfl
theorem fnF2 {loc : Nat} {m : En → Out} {a b : D} {o : Out} (h : m (.sh a :: .sh b :: List.replicate loc .no) = o) : Fn.F 2 loc m [a, b] = Fn.outF o := by rw [← h]; rfl
theorem loop_cons {t : Tg} {b : En → Out} {x : D} {xs : List D} {e e' : En} {bs : List (Nat × D)} (h1 : bindT t x = .ok bs) (h2 : b (setsE e bs) = .nx e') : loopM t b (x :: xs) e = loopM t b xs e' := by
  rw [loopM, h1]
  simp only [h2]
theorem loop_out {t : Tg} {b : En → Out} {x : D} {xs : List D} {e : En} {bs : List (Nat × D)} {o : Out} (h1 : bindT t x = .ok bs) (h2 : b (setsE e bs) = o) (n : (∃ d, o = .rt d) ∨ ∃ c e', o = .ex c e') : loopM t b (x :: xs) e = o := by
  rw [loopM, h1]
  rcases n with ⟨d, z⟩ | ⟨c, e', z⟩ <;> subst z <;> simp only [h2]
/-! ### the script -/
def scr (ns : List Int) : D := .fix (ns.map D.int)
def cell (ns : List Int) (k : Nat) : Int := ns.getD k 0
theorem cell_eq (ns : List Int) (k : Nat) : Mi.law_cell [scr ns, .int k] = .ok (.int (cell ns k)) := by
  unfold Mi.law_cell Mi.b_law_cell scr cell
  by_cases h : k < ns.length
  · simp [h, atI_nat]
  · simp [h]
theorem mix_eq (c p m : Int) (hp : 0 < p) (hp2 : p < 1000000) (hm : 0 < m) : ∃ r, Mi.law_mix [.int c, .int p, .int m] = .ok (.int r) ∧ 0 ≤ r ∧ r < m := by
  unfold Mi.law_mix Mi.b_law_mix
  have h1 := Int.emod_nonneg (c * 48271) (show p ≠ 0 by omega)
  have h2 := Int.emod_lt_of_pos (c * 48271) hp
  refine ⟨(c * 48271 % p) ^ 3 % p % m, ?_, Int.emod_nonneg _ (by omega), Int.emod_lt_of_pos _ hm⟩
  simp [mulD_int, modD_int, hp, hm]
  rw [powD_int _ _ (by omega)]
  simp [modD_int, hp, hm]
end Lp

/-! # Plain law, part B: plans, first come first served: what the mirrors compute -/
namespace Lp
open PySem

/-! ### equality of data -/
theorem beq_dec (x y : Int) : (x == y) = decide (x = y) := by by_cases h : x = y <;> simp [h]
theorem dts_ints (ns : List Int) (n : Nat) : D.dts n (ns.map D.int) = true := by
  induction ns with
  | nil => rw [List.map_nil, D.dts]
  | cons a r ih => rw [List.map_cons, D.dts, ih]; cases n <;> simp [D.dt]
theorem pys_ints (ns : List Int) : D.pys (ns.map D.int) = ns.map PyData.int := by
  induction ns with
  | nil => rw [List.map_nil, D.pys]; rfl
  | cons a r ih => rw [List.map_cons, D.pys, ih, D.py]; rfl
theorem eqv_ints (xs ys : List Int) : PyData.eqvAll (xs.map PyData.int) (ys.map PyData.int) = decide (xs = ys) := by
  induction xs generalizing ys with
  | nil => cases ys <;> simp [PyData.eqvAll]
  | cons x xs ih => cases ys with
    | nil => simp [PyData.eqvAll]
    | cons y ys => simp [PyData.eqvAll, PyData.eqv, ih, Bool.decide_and, beq_dec]
@[simp] theorem eqD_ints (xs ys : List Int) : eqD (.lst (xs.map D.int)) (.lst (ys.map D.int)) = .ok (.bl (decide (xs = ys))) := by
  unfold eqD
  rw [if_pos (by simp [D.dt, dts_ints]), D.py, D.py, PyData.eqv, pys_ints, pys_ints, eqv_ints]
@[simp] theorem neD_ints (xs ys : List Int) : neD (.lst (xs.map D.int)) (.lst (ys.map D.int)) = .ok (.bl (!decide (xs = ys))) := by
  unfold neD
  rw [if_pos (by simp [D.dt, dts_ints]), D.py, D.py, PyData.eqv, pys_ints, pys_ints, eqv_ints]
@[simp] theorem eqD_int (x y : Int) : eqD (.int x) (.int y) = .ok (.bl (decide (x = y))) := by
  unfold eqD
  rw [if_pos (by simp [D.dt]), D.py, D.py, PyData.eqv, beq_dec]
@[simp] theorem neD_int (x y : Int) : neD (.int x) (.int y) = .ok (.bl (!decide (x = y))) := by
  unfold neD
  rw [if_pos (by simp [D.dt]), D.py, D.py, PyData.eqv, beq_dec]
theorem canLay_ints (ns : List Int) : PyData.canLayAll0 (ns.map PyData.int) = true := by
  induction ns with
  | nil => simp [PyData.canLayAll0]
  | cons a r ih => simp [PyData.canLayAll0, PyData.canLay0, ih]
theorem depth_ints (ns : List Int) : PyData.depthAll (ns.map PyData.int) = 0 := by
  induction ns with
  | nil => simp [PyData.depthAll]
  | cons a r ih => simp [PyData.depthAll, PyData.depth, ih]
theorem idxD_ints (ns : List Int) (m : Int) (k : Nat) (h : m ∈ ns) : idxD (ns.map PyData.int) (.int m) k = some (k + ns.idxOf m) := by
  induction ns generalizing k with
  | nil => cases h
  | cons a r ih =>
    rw [List.map_cons, idxD, PyData.eqv, List.idxOf_cons]
    by_cases e : a = m
    · simp [e]
    · have hr : m ∈ r := by
        rcases List.mem_cons.mp h with z | z
        · exact absurd z.symm e
        · exact z
      rw [if_neg (by simpa using e), ih (k + 1) hr]
      have : (a == m) = false := by simpa using e
      rw [this]
      simp
      omega
theorem indexD_ints (ns : List Int) (m : Int) (h : m ∈ ns) : indexD (ns.map D.int) (.int m) = .ok (.int (ns.idxOf m)) := by
  unfold indexD
  rw [if_pos ⟨by simp [SeqAt.shaped, D.py, pys_ints, PyData.canLay0, canLay_ints, PyData.depth, depth_ints], by simp [SeqAt.shaped, D.py, PyData.canLay0, PyData.depth], by simp [D.dt, dts_ints], by simp [D.dt]⟩]
  rw [pys_ints, D.py, idxD_ints _ _ _ h]
  simp

/-! ### numbers -/
def within (d : D) (lo hi : Int) : Bool := match d with
  | .int n => decide (lo ≤ n) && decide (n ≤ hi)
  | _ => false
@[simp] theorem within_int (n lo hi : Int) : within (.int n) lo hi = (decide (lo ≤ n) && decide (n ≤ hi)) := rfl
def D.noObj : D → Bool
  | .obj _ _ => false
  | _ => true
@[simp] theorem noObj_int (i : Int) : (D.int i).noObj = true := rfl
@[simp] theorem noObj_bl (i : Bool) : (D.bl i).noObj = true := rfl
@[simp] theorem noObj_non : D.non.noObj = true := rfl
@[simp] theorem noObj_str (i : Str) : (D.str i).noObj = true := rfl
@[simp] theorem noObj_tup (i : List D) : (D.tup i).noObj = true := rfl
@[simp] theorem noObj_lst (i : List D) : (D.lst i).noObj = true := rfl
theorem is_within_eq (d : D) (lo hi : Int) (h : d.noObj = true) : Mi.is_within [d, .int lo, .int hi] = .ok (.bl (within d lo hi)) := by
  unfold Mi.is_within Mi.b_is_within
  cases d <;> first | (cases h; done) | simp [isInt, isBool, within]
  rename_i n
  by_cases c : lo ≤ n <;> simp [c]
@[simp] theorem is_within_int (n lo hi : Int) : Mi.is_within [.int n, .int lo, .int hi] = .ok (.bl (decide (lo ≤ n) && decide (n ≤ hi))) := is_within_eq _ _ _ rfl
@[simp] theorem is_within_non (lo hi : Int) : Mi.is_within [.non, .int lo, .int hi] = .ok (.bl false) := is_within_eq _ _ _ rfl
@[simp] theorem is_within_bl (n : Bool) (lo hi : Int) : Mi.is_within [.bl n, .int lo, .int hi] = .ok (.bl false) := is_within_eq _ _ _ rfl
@[simp] theorem is_within_str (n : Str) (lo hi : Int) : Mi.is_within [.str n, .int lo, .int hi] = .ok (.bl false) := is_within_eq _ _ _ rfl
@[simp] theorem is_within_tup (n : List D) (lo hi : Int) : Mi.is_within [.tup n, .int lo, .int hi] = .ok (.bl false) := is_within_eq _ _ _ rfl
@[simp] theorem is_within_lst (n : List D) (lo hi : Int) : Mi.is_within [.lst n, .int lo, .int hi] = .ok (.bl false) := is_within_eq _ _ _ rfl
theorem look_number_eq (d : D) (lo hi : Int) (h : d.noObj = true) : Mi.look_number [d, .int lo, .int hi] = if within d lo hi = true then .ok .non else .ex "BadNumber" := by
  unfold Mi.look_number Mi.b_look_number
  have e := is_within_eq d lo hi h
  by_cases c : within d lo hi = true
  · simp [e, c]
  · simp [e, c]
theorem look_int (n lo hi : Int) : Mi.look_number [.int n, .int lo, .int hi] = if lo ≤ n ∧ n ≤ hi then .ok .non else .ex "BadNumber" := by
  rw [look_number_eq _ _ _ rfl]
  simp [within]

/-! ### plans -/
abbrev Asks := List (Int × Int)
def dAsk (a : Int × Int) : D := .tup [.int a.1, .int a.2]
def dA (as : Asks) : D := .tup (as.map dAsk)
@[simp] theorem dA_pure (as : Asks) : (dA as).pure = true := by
  unfold dA
  rw [D.pure_tup, D.pures_all]
  simp [dAsk]
def okP : Int → Asks → Bool
  | _, [] => true
  | last, (w, l) :: r => (decide (last ≤ w) && decide (w ≤ 999) && decide (1 ≤ l) && decide (l ≤ 99)) && okP w r
def validP (as : Asks) : Bool := decide (as.length ≤ 40) && okP 0 as
theorem look_step (A : D) (last : Int) (a : Int × Int) : Mi.l1_look_plan [.sh A, .sh (.int last), .sh (dAsk a)] = if okP last [a] = true then .nx [.sh A, .sh (.int a.1), .sh (dAsk a)] else .ex "BadPlan" [.sh A, .sh (.int last), .sh (dAsk a)] := by
  unfold Mi.l1_look_plan
  obtain ⟨w, l⟩ := a
  by_cases h1 : last ≤ w
  · by_cases h2 : w ≤ 999
    · by_cases h3 : 1 ≤ l
      · by_cases h4 : l ≤ 99
        · simp [dAsk, isTup, okP, h1, h2, h3, h4]
        · simp [dAsk, isTup, okP, h1, h2, h3, h4]
      · simp [dAsk, isTup, okP, h1, h2, h3]
    · simp [dAsk, isTup, okP, h1, h2]
  · simp [dAsk, isTup, okP, h1]
theorem look_loop (A : D) : ∀ (as : Asks) (last : Int) (s2 : Sl), (okP last as = true → ∃ e, loopM (.nm 2) Mi.l1_look_plan (as.map dAsk) [.sh A, .sh (.int last), s2] = .nx e) ∧ (okP last as = false → ∃ e, loopM (.nm 2) Mi.l1_look_plan (as.map dAsk) [.sh A, .sh (.int last), s2] = .ex "BadPlan" e)
  | [], last, s2 => ⟨fun _ => ⟨_, rfl⟩, fun h => by simp [okP] at h⟩
  | (w, l) :: as, last, s2 => by
    have ih := look_loop A as w (.sh (dAsk (w, l)))
    rw [List.map_cons, loopM]
    have e1 : Mi.l1_look_plan (setsE [.sh A, .sh (.int last), s2] [(2, dAsk (w, l))]) = if okP last [(w, l)] = true then .nx [.sh A, .sh (.int w), .sh (dAsk (w, l))] else .ex "BadPlan" [.sh A, .sh (.int last), .sh (dAsk (w, l))] := look_step A last (w, l)
    simp only [bindT_nm]
    rw [e1]
    by_cases c : okP last [(w, l)] = true
    · rw [if_pos c]
      have e2 : okP last ((w, l) :: as) = okP w as := by
        simp [okP] at c ⊢
        intro _
        simp [c]
      rw [e2]
      exact ih
    · rw [if_neg c]
      refine ⟨fun h => ?_, fun _ => ⟨_, rfl⟩⟩
      simp [okP] at h c
      omega
theorem look_plan_eq (as : Asks) : Mi.look_plan [dA as] = if validP as = true then .ok .non else .ex "BadPlan" := by
  unfold Mi.look_plan Mi.b_look_plan
  by_cases h : as.length ≤ 40
  · have h' : ¬ (40 : Int) < as.length := by omega
    obtain ⟨l1, l2⟩ := look_loop (dA as) as 0 .no
    unfold dA at l1 l2 ⊢
    by_cases c : okP 0 as = true
    · obtain ⟨e, q⟩ := l1 c
      simp [isTup, h', q, validP, h, c]
    · obtain ⟨e, q⟩ := l2 (by simpa using c)
      simp [isTup, h', q, validP, h, c]
  · have h' : (40 : Int) < as.length := by omega
    simp [dA, isTup, h', validP, h]
/-! ### begins -/
def minL : List Int → Int
  | [] => 0
  | n :: ns => ns.foldl min n
/-- when each begins, by the ends -/
def bgo : List Int → Asks → List Int
  | _, [] => []
  | es, (w, l) :: as => max w (minL es) :: bgo (es.set (es.idxOf (minL es)) (max w (minL es) + l)) as
theorem minL_mem : ∀ {es : List Int}, es ≠ [] → minL es ∈ es
  | [], h => absurd rfl h
  | n :: ns, _ => by
    rcases foldl_min_mem ns n with h | h
    · show ns.foldl min n ∈ n :: ns
      rw [h]; exact List.mem_cons_self
    · exact List.mem_cons_of_mem _ h
theorem minI_eq {es : List Int} (h : es ≠ []) : minI es = .ok (.int (minL es)) := by
  cases es with
  | nil => exact absurd rfl h
  | cons n ns => rfl
theorem ixN_nat (n i : Nat) (h : i < n) : L2.ixN n (i : Int) = some i := by
  unfold L2.ixN
  rw [if_pos (by omega), if_pos (by omega)]
  rfl
theorem begins_step (A B : D) (es : List Int) (fs : List Int) (w l : Int) (s6 s7 : Sl) (h : es ≠ []) (hf : fs.length < 16777216) :
    ∃ t6 t7, Mi.l1_begins_of [.sh A, .sh B, .ow (.node .leaf) (.lst (es.map D.int)), .ow (.node .leaf) (.lst (fs.map D.int)), .sh (.int w), .sh (.int l), s6, s7] =
      .nx [.sh A, .sh B, .ow (.node .leaf) (.lst ((es.set (es.idxOf (minL es)) (max w (minL es) + l)).map D.int)), .ow (.node .leaf) (.lst ((fs ++ [max w (minL es)]).map D.int)), .sh (.int w), .sh (.int l), t6, t7] := by
  have m := minL_mem h
  refine ⟨.sh (.int (minL es)), .sh (.int (max w (minL es))), ?_⟩
  unfold Mi.l1_begins_of
  simp [minI_eq h, indexD_ints _ _ m, ixN_nat _ _ (List.idxOf_lt_length_of_mem m), hf, List.map_set]
theorem begins_loop (A B : D) : ∀ (as : Asks) (es fs : List Int) (s4 s5 s6 s7 : Sl), es ≠ [] → fs.length + as.length < 16777216 → ∃ (es' : List Int) (t4 t5 t6 t7 : Sl), loopM (.tp [(.nm 4), (.nm 5)]) Mi.l1_begins_of (as.map dAsk) [.sh A, .sh B, .ow (.node .leaf) (.lst (es.map D.int)), .ow (.node .leaf) (.lst (fs.map D.int)), s4, s5, s6, s7] =
    .nx [.sh A, .sh B, .ow (.node .leaf) (.lst (es'.map D.int)), .ow (.node .leaf) (.lst ((fs ++ bgo es as).map D.int)), t4, t5, t6, t7]
  | [], es, fs, s4, s5, s6, s7, _, _ => ⟨es, s4, s5, s6, s7, by simp [loopM, bgo]⟩
  | (w, l) :: as, es, fs, s4, s5, s6, s7, h, hf => by
    rw [List.length_cons] at hf
    obtain ⟨t6, t7, e1⟩ := begins_step A B es fs w l s6 s7 h (by omega)
    have h2 : es.set (es.idxOf (minL es)) (max w (minL es) + l) ≠ [] := fun z => h (List.length_eq_zero_iff.mp (by rw [← List.length_set (as := es) (i := es.idxOf (minL es)) (a := max w (minL es) + l), z]; rfl))
    obtain ⟨es', u4, u5, u6, u7, e2⟩ := begins_loop A B as _ (fs ++ [max w (minL es)]) (.sh (.int w)) (.sh (.int l)) t6 t7 h2 (by rw [List.length_append, List.length_singleton]; omega)
    refine ⟨es', u4, u5, u6, u7, ?_⟩
    rw [List.map_cons, loopM]
    simp only [dAsk, bindT_tp, bindTs_cons, bindTs_nil, bindT_nm, R.bind_ok, List.append_nil, List.singleton_append, setsE_cons, setsE_nil, List.set_cons_succ, List.set_cons_zero]
    rw [e1]
    simp only []
    rw [e2, bgo, List.append_assoc]
    rfl
def bg (c : Nat) (as : Asks) : List Int := bgo (List.replicate c 0) as
theorem begins_of_eq (c : Nat) (as : Asks) (h1 : 1 ≤ c) (h2 : c ≤ 1000) (h3 : as.length ≤ 1000) : Mi.begins_of [.int c, dA as] = .ok ((bg c as).map D.int) := by
  unfold Mi.begins_of Mi.b_begins_of
  have hne : List.replicate c (0 : Int) ≠ [] := by
    cases c with
    | zero => omega
    | succ c => rw [List.replicate_succ]; simp
  obtain ⟨es', t4, t5, t6, t7, e⟩ := begins_loop (.int c) (dA as) as (List.replicate c 0) [] .no .no .no .no hne (by simp; omega)
  have e0 : (List.replicate c [D.int 0]).flatten = (List.replicate c (0 : Int)).map D.int := by
    rw [List.map_replicate]
    clear e h1 h2 hne
    induction c with
    | zero => rfl
    | succ c ih => rw [List.replicate_succ, List.flatten_cons, ih, List.replicate_succ]; rfl
  have hr : Fl.rep2 (.lst [.int 0]) (.int c) = .ok ((List.replicate c (0 : Int)).map D.int) := by
    show (if 0 ≤ (c : Int) ∧ (c : Int) ≤ 1000 ∧ [D.int 0].length ≤ 1000 then R.ok (List.replicate (c : Int).toNat [D.int 0]).flatten else R.no) = _
    rw [if_pos ⟨by omega, by omega, by simp⟩, Int.toNat_natCast, e0]
  unfold dA at e ⊢
  simp only [Fn.F_eq, Fn.run2, S.seq_eq, S.own_eq, Fl.rep_eq, E.call_eq, E.cons_eq, E.c_eq, E.nil_eq, R.bind_ok, lstD_one, E.var_eq, vw_zero, Sl.vw_sh, R.of_some, hr]
  simp at e ⊢
  rw [e]
  simp [bg]
end Lp

/-! # Plain law, part C: what the mirrors of plans compute -/
namespace Lp
open PySem
theorem lcM_map {α : Type} {t : Tg} {vs : List Nat} {test : En → R Bool} {elt : En → R D} {e : En} (f g : α → D) (p : α → Bool) : ∀ (l : List α),
    (∀ a ∈ l, ∃ bs, bindT t (f a) = .ok bs ∧ test (setsE (wipeE e vs) bs) = .ok (p a) ∧ (p a = true → elt (setsE (wipeE e vs) bs) = .ok (g a) ∧ (g a).pure = true)) → lcM t vs test elt e (l.map f) = .ok ((l.filter p).map g)
  | [], _ => rfl
  | a :: l, h => by
    obtain ⟨bs, h1, h2, h3⟩ := h a List.mem_cons_self
    have ih := lcM_map f g p l fun b hb => h b (List.mem_cons_of_mem _ hb)
    rw [List.map_cons, lcM, h1]
    simp only [R.noex_ok, R.bind_ok]
    rw [h2]
    simp only [R.noex_ok, R.bind_ok]
    cases c : p a with
    | true =>
      obtain ⟨h4, h5⟩ := h3 c
      rw [h4, ih, List.filter_cons_of_pos c]
      simp [consP, h5]
    | false => rw [ih, List.filter_cons_of_neg (by simp [c])]
theorem lcM_all {α : Type} {t : Tg} {vs : List Nat} {elt : En → R D} {e : En} (f g : α → D) (l : List α)
    (h : ∀ a ∈ l, ∃ bs, bindT t (f a) = .ok bs ∧ elt (setsE (wipeE e vs) bs) = .ok (g a) ∧ (g a).pure = true) : lcM t vs B.yes elt e (l.map f) = .ok (l.map g) := by
  have := lcM_map (t := t) (vs := vs) (test := B.yes) (elt := elt) (e := e) f g (fun _ => true) l fun a ha => by
    obtain ⟨bs, h1, h2, h3⟩ := h a ha
    exact ⟨bs, h1, rfl, fun _ => ⟨h2, h3⟩⟩
  rw [this, List.filter_eq_self.mpr (fun _ _ => rfl)]
@[simp] theorem itemsD_dA (as : Asks) : itemsD (dA as) = .ok (as.map dAsk) := rfl
theorem zipT_map {α β : Type} (f : α → D) (g : β → D) (xs : List α) (ys : List β) : zipT (xs.map f) (ys.map g) = (xs.zip ys).map fun p => .tup [f p.1, g p.2] := by
  unfold zipT
  rw [List.zipWith_map, List.zip, List.map_zipWith]
theorem bgo_len : ∀ (as : Asks) (es : List Int), (bgo es as).length = as.length
  | [], _ => rfl
  | (w, l) :: as, es => by rw [bgo, List.length_cons, bgo_len as, List.length_cons]
theorem bg_len (c : Nat) (as : Asks) : (bg c as).length = as.length := bgo_len as _
theorem valid_len {as : Asks} (v : validP as = true) : as.length ≤ 40 := by
  unfold validP at v
  simp at v
  exact v.1
theorem begins_eq (c : Nat) (as : Asks) (h1 : 1 ≤ c) (h2 : c ≤ 40) (v : validP as = true) : Mi.begins [.int c, dA as] = .ok ((bg c as).map D.int) := by
  have hl := valid_len v
  have h1' : (1 : Int) ≤ c := by omega
  have h2' : (c : Int) ≤ 40 := by omega
  unfold Mi.begins Mi.b_begins
  simp [look_int, h1', h2', look_plan_eq, v, begins_of_eq c as h1 (by omega) (by omega)]
/-- how long one waits at most -/
def lg (c : Nat) (as : Asks) : Int := (((bg c as).zip as).map fun p => p.1 - p.2.1).foldl max 0
theorem longest_of_eq (c : Nat) (as : Asks) (h1 : 1 ≤ c) (h2 : c ≤ 1000) (h3 : as.length ≤ 1000) : Mi.longest_of [.int c, dA as] = .ok (.int (lg c as)) := by
  unfold Mi.longest_of Mi.b_longest_of
  have e1 := lcM_all (t := .tp [(.nm 2), (.nm 3)]) (vs := [2, 3]) (elt := E.bin subD (E.var 2) (E.bin ixD (E.var 3) (E.c (.int 0)))) (e := [.sh (.int c), .sh (dA as), .no, .no])
    (fun p : Int × (Int × Int) => .tup [.int p.1, dAsk p.2]) (fun p => .int (p.1 - p.2.1)) ((bg c as).zip as) (fun p hp => ⟨[(2, .int p.1), (3, dAsk p.2)], by simp, by simp [dAsk], by simp⟩)
  have hb := begins_of_eq c as h1 h2 h3
  have hl : ((bg c as).zip as).length ≤ 1000 := by rw [List.length_zip, bg_len, Nat.min_self]; exact h3
  have hl2 : min (bg c as).length as.length ≤ 16777000 := by rw [bg_len, Nat.min_self]; omega
  have hl3 : 1 + min (bg c as).length as.length ≤ 16777216 := by rw [bg_len, Nat.min_self]; omega
  simp only [Fn.X_eq, Fn.run2, S.seq_eq, S.ret_eq, E.call_eq, E.cons_eq, E.nil_eq, Fl.add_eq, E.c_eq, R.bind_ok, lstD_one, Fl.comp_eq, I.zip_eq, E.var_eq, vw_zero, vw_succ, Sl.vw_sh, R.of_some, Fl.call_eq, hb, okLst_eq, zipD_eq, itemsD_lst, List.replicate, itemsD_dA, zipT_map, List.length_map]
  rw [if_pos (by rw [List.length_zip]; exact hl2), e1]
  simp only [okLst_eq, R.bind_ok, add2_eq, List.length_map, List.length_singleton]
  rw [if_pos (by rw [List.length_zip]; exact hl3)]
  have e3 : [D.int 0] ++ (((bg c as).zip as).map fun p => D.int (p.1 - p.2.1)) = ((0 : Int) :: ((bg c as).zip as).map fun p => p.1 - p.2.1).map D.int := by simp
  simp only [R.bind_ok, on1_eq, e3, onInts_ints, okLst_eq]
  rfl
theorem longest_eq (c : Nat) (as : Asks) (h1 : 1 ≤ c) (h2 : c ≤ 40) (v : validP as = true) : Mi.longest [.int c, dA as] = .ok (.int (lg c as)) := by
  have hl := valid_len v
  have h1' : (1 : Int) ≤ c := by omega
  have h2' : (c : Int) ≤ 40 := by omega
  unfold Mi.longest Mi.b_longest
  simp [look_int, h1', h2', look_plan_eq, v, longest_of_eq c as h1 (by omega) (by omega)]
/-! ### busy -/
abbrev Spans := List (Int × Int)
def dP (p : Int × Int) : D := .tup [.int p.1, .int p.2]
def spans (bs : List Int) (as : Asks) : Spans := (bs.zip as).map fun p => (p.1, p.1 + p.2.2)
def inSp (t : Int) (p : Int × Int) : Bool := decide (p.1 ≤ t) && decide (t < p.2)
def ov (t : Int) (sp : Spans) : Nat := (sp.filter (inSp t)).length
def bsy (bs : List Int) (as : Asks) : Int := (spans bs as).foldl (fun m p => max m (ov p.1 (spans bs as) : Int)) 0
theorem busy_loop (A A2 : D) (sp : Spans) (hs : sp.length ≤ 1000) : ∀ (l : Spans) (m : Int) (s3 s6 s7 s8 : Sl), ∃ t3 t6 t7 t8, loopM (.tp [(.nm 3), (.nm 6)]) Mi.l1_busy (l.map dP) [.sh A, .sh A2, .sh (.lst (sp.map dP)), s3, .no, .sh (.int m), s6, s7, s8] =
    .nx [.sh A, .sh A2, .sh (.lst (sp.map dP)), t3, .no, .sh (.int (l.foldl (fun m p => max m (ov p.1 sp : Int)) m)), t6, t7, t8]
  | [], m, s3, s6, s7, s8 => ⟨s3, s6, s7, s8, rfl⟩
  | (b, d) :: l, m, s3, s6, s7, s8 => by
    have e1 := lcM_map (t := .tp [(.nm 7), (.nm 8)]) (vs := [7, 8]) (test := B.val (E.chain leD ltD (E.var 7) (E.var 3) (E.var 8))) (elt := E.c (.int 1)) (e := [.sh A, .sh A2, .sh (.lst (sp.map dP)), .sh (.int b), .no, .sh (.int m), .sh (.int d), s7, s8])
      dP (fun _ => .int 1) (inSp b) sp (fun p hp => ⟨[(7, .int p.1), (8, .int p.2)], by simp [dP], by
        unfold inSp
        by_cases c : p.1 ≤ b <;> simp [c], fun _ => ⟨rfl, by simp⟩⟩)
    obtain ⟨t3, t6, t7, t8, ih⟩ := busy_loop A A2 sp hs l (max m (ov b sp : Int)) (.sh (.int b)) (.sh (.int d)) s7 s8
    refine ⟨t3, t6, t7, t8, ?_⟩
    rw [List.map_cons, loopM]
    have es : Mi.l1_busy [.sh A, .sh A2, .sh (.lst (sp.map dP)), .sh (.int b), .no, .sh (.int m), .sh (.int d), s7, s8] = .nx [.sh A, .sh A2, .sh (.lst (sp.map dP)), .sh (.int b), .no, .sh (.int (max m (ov b sp : Int))), .sh (.int d), s7, s8] := by
      unfold Mi.l1_busy
      simp only [S.seq_eq, S.set_eq, Z.px_eq, E.call_eq, E.cons_eq, E.nil_eq, E.var_eq, vw_zero, vw_succ, Sl.vw_sh, R.of_some, R.bind_ok, Fl.comp_eq, I.items_eq, itemsD_lst, List.length_map]
      rw [if_pos (by omega), e1]
      simp [ov]
    simp only [dP, bindT_tp, bindTs_cons, bindTs_nil, bindT_nm, R.bind_ok, List.append_nil, List.singleton_append, setsE_cons, setsE_nil, List.set_cons_succ, List.set_cons_zero]
    rw [es]
    exact ih
theorem busy_eq (c : Nat) (as : Asks) (h1 : 1 ≤ c) (h2 : c ≤ 40) (v : validP as = true) : Mi.busy [.int c, dA as] = .ok (.int (bsy (bg c as) as)) := by
  have hl := valid_len v
  have h1' : (1 : Int) ≤ c := by omega
  have h2' : (c : Int) ≤ 40 := by omega
  unfold Mi.busy Mi.b_busy
  have e2 : (dA as) = .tup (as.map dAsk) := rfl
  have e1 := lcM_all (t := .tp [(.nm 3), (.nm 4)]) (vs := [3, 4]) (elt := E.call tupD (E.cons (E.var 3) (E.cons (E.bin addD (E.var 3) (E.bin ixD (E.var 4) (E.c (.int 1)))) E.nil))) (e := [.sh (.int c), .sh (dA as), .no, .no, .no, .no, .no, .no, .no])
    (fun p : Int × (Int × Int) => .tup [.int p.1, dAsk p.2]) (fun p => dP (p.1, p.1 + p.2.2)) ((bg c as).zip as) (fun p hp => ⟨[(3, .int p.1), (4, dAsk p.2)], by simp, by simp [dAsk, dP], by simp [dP]⟩)
  have hb := begins_of_eq c as h1 (by omega) (by omega)
  have hl2 : min (bg c as).length as.length ≤ 16777000 := by rw [bg_len, Nat.min_self]; omega
  have e3 : (((bg c as).zip as).map fun p => dP (p.1, p.1 + p.2.2)) = (spans (bg c as) as).map dP := by
    unfold spans; rw [List.map_map]; rfl
  have hs : (spans (bg c as) as).length ≤ 1000 := by unfold spans; rw [List.length_map, List.length_zip, bg_len, Nat.min_self]; omega
  have hpure : D.pures ((spans (bg c as) as).map dP) = true := by rw [D.pures_all]; simp [dP]
  obtain ⟨t3, t6, t7, t8, e4⟩ := busy_loop (.int c) (dA as) (spans (bg c as) as) hs (spans (bg c as) as) 0 .no .no .no .no
  have e5 : Fl.comp (I.zip (E.cons (E.call okLst (Fl.call Mi.begins_of (E.cons (E.var 0) (E.cons (E.var 1) E.nil)))) (E.cons (E.var 1) E.nil))) (.tp [(.nm 3), (.nm 4)]) [3, 4] B.yes (E.call tupD (E.cons (E.var 3) (E.cons (E.bin addD (E.var 3) (E.bin ixD (E.var 4) (E.c (.int 1)))) E.nil))) [.sh (.int c), .sh (dA as), .no, .no, .no, .no, .no, .no, .no] = .ok ((spans (bg c as) as).map dP) := by
    simp only [Fl.comp_eq, I.zip_eq, E.call_eq, E.cons_eq, E.nil_eq, E.var_eq, vw_zero, vw_succ, Sl.vw_sh, R.of_some, R.bind_ok, Fl.call_eq, hb, okLst_eq, zipD_eq, itemsD_lst]
    rw [show itemsD (dA as) = .ok (as.map dAsk) from rfl]
    simp only [R.bind_ok, zipT_map, List.length_map]
    rw [if_pos (by rw [List.length_zip]; exact hl2), e1, e3]
  simp only [Fn.X_eq, Fn.run2, List.replicate, S.seq_eq, S.drop_eq, E.call_eq, E.cons_eq, E.nil_eq, E.var_eq, E.c_eq, vw_zero, vw_succ, Sl.vw_sh, R.of_some, R.bind_ok, look_int, h1', h2', and_self, if_true, R.out_ok, Out.seq_nx, look_plan_eq, v, S.set_eq, Z.pf_eq, e5, hpure, Bool.true_or, Z.px_eq, D.pure_int, List.set_cons_succ, List.set_cons_zero, S.loop_eq, I.items_eq, Z.var_succ, Z.var_zero, itemsD_lst, e4, S.ret_eq, S.nil_eq, Out.seq_rt, Fn.outX_rt]
  rfl
end Lp

/-! # Plain law, part D: first come first served, by counts of ends -/
namespace Lp
open PySem

def cnt (t : Int) (es : List Int) : Nat := es.countP fun e => decide (e ≤ t)
theorem cnt_cons (t e : Int) (es : List Int) : cnt t (e :: es) = cnt t es + if e ≤ t then 1 else 0 := by
  unfold cnt
  rw [List.countP_cons]
  by_cases h : e ≤ t <;> simp [h]
theorem cnt_set (t x : Int) : ∀ (es : List Int) (i : Nat) (h : i < es.length), cnt t (es.set i x) + (if es[i] ≤ t then 1 else 0) = cnt t es + if x ≤ t then 1 else 0
  | [], i, h => absurd h (Nat.not_lt_zero i)
  | e :: es, 0, _ => by
    rw [List.set_cons_zero, cnt_cons, cnt_cons, List.getElem_cons_zero]
    omega
  | e :: es, i + 1, h => by
    have := cnt_set t x es i (by simpa using h)
    rw [List.set_cons_succ, cnt_cons, cnt_cons, List.getElem_cons_succ]
    omega
theorem cnt_le (t : Int) (es : List Int) : cnt t es ≤ es.length := List.countP_le_length
theorem foldl_min_leB : ∀ (ns : List Int) (n : Int), ns.foldl min n ≤ n ∧ ∀ y ∈ ns, ns.foldl min n ≤ y
  | [], n => ⟨Int.le_refl n, fun y h => nomatch h⟩
  | m :: ns, n => by
    rw [List.foldl_cons]
    obtain ⟨h1, h2⟩ := foldl_min_leB ns (min n m)
    refine ⟨by omega, fun y hy => ?_⟩
    rcases List.mem_cons.mp hy with z | z
    · rw [z]; omega
    · exact h2 y z
theorem minL_le : ∀ {es : List Int} {y : Int}, y ∈ es → minL es ≤ y
  | n :: ns, y, h => by
    obtain ⟨h1, h2⟩ := foldl_min_leB ns n
    rcases List.mem_cons.mp h with z | z
    · rw [z]; exact h1
    · exact h2 y z
theorem cnt_pos {t : Int} {es : List Int} (h : es ≠ []) : 1 ≤ cnt t es ↔ minL es ≤ t := by
  constructor
  · intro c
    obtain ⟨a, ha, p⟩ := List.countP_pos_iff.mp (show 0 < es.countP _ from c)
    have := minL_le ha
    simp at p
    omega
  · intro c
    exact List.countP_pos_iff.mpr ⟨minL es, minL_mem h, by simpa using c⟩
/-- the ends behind an ask -/
def stp (es : List Int) (w l : Int) : List Int := es.set (es.idxOf (minL es)) (max w (minL es) + l)
theorem stp_len (es : List Int) (w l : Int) : (stp es w l).length = es.length := List.length_set ..
theorem stp_ne {es : List Int} (h : es ≠ []) (w l : Int) : stp es w l ≠ [] := fun z => h (List.length_eq_zero_iff.mp (by rw [← stp_len es w l, z]; rfl))
theorem cnt_stp {es : List Int} (h : es ≠ []) (t w l : Int) : cnt t (stp es w l) + (if minL es ≤ t then 1 else 0) = cnt t es + if max w (minL es) + l ≤ t then 1 else 0 := by
  have m := minL_mem h
  have hi := List.idxOf_lt_length_of_mem m
  have := cnt_set t (max w (minL es) + l) es (es.idxOf (minL es)) hi
  rw [List.getElem_idxOf hi] at this
  exact this
theorem bgo_cons (es : List Int) (w l : Int) (as : Asks) : bgo es ((w, l) :: as) = max w (minL es) :: bgo (stp es w l) as := rfl
/-- es is never behind fs -/
def dom (es fs : List Int) : Prop := ∀ t, cnt t fs ≤ cnt t es
theorem min_dom {es fs : List Int} (h : es ≠ []) (g : fs ≠ []) (d : dom es fs) : minL es ≤ minL fs :=
  (cnt_pos h).mp (Nat.le_trans ((cnt_pos g).mpr (Int.le_refl _)) (d (minL fs)))
theorem dom_stp {es fs : List Int} (h : es ≠ []) (g : fs ≠ []) (d : dom es fs) (w l l' : Int) (hl : l ≤ l') : dom (stp es w l) (stp fs w l') := fun t => by
  have h1 := cnt_stp h t w l
  have h2 := cnt_stp g t w l'
  have h3 := d t
  have h4 := min_dom h g d
  have h5 := cnt_pos (t := t) h
  have h6 := cnt_pos (t := t) g
  by_cases c1 : minL es ≤ t
  · have := h5.mpr c1
    by_cases c2 : minL fs ≤ t
    · by_cases c3 : max w (minL fs) + l' ≤ t
      · have c4 : max w (minL es) + l ≤ t := by omega
        simp only [c1, c2, c3, c4, if_true] at h1 h2; omega
      · simp only [c1, c2, c3, if_true, if_false] at h1 h2
        split at h1 <;> omega
    · have c3 : cnt t fs = 0 := by
        cases k : cnt t fs with
        | zero => rfl
        | succ n => exact absurd (h6.mp (by omega)) c2
      by_cases c4 : max w (minL fs) + l' ≤ t
      · have c5 : max w (minL es) + l ≤ t := by omega
        simp only [c1, c2, c4, c5, if_true, if_false] at h1 h2; omega
      · simp only [c1, c2, c4, if_true, if_false] at h1 h2
        split at h1 <;> omega
  · have c2 : ¬ minL fs ≤ t := by omega
    simp only [c1, c2, if_false] at h1 h2
    by_cases c4 : max w (minL fs) + l' ≤ t
    · have c5 : max w (minL es) + l ≤ t := by omega
      simp only [c4, c5, if_true] at h1 h2; omega
    · simp only [c4, if_false] at h2
      split at h1 <;> omega
theorem bgo_dom : ∀ (as : Asks) {es fs : List Int}, es ≠ [] → fs ≠ [] → dom es fs → ∀ i, (bgo es as).getD i 0 ≤ (bgo fs as).getD i 0
  | [], _, _, _, _, _, i => by simp [bgo]
  | (w, l) :: as, es, fs, h, g, d, i => by
    rw [bgo_cons, bgo_cons]
    have h4 := min_dom h g d
    cases i with
    | zero => simp; omega
    | succ i =>
      rw [List.getD_cons_succ, List.getD_cons_succ]
      exact bgo_dom as (stp_ne h w l) (stp_ne g w l) (dom_stp h g d w l l (Int.le_refl l)) i
theorem cnt_rep (t x : Int) : ∀ n : Nat, cnt t (List.replicate n x) = if x ≤ t then n else 0
  | 0 => by simp [cnt]
  | n + 1 => by
    rw [List.replicate_succ, cnt_cons, cnt_rep t x n]
    split <;> omega
theorem rep_ne {c : Nat} (h : 1 ≤ c) : List.replicate c (0 : Int) ≠ [] := fun z => by
  have := congrArg List.length z
  simp at this
  omega
theorem bg_more {c d : Nat} (as : Asks) (h : 1 ≤ c) (hd : c ≤ d) (i : Nat) : (bg d as).getD i 0 ≤ (bg c as).getD i 0 :=
  bgo_dom as (rep_ne (by omega)) (rep_ne h) (fun t => by rw [cnt_rep, cnt_rep]; split <;> omega) i
theorem bgo_ge : ∀ (as : Asks) (es : List Int) (i : Nat), i < as.length → (as.getD i (0, 0)).1 ≤ (bgo es as).getD i 0
  | [], _, i, h => absurd h (Nat.not_lt_zero i)
  | (w, l) :: as, es, i, h => by
    rw [bgo_cons]
    cases i with
    | zero => simp; omega
    | succ i =>
      rw [List.getD_cons_succ, List.getD_cons_succ]
      exact bgo_ge as _ i (by simpa using h)
/-! ### how many at once -/
def fin : List Int → Asks → List Int
  | es, [] => es
  | es, (w, l) :: as => fin (stp es w l) as
theorem spans_cons (b : Int) (bs : List Int) (w l : Int) (as : Asks) : spans (b :: bs) ((w, l) :: as) = (b, b + l) :: spans bs as := rfl
theorem ov_cons (t : Int) (p : Int × Int) (sp : Spans) : ov t (p :: sp) = ov t sp + if p.1 ≤ t ∧ t < p.2 then 1 else 0 := by
  unfold ov
  rw [List.filter_cons]
  unfold inSp
  by_cases h1 : p.1 ≤ t <;> by_cases h2 : t < p.2 <;> simp [h1, h2]
def posP (as : Asks) : Prop := ∀ a ∈ as, 1 ≤ a.2
theorem ov_le : ∀ (as : Asks) (es : List Int), es ≠ [] → posP as → ∀ t, ov t (spans (bgo es as) as) + cnt t (fin es as) ≤ cnt t es
  | [], es, _, _, t => by simp [spans, ov, fin]
  | (w, l) :: as, es, h, p, t => by
    have ih := ov_le as (stp es w l) (stp_ne h w l) (fun a ha => p a (List.mem_cons_of_mem _ ha)) t
    have hl : 1 ≤ l := p (w, l) List.mem_cons_self
    rw [bgo_cons, spans_cons, ov_cons, fin]
    have h1 := cnt_stp h t w l
    simp only [] at *
    by_cases c1 : max w (minL es) ≤ t
    · have c2 : minL es ≤ t := by omega
      by_cases c3 : t < max w (minL es) + l
      · have c4 : ¬ max w (minL es) + l ≤ t := by omega
        simp only [c2, c4, if_true, if_false] at h1
        simp only [c1, c3, and_self, if_true]
        omega
      · have c4 : max w (minL es) + l ≤ t := by omega
        simp only [c2, c4, if_true] at h1
        simp only [c3, and_false, if_false]
        omega
    · have c4 : ¬ max w (minL es) + l ≤ t := by omega
      simp only [c4, if_false] at h1
      simp only [c1, false_and, if_false]
      split at h1 <;> omega
theorem foldl_max_le {α : Type} (f : α → Int) : ∀ (l : List α) (m n : Int), l.foldl (fun m a => max m (f a)) m ≤ n ↔ m ≤ n ∧ ∀ a ∈ l, f a ≤ n
  | [], m, n => by simp
  | a :: l, m, n => by
    rw [List.foldl_cons, foldl_max_le f l]
    constructor
    · rintro ⟨h1, h2⟩
      refine ⟨by omega, fun b hb => ?_⟩
      rcases List.mem_cons.mp hb with z | z
      · rw [z]; omega
      · exact h2 b z
    · rintro ⟨h1, h2⟩
      have := h2 a List.mem_cons_self
      exact ⟨by omega, fun b hb => h2 b (List.mem_cons_of_mem _ hb)⟩
theorem bsy_le {bs : List Int} {as : Asks} {n : Nat} (h : ∀ t, ov t (spans bs as) ≤ n) : bsy bs as ≤ n := by
  unfold bsy
  rw [foldl_max_le (fun p : Int × Int => (ov p.1 (spans bs as) : Int))]
  exact ⟨by omega, fun p _ => by have := h p.1; omega⟩
theorem bsy_bg (c : Nat) (as : Asks) (h : 1 ≤ c) (p : posP as) : bsy (bg c as) as ≤ c := bsy_le fun t => by
  have h1 := ov_le as (List.replicate c 0) (rep_ne h) p t
  have h2 := cnt_le t (List.replicate c (0 : Int))
  rw [List.length_replicate] at h2
  unfold bg
  omega
theorem ov_bsy {bs : List Int} {as : Asks} {p : Int × Int} (h : p ∈ spans bs as) : (ov p.1 (spans bs as) : Int) ≤ bsy bs as := by
  have := (foldl_max_le (fun p : Int × Int => (ov p.1 (spans bs as) : Int)) (spans bs as) 0 (bsy bs as)).mp (Int.le_refl _)
  exact this.2 p h
/-! ### in order -/
theorem okP_pos : ∀ {as : Asks} {last : Int}, okP last as = true → posP as
  | [], _, _ => fun a ha => nomatch ha
  | (w, l) :: as, last, h => by
    rw [okP, Bool.and_eq_true] at h
    simp at h
    intro a ha
    rcases List.mem_cons.mp ha with z | z
    · rw [z]; exact h.1.1.2
    · exact okP_pos h.2 a z
theorem okP_ge : ∀ {as : Asks} {last : Int}, okP last as = true → ∀ a ∈ as, last ≤ a.1
  | [], _, _ => fun a ha => nomatch ha
  | (w, l) :: as, last, h => by
    rw [okP, Bool.and_eq_true] at h
    simp at h
    intro a ha
    rcases List.mem_cons.mp ha with z | z
    · rw [z]; exact h.1.1.1.1
    · have := okP_ge h.2 a z
      omega
theorem min_stp {es : List Int} (h : es ≠ []) (w l : Int) (hl : 0 ≤ l) : minL es ≤ minL (stp es w l) := by
  have m := minL_mem (stp_ne h w l)
  rcases List.mem_or_eq_of_mem_set m with z | z
  · exact minL_le z
  · rw [z]; omega
theorem bgo_min : ∀ (as : Asks) (es : List Int), es ≠ [] → posP as → ∀ b ∈ bgo es as, minL es ≤ b
  | [], _, _, _, b, hb => nomatch hb
  | (w, l) :: as, es, h, p, b, hb => by
    rw [bgo_cons] at hb
    have hl : 1 ≤ l := p (w, l) List.mem_cons_self
    rcases List.mem_cons.mp hb with z | z
    · rw [z]; omega
    · have := bgo_min as _ (stp_ne h w l) (fun a ha => p a (List.mem_cons_of_mem _ ha)) b z
      have := min_stp h w l (by omega)
      omega
theorem bgo_low : ∀ (as : Asks) (es : List Int) (last : Int), okP last as = true → ∀ b ∈ bgo es as, last ≤ b
  | [], _, _, _, b, hb => nomatch hb
  | (w, l) :: as, es, last, h, b, hb => by
    have h' := h
    rw [okP, Bool.and_eq_true] at h'
    simp at h'
    rw [bgo_cons] at hb
    rcases List.mem_cons.mp hb with z | z
    · rw [z]; omega
    · have := bgo_low as _ w h'.2 b z
      omega
theorem bgo_sorted : ∀ (as : Asks) (es : List Int) (last : Int), es ≠ [] → okP last as = true → (bgo es as).Pairwise (· ≤ ·)
  | [], _, _, _, _ => List.Pairwise.nil
  | (w, l) :: as, es, last, h, v => by
    have v' := v
    rw [okP, Bool.and_eq_true] at v'
    simp at v'
    rw [bgo_cons, List.pairwise_cons]
    refine ⟨fun b hb => ?_, bgo_sorted as _ w (stp_ne h w l) v'.2⟩
    have h1 := bgo_low as (stp es w l) w v'.2 b hb
    have h2 := bgo_min as _ (stp_ne h w l) (okP_pos v'.2) b hb
    have h3 := min_stp h w l (by omega)
    omega
theorem sort_self {ns : List Int} (h : ns.Pairwise (· ≤ ·)) : (ns.mergeSort fun a b => decide (a ≤ b)) = ns := by
  apply List.mergeSort_of_pairwise
  exact h.imp fun h => by simpa using h
/-! ### enough of them -/
theorem bgo_enough : ∀ (as : Asks) (es : List Int) (last : Int), 0 ≤ last → es ≠ [] → okP last as = true → as.length ≤ cnt 0 es → bgo es as = as.map (·.1)
  | [], _, _, _, _, _, _ => rfl
  | (w, l) :: as, es, last, h0, h, v, n => by
    have v' := v
    rw [okP, Bool.and_eq_true] at v'
    simp at v'
    rw [List.length_cons] at n
    have m := (cnt_pos (t := 0) h).mp (by omega)
    have h1 := cnt_stp h 0 w l
    simp only [m, if_true] at h1
    rw [bgo_cons, bgo_enough as _ w (by omega) (stp_ne h w l) v'.2 (by split at h1 <;> omega)]
    rw [show max w (minL es) = w by omega]
    rfl
theorem bg_enough (c : Nat) (as : Asks) (h : 1 ≤ c) (v : okP 0 as = true) (n : as.length ≤ c) : bg c as = as.map (·.1) :=
  bgo_enough as _ 0 (Int.le_refl 0) (rep_ne h) v (by rw [cnt_rep, if_pos (Int.le_refl 0)]; exact n)
theorem bgo_free : ∀ (as : Asks) (es : List Int) (last : Int) (P : Int → Nat) (c : Nat), es ≠ [] → okP last as = true → (∀ t, last ≤ t → c ≤ cnt t es + P t) → (∀ a ∈ as, P a.1 + ov a.1 (spans (as.map (·.1)) as) ≤ c) → bgo es as = as.map (·.1)
  | [], _, _, _, _, _, _, _, _ => rfl
  | (w, l) :: as, es, last, P, c, h, v, i1, i2 => by
    have v' := v
    rw [okP, Bool.and_eq_true] at v'
    simp at v'
    have g := i2 (w, l) List.mem_cons_self
    rw [List.map_cons, spans_cons, ov_cons, if_pos ⟨Int.le_refl _, by show w < w + l; omega⟩] at g
    have g2 := i1 w (by omega)
    have m := (cnt_pos (t := w) h).mp (by simp only [] at g; omega)
    have mx : max w (minL es) = w := by omega
    rw [bgo_cons, mx, List.map_cons]
    congr 1
    refine bgo_free as _ w (fun t => P t + if w ≤ t ∧ t < w + l then 1 else 0) c (stp_ne h w l) v'.2 (fun t ht => ?_) fun a ha => ?_
    · have h1 := cnt_stp h t w l
      rw [mx] at h1
      have h2 := i1 t (by omega)
      have c1 : minL es ≤ t := by omega
      simp only [c1, if_true] at h1
      by_cases c2 : t < w + l
      · have c3 : ¬ w + l ≤ t := by omega
        simp only [c3, if_false] at h1
        simp only [ht, c2, and_self, if_true]
        omega
      · have c3 : w + l ≤ t := by omega
        simp only [c3, if_true] at h1
        simp only [c2, and_false, if_false]
        omega
    · have h3 := i2 a (List.mem_cons_of_mem _ ha)
      rw [List.map_cons, spans_cons, ov_cons] at h3
      simp only [] at h3 ⊢
      omega
theorem mem_spans {as : Asks} {a : Int × Int} (h : a ∈ as) : (a.1, a.1 + a.2) ∈ spans (as.map (·.1)) as := by
  unfold spans
  induction as with
  | nil => cases h
  | cons b as ih =>
    rw [List.map_cons, List.zip_cons_cons, List.map_cons]
    rcases List.mem_cons.mp h with z | z
    · rw [z]; exact List.mem_cons_self
    · exact List.mem_cons_of_mem _ (ih z)
theorem bg_free (c : Nat) (as : Asks) (h : 1 ≤ c) (v : okP 0 as = true) (n : bsy (as.map (·.1)) as ≤ c) : bg c as = as.map (·.1) := by
  refine bgo_free as _ 0 (fun _ => 0) c (rep_ne h) v (fun t ht => by rw [cnt_rep, if_pos ht]; omega) fun a ha => ?_
  have := ov_bsy (mem_spans ha)
  simp only [] at this ⊢
  omega
end Lp

/-! # Plain law, part E: what the laws draw -/
namespace Lp
open PySem
theorem cell_int (ns : List Int) (i : Int) (h : 0 ≤ i) : Mi.law_cell [scr ns, .int i] = .ok (.int (cell ns i.toNat)) := by
  have := cell_eq ns i.toNat
  rw [Int.toNat_of_nonneg h] at this
  exact this
theorem cell_lit (ns : List Int) (k : Nat) : Mi.law_cell [scr ns, .int (OfNat.ofNat k)] = .ok (.int (cell ns k)) := cell_eq ns k
theorem seed_eq (s k : Int) : ∃ r, Mi.law_seed [.int s, .int k] = .ok (.int r) ∧ 0 ≤ r := by
  unfold Mi.law_seed Mi.b_law_seed
  have h1 := Int.emod_nonneg (s * 1103515245 + 7919 * k + 12345) (show (2147483647 : Int) ≠ 0 by omega)
  have h2 := Int.emod_lt_of_pos (s * 1103515245 + 7919 * k + 12345) (show (0 : Int) < 2147483647 by omega)
  refine ⟨((s * 1103515245 + 7919 * k + 12345) % 2147483647) ^ 5 % 2147483647, ?_, Int.emod_nonneg _ (by omega)⟩
  simp [mulD_int, modD_int]
  rw [powD_int _ _ (by omega)]
  simp [modD_int]
theorem pick_eq (s m : Int) (h : 0 < m) : Mi.law_pick [.int s, .int m] = .ok (.int (s / 97 % m)) := by
  unfold Mi.law_pick Mi.b_law_pick
  simp [divD_int, modD_int, h]
theorem ix3 (a b c i : Int) (h0 : 0 ≤ i) (h : i < 3) : ∃ v, ixD (.lst [.int a, .int b, .int c]) (.int i) = .ok (.int v) ∧ (v = a ∨ v = b ∨ v = c) := by
  have : i = 0 ∨ i = 1 ∨ i = 2 := by omega
  rcases this with e | e | e <;> subst e <;> simp
theorem ix2 (a b i : Int) (h0 : 0 ≤ i) (h : i < 2) : ∃ v, ixD (.lst [.int a, .int b]) (.int i) = .ok (.int v) ∧ (v = a ∨ v = b) := by
  have : i = 0 ∨ i = 1 := by omega
  rcases this with e | e <;> subst e <;> simp
theorem asks_step (ns : List Int) (a m : Int) (ha : 0 ≤ a) (fs : Asks) (hf : fs.length < 1000) (w k : Int) (hk : 0 ≤ k) (hw : w ≤ 999) (s6 : Sl) :
    ∃ w' l t6, w ≤ w' ∧ w' ≤ 999 ∧ 1 ≤ l ∧ l ≤ 99 ∧ Mi.l1_law_asks [.sh (scr ns), .sh (.int a), .sh (.int m), .ow (.node .leaf) (.lst (fs.map dAsk)), .sh (.int w), .sh (.int k), s6] =
      .nx [.sh (scr ns), .sh (.int a), .sh (.int m), .ow (.node .leaf) (.lst ((fs ++ [(w', l)]).map dAsk)), .sh (.int w'), .sh (.int k), t6] := by
  have hk6 := Int.emod_nonneg k (show (6 : Int) ≠ 0 by omega)
  obtain ⟨s, hs, hs0⟩ := seed_eq (cell ns (a + 1 + k % 6).toNat + 31 * k) k
  have hc := cell_int ns (a + 1 + k % 6) (by omega)
  have p0 := Int.emod_nonneg (s / 97) (show (3 : Int) ≠ 0 by omega)
  have p1 := Int.emod_lt_of_pos (s / 97) (show (0 : Int) < 3 by omega)
  obtain ⟨v, hv, hv'⟩ := ix3 0 1 (s / 7 % 20) (s / 97 % 3) p0 p1
  have q0 := Int.emod_nonneg (s / 5) (show (2 : Int) ≠ 0 by omega)
  have q1 := Int.emod_lt_of_pos (s / 5) (show (0 : Int) < 2 by omega)
  obtain ⟨u, hu, hu'⟩ := ix2 99 10 (s / 5 % 2) q0 q1
  have r0 := Int.emod_nonneg (s / 7) (show (20 : Int) ≠ 0 by omega)
  have hu0 : 0 < u := by omega
  have t0 := Int.emod_nonneg (s / 11) (show u ≠ 0 by omega)
  have t1 := Int.emod_lt_of_pos (s / 11) hu0
  have hp := pick_eq s 3 (by omega)
  refine ⟨min 999 (w + v), 1 + s / 11 % u, .sh (.int s), by omega, by omega, by omega, by omega, ?_⟩
  have hf2 : fs.length < 16777216 := by omega
  unfold Mi.l1_law_asks
  simp only [S.seq_eq, S.set_eq, Z.px_eq, E.call_eq, E.cons_eq, E.nil_eq, E.bin_eq, E.c_eq, E.var_eq, vw_zero, vw_succ, Sl.vw_sh, Sl.vw_ow, R.of_some, R.bind_ok, addD_int, modD_int k 6 (by omega), hc, mulD_int 31 k (by omega), hs, D.pure_int, Bool.true_or, if_true, R.out_ok, Out.seq_nx, List.set_cons_succ, List.set_cons_zero,
    lstD_three, lstD_two, divD_int s 7 (by omega), modD_int (s / 7) 20 (by omega), hp, hv, on2_eq, min2D_int, S.app_eq, S.withL_succ, S.withL_zero, divD_int s 11 (by omega), divD_int s 5 (by omega), modD_int (s / 5) 2 (by omega), hu, modD_int (s / 11) u hu0, tupD_two, D.pure_tup, D.pures_cons, D.pures_nil, Bool.and_self, List.length_map, hf2, S.putL_eq, S.nil_eq]
  rw [List.map_append]
  rfl
theorem okP_append : ∀ (as : Asks) (last w l : Int), okP last as = true → (∀ a ∈ as, a.1 ≤ w) → last ≤ w → w ≤ 999 → 1 ≤ l → l ≤ 99 → okP last (as ++ [(w, l)]) = true
  | [], last, w, l, _, _, h1, h2, h3, h4 => by simp [okP, h1, h2, h3, h4]
  | (v, k) :: as, last, w, l, h, g, h1, h2, h3, h4 => by
    rw [okP, Bool.and_eq_true] at h
    rw [List.cons_append, okP, Bool.and_eq_true]
    exact ⟨h.1, okP_append as v w l h.2 (fun a ha => g a (List.mem_cons_of_mem _ ha)) (g (v, k) List.mem_cons_self) h2 h3 h4⟩
theorem asks_loop (ns : List Int) (a m : Int) (ha : 0 ≤ a) : ∀ (n : Nat) (lo : Int) (fs : Asks) (w : Int) (s5 s6 : Sl), 0 ≤ lo → fs.length + n ≤ 1000 → 0 ≤ w → w ≤ 999 → okP 0 fs = true → (∀ x ∈ fs, x.1 ≤ w) →
    ∃ (gs : Asks) (t4 t5 t6 : Sl), okP 0 gs = true ∧ gs.length = fs.length + n ∧ loopM (.nm 5) Mi.l1_law_asks (rangeL lo n) [.sh (scr ns), .sh (.int a), .sh (.int m), .ow (.node .leaf) (.lst (fs.map dAsk)), .sh (.int w), s5, s6] =
      .nx [.sh (scr ns), .sh (.int a), .sh (.int m), .ow (.node .leaf) (.lst (gs.map dAsk)), t4, t5, t6]
  | 0, lo, fs, w, s5, s6, _, _, _, _, o, _ => ⟨fs, .sh (.int w), s5, s6, o, rfl, rfl⟩
  | n + 1, lo, fs, w, s5, s6, h0, hl, hw0, hw, o, g => by
    obtain ⟨w', l, t6, h1, h2, h3, h4, e1⟩ := asks_step ns a m ha fs (by omega) w lo h0 hw s6
    obtain ⟨gs, u4, u5, u6, o2, l2, e2⟩ := asks_loop ns a m ha n (lo + 1) (fs ++ [(w', l)]) w' (.sh (.int lo)) t6 (by omega) (by rw [List.length_append, List.length_singleton]; omega) (by omega) h2
      (okP_append fs 0 w' l o (fun x hx => by have := g x hx; omega) (by omega) h2 h3 h4) (fun x hx => by
        rcases List.mem_append.mp hx with z | z
        · have := g x z; omega
        · rw [List.mem_singleton.mp z]; exact Int.le_refl _)
    refine ⟨gs, u4, u5, u6, o2, by rw [l2, List.length_append, List.length_singleton]; omega, ?_⟩
    rw [rangeL, loopM]
    simp only [bindT_nm, setsE_cons, setsE_nil, List.set_cons_succ, List.set_cons_zero]
    rw [e1]
    exact e2
/-- the asks of a plan that a law draws -/
theorem asks_eq (ns : List Int) (a m : Nat) (hm : m ≤ 40) : ∃ as : Asks, Mi.law_asks [scr ns, .int a, .int m] = .ok (dA as) ∧ okP 0 as = true ∧ as.length ≤ m := by
  obtain ⟨r, hr, r0, r1⟩ := mix_eq (cell ns a) 9949 (m + 1) (by omega) (by omega) (by omega)
  obtain ⟨gs, t4, t5, t6, o, l, e⟩ := asks_loop ns a m (by omega) r.toNat 0 [] 0 .no .no (by omega) (by simp; omega) (by omega) (by omega) rfl (fun x hx => nomatch hx)
  refine ⟨gs, ?_, o, by rw [l]; simp; omega⟩
  unfold Mi.law_asks Mi.b_law_asks
  have hc := cell_eq ns a
  have hg : I.rangeD1 [.int r] = .ok (rangeL 0 r.toNat) := if_pos (by omega)
  simp only [List.map_nil] at e
  simp only [Fn.X_eq, Fn.run3, List.replicate, S.seq_eq, S.own_eq, Fl.lst_eq, E.nil_eq, R.bind_ok, List.length_nil, Nat.zero_le, if_true, R.out_ok, D.pures_nil, Bool.true_or, S.putL_eq, List.set_cons_succ, List.set_cons_zero, Out.seq_nx, S.set_eq, Z.px_eq, E.c_eq, D.pure_int, S.loop_eq, I.range1_eq, E.cons_eq, E.call_eq, E.var_eq, vw_zero, vw_succ, Sl.vw_sh, R.of_some, hc, E.bin_eq, addD_int, hr, hg, e,
    S.frz_eq, frz1_succ, frz1_zero, Sl.frz_ow, S.ret_eq, on1_eq, tupleD_lst, S.nil_eq, Out.seq_rt, Fn.outX_rt]
  rfl
end Lp

/-! # Law k08 -/
namespace Lp
open PySem
theorem atI_ints (ns : List Int) (i : Int) (h0 : 0 ≤ i) (h : i < ns.length) : ixD (.lst (ns.map D.int)) (.int i) = .ok (.int (ns.getD i.toNat 0)) := by
  rw [ixD_lst, atI_int _ _ h0 (by rw [List.length_map]; exact h), List.getElem?_map, List.getD_eq_getElem?_getD, List.getElem?_eq_getElem (by omega)]
  rfl
theorem atI_asks (as : Asks) (i : Int) (h0 : 0 ≤ i) (h : i < as.length) : ixD (dA as) (.int i) = .ok (dAsk (as.getD i.toNat (0, 0))) := by
  unfold dA
  rw [ixD_tup, atI_int _ _ h0 (by rw [List.length_map]; exact h), List.getElem?_map, List.getD_eq_getElem?_getD, List.getElem?_eq_getElem (by omega)]
  rfl
theorem ixD_when (a : Int × Int) : ixD (dAsk a) (.int 0) = .ok (.int a.1) := by simp [dAsk]
theorem ixD_long (a : Int × Int) : ixD (dAsk a) (.int 1) = .ok (.int a.2) := by simp [dAsk]
@[simp] theorem lenD_dA (as : Asks) : lenD (dA as) = .ok (.int as.length) := by simp [dA]
theorem lenI (as : Asks) : (dA as) = .tup (as.map dAsk) := rfl
theorem k08_loop (S0 : D) (as : Asks) (c d : Int) (few many : List Int) (hf : few.length = as.length) (hm : many.length = as.length) (h1 : ∀ i, many.getD i 0 ≤ few.getD i 0) (h2 : ∀ i, i < as.length → (as.getD i (0, 0)).1 ≤ many.getD i 0) :
    ∀ (n : Nat) (lo : Int) (s6 s7 : Sl), 0 ≤ lo → lo + n ≤ as.length → ∃ t6, loopM (.nm 6) Mi.l1_law_k08 (rangeL lo n) [.sh S0, .sh (dA as), .sh (.int c), .sh (.int d), .sh (.lst (few.map D.int)), .sh (.lst (many.map D.int)), s6, s7] =
      .nx [.sh S0, .sh (dA as), .sh (.int c), .sh (.int d), .sh (.lst (few.map D.int)), .sh (.lst (many.map D.int)), t6, s7]
  | 0, lo, s6, s7, _, _ => ⟨s6, rfl⟩
  | n + 1, lo, s6, s7, h0, hn => by
    obtain ⟨t6, ih⟩ := k08_loop S0 as c d few many hf hm h1 h2 n (lo + 1) (.sh (.int lo)) s7 (by omega) (by omega)
    refine ⟨t6, ?_⟩
    rw [rangeL, loopM]
    simp only [bindT_nm, setsE_cons, setsE_nil, List.set_cons_succ, List.set_cons_zero]
    have e : Mi.l1_law_k08 [.sh S0, .sh (dA as), .sh (.int c), .sh (.int d), .sh (.lst (few.map D.int)), .sh (.lst (many.map D.int)), .sh (.int lo), s7] = .nx [.sh S0, .sh (dA as), .sh (.int c), .sh (.int d), .sh (.lst (few.map D.int)), .sh (.lst (many.map D.int)), .sh (.int lo), s7] := by
      have g1 := h1 lo.toNat
      have g2 := h2 lo.toNat (by omega)
      have g3 : ¬ few.getD lo.toNat 0 < many.getD lo.toNat 0 := by omega
      have g4 : ¬ many.getD lo.toNat 0 < (as.getD lo.toNat (0, 0)).1 := by omega
      unfold Mi.l1_law_k08
      simp only [S.seq_eq, S.ite_eq, B.or_eq, B.val_eq, E.bin_eq, E.var_eq, vw_zero, vw_succ, Sl.vw_sh, R.of_some, R.bind_ok, atI_ints many lo h0 (by omega), atI_ints few lo h0 (by omega), gtD_int, atI_asks as lo h0 (by omega), E.c_eq, ixD_when, ltD_int, g3, g4, decide_false, Bool.false_eq_true, if_false, R.out_ok, S.nil_eq, Out.seq_nx]
    rw [e]
    exact ih
theorem zip_getD (bs : List Int) (as : Asks) (h : bs.length = as.length) {p : Int × (Int × Int)} (hp : p ∈ bs.zip as) : ∃ i, i < as.length ∧ p.1 = bs.getD i 0 ∧ p.2 = as.getD i (0, 0) := by
  obtain ⟨i, hi, e⟩ := List.getElem_of_mem hp
  rw [List.length_zip] at hi
  refine ⟨i, by omega, ?_, ?_⟩
  · rw [← e, List.getElem_zip, List.getD_eq_getElem?_getD, List.getElem?_eq_getElem (by omega)]; rfl
  · rw [← e, List.getElem_zip, List.getD_eq_getElem?_getD, List.getElem?_eq_getElem (by omega)]; rfl
theorem mem_zip_getD (bs : List Int) (as : Asks) (h : bs.length = as.length) (i : Nat) (hi : i < as.length) : (bs.getD i 0, as.getD i (0, 0)) ∈ bs.zip as := by
  rw [List.getD_eq_getElem?_getD, List.getD_eq_getElem?_getD, List.getElem?_eq_getElem (by omega), List.getElem?_eq_getElem hi]
  have : (bs.zip as)[i]'(by rw [List.length_zip]; omega) = (bs[i]'(by omega), as[i]) := List.getElem_zip
  show (bs[i]'(by omega), as[i]) ∈ _
  rw [← this]
  exact List.getElem_mem _
theorem lg_le {c : Nat} {as : Asks} {n : Int} : lg c as ≤ n ↔ 0 ≤ n ∧ ∀ i, i < as.length → (bg c as).getD i 0 - (as.getD i (0, 0)).1 ≤ n := by
  unfold lg
  rw [foldl_max_le (fun x : Int => x)]
  constructor
  · rintro ⟨h1, h2⟩
    exact ⟨h1, fun i hi => h2 _ (List.mem_map.mpr ⟨_, mem_zip_getD (bg c as) as (bg_len c as) i hi, rfl⟩)⟩
  · rintro ⟨h1, h2⟩
    refine ⟨h1, fun x hx => ?_⟩
    obtain ⟨p, hp, e⟩ := List.mem_map.mp hx
    obtain ⟨i, hi, e1, e2⟩ := zip_getD _ _ (bg_len c as) hp
    rw [← e, e1, e2]
    exact h2 i hi
theorem lg_more {c d : Nat} (as : Asks) (h : 1 ≤ c) (hd : c ≤ d) : lg d as ≤ lg c as := by
  rw [lg_le]
  have := (lg_le (c := c) (as := as) (n := lg c as)).mp (Int.le_refl _)
  refine ⟨this.1, fun i hi => ?_⟩
  have h1 := this.2 i hi
  have h2 := bg_more as h hd i
  omega
theorem lg_nonneg (c : Nat) (as : Asks) : 0 ≤ lg c as := ((lg_le (c := c) (as := as) (n := lg c as)).mp (Int.le_refl _)).1
theorem bg_ge (c : Nat) (as : Asks) (i : Nat) (h : i < as.length) : (as.getD i (0, 0)).1 ≤ (bg c as).getD i 0 := bgo_ge as _ i h
theorem map_getD (as : Asks) (i : Nat) (h : i < as.length) : (as.map (·.1)).getD i 0 = (as.getD i (0, 0)).1 := by
  rw [List.getD_eq_getElem?_getD, List.getD_eq_getElem?_getD, List.getElem?_map, List.getElem?_eq_getElem h]; rfl
theorem lg_zero_iff (c : Nat) (as : Asks) : lg c as ≤ 0 ↔ bg c as = as.map (·.1) := by
  rw [lg_le]
  constructor
  · rintro ⟨_, h⟩
    apply List.ext_getElem
    · rw [bg_len, List.length_map]
    · intro i h1 h2
      rw [bg_len] at h1
      have a := h i h1
      have b := bg_ge c as i h1
      have e1 : (bg c as).getD i 0 = (bg c as)[i] := by rw [List.getD_eq_getElem?_getD, List.getElem?_eq_getElem (by rw [bg_len]; exact h1)]; rfl
      have e2 : (as.getD i (0, 0)).1 = (as.map (·.1))[i] := by rw [← map_getD as i h1, List.getD_eq_getElem?_getD, List.getElem?_eq_getElem h2]; rfl
      omega
  · intro h
    refine ⟨Int.le_refl 0, fun i hi => ?_⟩
    rw [h, map_getD as i hi]
    omega
theorem comp_when (as : Asks) (hl : as.length ≤ 1000) (e : En) (i j : Nat) (he : vw e i = some (dA as)) (hj : ∀ d, vw (setsE (wipeE e [j]) [(j, d)]) j = some d) :
    Fl.comp (I.items (E.var i)) (.nm j) [j] B.yes (E.bin ixD (E.var j) (E.c (.int 0))) e = .ok ((as.map (·.1)).map D.int) := by
  have e1 := lcM_all (t := .nm j) (vs := [j]) (elt := E.bin ixD (E.var j) (E.c (.int 0))) (e := e) dAsk (fun a => .int a.1) as (fun a ha => ⟨[(j, dAsk a)], by simp, by
    show (E.var j _).bind _ = _
    rw [E.var_eq, hj]
    simp [ixD_when], by simp⟩)
  simp only [Fl.comp_eq, I.items_eq, E.var_eq, he, R.of_some, R.bind_ok, itemsD_dA, List.length_map]
  rw [if_pos (by omega), e1, List.map_map]
  rfl
theorem k08_true (ns : List Int) : Mi.law_k08 [scr ns] = .ok (.bl true) := by
  obtain ⟨as, ha, o, l⟩ := asks_eq ns 0 30 (by omega)
  replace ha : Mi.law_asks [scr ns, .int 0, .int 30] = .ok (dA as) := ha
  have v : validP as = true := by unfold validP; simp [o]; omega
  have c7 : Mi.law_cell [scr ns, .int 7] = .ok (.int (cell ns 7)) := cell_eq ns 7
  have c8 : Mi.law_cell [scr ns, .int 8] = .ok (.int (cell ns 8)) := cell_eq ns 8
  have c9 : Mi.law_cell [scr ns, .int 9] = .ok (.int (cell ns 9)) := cell_eq ns 9
  have q0 := Int.emod_nonneg (cell ns 8) (show (2 : Int) ≠ 0 by omega)
  have q1 := Int.emod_lt_of_pos (cell ns 8) (show (0 : Int) < 2 by omega)
  obtain ⟨u, hu, hu'⟩ := ix2 40 5 (cell ns 8 % 2) q0 q1
  have r0 := Int.emod_nonneg (cell ns 7) (show u ≠ 0 by omega)
  have r1 := Int.emod_lt_of_pos (cell ns 7) (show 0 < u by omega)
  have s0 := Int.emod_nonneg (cell ns 9) (show (6 : Int) ≠ 0 by omega)
  obtain ⟨c, hc⟩ := Int.eq_ofNat_of_zero_le (show 0 ≤ 1 + cell ns 7 % u by omega)
  obtain ⟨d, hd⟩ := Int.eq_ofNat_of_zero_le (show 0 ≤ min 40 ((c : Int) + 1 + cell ns 9 % 6) by omega)
  have b1 := begins_eq c as (by omega) (by omega) v
  have b2 := begins_eq d as (by omega) (by omega) v
  have b3 : Mi.begins [.int 40, dA as] = .ok ((bg 40 as).map D.int) := begins_eq 40 as (by omega) (by omega) v
  have l1 := longest_eq c as (by omega) (by omega) v
  have l2 := longest_eq d as (by omega) (by omega) v
  have l3 : Mi.longest [.int 40, dA as] = .ok (.int (lg 40 as)) := longest_eq 40 as (by omega) (by omega) v
  have y2 := busy_eq d as (by omega) (by omega) v
  have y3 : Mi.busy [.int 40, dA as] = .ok (.int (bsy (bg 40 as) as)) := busy_eq 40 as (by omega) (by omega) v
  have f40 : bg 40 as = as.map (·.1) := bg_enough 40 as (by omega) o (by omega)
  have z3 : lg 40 as = 0 := by
    have := (lg_zero_iff 40 as).mpr f40
    have := lg_nonneg 40 as
    omega
  have srt : ((bg c as).mergeSort fun a b => decide (a ≤ b)) = bg c as := sort_self (bgo_sorted as _ 0 (rep_ne (by omega)) o)
  have t1 : ¬ lg c as < lg d as := by have := lg_more as (c := c) (d := d) (by omega) (by omega); omega
  have t2 : ¬ (d : Int) < bsy (bg d as) as := by have := bsy_bg d as (by omega) (okP_pos o); omega
  obtain ⟨t6, lp⟩ := k08_loop (scr ns) as c d (bg c as) (bg d as) (bg_len c as) (bg_len d as) (bg_more as (by omega) (by omega)) (fun i hi => bg_ge d as i hi) as.length 0 .no .no (by omega) (by omega)
  have hg : I.rangeD1 [.int (as.length : Int)] = .ok (rangeL 0 as.length) := by
    rw [rangeD1_int _ (by omega), Int.toNat_natCast]
  unfold Mi.law_k08 Mi.b_law_k08
  have cw := comp_when as (by omega) [.sh (scr ns), .sh (dA as), .sh (.int c), .sh (.int d), .sh (.lst ((bg c as).map D.int)), .sh (.lst ((bg d as).map D.int)), t6, .no] 1 7 rfl (fun d => by simp)
  refine (fn1 (o := .rt (.bl true)) ?_).trans rfl
  simp only [List.replicate]
  refine (seq_step (by simp only [S.set_eq, Z.px_eq, Z.pf_eq, E.call_eq, E.cons_eq, E.nil_eq, E.var_eq, E.c_eq, vw_zero, vw_succ, Sl.vw_sh, R.of_some, R.bind_ok, ha, dA_pure, Bool.true_or, if_true, R.out_ok, List.set_cons_succ, List.set_cons_zero, E.bin_eq, c7, c8, c9, lstD_two, modD_int _ 2 (show (0 : Int) < 2 by omega), hu, modD_int _ u (show 0 < u by omega), addD_int, hc, D.pure_int, modD_int _ 6 (show (0 : Int) < 6 by omega), on2_eq, min2D_int, hd, Fl.call_eq, b1, b2, D.pures_ints, S.loop_eq, I.range1_eq, on1_eq, lenD_dA, hg, lp, S.ite_eq, B.or_eq, B.val_eq, l1, l2, gtD_int, t1, decide_false, Bool.false_eq_true, if_false, y2, t2, S.nil_eq, okLst_eq, Fl.sort_eq, sort1_ints, srt, neD_ints, decide_true, Bool.not_true, b3, f40, cw, l3, z3, neD_int, y3, geD_int]; rfl)).trans ?_
  refine (seq_step (by simp only [S.set_eq, Z.px_eq, Z.pf_eq, E.call_eq, E.cons_eq, E.nil_eq, E.var_eq, E.c_eq, vw_zero, vw_succ, Sl.vw_sh, R.of_some, R.bind_ok, ha, dA_pure, Bool.true_or, if_true, R.out_ok, List.set_cons_succ, List.set_cons_zero, E.bin_eq, c7, c8, c9, lstD_two, modD_int _ 2 (show (0 : Int) < 2 by omega), hu, modD_int _ u (show 0 < u by omega), addD_int, hc, D.pure_int, modD_int _ 6 (show (0 : Int) < 6 by omega), on2_eq, min2D_int, hd, Fl.call_eq, b1, b2, D.pures_ints, S.loop_eq, I.range1_eq, on1_eq, lenD_dA, hg, lp, S.ite_eq, B.or_eq, B.val_eq, l1, l2, gtD_int, t1, decide_false, Bool.false_eq_true, if_false, y2, t2, S.nil_eq, okLst_eq, Fl.sort_eq, sort1_ints, srt, neD_ints, decide_true, Bool.not_true, b3, f40, cw, l3, z3, neD_int, y3, geD_int]; rfl)).trans ?_
  refine (seq_step (by simp only [S.set_eq, Z.px_eq, Z.pf_eq, E.call_eq, E.cons_eq, E.nil_eq, E.var_eq, E.c_eq, vw_zero, vw_succ, Sl.vw_sh, R.of_some, R.bind_ok, ha, dA_pure, Bool.true_or, if_true, R.out_ok, List.set_cons_succ, List.set_cons_zero, E.bin_eq, c7, c8, c9, lstD_two, modD_int _ 2 (show (0 : Int) < 2 by omega), hu, modD_int _ u (show 0 < u by omega), addD_int, hc, D.pure_int, modD_int _ 6 (show (0 : Int) < 6 by omega), on2_eq, min2D_int, hd, Fl.call_eq, b1, b2, D.pures_ints, S.loop_eq, I.range1_eq, on1_eq, lenD_dA, hg, lp, S.ite_eq, B.or_eq, B.val_eq, l1, l2, gtD_int, t1, decide_false, Bool.false_eq_true, if_false, y2, t2, S.nil_eq, okLst_eq, Fl.sort_eq, sort1_ints, srt, neD_ints, decide_true, Bool.not_true, b3, f40, cw, l3, z3, neD_int, y3, geD_int]; rfl)).trans ?_
  refine (seq_step (by simp only [S.set_eq, Z.px_eq, Z.pf_eq, E.call_eq, E.cons_eq, E.nil_eq, E.var_eq, E.c_eq, vw_zero, vw_succ, Sl.vw_sh, R.of_some, R.bind_ok, ha, dA_pure, Bool.true_or, if_true, R.out_ok, List.set_cons_succ, List.set_cons_zero, E.bin_eq, c7, c8, c9, lstD_two, modD_int _ 2 (show (0 : Int) < 2 by omega), hu, modD_int _ u (show 0 < u by omega), addD_int, hc, D.pure_int, modD_int _ 6 (show (0 : Int) < 6 by omega), on2_eq, min2D_int, hd, Fl.call_eq, b1, b2, D.pures_ints, S.loop_eq, I.range1_eq, on1_eq, lenD_dA, hg, lp, S.ite_eq, B.or_eq, B.val_eq, l1, l2, gtD_int, t1, decide_false, Bool.false_eq_true, if_false, y2, t2, S.nil_eq, okLst_eq, Fl.sort_eq, sort1_ints, srt, neD_ints, decide_true, Bool.not_true, b3, f40, cw, l3, z3, neD_int, y3, geD_int]; rfl)).trans ?_
  refine (seq_step (by simp only [S.set_eq, Z.px_eq, Z.pf_eq, E.call_eq, E.cons_eq, E.nil_eq, E.var_eq, E.c_eq, vw_zero, vw_succ, Sl.vw_sh, R.of_some, R.bind_ok, ha, dA_pure, Bool.true_or, if_true, R.out_ok, List.set_cons_succ, List.set_cons_zero, E.bin_eq, c7, c8, c9, lstD_two, modD_int _ 2 (show (0 : Int) < 2 by omega), hu, modD_int _ u (show 0 < u by omega), addD_int, hc, D.pure_int, modD_int _ 6 (show (0 : Int) < 6 by omega), on2_eq, min2D_int, hd, Fl.call_eq, b1, b2, D.pures_ints, S.loop_eq, I.range1_eq, on1_eq, lenD_dA, hg, lp, S.ite_eq, B.or_eq, B.val_eq, l1, l2, gtD_int, t1, decide_false, Bool.false_eq_true, if_false, y2, t2, S.nil_eq, okLst_eq, Fl.sort_eq, sort1_ints, srt, neD_ints, decide_true, Bool.not_true, b3, f40, cw, l3, z3, neD_int, y3, geD_int]; rfl)).trans ?_
  refine (seq_step (by simp only [S.set_eq, Z.px_eq, Z.pf_eq, E.call_eq, E.cons_eq, E.nil_eq, E.var_eq, E.c_eq, vw_zero, vw_succ, Sl.vw_sh, R.of_some, R.bind_ok, ha, dA_pure, Bool.true_or, if_true, R.out_ok, List.set_cons_succ, List.set_cons_zero, E.bin_eq, c7, c8, c9, lstD_two, modD_int _ 2 (show (0 : Int) < 2 by omega), hu, modD_int _ u (show 0 < u by omega), addD_int, hc, D.pure_int, modD_int _ 6 (show (0 : Int) < 6 by omega), on2_eq, min2D_int, hd, Fl.call_eq, b1, b2, D.pures_ints, S.loop_eq, I.range1_eq, on1_eq, lenD_dA, hg, lp, S.ite_eq, B.or_eq, B.val_eq, l1, l2, gtD_int, t1, decide_false, Bool.false_eq_true, if_false, y2, t2, S.nil_eq, okLst_eq, Fl.sort_eq, sort1_ints, srt, neD_ints, decide_true, Bool.not_true, b3, f40, cw, l3, z3, neD_int, y3, geD_int]; rfl)).trans ?_
  refine (seq_step (by simp only [S.set_eq, Z.px_eq, Z.pf_eq, E.call_eq, E.cons_eq, E.nil_eq, E.var_eq, E.c_eq, vw_zero, vw_succ, Sl.vw_sh, R.of_some, R.bind_ok, ha, dA_pure, Bool.true_or, if_true, R.out_ok, List.set_cons_succ, List.set_cons_zero, E.bin_eq, c7, c8, c9, lstD_two, modD_int _ 2 (show (0 : Int) < 2 by omega), hu, modD_int _ u (show 0 < u by omega), addD_int, hc, D.pure_int, modD_int _ 6 (show (0 : Int) < 6 by omega), on2_eq, min2D_int, hd, Fl.call_eq, b1, b2, D.pures_ints, S.loop_eq, I.range1_eq, on1_eq, lenD_dA, hg, lp, S.ite_eq, B.or_eq, B.val_eq, l1, l2, gtD_int, t1, decide_false, Bool.false_eq_true, if_false, y2, t2, S.nil_eq, okLst_eq, Fl.sort_eq, sort1_ints, srt, neD_ints, decide_true, Bool.not_true, b3, f40, cw, l3, z3, neD_int, y3, geD_int]; rfl)).trans ?_
  refine (seq_step (by simp only [S.set_eq, Z.px_eq, Z.pf_eq, E.call_eq, E.cons_eq, E.nil_eq, E.var_eq, E.c_eq, vw_zero, vw_succ, Sl.vw_sh, R.of_some, R.bind_ok, ha, dA_pure, Bool.true_or, if_true, R.out_ok, List.set_cons_succ, List.set_cons_zero, E.bin_eq, c7, c8, c9, lstD_two, modD_int _ 2 (show (0 : Int) < 2 by omega), hu, modD_int _ u (show 0 < u by omega), addD_int, hc, D.pure_int, modD_int _ 6 (show (0 : Int) < 6 by omega), on2_eq, min2D_int, hd, Fl.call_eq, b1, b2, D.pures_ints, S.loop_eq, I.range1_eq, on1_eq, lenD_dA, hg, lp, S.ite_eq, B.or_eq, B.val_eq, l1, l2, gtD_int, t1, decide_false, Bool.false_eq_true, if_false, y2, t2, S.nil_eq, okLst_eq, Fl.sort_eq, sort1_ints, srt, neD_ints, decide_true, Bool.not_true, b3, f40, cw, l3, z3, neD_int, y3, geD_int]; rfl)).trans ?_
  by_cases k : bsy (as.map (·.1)) as ≤ (c : Int)
  · have fc := bg_free c as (by omega) o (by omega)
    refine seq_end (by simp only [S.set_eq, Z.px_eq, Z.pf_eq, E.call_eq, E.cons_eq, E.nil_eq, E.var_eq, E.c_eq, vw_zero, vw_succ, Sl.vw_sh, R.of_some, R.bind_ok, ha, dA_pure, Bool.true_or, if_true, R.out_ok, List.set_cons_succ, List.set_cons_zero, E.bin_eq, c7, c8, c9, lstD_two, modD_int _ 2 (show (0 : Int) < 2 by omega), hu, modD_int _ u (show 0 < u by omega), addD_int, hc, D.pure_int, modD_int _ 6 (show (0 : Int) < 6 by omega), on2_eq, min2D_int, hd, Fl.call_eq, b1, b2, D.pures_ints, S.loop_eq, I.range1_eq, on1_eq, lenD_dA, hg, lp, S.ite_eq, B.or_eq, B.val_eq, l1, l2, gtD_int, t1, decide_false, Bool.false_eq_true, if_false, y2, t2, S.nil_eq, okLst_eq, Fl.sort_eq, sort1_ints, srt, neD_ints, decide_true, Bool.not_true, b3, f40, cw, l3, z3, neD_int, y3, geD_int, k, S.ret_eq, S.seq_eq, fc, eqD_ints, Out.seq_rt]) (fun _ h => nomatch h)
  · have : 0 < lg c as := by
      have h1 : ¬ lg c as ≤ 0 := fun h => by
        rw [lg_zero_iff] at h
        have := bsy_bg c as (by omega) (okP_pos o)
        rw [h] at this
        exact k this
      omega
    refine (seq_step (by simp only [S.set_eq, Z.px_eq, Z.pf_eq, E.call_eq, E.cons_eq, E.nil_eq, E.var_eq, E.c_eq, vw_zero, vw_succ, Sl.vw_sh, R.of_some, R.bind_ok, ha, dA_pure, Bool.true_or, if_true, R.out_ok, List.set_cons_succ, List.set_cons_zero, E.bin_eq, c7, c8, c9, lstD_two, modD_int _ 2 (show (0 : Int) < 2 by omega), hu, modD_int _ u (show 0 < u by omega), addD_int, hc, D.pure_int, modD_int _ 6 (show (0 : Int) < 6 by omega), on2_eq, min2D_int, hd, Fl.call_eq, b1, b2, D.pures_ints, S.loop_eq, I.range1_eq, on1_eq, lenD_dA, hg, lp, S.ite_eq, B.or_eq, B.val_eq, l1, l2, gtD_int, t1, decide_false, Bool.false_eq_true, if_false, y2, t2, S.nil_eq, okLst_eq, Fl.sort_eq, sort1_ints, srt, neD_ints, decide_true, Bool.not_true, b3, f40, cw, l3, z3, neD_int, y3, geD_int, k]; rfl)).trans ?_
    refine seq_end (by simp only [S.set_eq, Z.px_eq, Z.pf_eq, E.call_eq, E.cons_eq, E.nil_eq, E.var_eq, E.c_eq, vw_zero, vw_succ, Sl.vw_sh, R.of_some, R.bind_ok, ha, dA_pure, Bool.true_or, if_true, R.out_ok, List.set_cons_succ, List.set_cons_zero, E.bin_eq, c7, c8, c9, lstD_two, modD_int _ 2 (show (0 : Int) < 2 by omega), hu, modD_int _ u (show 0 < u by omega), addD_int, hc, D.pure_int, modD_int _ 6 (show (0 : Int) < 6 by omega), on2_eq, min2D_int, hd, Fl.call_eq, b1, b2, D.pures_ints, S.loop_eq, I.range1_eq, on1_eq, lenD_dA, hg, lp, S.ite_eq, B.or_eq, B.val_eq, l1, l2, gtD_int, t1, decide_false, Bool.false_eq_true, if_false, y2, t2, S.nil_eq, okLst_eq, Fl.sort_eq, sort1_ints, srt, neD_ints, decide_true, Bool.not_true, b3, f40, cw, l3, z3, neD_int, y3, geD_int, this, S.ret_eq]) (fun _ h => nomatch h)
end Lp
theorem Mi.law_k08_true (ns : List Int) (h : ns.length ≤ 63) : Mi.law_k08 [.fix (ns.map Lp.D.int)] = .ok (.bl true) := Lp.k08_true ns

/-! # Plain law, part F: the fewest things; plans cut and put together -/
namespace Lp
open PySem
theorem aug_at {i : Nat} {g : D → D → R D} {f : En → R D} {e : En} {d0 d r : D} (h : e[i]? = some (.sh d0)) (hf : f e = .ok d) (hg : g d0 d = .ok r) (hp : r.pure = true) : S.aug i g f e = .nx (e.set i (.sh r)) := by
  unfold S.aug
  rw [h]
  simp [hf, hg, hp]
theorem whileM_succ (t : En → R Bool) (b : En → Out) (n : Nat) (e : En) : whileM t b (n + 1) e = (t e).out e fun k => if k = true then (match b e with
      | .nx e' => whileM t b n e'
      | .ct e' => whileM t b n e'
      | .bk e' => .nx e'
      | o => o) else .nx e := by rw [whileM]; try rfl
theorem few_loop (as : Asks) (hl : as.length ≤ 40) (w : Int) : ∀ (n c fuel : Nat), 1 ≤ c → c + n ≤ 1000 → n < fuel → lg (c + n) as ≤ w → ∃ f : Nat, c ≤ f ∧ f ≤ c + n ∧ lg f as ≤ w ∧ (∀ e : Nat, c ≤ e → e < f → w < lg e as) ∧
    whileM (B.val (E.bin gtD (E.call Mi.longest_of (E.cons (E.var 2) (E.cons (E.var 0) E.nil))) (E.var 1))) Mi.l1_fewest fuel [.sh (dA as), .sh (.int w), .sh (.int c)] = .nx [.sh (dA as), .sh (.int w), .sh (.int f)]
  | n, c, 0, _, _, h, _ => absurd h (Nat.not_lt_zero n)
  | n, c, fuel + 1, h1, h2, h3, h4 => by
    have e1 := longest_of_eq c as h1 (by omega) (by omega)
    by_cases k : lg c as ≤ w
    · have k' : ¬ w < lg c as := by omega
      refine ⟨c, Nat.le_refl _, by omega, k, fun e a b => absurd a (by omega), ?_⟩
      rw [whileM_succ]
      simp only [B.val_eq, E.bin_eq, E.call_eq, E.cons_eq, E.nil_eq, E.var_eq, vw_zero, vw_succ, Sl.vw_sh, R.of_some, R.bind_ok, e1, gtD_int, k', decide_false, R.out_ok, Bool.false_eq_true, if_false]
    · have k' : w < lg c as := by omega
      cases n with
      | zero => exact absurd h4 k
      | succ n =>
        obtain ⟨f, g1, g2, g3, g4, g5⟩ := few_loop as hl w n (c + 1) fuel (by omega) (by omega) (by omega) (by rw [show c + 1 + n = c + (n + 1) by omega]; exact h4)
        refine ⟨f, by omega, by omega, g3, fun e a b => ?_, ?_⟩
        · by_cases z : e = c
          · rw [z]; exact k'
          · exact g4 e (by omega) b
        · rw [whileM_succ]
          have eb : Mi.l1_fewest [.sh (dA as), .sh (.int w), .sh (.int c)] = .nx [.sh (dA as), .sh (.int w), .sh (.int (c + 1 : Nat))] := by
            unfold Mi.l1_fewest
            refine (seq_step (aug_at (d0 := .int c) (d := .int 1) (r := .int ((c : Int) + 1)) rfl rfl rfl (D.pure_int _))).trans ?_
            rfl
          simp only [B.val_eq, E.bin_eq, E.call_eq, E.cons_eq, E.nil_eq, E.var_eq, vw_zero, vw_succ, Sl.vw_sh, R.of_some, R.bind_ok, e1, gtD_int, k', decide_true, R.out_ok, if_true, eb]
          exact g5
theorem lg_enough (c : Nat) (as : Asks) (h : 1 ≤ c) (v : okP 0 as = true) (n : as.length ≤ c) : lg c as ≤ 0 := (lg_zero_iff c as).mpr (bg_enough c as h v n)
theorem fewest_eq (as : Asks) (v : validP as = true) (w : Int) (hw : 0 ≤ w) (hw2 : w ≤ 999) : ∃ f : Nat, Mi.fewest [dA as, .int w] = .ok (.int f) ∧ 1 ≤ f ∧ f ≤ max 1 as.length ∧ lg f as ≤ w ∧ ∀ e : Nat, 1 ≤ e → e < f → w < lg e as := by
  have hl := valid_len v
  have o : okP 0 as = true := by unfold validP at v; simp at v; exact v.2
  have en := lg_enough (1 + (max 1 as.length - 1)) as (by omega) o (by omega)
  obtain ⟨f, g1, g2, g3, g4, g5⟩ := few_loop as hl w (max 1 as.length - 1) 1 1000000 (by omega) (by omega) (by omega) (by omega)
  refine ⟨f, ?_, g1, by omega, g3, g4⟩
  unfold Mi.fewest Mi.b_fewest
  refine (fn2 (o := .rt (.int f)) ?_).trans rfl
  simp only [List.replicate]
  refine (seq_step (by simp only [S.drop_eq, E.call_eq, E.cons_eq, E.nil_eq, E.var_eq, vw_zero, Sl.vw_sh, R.of_some, R.bind_ok, look_plan_eq, v, if_true, R.out_ok]; rfl)).trans ?_
  refine (seq_step (by simp only [S.drop_eq, E.call_eq, E.cons_eq, E.nil_eq, E.var_eq, E.c_eq, vw_zero, vw_succ, Sl.vw_sh, R.of_some, R.bind_ok, look_int, hw, hw2, and_self, if_true, R.out_ok]; rfl)).trans ?_
  refine (seq_step (by simp only [S.set_eq, Z.px_eq, E.c_eq, R.bind_ok, D.pure_int, Bool.true_or, if_true, R.out_ok, List.set_cons_succ, List.set_cons_zero]; rfl)).trans ?_
  refine (seq_step (by rw [S.while_eq]; exact g5)).trans ?_
  refine seq_end (by simp only [S.ret_eq, E.var_eq, vw_zero, vw_succ, Sl.vw_sh, R.of_some, R.out_ok]) (fun _ h => nomatch h)
/-! ### slices -/
@[simp] theorem slD_tup (ds : List D) (lo hi : Option Int) : slD (.tup ds) lo hi = .ok (.tup (cutD ds lo hi)) := .trans rfl rfl
@[simp] theorem slD_lst (ds : List D) (lo hi : Option Int) : slD (.lst ds) lo hi = .ok (.lst (cutD ds lo hi)) := .trans rfl rfl
theorem cut_take {α : Type} (xs : List α) (n : Nat) : cutD xs none (some (n : Int)) = xs.take n := by
  unfold cutD
  rw [HT.sIx_none, HT.sIx_nat, List.drop_zero, Nat.sub_zero]
  by_cases h : n ≤ xs.length
  · rw [Nat.min_eq_left h]
  · rw [Nat.min_eq_right (by omega), List.take_of_length_le (Nat.le_refl _), List.take_of_length_le (by omega)]
theorem cut_drop {α : Type} (xs : List α) (n : Nat) : cutD xs (some (n : Int)) none = xs.drop n := by
  unfold cutD
  rw [HT.sIx_none, HT.sIx_nat]
  by_cases h : n ≤ xs.length
  · rw [Nat.min_eq_left h, List.take_of_length_le (by rw [List.length_drop]; exact Nat.le_refl _)]
  · rw [Nat.min_eq_right (by omega), List.drop_eq_nil_of_le (Nat.le_refl _), List.drop_eq_nil_of_le (by omega), List.take_nil]
theorem sl_take (as : Asks) (n : Nat) : slD (dA as) none (some (n : Int)) = .ok (dA (as.take n)) := by
  unfold dA
  rw [slD_tup, cut_take, List.map_take]
theorem sl_drop (as : Asks) (n : Nat) : slD (dA as) (some (n : Int)) none = .ok (dA (as.drop n)) := by
  unfold dA
  rw [slD_tup, cut_drop, List.map_drop]
theorem sl_takeI (ns : List Int) (n : Nat) : slD (.lst (ns.map D.int)) none (some (n : Int)) = .ok (.lst ((ns.take n).map D.int)) := by
  rw [slD_lst, cut_take, List.map_take]
theorem add_dA (as bs : Asks) (h : as.length + bs.length ≤ 1000) : addD (dA as) (dA bs) = .ok (dA (as ++ bs)) := by
  unfold dA
  rw [addD_tup, if_pos (by simp; omega), List.map_append]
theorem one_dA (w l : Int) : D.tup [.tup [.int w, .int l]] = dA [(w, l)] := rfl
theorem tupD_one (d : D) : tupD [d] = .ok (.tup [d]) := rfl
/-! ### an ask left out, or shorter -/
theorem bgo_append : ∀ (as bs : Asks) (es : List Int), bgo es (as ++ bs) = bgo es as ++ bgo (fin es as) bs
  | [], bs, es => rfl
  | (w, l) :: as, bs, es => by
    rw [List.cons_append, bgo_cons, bgo_cons, bgo_append as bs]
    rfl
theorem fin_ne : ∀ (as : Asks) {es : List Int}, es ≠ [] → fin es as ≠ []
  | [], _, h => h
  | (w, l) :: as, es, h => fin_ne as (stp_ne h w l)
theorem okP_parts : ∀ (as : Asks) (bs : Asks) (last : Int), okP last (as ++ bs) = true → okP last as = true ∧ ∃ l2, last ≤ l2 ∧ okP l2 bs = true ∧ ∀ a ∈ as, a.1 ≤ l2
  | [], bs, last, h => ⟨rfl, last, Int.le_refl _, h, fun a ha => nomatch ha⟩
  | (w, l) :: as, bs, last, h => by
    rw [List.cons_append, okP, Bool.and_eq_true] at h
    obtain ⟨h1, l2, h2, h3, h4⟩ := okP_parts as bs w h.2
    have h' := h.1
    simp at h'
    refine ⟨by rw [okP, Bool.and_eq_true]; exact ⟨h.1, h1⟩, l2, by omega, h3, fun a ha => ?_⟩
    rcases List.mem_cons.mp ha with z | z
    · rw [z]; exact h2
    · exact h4 a z
theorem okP_low : ∀ {bs : Asks} {l2 l1 : Int}, okP l2 bs = true → l1 ≤ l2 → okP l1 bs = true
  | [], _, _, _, _ => rfl
  | (w, l) :: bs, l2, l1, h, k => by
    rw [okP, Bool.and_eq_true] at h ⊢
    have h' := h.1
    simp at h'
    exact ⟨by simp; omega, h.2⟩
theorem okP_join : ∀ (as : Asks) (bs : Asks) (last l2 : Int), okP last as = true → okP l2 bs = true → last ≤ l2 → (∀ a ∈ as, a.1 ≤ l2) → okP last (as ++ bs) = true
  | [], bs, last, l2, _, h, k, _ => okP_low h k
  | (w, l) :: as, bs, last, l2, h, g, k, m => by
    rw [okP, Bool.and_eq_true] at h
    rw [List.cons_append, okP, Bool.and_eq_true]
    exact ⟨h.1, okP_join as bs w l2 h.2 g (m (w, l) List.mem_cons_self) fun a ha => m a (List.mem_cons_of_mem _ ha)⟩
/-- pre, an ask, the others: the ask left out -/
theorem ok_without {pre post : Asks} {a : Int × Int} (h : okP 0 (pre ++ a :: post) = true) : okP 0 (pre ++ post) = true := by
  obtain ⟨h1, l2, h2, h3, h4⟩ := okP_parts pre (a :: post) 0 h
  rw [okP, Bool.and_eq_true] at h3
  have h' := h3.1
  simp at h'
  exact okP_join pre post 0 l2 h1 (okP_low h3.2 h'.1.1.1) h2 h4
theorem ok_shorter {pre post : Asks} {w l l' : Int} (h : okP 0 (pre ++ (w, l) :: post) = true) (h1 : 1 ≤ l') (h2 : l' ≤ l) : okP 0 (pre ++ (w, l') :: post) = true := by
  obtain ⟨g1, l2, g2, g3, g4⟩ := okP_parts pre ((w, l) :: post) 0 h
  rw [okP, Bool.and_eq_true] at g3
  have h' := g3.1
  simp at h'
  exact okP_join pre _ 0 l2 g1 (by rw [okP, Bool.and_eq_true]; exact ⟨by simp; omega, g3.2⟩) g2 g4
theorem ok_pre {pre post : Asks} (h : okP 0 (pre ++ post) = true) : okP 0 pre = true := (okP_parts pre post 0 h).1
theorem dom_skip {es : List Int} (h : es ≠ []) (w l : Int) (hl : 0 ≤ l) : dom es (stp es w l) := fun t => by
  have h1 := cnt_stp h t w l
  by_cases c : max w (minL es) + l ≤ t
  · have c2 : minL es ≤ t := by omega
    simp only [c, c2, if_true] at h1
    omega
  · simp only [c, if_false] at h1
    split at h1 <;> omega
theorem dom_refl (es : List Int) : dom es es := fun _ => Nat.le_refl _
theorem lg_pre (c : Nat) (pre post : Asks) : lg c pre ≤ lg c (pre ++ post) := by
  rw [lg_le]
  refine ⟨lg_nonneg _ _, fun i hi => ?_⟩
  have h := ((lg_le (c := c) (as := pre ++ post) (n := lg c (pre ++ post))).mp (Int.le_refl _)).2 i (by rw [List.length_append]; omega)
  have e1 : (bg c (pre ++ post)).getD i 0 = (bg c pre).getD i 0 := by
    unfold bg
    rw [bgo_append, List.getD_eq_getElem?_getD, List.getElem?_append_left (by rw [bgo_len]; exact hi), ← List.getD_eq_getElem?_getD]
  have e2 : (pre ++ post).getD i (0, 0) = pre.getD i (0, 0) := by
    rw [List.getD_eq_getElem?_getD, List.getElem?_append_left hi, ← List.getD_eq_getElem?_getD]
  rw [e1, e2] at h
  exact h
end Lp

/-! # Plain law, part G: begins found by the ends of those ahead -/
namespace Lp
open PySem
def gtc (t : Int) (es : List Int) : Nat := es.countP fun e => decide (t < e)
theorem gtc_cons (t e : Int) (es : List Int) : gtc t (e :: es) = gtc t es + if t < e then 1 else 0 := by
  unfold gtc
  rw [List.countP_cons]
  by_cases h : t < e <;> simp [h]
theorem gtc_append (t : Int) (es fs : List Int) : gtc t (es ++ fs) = gtc t es + gtc t fs := List.countP_append
theorem gtc_le (t : Int) (es : List Int) : gtc t es ≤ es.length := List.countP_le_length
def endsOf (bs : List Int) (as : Asks) : List Int := (bs.zip as).map fun p => p.1 + p.2.2
/-- the things' ends are the greatest of all ends -/
theorem fin_ends (c : Nat) : ∀ (as : Asks) (es E : List Int), es ≠ [] → es.length = c → posP as → (∀ t, 0 ≤ t → cnt t es + min c (gtc t E) = c) → ∀ t, 0 ≤ t → cnt t (fin es as) + min c (gtc t (E ++ endsOf (bgo es as) as)) = c
  | [], es, E, _, _, _, h, t, ht => by simpa [fin, endsOf] using h t ht
  | (w, l) :: as, es, E, ne, hl, p, h, t, ht => by
    have ih := fin_ends c as (stp es w l) (E ++ [max w (minL es) + l]) (stp_ne ne w l) (by rw [stp_len, hl]) (fun a ha => p a (List.mem_cons_of_mem _ ha)) (fun t ht => by
      have h1 := cnt_stp ne t w l
      have h2 := h t ht
      have h3 := cnt_pos (t := t) ne
      have hl1 : 1 ≤ l := p (w, l) List.mem_cons_self
      have h4 := cnt_le t es
      rw [gtc_append, gtc_cons]
      have h5 : gtc t [] = 0 := rfl
      rw [h5]
      by_cases c1 : minL es ≤ t
      · have h6 := h3.mpr c1
        by_cases c2 : max w (minL es) + l ≤ t
        · have c3 : ¬ t < max w (minL es) + l := by omega
          simp only [c1, c2, if_true] at h1
          simp only [c3, if_false]
          omega
        · have c3 : t < max w (minL es) + l := by omega
          simp only [c1, c2, if_true, if_false] at h1
          simp only [c3, if_true]
          omega
      · have h6 : cnt t es = 0 := by
          cases k : cnt t es with
          | zero => rfl
          | succ n => exact absurd (h3.mp (by omega)) c1
        have c2 : ¬ max w (minL es) + l ≤ t := by omega
        have c3 : t < max w (minL es) + l := by omega
        simp only [c1, c2, if_false] at h1
        simp only [c3, if_true]
        omega) t ht
    rw [fin, bgo_cons]
    have e : endsOf (max w (minL es) :: bgo (stp es w l) as) ((w, l) :: as) = (max w (minL es) + l) :: endsOf (bgo (stp es w l) as) as := rfl
    rw [e, ← List.singleton_append, ← List.append_assoc]
    exact ih
theorem desc_gtc : ∀ (ds : List Int) (i : Nat) (h : i < ds.length) (t : Int), ds.Pairwise (fun a b => b ≤ a) → (ds[i] ≤ t → gtc t ds ≤ i) ∧ (t < ds[i] → i + 1 ≤ gtc t ds)
  | [], i, h, _, _ => absurd h (Nat.not_lt_zero i)
  | d :: ds, 0, _, t, p => by
    rw [List.pairwise_cons] at p
    rw [List.getElem_cons_zero, gtc_cons]
    constructor
    · intro hd
      have : gtc t ds = 0 := by
        unfold gtc
        rw [List.countP_eq_zero]
        intro a ha
        have := p.1 a ha
        simp
        omega
      rw [this, if_neg (by omega)]
      omega
    · intro hd
      rw [if_pos hd]
      omega
  | d :: ds, i + 1, h, t, p => by
    rw [List.pairwise_cons] at p
    have hi : i < ds.length := by simpa using h
    obtain ⟨h1, h2⟩ := desc_gtc ds i hi t p.2
    rw [List.getElem_cons_succ, gtc_cons]
    constructor
    · intro hd
      have := h1 hd
      split <;> omega
    · intro hd
      have := h2 hd
      have h3 := p.1 _ (List.getElem_mem hi)
      rw [if_pos (by omega)]
      omega
def descOf (E : List Int) : List Int := (E.mergeSort fun a b => decide (a ≤ b)).reverse
theorem desc_len (E : List Int) : (descOf E).length = E.length := by unfold descOf; rw [List.length_reverse, List.length_mergeSort]
theorem desc_perm (E : List Int) : (descOf E).Perm E := (List.reverse_perm _).trans (List.mergeSort_perm E _)
theorem desc_pair (E : List Int) : (descOf E).Pairwise (fun a b => b ≤ a) := by
  unfold descOf
  rw [List.pairwise_reverse]
  have := List.pairwise_mergeSort (le := fun a b : Int => decide (a ≤ b)) (fun a b c h1 h2 => by simp at *; omega) (fun a b => by simp; omega) E
  exact this.imp fun h => by simpa using h
/-- what the law finds -/
theorem begin_by_ends {c : Nat} {es E : List Int} (ne : es ≠ []) (h : ∀ t, 0 ≤ t → cnt t es + min c (gtc t E) = c) (hc : 1 ≤ c) (w : Int) (hw : 0 ≤ w) :
    (E.length < c → max w (minL es) = w) ∧ (∀ (hl : c ≤ E.length), max w (minL es) = max w ((descOf E)[c - 1]'(by rw [desc_len]; omega))) := by
  have key : ∀ t, 0 ≤ t → (minL es ≤ t ↔ gtc t E < c) := fun t ht => by
    have h1 := h t ht
    rw [← cnt_pos ne]
    omega
  constructor
  · intro hl
    have := (key 0 (Int.le_refl 0)).mpr (by have := gtc_le 0 E; omega)
    omega
  · intro hl
    have hi : c - 1 < (descOf E).length := by rw [desc_len]; omega
    have pe : ∀ t, gtc t (descOf E) = gtc t E := fun t => (desc_perm E).countP_eq _
    have k2 : ∀ t, 0 ≤ t → (minL es ≤ t ↔ (descOf E)[c - 1] ≤ t) := fun t ht => by
      obtain ⟨d1, d2⟩ := desc_gtc (descOf E) (c - 1) hi t (desc_pair E)
      rw [key t ht, ← pe t]
      constructor
      · intro g
        by_cases z : (descOf E)[c - 1] ≤ t
        · exact z
        · have := d2 (by omega); omega
      · intro g
        have := d1 g
        omega
    have a1 := (k2 (max w (minL es)) (by omega)).mp (by omega)
    have a2 := (k2 (max w (descOf E)[c - 1]) (by omega)).mpr (by omega)
    omega
theorem rangeL_map : ∀ (n : Nat) (lo : Nat), rangeL (lo : Int) n = (List.range' lo n).map fun i : Nat => D.int i
  | 0, lo => rfl
  | n + 1, lo => by
    rw [rangeL, List.range'_succ, List.map_cons, show (lo : Int) + 1 = ((lo + 1 : Nat) : Int) by omega, rangeL_map n (lo + 1)]
theorem rangeL_map0 (n : Nat) : rangeL 0 n = (List.range n).map fun i : Nat => D.int i := by
  have := rangeL_map n 0
  rw [List.range_eq_range']
  exact this
theorem ends_range (P : List Int) (as pre rest : Asks) (e : as = pre ++ rest) (h : P.length = pre.length) : (List.range pre.length).map (fun i => P.getD i 0 + (as.getD i (0, 0)).2) = endsOf P pre := by
  apply List.ext_getElem
  · simp [endsOf, h]
  · intro i h1 h2
    have hi : i < pre.length := by simpa using h1
    rw [List.getElem_map, List.getElem_range]
    have e3 : (endsOf P pre)[i]'h2 = P[i]'(by omega) + pre[i].2 := by
      have e4 : (endsOf P pre)[i]'h2 = ((P.zip pre)[i]'(by rw [List.length_zip]; omega)).1 + ((P.zip pre)[i]'(by rw [List.length_zip]; omega)).2.2 := List.getElem_map ..
      rw [e4, List.getElem_zip]
    have e1 : as.getD i (0, 0) = pre[i] := by rw [e, List.getD_eq_getElem?_getD, List.getElem?_append_left hi, List.getElem?_eq_getElem hi]; rfl
    have e2 : P.getD i 0 = P[i]'(by omega) := by rw [List.getD_eq_getElem?_getD, List.getElem?_eq_getElem (by omega)]; rfl
    rw [e1, e2, e3]
@[simp] theorem rev1_lst (ds : List D) : Fl.rev1 (.lst ds) = .ok ds.reverse := .trans rfl rfl
theorem lb_step (c : Nat) (hc : 1 ≤ c) (as pre rest : Asks) (w l : Int) (e : as = pre ++ (w, l) :: rest) (hl : as.length ≤ 1000) (P es : List Int) (hP : P.length = pre.length) (ne : es ≠ []) (h : ∀ t, 0 ≤ t → cnt t es + min c (gtc t (endsOf P pre)) = c) (hw : 0 ≤ w) (s6 s7 s8 : Sl) :
    ∃ t6 t8, Mi.l1_law_begins [.sh (.int c), .sh (dA as), .ow (.node .leaf) (.lst (P.map D.int)), .sh (.int (pre.length : Nat)), .sh (.int w), .sh (.int l), s6, s7, s8] =
      .nx [.sh (.int c), .sh (dA as), .ow (.node .leaf) (.lst ((P ++ [max w (minL es)]).map D.int)), .sh (.int (pre.length : Nat)), .sh (.int w), .sh (.int l), t6, s7, t8] := by
  have hpl : pre.length < as.length := by rw [e, List.length_append, List.length_cons]; omega
  obtain ⟨b1, b2⟩ := begin_by_ends ne h hc w hw
  have el : (endsOf P pre).length = pre.length := by unfold endsOf; simp [hP]
  have e1 := lcM_all (t := .nm 7) (vs := [7]) (elt := E.bin addD (E.bin ixD (E.var 2) (E.var 7)) (E.bin ixD (E.bin ixD (E.var 1) (E.var 7)) (E.c (.int 1)))) (e := [.sh (.int c), .sh (dA as), .ow (.node .leaf) (.lst (P.map D.int)), .sh (.int (pre.length : Nat)), .sh (.int w), .sh (.int l), s6, s7, s8])
    (fun i : Nat => .int i) (fun i => .int (P.getD i 0 + (as.getD i (0, 0)).2)) (List.range pre.length) (fun i hi => ⟨[(7, .int i)], by simp, by
      have hi' : i < pre.length := List.mem_range.mp hi
      have g1 := atI_ints P i (by omega) (by omega)
      have g2 := atI_asks as i (by omega) (by omega)
      rw [Int.toNat_natCast] at g1 g2
      simp only [setsE_cons, setsE_nil, wipeE_cons, wipeE_nil, List.set_cons_succ, List.set_cons_zero, E.bin_eq, E.var_eq, E.c_eq, vw_zero, vw_succ, Sl.vw_sh, Sl.vw_ow, R.of_some, R.bind_ok, g1, g2, ixD_long, addD_int], by simp⟩)
  have e2 : ((List.range pre.length).map fun i => D.int (P.getD i 0 + (as.getD i (0, 0)).2)) = (endsOf P pre).map D.int := by
    rw [← ends_range P as pre _ e hP, List.map_map]; rfl
  have hr : I.rangeD1 [.int (pre.length : Nat)] = .ok ((List.range pre.length).map fun i : Nat => D.int i) := by
    rw [rangeD1_int _ (by omega), Int.toNat_natCast, rangeL_map0]
  have ecomp : Fl.rev (E.call okLst (Fl.sort (E.cons (E.call okLst (Fl.comp (I.range1 (E.cons (E.var 3) E.nil)) (.nm 7) [7] B.yes (E.bin addD (E.bin ixD (E.var 2) (E.var 7)) (E.bin ixD (E.bin ixD (E.var 1) (E.var 7)) (E.c (.int 1)))))) E.nil))) [.sh (.int c), .sh (dA as), .ow (.node .leaf) (.lst (P.map D.int)), .sh (.int (pre.length : Nat)), .sh (.int w), .sh (.int l), s6, s7, s8] = .ok ((descOf (endsOf P pre)).map D.int) := by
    simp only [Fl.rev_eq, E.call_eq, Fl.sort_eq, E.cons_eq, E.nil_eq, Fl.comp_eq, I.range1_eq, E.var_eq, vw_zero, vw_succ, Sl.vw_sh, R.of_some, R.bind_ok, hr, List.length_map, List.length_range]
    rw [if_pos (by omega), e1, e2]
    simp only [okLst_eq, R.bind_ok, sort1_ints, rev1_lst]
    unfold descOf
    rw [List.map_reverse]
  unfold Mi.l1_law_begins
  by_cases k : c ≤ pre.length
  · have hk : (c : Int) ≤ ((descOf (endsOf P pre)).length : Nat) := by rw [desc_len, el]; omega
    have b3 := b2 (by omega)
    have g1 := atI_ints (descOf (endsOf P pre)) ((c : Int) - 1) (by omega) (by rw [desc_len, el]; omega)
    have g2 : (descOf (endsOf P pre)).getD ((c : Int) - 1).toNat 0 = (descOf (endsOf P pre))[c - 1]'(by rw [desc_len]; omega) := by
      rw [show ((c : Int) - 1).toNat = c - 1 by omega, List.getD_eq_getElem?_getD, List.getElem?_eq_getElem (by rw [desc_len]; omega)]; rfl
    rw [g2] at g1
    refine ⟨_, _, (seq_step (by simp only [S.set_eq, Z.pf_eq, ecomp, R.bind_ok, D.pures_ints, Bool.true_or, if_true, R.out_ok, List.set_cons_succ, List.set_cons_zero]; rfl)).trans ((seq_step (by simp only [S.set_eq, Z.var_succ, Z.var_zero, R.out_ok, List.set_cons_succ, List.set_cons_zero]; rfl)).trans ((seq_step (by simp only [S.ite_eq, B.val_eq, E.bin_eq, E.call_eq, E.cons_eq, E.nil_eq, E.var_eq, E.c_eq, vw_zero, vw_succ, Sl.vw_sh, R.of_some, R.bind_ok, on1_eq, lenD_lst, List.length_map, geD_int, hk, decide_true, R.out_ok, if_true, S.seq_eq, S.set_eq, Z.px_eq, subD_int, g1, on2_eq, max2D_int, ← b3, D.pure_int, Bool.true_or, List.set_cons_succ, List.set_cons_zero, Out.seq_nx, S.nil_eq]; rfl)).trans ((seq_step (by
      simp only [S.app_eq, S.withL_succ, S.withL_zero, Z.var_succ, Z.var_zero, R.out_ok, List.length_map]
      rw [if_pos (by omega)]
      simp only [S.putL_eq, List.set_cons_succ, List.set_cons_zero]; rfl)).trans (by rw [S.nil_eq, List.map_append]; rfl))))⟩
  · have hk : ¬ (c : Int) ≤ ((descOf (endsOf P pre)).length : Nat) := by rw [desc_len, el]; omega
    have b3 := b1 (by omega)
    refine ⟨_, _, (seq_step (by simp only [S.set_eq, Z.pf_eq, ecomp, R.bind_ok, D.pures_ints, Bool.true_or, if_true, R.out_ok, List.set_cons_succ, List.set_cons_zero]; rfl)).trans ((seq_step (by simp only [S.set_eq, Z.var_succ, Z.var_zero, R.out_ok, List.set_cons_succ, List.set_cons_zero]; rfl)).trans ((seq_step (by simp only [S.ite_eq, B.val_eq, E.bin_eq, E.call_eq, E.cons_eq, E.nil_eq, E.var_eq, E.c_eq, vw_zero, vw_succ, Sl.vw_sh, R.of_some, R.bind_ok, on1_eq, lenD_lst, List.length_map, geD_int, hk, decide_false, Bool.false_eq_true, R.out_ok, if_false, S.nil_eq]; rfl)).trans ((seq_step (by
      simp only [S.app_eq, S.withL_succ, S.withL_zero, Z.var_succ, Z.var_zero, R.out_ok, List.length_map]
      rw [if_pos (by omega)]
      simp only [S.putL_eq, List.set_cons_succ, List.set_cons_zero]; rfl)).trans (by rw [S.nil_eq, b3, List.map_append]; rfl))))⟩
theorem bgo_one (es : List Int) (w l : Int) : bgo es [(w, l)] = [max w (minL es)] := rfl
theorem fin_one (es : List Int) (w l : Int) : fin es [(w, l)] = stp es w l := rfl
theorem endsOf_append {P Q : List Int} {pre post : Asks} (h : P.length = pre.length) : endsOf (P ++ Q) (pre ++ post) = endsOf P pre ++ endsOf Q post := by
  unfold endsOf
  rw [List.zip_append h, List.map_append]
theorem bindT_dAsk (i j : Nat) (w l : Int) : bindT (.tp [.nm i, .nm j]) (dAsk (w, l)) = .ok [(i, .int w), (j, .int l)] := by simp [dAsk]
theorem bindT_enum (i j k : Nat) (n : D) (w l : Int) : bindT (.tp [.nm i, .tp [.nm j, .nm k]]) (.tup [n, dAsk (w, l)]) = .ok [(i, n), (j, .int w), (k, .int l)] := by simp [dAsk]
theorem lb_loop (c : Nat) (hc : 1 ≤ c) (as : Asks) (hl : as.length ≤ 1000) (o : okP 0 as = true) : ∀ (rest pre : Asks) (P es : List Int), as = pre ++ rest → P.length = pre.length → es ≠ [] → es.length = c → (∀ t, 0 ≤ t → cnt t es + min c (gtc t (endsOf P pre)) = c) → ∀ s3 s4 s5 s6 s7 s8 : Sl, ∃ t3 t4 t5 t6 t7 t8,
    loopM (.tp [(.nm 3), (.tp [(.nm 4), (.nm 5)])]) Mi.l1_law_begins (enumT pre.length (rest.map dAsk)) [.sh (.int c), .sh (dA as), .ow (.node .leaf) (.lst (P.map D.int)), s3, s4, s5, s6, s7, s8] =
      .nx [.sh (.int c), .sh (dA as), .ow (.node .leaf) (.lst ((P ++ bgo es rest).map D.int)), t3, t4, t5, t6, t7, t8] := by
  intro rest
  induction rest with
  | nil => intro pre P es _ _ _ _ _ s3 s4 s5 s6 s7 s8; exact ⟨s3, s4, s5, s6, s7, s8, by simp [enumT, loopM, bgo]⟩
  | cons wl rest ih =>
    intro pre P es e hP ne el h s3 s4 s5 s6 s7 s8
    obtain ⟨w, l⟩ := wl
    have hw : 0 ≤ w := okP_ge o (w, l) (by rw [e]; exact List.mem_append_right _ List.mem_cons_self)
    have hl1 : 1 ≤ l := okP_pos o (w, l) (by rw [e]; exact List.mem_append_right _ List.mem_cons_self)
    obtain ⟨t6, t8, e1⟩ := lb_step c hc as pre rest w l e hl P es hP ne h hw s6 s7 s8
    have inv : ∀ t, 0 ≤ t → cnt t (stp es w l) + min c (gtc t (endsOf (P ++ [max w (minL es)]) (pre ++ [(w, l)]))) = c := fun t ht => by
      have f := fin_ends c [(w, l)] es (endsOf P pre) ne el (fun a ha => by rw [List.mem_singleton.mp ha]; exact hl1) h t ht
      rw [bgo_one, fin_one] at f
      rw [endsOf_append hP]
      exact f
    obtain ⟨u3, u4, u5, u6, u7, u8, e2⟩ := ih (pre ++ [(w, l)]) (P ++ [max w (minL es)]) (stp es w l) (by rw [e, List.append_assoc]; rfl) (by rw [List.length_append, List.length_append, hP]; rfl) (stp_ne ne w l) (by rw [stp_len, el]) inv (.sh (.int (pre.length : Nat))) (.sh (.int w)) (.sh (.int l)) t6 s7 t8
    refine ⟨u3, u4, u5, u6, u7, u8, ?_⟩
    rw [List.map_cons, enumT, bgo_cons]
    have es : setsE [.sh (.int c), .sh (dA as), .ow (.node .leaf) (.lst (P.map D.int)), s3, s4, s5, s6, s7, s8] [(3, .int (pre.length : Nat)), (4, .int w), (5, .int l)] = [.sh (.int c), .sh (dA as), .ow (.node .leaf) (.lst (P.map D.int)), .sh (.int (pre.length : Nat)), .sh (.int w), .sh (.int l), s6, s7, s8] := rfl
    rw [← es] at e1
    rw [loop_cons (bindT_enum 3 4 5 _ w l) e1]
    rw [List.length_append, List.length_singleton] at e2
    rw [e2, List.append_assoc, List.singleton_append]
theorem law_begins_eq (c : Nat) (hc : 1 ≤ c) (as : Asks) (hl : as.length ≤ 1000) (o : okP 0 as = true) : Mi.law_begins [.int c, dA as] = .ok ((bg c as).map D.int) := by
  obtain ⟨t3, t4, t5, t6, t7, t8, e⟩ := lb_loop c hc as hl o as [] [] (List.replicate c 0) rfl rfl (rep_ne hc) List.length_replicate (fun t ht => by
    rw [cnt_rep, if_pos ht]
    have : gtc t (endsOf [] []) = 0 := rfl
    rw [this]
    omega) .no .no .no .no .no .no
  unfold Mi.law_begins Mi.b_law_begins
  refine (fnF2 (o := .rt (.lst ((bg c as).map D.int))) ?_).trans rfl
  simp only [List.replicate]
  refine (seq_step (by simp only [S.own_eq, Fl.lst_eq, E.nil_eq, R.bind_ok, List.length_nil, Nat.zero_le, if_true, R.out_ok, D.pures_nil, Bool.true_or, S.putL_eq, List.set_cons_succ, List.set_cons_zero]; rfl)).trans ?_
  refine (seq_step (by simp only [S.loop_eq, I.enum_eq, E.cons_eq, E.nil_eq, Z.var_succ, Z.var_zero, R.bind_ok, enumD_eq, itemsD_dA, R.out_ok]; exact e)).trans ?_
  refine seq_end (by simp only [S.retO_eq, S.withL_succ, S.withL_zero]; rfl) (fun _ h => nomatch h)
end Lp

/-! # Plain law, part H: stretches of time -/
namespace Lp
open PySem
/-! ### stretches put together -/
def push {α : Type} [DecidableEq α] (acc : List (Int × Int × α)) (lo hi : Int) (x : α) : List (Int × Int × α) := match acc.getLast? with
  | some (a, _, y) => if y = x then acc.dropLast ++ [(a, hi, x)] else acc ++ [(lo, hi, x)]
  | none => [(lo, hi, x)]
section
variable {α : Type} [DecidableEq α]
theorem push_nil (lo hi : Int) (x : α) : push [] lo hi x = [(lo, hi, x)] := rfl
theorem push_last (acc : List (Int × Int × α)) (a b : Int) (y : α) (lo hi : Int) (x : α) : push (acc ++ [(a, b, y)]) lo hi x = if y = x then acc ++ [(a, hi, x)] else acc ++ [(a, b, y)] ++ [(lo, hi, x)] := by
  unfold push
  rw [List.getLast?_append]
  simp
/-- the same again: one stretch -/
theorem push_push (acc : List (Int × Int × α)) (lo mid hi lo2 : Int) (x : α) : push (push acc lo mid x) lo2 hi x = push acc lo hi x := by
  rcases List.eq_nil_or_concat acc with e | ⟨l, ⟨a, b, y⟩, e⟩
  · subst e
    rw [push_nil, push_nil]
    have := push_last ([] : List (Int × Int × α)) lo mid x lo2 hi x
    rw [List.nil_append] at this
    rw [this, if_pos rfl]
    rfl
  · rw [List.concat_eq_append] at e
    subst e
    rw [push_last, push_last]
    by_cases c : y = x
    · rw [if_pos c, if_pos c, push_last, if_pos rfl]
    · rw [if_neg c, if_neg c, push_last, if_pos rfl]
/-- time by time -/
def units (f : Int → α) (acc : List (Int × Int × α)) (lo : Int) : Nat → List (Int × Int × α)
  | 0 => acc
  | n + 1 => units f (push acc lo (lo + 1) (f lo)) (lo + 1) n
theorem units_const (f : Int → α) (x : α) : ∀ (n : Nat) (acc : List (Int × Int × α)) (lo : Int), (∀ t, lo ≤ t → t < lo + (n + 1) → f t = x) → units f acc lo (n + 1) = push acc lo (lo + (n + 1)) x
  | 0, acc, lo, h => by
    rw [units, units, h lo (by omega) (by omega)]
    simp
  | n + 1, acc, lo, h => by
    rw [units, units_const f x n _ (lo + 1) (fun t h1 h2 => h t (by omega) (by omega)), h lo (by omega) (by omega), push_push]
    congr 1
    omega
theorem units_add (f : Int → α) : ∀ (n m : Nat) (acc : List (Int × Int × α)) (lo : Int), units f acc lo (n + m) = units f (units f acc lo n) (lo + n) m
  | 0, m, acc, lo => by simp [units]
  | n + 1, m, acc, lo => by
    rw [show n + 1 + m = (n + m) + 1 by omega, units, units_add f n m, units]
    congr 1
    omega
/-- by marks -/
def byMarks (f : Int → α) (acc : List (Int × Int × α)) : List Int → List (Int × Int × α)
  | a :: b :: r => byMarks f (push acc a b (f a)) (b :: r)
  | _ => acc
theorem byMarks_units (f : Int → α) : ∀ (ms : List Int) (a last : Int) (acc : List (Int × Int × α)), (a :: ms).Pairwise (· < ·) → (a :: ms).getLast? = some last → (∀ t, a ≤ t → t < last → ∀ p, p ∈ a :: ms → p ≤ t → (∀ q ∈ a :: ms, q ≤ t → q ≤ p) → f t = f p) → byMarks f acc (a :: ms) = units f acc a (last - a).toNat
  | [], a, last, acc, _, hl, _ => by
    have : a = last := by simpa using hl
    rw [this]
    simp [byMarks, units]
  | b :: ms, a, last, acc, hp, hl, hf => by
    rw [List.pairwise_cons] at hp
    have hab := hp.1 b List.mem_cons_self
    have hl2 : (b :: ms).getLast? = some last := by simpa using hl
    have hbl : b ≤ last := by
      have hm : last ∈ b :: ms := List.mem_of_getLast? hl2
      rcases List.mem_cons.mp hm with z | z
      · omega
      · have := (List.pairwise_cons.mp hp.2).1 last z; omega
    have ih := byMarks_units f ms b last (push acc a b (f a)) hp.2 hl2 (fun t h1 h2 p hpm hpt hq => hf t (by omega) h2 p (List.mem_cons_of_mem _ hpm) hpt fun q hqm hqt => by
      rcases List.mem_cons.mp hqm with z | z
      · have : b ≤ p := hq b List.mem_cons_self h1
        omega
      · exact hq q z hqt)
    rw [byMarks, ih]
    obtain ⟨n, hn⟩ : ∃ n : Nat, b - a = n + 1 := ⟨(b - a).toNat - 1, by omega⟩
    have e1 : (last - a).toNat = (n + 1) + (last - b).toNat := by omega
    rw [e1, units_add, units_const f (f a) n acc a (fun t h1 h2 => hf t h1 (by omega) a List.mem_cons_self h1 fun q hqm hqt => by
      rcases List.mem_cons.mp hqm with z | z
      · omega
      · rcases List.mem_cons.mp z with z2 | z2
        · omega
        · have := (List.pairwise_cons.mp hp.2).1 q z2; omega)]
    have e2 : a + (n + 1 : Nat) = b := by omega
    have e3 : a + ((n : Int) + 1) = b := by omega
    rw [e2, e3]
end
/-! ### what is set last in a list -/
theorem atI_last {β : Type} (xs : List β) (x : β) : L2.atI (xs ++ [x]) (-1) = some x := by
  unfold L2.atI L2.ixN
  rw [if_neg (by omega), if_pos (by rw [List.length_append, List.length_singleton]; omega)]
  show (xs ++ [x])[(-1 + ((xs ++ [x]).length : Int)).toNat]? = some x
  rw [List.length_append, List.length_singleton, show (-1 + ((xs.length + 1 : Nat) : Int)).toNat = xs.length by omega]
  simp
theorem set_last {β : Type} (xs : List β) (x y : β) : (L2.ixN (xs ++ [x]).length (-1)).map (fun j => (xs ++ [x]).set j y) = some (xs ++ [y]) := by
  unfold L2.ixN
  rw [if_neg (by omega), if_pos (by rw [List.length_append, List.length_singleton]; omega)]
  rw [List.length_append, List.length_singleton, show (-1 + ((xs.length + 1 : Nat) : Int)).toNat = xs.length by omega]
  simp
def dS {α : Type} (enc : α → D) (p : Int × Int × α) : D := .tup [.int p.1, .int p.2.1, enc p.2.2]
/-- ints and bools as what a stretch has -/
structure Enc {α : Type} [DecidableEq α] (enc : α → D) : Prop where
  eq : ∀ x y, eqD (enc x) (enc y) = .ok (.bl (decide (x = y)))
  pure : ∀ x, (enc x).pure = true
  dt : ∀ x n, (enc x).dt n = true
theorem enc_int : Enc D.int := ⟨eqD_int, fun x => D.pure_int x, fun x n => by cases n <;> simp [D.dt]⟩
theorem enc_bool : Enc D.bl := ⟨fun x y => by
  unfold eqD
  rw [if_pos (by simp [D.dt]), D.py, D.py, PyData.eqv]
  cases x <;> cases y <;> rfl, fun x => D.pure_bl x, fun x n => by cases n <;> simp [D.dt]⟩
section
variable {α : Type} [DecidableEq α] {enc : α → D} (E : Enc enc)
include E
theorem dS_dts (n : Nat) : ∀ acc : List (Int × Int × α), D.dts (n + 1) (acc.map (dS enc)) = true
  | [] => by rw [List.map_nil, D.dts]
  | (a, b, x) :: acc => by
    rw [List.map_cons, D.dts, dS_dts n acc]
    simp [dS, D.dt, D.dts, E.dt]
theorem ne_nil (acc : List (Int × Int × α)) : neD (.lst (acc.map (dS enc))) (.lst []) = .ok (.bl (!acc.isEmpty)) := by
  unfold neD
  rw [if_pos ⟨by rw [D.dt]; exact dS_dts E 6 acc, by simp [D.dt, D.dts]⟩, D.py, D.py, PyData.eqv]
  cases acc with
  | nil => simp [D.pys, PyData.eqvAll]
  | cons p acc => rw [List.map_cons, D.pys, D.pys, PyData.eqvAll]; rfl
omit E in
theorem dS_hi (p : Int × Int × α) : ixD (dS enc p) (.int 2) = .ok (enc p.2.2) := by simp [dS]
omit E in
theorem dS_lo (p : Int × Int × α) : ixD (dS enc p) (.int 0) = .ok (.int p.1) := by simp [dS]

omit E in
theorem last_ix (acc : List (Int × Int × α)) (p : Int × Int × α) : ixD (.lst ((acc ++ [p]).map (dS enc))) (.int (-1)) = .ok (dS enc p) := by
  rw [List.map_append, ixD_lst]
  show R.of (L2.atI (acc.map (dS enc) ++ [dS enc p]) (-1)) = _
  rw [atI_last]
  rfl
end
section
variable {α : Type} [DecidableEq α] {enc : α → D} (H : Enc enc)
include H
theorem stretch_step (A : D) (acc : List (Int × Int × α)) (hl : acc.length < 16777216) (k : Int) (x : α) : Mi.l1_law_stretches [.sh A, .ow (.node .leaf) (.lst (acc.map (dS enc))), .sh (.int k), .sh (enc x)] = .nx [.sh A, .ow (.node .leaf) (.lst ((push acc k (k + 1) x).map (dS enc))), .sh (.int k), .sh (enc x)] := by
  unfold Mi.l1_law_stretches
  have ne := ne_nil H acc
  rcases List.eq_nil_or_concat acc with e | ⟨l, ⟨a, b, y⟩, e⟩
  · subst e
    refine (seq_step (e' := [.sh A, .ow (.node .leaf) (.lst ((push [] k (k + 1) x).map (dS enc))), .sh (.int k), .sh (enc x)]) ?_).trans rfl
    simp only [S.seq_eq, S.ite_eq, B.and_eq, B.val_eq, E.bin_eq, E.var_eq, E.c_eq, E.un_eq, E.call_eq, E.cons_eq, E.nil_eq, vw_zero, vw_succ, Sl.vw_sh, Sl.vw_ow, R.of_some, R.bind_ok, lstD_nil, negD_int, R.out_ok, Out.seq_nx, S.nil_eq, tupD_three, addD_int, Z.px_eq, D.pure_tup, D.pures_cons, D.pures_nil, D.pure_int, H.pure, Bool.and_self, Bool.true_or, if_true, S.putL_eq, S.withL_succ, S.withL_zero, List.set_cons_succ, List.set_cons_zero, ne, List.isEmpty_nil, Bool.not_true, Bool.false_eq_true, if_false, S.app_eq, List.map_nil, List.length_nil]
    rfl
  · rw [List.concat_eq_append] at e
    subst e
    have li := last_ix (enc := enc) l (a, b, y)
    have hi := dS_hi (enc := enc) (a, b, y)
    have lo := dS_lo (enc := enc) (a, b, y)
    have eq := H.eq y x
    have nn : (!(l ++ [(a, b, y)]).isEmpty) = true := by cases l <;> rfl
    rw [nn] at ne
    by_cases c : y = x
    · subst c
      have sl : (L2.ixN ((l ++ [(a, b, y)]).map (dS enc)).length (-1)).map (fun j => ((l ++ [(a, b, y)]).map (dS enc)).set j (.tup [.int a, .int (k + 1), enc y])) = some ((l ++ [(a, k + 1, y)]).map (dS enc)) := by
        rw [List.map_append, List.map_append]
        exact set_last (l.map (dS enc)) (dS enc (a, b, y)) (.tup [.int a, .int (k + 1), enc y])
      refine (seq_step (e' := [.sh A, .ow (.node .leaf) (.lst ((push (l ++ [(a, b, y)]) k (k + 1) y).map (dS enc))), .sh (.int k), .sh (enc y)]) ?_).trans rfl
      rw [push_last, if_pos rfl]
      simp only [S.seq_eq, S.ite_eq, B.and_eq, B.val_eq, E.bin_eq, E.var_eq, E.c_eq, E.un_eq, E.call_eq, E.cons_eq, E.nil_eq, vw_zero, vw_succ, Sl.vw_sh, Sl.vw_ow, R.of_some, R.bind_ok, lstD_nil, negD_int, R.out_ok, Out.seq_nx, S.nil_eq, tupD_three, addD_int, Z.px_eq, D.pure_tup, D.pures_cons, D.pures_nil, D.pure_int, H.pure, Bool.and_self, Bool.true_or, if_true, S.putL_eq, S.withL_succ, S.withL_zero, List.set_cons_succ, List.set_cons_zero, ne, if_true, li, hi, lo, eq, decide_true, S.seti_eq, S.setD_int, sl, S.putM_some]
    · refine (seq_step (e' := [.sh A, .ow (.node .leaf) (.lst ((push (l ++ [(a, b, y)]) k (k + 1) x).map (dS enc))), .sh (.int k), .sh (enc x)]) ?_).trans rfl
      simp only [S.seq_eq, S.ite_eq, B.and_eq, B.val_eq, E.bin_eq, E.var_eq, E.c_eq, E.un_eq, E.call_eq, E.cons_eq, E.nil_eq, vw_zero, vw_succ, Sl.vw_sh, Sl.vw_ow, R.of_some, R.bind_ok, lstD_nil, negD_int, R.out_ok, Out.seq_nx, S.nil_eq, tupD_three, addD_int, Z.px_eq, D.pure_tup, D.pures_cons, D.pures_nil, D.pure_int, H.pure, Bool.and_self, Bool.true_or, if_true, S.putL_eq, S.withL_succ, S.withL_zero, List.set_cons_succ, List.set_cons_zero, ne, if_true, li, hi, eq, c, decide_false, Bool.false_eq_true, if_false, S.app_eq, List.length_map]
      rw [if_pos hl]
      simp only [S.putL_eq, List.set_cons_succ, List.set_cons_zero, Out.seq_nx]
      rw [push_last, if_neg c, List.map_append (l₁ := l ++ [(a, b, y)])]
      rfl
omit H in
theorem push_len (acc : List (Int × Int × α)) (lo hi : Int) (x : α) : (push acc lo hi x).length ≤ acc.length + 1 := by
  rcases List.eq_nil_or_concat acc with e | ⟨l, ⟨a, b, y⟩, e⟩
  · subst e; rw [push_nil]; exact Nat.le_refl _
  · rw [List.concat_eq_append] at e
    subst e
    rw [push_last]
    split <;> simp
omit H in
theorem bindT_two (i j : Nat) (a b : D) : bindT (.tp [.nm i, .nm j]) (.tup [a, b]) = .ok [(i, a), (j, b)] := by simp
def foldPush (acc : List (Int × Int × α)) (k : Nat) : List α → List (Int × Int × α)
  | [] => acc
  | x :: xs => foldPush (push acc k (k + 1) x) (k + 1) xs
omit H in
theorem foldPush_units (f : Int → α) : ∀ (n k : Nat) (acc : List (Int × Int × α)), foldPush acc k ((List.range' k n).map fun i : Nat => f i) = units f acc k n
  | 0, k, acc => rfl
  | n + 1, k, acc => by
    rw [List.range'_succ, List.map_cons, foldPush, foldPush_units f n (k + 1), units]
    try rfl
theorem stretch_loop (A : D) : ∀ (xs : List α) (k : Nat) (acc : List (Int × Int × α)) (s2 s3 : Sl), acc.length + xs.length < 16777216 → ∃ t2 t3, loopM (.tp [.nm 2, .nm 3]) Mi.l1_law_stretches (enumT k (xs.map enc)) [.sh A, .ow (.node .leaf) (.lst (acc.map (dS enc))), s2, s3] = .nx [.sh A, .ow (.node .leaf) (.lst ((foldPush acc k xs).map (dS enc))), t2, t3] := by
  intro xs
  induction xs with
  | nil => intro k acc s2 s3 _; exact ⟨s2, s3, rfl⟩
  | cons x xs ih =>
    intro k acc s2 s3 hl
    rw [List.length_cons] at hl
    have hp := push_len acc k (k + 1) x
    obtain ⟨t2, t3, e⟩ := ih (k + 1) (push acc k (k + 1) x) (.sh (.int (k : Nat))) (.sh (enc x)) (by omega)
    refine ⟨t2, t3, ?_⟩
    have e1 := stretch_step H A acc (by omega) k x
    have es : setsE [.sh A, .ow (.node .leaf) (.lst (acc.map (dS enc))), s2, s3] [(2, .int (k : Nat)), (3, enc x)] = [.sh A, .ow (.node .leaf) (.lst (acc.map (dS enc))), .sh (.int (k : Nat)), .sh (enc x)] := rfl
    rw [← es] at e1
    rw [List.map_cons, enumT, loop_cons (bindT_two 2 3 _ _) e1]
    exact e
theorem law_stretches_eq (xs : List α) (hl : xs.length < 16777216) : Mi.law_stretches [.lst (xs.map enc)] = .ok ((foldPush [] 0 xs).map (dS enc)) := by
  obtain ⟨t2, t3, e⟩ := stretch_loop H (.lst (xs.map enc)) xs 0 [] .no .no (by simpa using hl)
  unfold Mi.law_stretches Mi.b_law_stretches
  show Fn.outF (Mi.b_law_stretches (.sh (.lst (xs.map enc)) :: List.replicate 3 .no)) = _
  have : Mi.b_law_stretches (.sh (.lst (xs.map enc)) :: List.replicate 3 .no) = .rt (.lst ((foldPush [] 0 xs).map (dS enc))) := by
    unfold Mi.b_law_stretches
    simp only [List.replicate]
    refine (seq_step (by simp only [S.own_eq, Fl.lst_eq, E.nil_eq, R.bind_ok, List.length_nil, Nat.zero_le, if_true, R.out_ok, D.pures_nil, Bool.true_or, S.putL_eq, List.set_cons_succ, List.set_cons_zero]; rfl)).trans ?_
    refine (seq_step (by simp only [S.loop_eq, I.enum_eq, E.cons_eq, E.nil_eq, Z.var_zero, R.bind_ok, enumD_eq, itemsD_lst, R.out_ok]; exact e)).trans ?_
    exact seq_end (by simp only [S.retO_eq, S.withL_succ, S.withL_zero]) (fun _ h => nomatch h)
  rw [this]
  rfl
end
/-! ### the marks -/
def addT (ks : List Int) (b : Int) : List Int := if b ∈ ks then ks else ks ++ [b]
theorem hasK_ints (ks : List Int) (b : Int) : hasK (ks.map Sum.inl) (.inl b) = decide (b ∈ ks) := by
  unfold hasK
  induction ks with
  | nil => simp
  | cons k ks ih =>
    rw [List.map_cons, List.any_cons, ih]
    by_cases h : k = b
    · subst h; simp
    · have h2 : ¬ (Sum.inl k : L2.Key) = Sum.inl b := fun z => h (Sum.inl.inj z)
      have h3 : ¬ b = k := fun z => h z.symm
      simp [h2, h3]
theorem keysP_ints (ks : List Int) (b : Int) : keysP (ks.map Sum.inl) (.inl b) = (addT ks b).map Sum.inl := by
  unfold keysP addT
  rw [hasK_ints]
  by_cases h : b ∈ ks
  · simp [h]
  · simp [h]
theorem valsP_ints (ks : List Int) (b : Int) : valsP (ks.map Sum.inl) (ks.map fun _ => D.bl true) (.inl b) (.bl true) = (addT ks b).map fun _ => D.bl true := by
  unfold valsP addT
  rw [hasK_ints]
  by_cases h : b ∈ ks
  · simp only [h, decide_true, if_true]
    clear h
    induction ks with
    | nil => rfl
    | cons k ks ih =>
      rw [List.map_cons, List.map_cons, List.zipWith_cons_cons, ih]
      split <;> rfl
  · simp only [h, decide_false, Bool.false_eq_true, if_false, List.map_append]
    rfl
theorem addT_nodup {ks : List Int} (h : ks.Nodup) (b : Int) : (addT ks b).Nodup := by
  unfold addT
  by_cases c : b ∈ ks
  · rw [if_pos c]; exact h
  · rw [if_neg c, List.nodup_append]
    exact ⟨h, by simp, fun a ha b' hb => by rw [List.mem_singleton.mp hb]; exact fun z => c (z ▸ ha)⟩
theorem addT_mem {ks : List Int} {b x : Int} : x ∈ addT ks b ↔ x ∈ ks ∨ x = b := by
  unfold addT
  by_cases c : b ∈ ks
  · rw [if_pos c]
    exact ⟨.inl, fun h => h.elim id fun z => z ▸ c⟩
  · rw [if_neg c, List.mem_append, List.mem_singleton]
theorem addT_len (ks : List Int) (b : Int) : (addT ks b).length ≤ ks.length + 1 := by
  unfold addT
  split
  · omega
  · simp
def timesOf (ks : List Int) : Spans → List Int
  | [] => ks
  | p :: sp => timesOf (addT (addT ks p.1) p.2) sp
theorem times_nodup : ∀ (sp : Spans) {ks : List Int}, ks.Nodup → (timesOf ks sp).Nodup
  | [], _, h => h
  | p :: sp, ks, h => times_nodup sp (addT_nodup (addT_nodup h _) _)
theorem times_mem : ∀ (sp : Spans) {ks : List Int} {x : Int}, x ∈ timesOf ks sp ↔ x ∈ ks ∨ ∃ p ∈ sp, x = p.1 ∨ x = p.2
  | [], ks, x => by simp [timesOf]
  | p :: sp, ks, x => by
    rw [timesOf, times_mem sp, addT_mem, addT_mem]
    constructor
    · rintro (((h | h) | h) | ⟨q, hq, h⟩)
      · exact .inl h
      · exact .inr ⟨p, List.mem_cons_self, .inl h⟩
      · exact .inr ⟨p, List.mem_cons_self, .inr h⟩
      · exact .inr ⟨q, List.mem_cons_of_mem _ hq, h⟩
    · rintro (h | ⟨q, hq, h⟩)
      · exact .inl (.inl (.inl h))
      · rcases List.mem_cons.mp hq with z | z
        · subst z
          rcases h with h | h
          · exact .inl (.inl (.inr h))
          · exact .inl (.inr h)
        · exact .inr ⟨q, z, h⟩
theorem times_len : ∀ (sp : Spans) (ks : List Int), (timesOf ks sp).length ≤ ks.length + 2 * sp.length
  | [], ks => by simp [timesOf]
  | p :: sp, ks => by
    have h1 := times_len sp (addT (addT ks p.1) p.2)
    have h2 := addT_len (addT ks p.1) p.2
    have h3 := addT_len ks p.1
    rw [timesOf, List.length_cons]
    omega
end Lp

/-! # Plain law, part I: loads -/
namespace Lp
open PySem
def dT (ks : List Int) : D := .dic (ks.map Sum.inl) (ks.map fun _ => .bl true)
@[simp] theorem S.ownD_eq (i : Nat) (f : En → R (List L2.Key × List D)) (e : En) : S.ownD i f e = (f e).out e fun kd => if D.pures kd.2 = true then .nx (e.set i (.ow (.node .leaf) (.dic kd.1 kd.2))) else .no := .trans rfl rfl
@[simp] theorem S.withD_zero (ks : List L2.Key) (ds : List D) (e : En) (k : List L2.Key → List D → Out) : S.withD 0 (.ow (.node .leaf) (.dic ks ds) :: e) k = k ks ds := .trans rfl rfl
@[simp] theorem S.withD_succ (s : Sl) (e : En) (i : Nat) (k : List L2.Key → List D → Out) : S.withD (i + 1) (s :: e) k = S.withD i e k := .trans rfl rfl
@[simp] theorem S.dput_eq (i : Nat) (fv fk : En → R D) (e : En) : S.dput i fv fk e = S.withD i e fun ks ds => (fv e).out e fun d => (fk e).out e fun k => S.putK1 i e ks ds k d := .trans rfl rfl
theorem putK1_int (i : Nat) (e : En) (ks : List L2.Key) (ds : List D) (k : Int) (d : D) (h : ks.length < 16777216) : S.putK1 i e ks ds (.int k) d = .nx (e.set i (.ow (.node .leaf) (.dic (keysP ks (.inl k)) (valsP ks ds (.inl k) d)))) := if_pos h
theorem times_step (A0 A1 A2 : D) (rest : List Sl) (ks : List Int) (hk : ks.length < 1000) (b d : Int) : Mi.l1_loads (.sh A0 :: .sh A1 :: .sh A2 :: .ow (.node .leaf) (dT ks) :: .sh (.int b) :: .sh (.int d) :: rest) = .nx (.sh A0 :: .sh A1 :: .sh A2 :: .ow (.node .leaf) (dT (addT (addT ks b) d)) :: .sh (.int b) :: .sh (.int d) :: rest) := by
  have hk2 := addT_len ks b
  unfold Mi.l1_loads dT
  refine (seq_step (e' := .sh A0 :: .sh A1 :: .sh A2 :: .ow (.node .leaf) (dT (addT ks b)) :: .sh (.int b) :: .sh (.int d) :: rest) ?_).trans ((seq_step (e' := .sh A0 :: .sh A1 :: .sh A2 :: .ow (.node .leaf) (dT (addT (addT ks b) d)) :: .sh (.int b) :: .sh (.int d) :: rest) ?_).trans rfl)
  · simp only [S.dput_eq, S.withD_succ, S.withD_zero, Z.px_eq, E.c_eq, R.bind_ok, D.pure_bl, Bool.true_or, if_true, R.out_ok, E.var_eq, vw_zero, vw_succ, Sl.vw_sh, R.of_some]
    rw [putK1_int _ _ _ _ _ _ (by rw [List.length_map]; omega), keysP_ints, valsP_ints]
    rfl
  · unfold dT
    simp only [S.dput_eq, S.withD_succ, S.withD_zero, Z.px_eq, E.c_eq, R.bind_ok, D.pure_bl, Bool.true_or, if_true, R.out_ok, E.var_eq, vw_zero, vw_succ, Sl.vw_sh, R.of_some]
    rw [putK1_int _ _ _ _ _ _ (by rw [List.length_map]; omega), keysP_ints, valsP_ints]
    rfl
theorem bindT_dP (i j : Nat) (a b : Int) : bindT (.tp [.nm i, .nm j]) (dP (a, b)) = .ok [(i, .int a), (j, .int b)] := by simp [dP]
theorem times_loop (A0 A1 A2 : D) (rest : List Sl) : ∀ (sp : Spans) (ks : List Int) (s4 s5 : Sl), ks.length + 2 * sp.length < 1000 → ∃ t4 t5, loopM (.tp [(.nm 4), (.nm 5)]) Mi.l1_loads (sp.map dP) (.sh A0 :: .sh A1 :: .sh A2 :: .ow (.node .leaf) (dT ks) :: s4 :: s5 :: rest) = .nx (.sh A0 :: .sh A1 :: .sh A2 :: .ow (.node .leaf) (dT (timesOf ks sp)) :: t4 :: t5 :: rest) := by
  intro sp
  induction sp with
  | nil => intro ks s4 s5 _; exact ⟨s4, s5, rfl⟩
  | cons p sp ih =>
    intro ks s4 s5 hl
    obtain ⟨b, d⟩ := p
    rw [List.length_cons] at hl
    have h2 := addT_len (addT ks b) d
    have h3 := addT_len ks b
    obtain ⟨t4, t5, e⟩ := ih (addT (addT ks b) d) (.sh (.int b)) (.sh (.int d)) (by omega)
    refine ⟨t4, t5, ?_⟩
    have e1 := times_step A0 A1 A2 rest ks (by omega) b d
    have es : setsE (.sh A0 :: .sh A1 :: .sh A2 :: .ow (.node .leaf) (dT ks) :: s4 :: s5 :: rest) [(4, .int b), (5, .int d)] = .sh A0 :: .sh A1 :: .sh A2 :: .ow (.node .leaf) (dT ks) :: .sh (.int b) :: .sh (.int d) :: rest := rfl
    rw [← es] at e1
    rw [List.map_cons, loop_cons (bindT_dP 4 5 b d) e1]
    exact e
/-- the marks of spans -/
def marks (sp : Spans) : List Int := (timesOf [0] sp).mergeSort fun a b => decide (a ≤ b)
theorem marks_lt (sp : Spans) : (marks sp).Pairwise (· < ·) := by
  have hs := List.pairwise_mergeSort (le := fun a b : Int => decide (a ≤ b)) (fun a b c h1 h2 => by simp at *; omega) (fun a b => by simp; omega) (timesOf [0] sp)
  have hn : (marks sp).Nodup := (List.mergeSort_perm (timesOf [0] sp) _).nodup_iff.mpr (times_nodup sp (by simp))
  have : (marks sp).Pairwise (fun a b => a ≤ b ∧ a ≠ b) := by
    rw [List.pairwise_and_iff]
    exact ⟨hs.imp fun h => by simpa using h, hn⟩
  exact this.imp fun h => by omega
theorem marks_mem (sp : Spans) {x : Int} : x ∈ marks sp ↔ x = 0 ∨ ∃ p ∈ sp, x = p.1 ∨ x = p.2 := by
  unfold marks
  rw [List.mem_mergeSort, times_mem]
  simp
theorem byMarks_zip (f : Int → Int) : ∀ (ms : List Int) (acc : List (Int × Int × Int)), byMarks f acc ms = (ms.zip ms.tail).foldl (fun acc p => push acc p.1 p.2 (f p.1)) acc
  | [], acc => rfl
  | [a], acc => rfl
  | a :: b :: r, acc => by
    rw [byMarks, byMarks_zip f (b :: r)]
    rfl
theorem load_step (A0 A1 : D) (sp : Spans) (hs : sp.length ≤ 1000) (s3 s4 s5 s6 s10 : Sl) (acc : List (Int × Int × Int)) (hl : acc.length < 16777216) (lo hi : Int) :
    Mi.l2_loads (.sh A0 :: .sh A1 :: .sh (.lst (sp.map dP)) :: s3 :: s4 :: s5 :: s6 :: .ow (.node .leaf) (.lst ((acc).map (dS D.int))) :: .sh (.int lo) :: .sh (.int hi) :: s10 :: []) = .nx (.sh A0 :: .sh A1 :: .sh (.lst (sp.map dP)) :: s3 :: s4 :: s5 :: s6 :: .ow (.node .leaf) (.lst ((push acc lo hi ((ov lo sp : Nat) : Int)).map (dS D.int))) :: .sh (.int lo) :: .sh (.int hi) :: .sh (.int (ov lo sp : Nat)) :: []) := by
  have e1 := lcM_map (t := .tp [(.nm 4), (.nm 5)]) (vs := [4, 5]) (test := B.val (E.chain leD ltD (E.var 4) (E.var 8) (E.var 5))) (elt := E.c (.int 1)) (e := .sh A0 :: .sh A1 :: .sh (.lst (sp.map dP)) :: s3 :: s4 :: s5 :: s6 :: .ow (.node .leaf) (.lst ((acc).map (dS D.int))) :: .sh (.int lo) :: .sh (.int hi) :: s10 :: [])
    dP (fun _ => .int 1) (inSp lo) sp (fun p hp => ⟨[(4, .int p.1), (5, .int p.2)], bindT_dP 4 5 p.1 p.2, by
      unfold inSp
      by_cases c : p.1 ≤ lo
      · simp only [setsE_cons, setsE_nil, wipeE_cons, wipeE_nil, List.set_cons_succ, List.set_cons_zero, B.val_eq, E.chain_eq, E.var_eq, vw_zero, vw_succ, Sl.vw_sh, R.of_some, R.bind_ok, leD_int, c, decide_true, ltD_int, Bool.true_and]
      · simp only [setsE_cons, setsE_nil, wipeE_cons, wipeE_nil, List.set_cons_succ, List.set_cons_zero, B.val_eq, E.chain_eq, E.var_eq, vw_zero, vw_succ, Sl.vw_sh, R.of_some, R.bind_ok, leD_int, c, decide_false, Bool.false_and], fun _ => ⟨rfl, D.pure_int _⟩⟩)
  have hc : (E.call (on1 lenD) (E.cons (E.call okLst (Fl.comp (I.items (E.var 2)) (.tp [(.nm 4), (.nm 5)]) [4, 5] (B.val (E.chain leD ltD (E.var 4) (E.var 8) (E.var 5))) (E.c (.int 1)))) E.nil)) (.sh A0 :: .sh A1 :: .sh (.lst (sp.map dP)) :: s3 :: s4 :: s5 :: s6 :: .ow (.node .leaf) (.lst ((acc).map (dS D.int))) :: .sh (.int lo) :: .sh (.int hi) :: s10 :: []) = .ok (.int (ov lo sp : Nat)) := by
    simp only [E.call_eq, E.cons_eq, E.nil_eq, Fl.comp_eq, I.items_eq, E.var_eq, vw_zero, vw_succ, Sl.vw_sh, R.of_some, R.bind_ok, itemsD_lst, List.length_map]
    rw [if_pos (by omega), e1]
    simp only [okLst_eq, R.bind_ok, on1_eq, lenD_lst, List.length_map]
    rfl
  unfold Mi.l2_loads
  refine (seq_step (e' := .sh A0 :: .sh A1 :: .sh (.lst (sp.map dP)) :: s3 :: s4 :: s5 :: s6 :: .ow (.node .leaf) (.lst ((acc).map (dS D.int))) :: .sh (.int lo) :: .sh (.int hi) :: .sh (.int (ov lo sp : Nat)) :: []) (by simp only [S.set_eq, Z.px_eq, hc, R.bind_ok, D.pure_int, Bool.true_or, if_true, R.out_ok, List.set_cons_succ, List.set_cons_zero])).trans ?_
  rcases List.eq_nil_or_concat acc with e | ⟨l, ⟨a, b, y⟩, e⟩
  · subst e
    refine (seq_step (e' := .sh A0 :: .sh A1 :: .sh (.lst (sp.map dP)) :: s3 :: s4 :: s5 :: s6 :: .ow (.node .leaf) (.lst ((push [] lo hi ((ov lo sp : Nat) : Int)).map (dS D.int))) :: .sh (.int lo) :: .sh (.int hi) :: .sh (.int (ov lo sp : Nat)) :: []) ?_).trans rfl
    simp only [S.seq_eq, S.ite_eq, B.and_eq, B.val_eq, B.tru_eq, truD_lst, E.bin_eq, E.var_eq, E.c_eq, E.un_eq, E.call_eq, E.cons_eq, E.nil_eq, vw_zero, vw_succ, Sl.vw_sh, Sl.vw_ow, R.of_some, R.bind_ok, negD_int, R.out_ok, Out.seq_nx, S.nil_eq, tupD_three, Z.px_eq, D.pure_tup, D.pures_cons, D.pures_nil, D.pure_int, Bool.and_self, Bool.true_or, if_true, S.putL_eq, S.withL_succ, S.withL_zero, List.set_cons_succ, List.set_cons_zero, List.map_nil, List.isEmpty_nil, Bool.not_true, Bool.false_eq_true, if_false, S.app_eq, List.length_nil]
    rfl
  · rw [List.concat_eq_append] at e
    subst e
    have li := last_ix (enc := D.int) l (a, b, y)
    have hh := dS_hi (enc := D.int) (a, b, y)
    have lw := dS_lo (enc := D.int) (a, b, y)
    have nn : (!((l ++ [(a, b, y)]).map (dS D.int)).isEmpty) = true := by cases l <;> rfl
    by_cases c : y = (ov lo sp : Nat)
    · subst c
      have sl : (L2.ixN ((l ++ [(a, b, ((ov lo sp : Nat) : Int))]).map (dS D.int)).length (-1)).map (fun j => ((l ++ [(a, b, ((ov lo sp : Nat) : Int))]).map (dS D.int)).set j (.tup [.int a, .int hi, .int (ov lo sp : Nat)])) = some ((l ++ [(a, hi, ((ov lo sp : Nat) : Int))]).map (dS D.int)) := by
        rw [List.map_append, List.map_append]
        exact set_last (l.map (dS D.int)) (dS D.int (a, b, ((ov lo sp : Nat) : Int))) (.tup [.int a, .int hi, .int (ov lo sp : Nat)])
      refine (seq_step (e' := .sh A0 :: .sh A1 :: .sh (.lst (sp.map dP)) :: s3 :: s4 :: s5 :: s6 :: .ow (.node .leaf) (.lst ((push (l ++ [(a, b, ((ov lo sp : Nat) : Int))]) lo hi ((ov lo sp : Nat) : Int)).map (dS D.int))) :: .sh (.int lo) :: .sh (.int hi) :: .sh (.int (ov lo sp : Nat)) :: []) ?_).trans rfl
      rw [push_last, if_pos rfl]
      simp only [S.seq_eq, S.ite_eq, B.and_eq, B.val_eq, B.tru_eq, truD_lst, E.bin_eq, E.var_eq, E.c_eq, E.un_eq, E.call_eq, E.cons_eq, E.nil_eq, vw_zero, vw_succ, Sl.vw_sh, Sl.vw_ow, R.of_some, R.bind_ok, negD_int, R.out_ok, Out.seq_nx, S.nil_eq, tupD_three, Z.px_eq, D.pure_tup, D.pures_cons, D.pures_nil, D.pure_int, Bool.and_self, Bool.true_or, if_true, S.putL_eq, S.withL_succ, S.withL_zero, List.set_cons_succ, List.set_cons_zero, nn, li, hh, lw, eqD_int, decide_true, S.seti_eq, S.setD_int, sl, S.putM_some]
    · refine (seq_step (e' := .sh A0 :: .sh A1 :: .sh (.lst (sp.map dP)) :: s3 :: s4 :: s5 :: s6 :: .ow (.node .leaf) (.lst ((push (l ++ [(a, b, y)]) lo hi ((ov lo sp : Nat) : Int)).map (dS D.int))) :: .sh (.int lo) :: .sh (.int hi) :: .sh (.int (ov lo sp : Nat)) :: []) ?_).trans rfl
      rw [push_last, if_neg c]
      simp only [S.seq_eq, S.ite_eq, B.and_eq, B.val_eq, B.tru_eq, truD_lst, E.bin_eq, E.var_eq, E.c_eq, E.un_eq, E.call_eq, E.cons_eq, E.nil_eq, vw_zero, vw_succ, Sl.vw_sh, Sl.vw_ow, R.of_some, R.bind_ok, negD_int, R.out_ok, Out.seq_nx, S.nil_eq, tupD_three, Z.px_eq, D.pure_tup, D.pures_cons, D.pures_nil, D.pure_int, Bool.and_self, Bool.true_or, if_true, S.putL_eq, S.withL_succ, S.withL_zero, List.set_cons_succ, List.set_cons_zero, nn, li, hh, eqD_int, c, decide_false, Bool.false_eq_true, if_false, S.app_eq, List.length_map]
      rw [if_pos hl]
      simp only [S.putL_eq, List.set_cons_succ, List.set_cons_zero, Out.seq_nx]
      rw [List.map_append (l₁ := l ++ [(a, b, y)])]
      rfl
end Lp

/-! # Plain law, part J: loads, time by time -/
namespace Lp
open PySem
theorem load_loop (A0 A1 : D) (sp : Spans) (hs : sp.length ≤ 1000) (s3 s4 s5 s6 : Sl) : ∀ (ps : List (Int × Int)) (acc : List (Int × Int × Int)) (s8 s9 s10 : Sl), acc.length + ps.length < 16777216 → ∃ t8 t9 t10,
    loopM (.tp [(.nm 8), (.nm 9)]) Mi.l2_loads (ps.map fun p => .tup [.int p.1, .int p.2]) (.sh A0 :: .sh A1 :: .sh (.lst (sp.map dP)) :: s3 :: s4 :: s5 :: s6 :: .ow (.node .leaf) (.lst (acc.map (dS D.int))) :: s8 :: s9 :: s10 :: []) =
      .nx (.sh A0 :: .sh A1 :: .sh (.lst (sp.map dP)) :: s3 :: s4 :: s5 :: s6 :: .ow (.node .leaf) (.lst ((ps.foldl (fun acc p => push acc p.1 p.2 ((ov p.1 sp : Nat) : Int)) acc).map (dS D.int))) :: t8 :: t9 :: t10 :: []) := by
  intro ps
  induction ps with
  | nil => intro acc s8 s9 s10 _; exact ⟨s8, s9, s10, rfl⟩
  | cons p ps ih =>
    intro acc s8 s9 s10 hl
    obtain ⟨lo, hi⟩ := p
    rw [List.length_cons] at hl
    have hp := push_len acc lo hi ((ov lo sp : Nat) : Int)
    obtain ⟨t8, t9, t10, e⟩ := ih (push acc lo hi ((ov lo sp : Nat) : Int)) (.sh (.int lo)) (.sh (.int hi)) (.sh (.int (ov lo sp : Nat))) (by omega)
    refine ⟨t8, t9, t10, ?_⟩
    have e1 := load_step A0 A1 sp hs s3 s4 s5 s6 s10 acc (by omega) lo hi
    have es : setsE (.sh A0 :: .sh A1 :: .sh (.lst (sp.map dP)) :: s3 :: s4 :: s5 :: s6 :: .ow (.node .leaf) (.lst (acc.map (dS D.int))) :: s8 :: s9 :: s10 :: []) [(8, .int lo), (9, .int hi)] = .sh A0 :: .sh A1 :: .sh (.lst (sp.map dP)) :: s3 :: s4 :: s5 :: s6 :: .ow (.node .leaf) (.lst (acc.map (dS D.int))) :: .sh (.int lo) :: .sh (.int hi) :: s10 :: [] := rfl
    rw [← es] at e1
    rw [List.map_cons, loop_cons (bindT_two 8 9 _ _) e1]
    exact e
theorem spans_of_eq (c : Nat) (as : Asks) (h1 : 1 ≤ c) (h2 : c ≤ 40) (v : validP as = true) : Mi.spans_of [.int c, dA as] = .ok ((spans (bg c as) as).map dP) := by
  have hl := valid_len v
  have e1 := lcM_all (t := .tp [(.nm 2), (.nm 3)]) (vs := [2, 3]) (elt := E.call tupD (E.cons (E.var 2) (E.cons (E.bin addD (E.var 2) (E.bin ixD (E.var 3) (E.c (.int 1)))) E.nil))) (e := [.sh (.int c), .sh (dA as), .no, .no])
    (fun p : Int × (Int × Int) => .tup [.int p.1, dAsk p.2]) (fun p => dP (p.1, p.1 + p.2.2)) ((bg c as).zip as) (fun p hp => ⟨[(2, .int p.1), (3, dAsk p.2)], by simp, by simp [dAsk, dP], by simp [dP]⟩)
  have hb := begins_eq c as h1 h2 v
  have hl2 : min (bg c as).length as.length ≤ 16777000 := by rw [bg_len, Nat.min_self]; omega
  have e3 : (((bg c as).zip as).map fun p => dP (p.1, p.1 + p.2.2)) = (spans (bg c as) as).map dP := by
    unfold spans; rw [List.map_map]; rfl
  unfold Mi.spans_of Mi.b_spans_of
  refine (fnF2 (o := .rt (.lst ((spans (bg c as) as).map dP))) ?_).trans rfl
  simp only [List.replicate]
  refine seq_end ?_ (fun _ h => nomatch h)
  simp only [S.retF_eq, Fl.comp_eq, I.zip_eq, E.call_eq, E.cons_eq, E.nil_eq, E.var_eq, vw_zero, vw_succ, Sl.vw_sh, R.of_some, R.bind_ok, Fl.call_eq, hb, okLst_eq, zipD_eq, itemsD_lst, itemsD_dA, zipT_map, List.length_map]
  rw [if_pos (by rw [List.length_zip]; exact hl2), e1, e3]
  simp only [R.out_ok]
theorem intKs_ints (ns : List Int) : intKs (ns.map Sum.inl) = some ns := by
  induction ns with
  | nil => rfl
  | cons n ns ih => rw [List.map_cons, intKs, ih]; rfl
theorem sortD1_dT (ks : List Int) (h : ks.length < 64) : Fl.sortD1 [dT ks] = .ok ((ks.mergeSort fun a b => decide (a ≤ b)).map D.int) := by
  show (R.of (intKs (ks.map Sum.inl))).bind (fun ns => if ns.length < 64 then R.ok ((ns.mergeSort fun a b => decide (a ≤ b)).map D.int) else .no) = _
  rw [intKs_ints, R.of_some, R.bind_ok, if_pos h]
def ldsOf (sp : Spans) : List (Int × Int × Int) := byMarks (fun t => ((ov t sp : Nat) : Int)) [] (marks sp)
theorem loads_eqT (c : Nat) (as : Asks) (h1 : 1 ≤ c) (h2 : c ≤ 40) (v : validP as = true) (hl : as.length ≤ 40) (ht : (timesOf [0] (spans (bg c as) as)).length < 64) : Mi.loads [.int c, dA as] = .ok ((ldsOf (spans (bg c as) as)).map (dS D.int)) := by
  obtain ⟨sp, hsp⟩ : ∃ sp, sp = spans (bg c as) as := ⟨_, rfl⟩
  have hs := spans_of_eq c as h1 h2 v
  have sl : sp.length = as.length := by rw [hsp]; unfold spans; rw [List.length_map, List.length_zip, bg_len, Nat.min_self]
  rw [← hsp] at hs ht ⊢
  have tl := times_len sp [0]
  rw [List.length_singleton] at tl
  have hpure : D.pures (sp.map dP) = true := by rw [D.pures_all]; simp [dP]
  obtain ⟨t4, t5, e1⟩ := times_loop (.int c) (dA as) (.lst (sp.map dP)) [.no, .no, .no, .no, .no] sp [0] .no .no (by rw [List.length_singleton]; omega)
  have hsort := sortD1_dT (timesOf [0] sp) (by omega)
  have mlen : (marks sp).length = (timesOf [0] sp).length := List.length_mergeSort _
  obtain ⟨t8, t9, t10, e2⟩ := load_loop (.int c) (dA as) sp (by omega) (.sh (dT (timesOf [0] sp))) t4 t5 (.sh (.lst ((marks sp).map D.int))) ((marks sp).zip (marks sp).tail) [] .no .no .no (by rw [List.length_zip]; simp; omega)
  rw [← byMarks_zip (fun t => ((ov t sp : Nat) : Int))] at e2
  have z : zipT ((marks sp).map D.int) ((marks sp).tail.map D.int) = ((marks sp).zip (marks sp).tail).map fun p => .tup [.int p.1, .int p.2] := zipT_map D.int D.int _ _
  have cut : Fl.cut (.lst ((marks sp).map D.int)) (some 1) none = .ok ((marks sp).tail.map D.int) := by
    have := cut_drop ((marks sp).map D.int) 1
    show R.ok (cutD ((marks sp).map D.int) (some ((1 : Nat) : Int)) none) = _
    rw [this, ← List.map_drop, List.drop_one]
  unfold Mi.loads Mi.b_loads
  refine (fnF2 (o := .rt (.lst ((ldsOf sp).map (dS D.int)))) ?_).trans rfl
  simp only [List.replicate]
  refine (seq_step (by simp only [S.set_eq, Z.pf_eq, Fl.call_eq, E.cons_eq, E.nil_eq, E.var_eq, vw_zero, vw_succ, Sl.vw_sh, R.of_some, R.bind_ok, hs, hpure, Bool.true_or, if_true, R.out_ok, List.set_cons_succ, List.set_cons_zero]; rfl)).trans ?_
  refine (seq_step (e' := .sh (.int c) :: .sh (dA as) :: .sh (.lst (sp.map dP)) :: .ow (.node .leaf) (dT [0]) :: .no :: .no :: [.no, .no, .no, .no, .no]) ?_).trans ?_
  · have : Fd.one (E.c (.int 0)) (E.c (.bl true)) (.sh (.int c) :: .sh (dA as) :: .sh (.lst (sp.map dP)) :: .no :: .no :: .no :: [.no, .no, .no, .no, .no]) = .ok ([.inl 0], [.bl true]) := by
      unfold Fd.one
      simp only [E.c_eq, R.noex_ok, R.bind_ok]
      show (if (D.bl true).pure = true then R.ok ([(.inl 0 : L2.Key)], [D.bl true]) else .no) = _
      rw [if_pos (D.pure_bl true)]
    simp only [S.ownD_eq, this, R.out_ok, D.pures_cons, D.pures_nil, D.pure_bl, Bool.and_self, if_true, List.set_cons_succ, List.set_cons_zero]
    rfl
  refine (seq_step (by simp only [S.loop_eq, I.items_eq, Z.var_succ, Z.var_zero, R.bind_ok, itemsD_lst, R.out_ok]; exact e1)).trans ?_
  rw [S.frz_eq]
  simp only [frz1_succ, frz1_zero, Sl.frz_ow]
  refine (seq_step (e' := .sh (.int c) :: .sh (dA as) :: .sh (.lst (sp.map dP)) :: .sh (dT (timesOf [0] sp)) :: t4 :: t5 :: .sh (.lst ((marks sp).map D.int)) :: [.no, .no, .no, .no]) ?_).trans ?_
  · simp only [S.set_eq, Z.pf_eq]
    have : Fl.sortD (E.cons (E.var 3) E.nil) (.sh (.int c) :: .sh (dA as) :: .sh (.lst (sp.map dP)) :: .sh (dT (timesOf [0] sp)) :: t4 :: t5 :: [.no, .no, .no, .no, .no]) = .ok ((marks sp).map D.int) := by
      show (E.cons (E.var 3) E.nil _).bind Fl.sortD1 = _
      simp only [E.cons_eq, E.nil_eq, E.var_eq, vw_zero, vw_succ, Sl.vw_sh, R.of_some, R.bind_ok]
      exact hsort
    rw [this]
    simp only [R.bind_ok, D.pures_ints, Bool.true_or, if_true, R.out_ok, List.set_cons_succ, List.set_cons_zero]
  refine (seq_step (by simp only [S.own_eq, Fl.lst_eq, E.nil_eq, R.bind_ok, List.length_nil, Nat.zero_le, if_true, R.out_ok, D.pures_nil, Bool.true_or, S.putL_eq, List.set_cons_succ, List.set_cons_zero]; rfl)).trans ?_
  refine (seq_step (by
    simp only [S.loop_eq, I.zip_eq, E.cons_eq, E.nil_eq, Z.var_succ, Z.var_zero, R.bind_ok, Z.pf_eq, Fl.slice_eq, E.var_eq, vw_zero, vw_succ, Sl.vw_sh, R.of_some, E.part_eq, E.c_eq, asPart_int, E.none_eq, cut, D.pures_ints, Bool.true_or, if_true, zipD_eq, itemsD_lst, z, R.out_ok]
    exact e2)).trans ?_
  exact seq_end (by simp only [S.retO_eq, S.withL_succ, S.withL_zero]; rfl) (fun _ h => nomatch h)
theorem loads_eq (c : Nat) (as : Asks) (h1 : 1 ≤ c) (h2 : c ≤ 40) (v : validP as = true) (hl : as.length ≤ 31) : Mi.loads [.int c, dA as] = .ok ((ldsOf (spans (bg c as) as)).map (dS D.int)) := by
  refine loads_eqT c as h1 h2 v (by omega) ?_
  have sl : (spans (bg c as) as).length = as.length := by unfold spans; rw [List.length_map, List.length_zip, bg_len, Nat.min_self]
  have tl := times_len (spans (bg c as) as) [0]
  rw [List.length_singleton] at tl
  omega
end Lp

/-! # Plain law, part K: loads are the stretches of what is lent time by time -/
namespace Lp
open PySem
def spanOk (sp : Spans) : Prop := ∀ p ∈ sp, 0 ≤ p.1 ∧ p.1 < p.2
def lastOf (sp : Spans) : Int := (sp.map (·.2)).foldl max 0
theorem lastOf_ge (sp : Spans) : 0 ≤ lastOf sp ∧ ∀ p ∈ sp, p.2 ≤ lastOf sp := by
  have := (foldl_max_le (fun x : Int => x) (sp.map (·.2)) 0 (lastOf sp)).mp (Int.le_refl _)
  exact ⟨this.1, fun p hp => this.2 p.2 (List.mem_map.mpr ⟨p, hp, rfl⟩)⟩
theorem lastOf_mem (sp : Spans) : lastOf sp ∈ marks sp := by
  rw [marks_mem]
  rcases foldl_max_mem (sp.map (·.2)) 0 with h | h
  · exact .inl h
  · obtain ⟨p, hp, e⟩ := List.mem_map.mp h
    exact .inr ⟨p, hp, .inr e.symm⟩
theorem marks_bound {sp : Spans} (ok : spanOk sp) {x : Int} (h : x ∈ marks sp) : 0 ≤ x ∧ x ≤ lastOf sp := by
  obtain ⟨l0, l1⟩ := lastOf_ge sp
  rcases (marks_mem sp).mp h with z | ⟨p, hp, z⟩
  · rw [z]; exact ⟨Int.le_refl _, l0⟩
  · have h1 := ok p hp
    have h2 := l1 p hp
    omega
theorem ov_same {sp : Spans} {t p : Int} (hp : p ≤ t) (hq : ∀ q ∈ marks sp, q ≤ t → q ≤ p) : ov t sp = ov p sp := by
  unfold ov
  congr 1
  apply List.filter_congr
  intro a ha
  have m1 : a.1 ∈ marks sp := (marks_mem sp).mpr (.inr ⟨a, ha, .inl rfl⟩)
  have m2 : a.2 ∈ marks sp := (marks_mem sp).mpr (.inr ⟨a, ha, .inr rfl⟩)
  have h1 := hq a.1 m1
  have h2 := hq a.2 m2
  unfold inSp
  have e1 : decide (a.1 ≤ t) = decide (a.1 ≤ p) := by
    rw [decide_eq_decide]; constructor
    · exact h1
    · intro z; omega
  have e2 : decide (t < a.2) = decide (p < a.2) := by
    rw [decide_eq_decide]; constructor
    · intro z; omega
    · intro z
      by_cases c : t < a.2
      · exact c
      · have := h2 (by omega); omega
  rw [e1, e2]
theorem lds_units {sp : Spans} (ok : spanOk sp) : ldsOf sp = units (fun t => ((ov t sp : Nat) : Int)) [] 0 (lastOf sp).toNat := by
  unfold ldsOf
  have lt := marks_lt sp
  have m0 : (0 : Int) ∈ marks sp := (marks_mem sp).mpr (.inl rfl)
  cases hm : marks sp with
  | nil => rw [hm] at m0; cases m0
  | cons a ms =>
    have a0 : a = 0 := by
      have h1 := (marks_bound ok (x := a) (by rw [hm]; exact List.mem_cons_self)).1
      rw [hm] at m0 lt
      rcases List.mem_cons.mp m0 with z | z
      · exact z.symm
      · have := (List.pairwise_cons.mp lt).1 0 z
        omega
    subst a0
    have hlast : ((0 : Int) :: ms).getLast? = some (lastOf sp) := by
      have ne : ((0 : Int) :: ms) ≠ [] := by simp
      rw [List.getLast?_eq_some_getLast ne]
      congr 1
      have h1 : ((0 : Int) :: ms).getLast ne ∈ marks sp := by rw [hm]; exact List.getLast_mem ne
      have h2 := (marks_bound ok h1).2
      have h3 := lastOf_mem sp
      rw [hm] at h3 lt
      have h4 : lastOf sp ≤ ((0 : Int) :: ms).getLast ne := by
        have key : ∀ (l : List Int) (hne : l ≠ []), l.Pairwise (· < ·) → ∀ x ∈ l, x ≤ l.getLast hne := by
          intro l
          induction l with
          | nil => intro hne; exact absurd rfl hne
          | cons y l ih =>
            intro hne hp x hx
            cases l with
            | nil => rcases List.mem_cons.mp hx with z | z
                     · rw [z]; exact Int.le_refl _
                     · cases z
            | cons w l =>
              rw [List.getLast_cons (by simp)]
              rw [List.pairwise_cons] at hp
              rcases List.mem_cons.mp hx with z | z
              · have := hp.1 _ (List.getLast_mem (l := w :: l) (by simp))
                omega
              · exact ih (by simp) hp.2 x z
        exact key _ ne lt _ h3
      omega
    rw [byMarks_units (fun t => ((ov t sp : Nat) : Int)) ms 0 (lastOf sp) [] (by rw [← hm]; exact lt) hlast (fun t _ _ p hpm hpt hq => by
      show ((ov t sp : Nat) : Int) = ((ov p sp : Nat) : Int)
      rw [ov_same hpt (fun q hqm hqt => hq q (by rw [← hm]; exact hqm) hqt)]), Int.sub_zero]
/-- the spans of a plan -/
theorem span_ok (c : Nat) (as : Asks) (o : okP 0 as = true) : spanOk (spans (bg c as) as) := by
  intro p hp
  unfold spans at hp
  obtain ⟨q, hq, e⟩ := List.mem_map.mp hp
  have h1 := bgo_low as (List.replicate c 0) 0 o q.1 (List.of_mem_zip hq).1
  have h2 := okP_pos o q.2 (List.of_mem_zip hq).2
  rw [← e]
  exact ⟨h1, by show q.1 < q.1 + q.2.2; omega⟩
/-! ### what a law finds time by time -/
theorem lent_at_eq (c : Nat) (as : Asks) (h1 : 1 ≤ c) (hl : as.length ≤ 40) (o : okP 0 as = true) (hb : lastOf (spans (bg c as) as) < 100000) : Mi.law_lent_at [.int c, dA as] = .ok (((List.range (lastOf (spans (bg c as) as)).toNat).map fun t : Nat => ((ov t (spans (bg c as) as) : Nat) : Int)).map D.int) := by
  obtain ⟨sp, hsp⟩ : ∃ sp, sp = spans (bg c as) as := ⟨_, rfl⟩
  rw [← hsp] at hb ⊢
  have sl : sp.length = as.length := by rw [hsp]; unfold spans; rw [List.length_map, List.length_zip, bg_len, Nat.min_self]
  obtain ⟨l0, l1⟩ := lastOf_ge sp
  have hlb := law_begins_eq c h1 as (by omega) o
  have hpure : D.pures (sp.map dP) = true := by rw [D.pures_all]; simp [dP]
  have e1 := lcM_all (t := .tp [(.nm 3), (.nm 4)]) (vs := [3, 4]) (elt := E.call tupD (E.cons (E.var 3) (E.cons (E.bin addD (E.var 3) (E.bin ixD (E.var 4) (E.c (.int 1)))) E.nil))) (e := [.sh (.int c), .sh (dA as), .no, .no, .no, .no, .no, .no])
    (fun p : Int × (Int × Int) => .tup [.int p.1, dAsk p.2]) (fun p => dP (p.1, p.1 + p.2.2)) ((bg c as).zip as) (fun p hp => ⟨[(3, .int p.1), (4, dAsk p.2)], by simp, by simp [dAsk, dP], by simp [dP]⟩)
  have e3 : (((bg c as).zip as).map fun p => dP (p.1, p.1 + p.2.2)) = sp.map dP := by
    rw [hsp]; unfold spans; rw [List.map_map]; rfl
  have f1 : Fl.comp (I.zip (E.cons (E.call okLst (Fl.call Mi.law_begins (E.cons (E.var 0) (E.cons (E.var 1) E.nil)))) (E.cons (E.var 1) E.nil))) (.tp [(.nm 3), (.nm 4)]) [3, 4] B.yes (E.call tupD (E.cons (E.var 3) (E.cons (E.bin addD (E.var 3) (E.bin ixD (E.var 4) (E.c (.int 1)))) E.nil))) [.sh (.int c), .sh (dA as), .no, .no, .no, .no, .no, .no] = .ok (sp.map dP) := by
    simp only [Fl.comp_eq, I.zip_eq, E.call_eq, E.cons_eq, E.nil_eq, E.var_eq, vw_zero, vw_succ, Sl.vw_sh, R.of_some, R.bind_ok, Fl.call_eq, hlb, okLst_eq, zipD_eq, itemsD_lst, itemsD_dA, zipT_map, List.length_map]
    rw [if_pos (by rw [List.length_zip, bg_len]; omega), e1, e3]
  have e4 := lcM_all (t := .tp [(.nm 3), (.nm 6)]) (vs := [3, 6]) (elt := E.var 6) (e := [.sh (.int c), .sh (dA as), .sh (.lst (sp.map dP)), .no, .no, .no, .no, .no]) dP (fun p => .int p.2) sp (fun p hp => ⟨[(3, .int p.1), (6, .int p.2)], bindT_dP 3 6 p.1 p.2, by simp, D.pure_int _⟩)
  have f2 : E.call (on1 (onInts maxI)) (E.cons (E.call okLst (Fl.add (E.call lstD (E.cons (E.c (.int 0)) E.nil)) (E.call okLst (Fl.comp (I.items (E.var 2)) (.tp [(.nm 3), (.nm 6)]) [3, 6] B.yes (E.var 6))))) E.nil) [.sh (.int c), .sh (dA as), .sh (.lst (sp.map dP)), .no, .no, .no, .no, .no] = .ok (.int (lastOf sp)) := by
    simp only [E.call_eq, E.cons_eq, E.nil_eq, Fl.add_eq, E.c_eq, R.bind_ok, lstD_one, Fl.comp_eq, I.items_eq, E.var_eq, vw_zero, vw_succ, Sl.vw_sh, R.of_some, itemsD_lst, List.length_map]
    rw [if_pos (by omega), e4]
    simp only [okLst_eq, R.bind_ok, add2_eq, List.length_map, List.length_singleton]
    rw [if_pos (by omega)]
    have e5 : [D.int 0] ++ (sp.map fun p => D.int p.2) = ((0 : Int) :: sp.map (·.2)).map D.int := by simp
    simp only [R.bind_ok, okLst_eq, on1_eq, e5, onInts_ints]
    rfl
  have hr : I.rangeD1 [.int (lastOf sp)] = .ok ((List.range (lastOf sp).toNat).map fun i : Nat => D.int i) := by
    rw [rangeD1_int _ (by omega), rangeL_map0]
  have e6 := lcM_all (t := .nm 7) (vs := [7]) (elt := E.call (on1 lenD) (E.cons (E.call okLst (Fl.comp (I.items (E.var 2)) (.tp [(.nm 3), (.nm 6)]) [3, 6] (B.val (E.chain leD ltD (E.var 3) (E.var 7) (E.var 6))) (E.c (.int 1)))) E.nil)) (e := [.sh (.int c), .sh (dA as), .sh (.lst (sp.map dP)), .no, .no, .sh (.int (lastOf sp)), .no, .no])
    (fun i : Nat => .int i) (fun i => .int ((ov i sp : Nat) : Int)) (List.range (lastOf sp).toNat) (fun i hi => ⟨[(7, .int i)], bindT_nm _ _, by
      have e7 := lcM_map (t := .tp [(.nm 3), (.nm 6)]) (vs := [3, 6]) (test := B.val (E.chain leD ltD (E.var 3) (E.var 7) (E.var 6))) (elt := E.c (.int 1)) (e := [.sh (.int c), .sh (dA as), .sh (.lst (sp.map dP)), .no, .no, .sh (.int (lastOf sp)), .no, .sh (.int (i : Nat))])
        dP (fun _ => .int 1) (inSp i) sp (fun p hp => ⟨[(3, .int p.1), (6, .int p.2)], bindT_dP 3 6 p.1 p.2, by
          unfold inSp
          by_cases cc : p.1 ≤ (i : Int)
          · simp only [setsE_cons, setsE_nil, wipeE_cons, wipeE_nil, List.set_cons_succ, List.set_cons_zero, B.val_eq, E.chain_eq, E.var_eq, vw_zero, vw_succ, Sl.vw_sh, R.of_some, R.bind_ok, leD_int, cc, decide_true, ltD_int, Bool.true_and]
          · simp only [setsE_cons, setsE_nil, wipeE_cons, wipeE_nil, List.set_cons_succ, List.set_cons_zero, B.val_eq, E.chain_eq, E.var_eq, vw_zero, vw_succ, Sl.vw_sh, R.of_some, R.bind_ok, leD_int, cc, decide_false, Bool.false_and], fun _ => ⟨rfl, D.pure_int _⟩⟩)
      simp only [setsE_cons, setsE_nil, wipeE_cons, wipeE_nil, List.set_cons_succ, List.set_cons_zero, E.call_eq, E.cons_eq, E.nil_eq, Fl.comp_eq, I.items_eq, E.var_eq, vw_zero, vw_succ, Sl.vw_sh, R.of_some, R.bind_ok, itemsD_lst, List.length_map]
      rw [if_pos (by omega), e7]
      simp only [okLst_eq, R.bind_ok, on1_eq, lenD_lst, List.length_map]
      rfl, D.pure_int _⟩)
  unfold Mi.law_lent_at Mi.b_law_lent_at
  refine (fnF2 (o := .rt (.lst (((List.range (lastOf sp).toNat).map fun t : Nat => ((ov t sp : Nat) : Int)).map D.int))) ?_).trans rfl
  simp only [List.replicate]
  refine (seq_step (by simp only [S.set_eq, Z.pf_eq, f1, R.bind_ok, hpure, Bool.true_or, if_true, R.out_ok, List.set_cons_succ, List.set_cons_zero]; rfl)).trans ?_
  refine (seq_step (by simp only [S.set_eq, Z.px_eq, f2, R.bind_ok, D.pure_int, Bool.true_or, if_true, R.out_ok, List.set_cons_succ, List.set_cons_zero]; rfl)).trans ?_
  refine seq_end ?_ (fun _ h => nomatch h)
  simp only [S.retF_eq, Fl.comp_eq, I.range1_eq, E.cons_eq, E.nil_eq, E.var_eq, vw_zero, vw_succ, Sl.vw_sh, R.of_some, R.bind_ok, hr, List.length_map, List.length_range]
  rw [if_pos (by omega), e6]
  simp only [R.out_ok]
  rw [List.map_map]
  rfl
end Lp

/-! # Plain law, part L: free times -/
namespace Lp
open PySem
theorem loop_cont {t : Tg} {b : En → Out} {x : D} {xs : List D} {e e' : En} {bs : List (Nat × D)} (h1 : bindT t x = .ok bs) (h2 : b (setsE e bs) = .ct e') : loopM t b (x :: xs) e = loopM t b xs e' := by
  rw [loopM, h1]
  simp only [h2]
def pushF (acc : List (Int × Int)) (lo hi : Int) : List (Int × Int) := match acc.getLast? with
  | some (a, b) => if b = lo then acc.dropLast ++ [(a, hi)] else acc ++ [(lo, hi)]
  | none => [(lo, hi)]
theorem pushF_nil (lo hi : Int) : pushF [] lo hi = [(lo, hi)] := rfl
theorem pushF_last (acc : List (Int × Int)) (a b lo hi : Int) : pushF (acc ++ [(a, b)]) lo hi = if b = lo then acc ++ [(a, hi)] else acc ++ [(a, b)] ++ [(lo, hi)] := by
  unfold pushF
  rw [List.getLast?_append]
  simp
theorem pushF_len (acc : List (Int × Int)) (lo hi : Int) : (pushF acc lo hi).length ≤ acc.length + 1 := by
  rcases List.eq_nil_or_concat acc with e | ⟨l, ⟨a, b⟩, e⟩
  · subst e; rw [pushF_nil]; exact Nat.le_refl _
  · rw [List.concat_eq_append] at e
    subst e
    rw [pushF_last]
    split <;> simp
def ftStep (c : Int) (acc : List (Int × Int)) (p : Int × Int × Int) : List (Int × Int) := if p.2.2 = c then acc else pushF acc p.1 p.2.1
theorem dP_lo (p : Int × Int) : ixD (dP p) (.int 0) = .ok (.int p.1) := by simp [dP]
theorem dP_hi (p : Int × Int) : ixD (dP p) (.int 1) = .ok (.int p.2) := by simp [dP]
theorem lastP_ix (acc : List (Int × Int)) (p : Int × Int) : ixD (.lst ((acc ++ [p]).map dP)) (.int (-1)) = .ok (dP p) := by
  rw [List.map_append, ixD_lst]
  show R.of (L2.atI (acc.map dP ++ [dP p]) (-1)) = _
  rw [atI_last]
  rfl
theorem free_skip (c : Int) (A1 : D) (acc : List (Int × Int)) (lo hi : Int) : Mi.l1_free_times [.sh (.int c), .sh A1, .ow (.node .leaf) (.lst (acc.map dP)), .sh (.int lo), .sh (.int hi), .sh (.int c)] = .ct [.sh (.int c), .sh A1, .ow (.node .leaf) (.lst (acc.map dP)), .sh (.int lo), .sh (.int hi), .sh (.int c)] := by
  unfold Mi.l1_free_times
  exact seq_end (by simp only [S.ite_eq, B.val_eq, E.bin_eq, E.var_eq, vw_zero, vw_succ, Sl.vw_sh, R.of_some, R.bind_ok, eqD_int, decide_true, R.out_ok, if_true, S.seq_eq, S.cont_eq, Out.seq_ct]) (fun _ h => nomatch h)
theorem free_step (c : Int) (A1 : D) (acc : List (Int × Int)) (hl : acc.length < 16777216) (lo hi m : Int) (hm : ¬ m = c) : Mi.l1_free_times [.sh (.int c), .sh A1, .ow (.node .leaf) (.lst (acc.map dP)), .sh (.int lo), .sh (.int hi), .sh (.int m)] = .nx [.sh (.int c), .sh A1, .ow (.node .leaf) (.lst ((pushF acc lo hi).map dP)), .sh (.int lo), .sh (.int hi), .sh (.int m)] := by
  unfold Mi.l1_free_times
  refine (seq_step (e' := [.sh (.int c), .sh A1, .ow (.node .leaf) (.lst (acc.map dP)), .sh (.int lo), .sh (.int hi), .sh (.int m)]) (by simp only [S.ite_eq, B.val_eq, E.bin_eq, E.var_eq, vw_zero, vw_succ, Sl.vw_sh, R.of_some, R.bind_ok, eqD_int, hm, decide_false, R.out_ok, Bool.false_eq_true, if_false, S.nil_eq])).trans ?_
  rcases List.eq_nil_or_concat acc with e | ⟨l, ⟨a, b⟩, e⟩
  · subst e
    refine (seq_step (e' := [.sh (.int c), .sh A1, .ow (.node .leaf) (.lst ((pushF [] lo hi).map dP)), .sh (.int lo), .sh (.int hi), .sh (.int m)]) ?_).trans rfl
    simp only [S.seq_eq, S.ite_eq, B.and_eq, B.val_eq, B.tru_eq, truD_lst, E.bin_eq, E.var_eq, E.c_eq, E.un_eq, E.call_eq, E.cons_eq, E.nil_eq, vw_zero, vw_succ, Sl.vw_sh, Sl.vw_ow, R.of_some, R.bind_ok, negD_int, R.out_ok, Out.seq_nx, S.nil_eq, tupD_two, Z.px_eq, D.pure_tup, D.pures_cons, D.pures_nil, D.pure_int, Bool.and_self, Bool.true_or, if_true, S.putL_eq, S.withL_succ, S.withL_zero, List.set_cons_succ, List.set_cons_zero, List.map_nil, List.isEmpty_nil, Bool.not_true, Bool.false_eq_true, if_false, S.app_eq, List.length_nil]
    rfl
  · rw [List.concat_eq_append] at e
    subst e
    have li := lastP_ix l (a, b)
    have hh := dP_hi (a, b)
    have lw := dP_lo (a, b)
    have nn : (!((l ++ [(a, b)]).map dP).isEmpty) = true := by cases l <;> rfl
    by_cases k : b = lo
    · subst k
      have sl : (L2.ixN ((l ++ [(a, b)]).map dP).length (-1)).map (fun j => ((l ++ [(a, b)]).map dP).set j (.tup [.int a, .int hi])) = some ((l ++ [(a, hi)]).map dP) := by
        rw [List.map_append, List.map_append]
        exact set_last (l.map dP) (dP (a, b)) (.tup [.int a, .int hi])
      refine (seq_step (e' := [.sh (.int c), .sh A1, .ow (.node .leaf) (.lst ((pushF (l ++ [(a, b)]) b hi).map dP)), .sh (.int b), .sh (.int hi), .sh (.int m)]) ?_).trans rfl
      rw [pushF_last, if_pos rfl]
      simp only [S.seq_eq, S.ite_eq, B.and_eq, B.val_eq, B.tru_eq, truD_lst, E.bin_eq, E.var_eq, E.c_eq, E.un_eq, E.call_eq, E.cons_eq, E.nil_eq, vw_zero, vw_succ, Sl.vw_sh, Sl.vw_ow, R.of_some, R.bind_ok, negD_int, R.out_ok, Out.seq_nx, S.nil_eq, tupD_two, Z.px_eq, D.pure_tup, D.pures_cons, D.pures_nil, D.pure_int, Bool.and_self, Bool.true_or, if_true, S.putL_eq, S.withL_succ, S.withL_zero, List.set_cons_succ, List.set_cons_zero, nn, li, hh, lw, eqD_int, decide_true, S.seti_eq, S.setD_int, sl, S.putM_some]
    · refine (seq_step (e' := [.sh (.int c), .sh A1, .ow (.node .leaf) (.lst ((pushF (l ++ [(a, b)]) lo hi).map dP)), .sh (.int lo), .sh (.int hi), .sh (.int m)]) ?_).trans rfl
      rw [pushF_last, if_neg k]
      simp only [S.seq_eq, S.ite_eq, B.and_eq, B.val_eq, B.tru_eq, truD_lst, E.bin_eq, E.var_eq, E.c_eq, E.un_eq, E.call_eq, E.cons_eq, E.nil_eq, vw_zero, vw_succ, Sl.vw_sh, Sl.vw_ow, R.of_some, R.bind_ok, negD_int, R.out_ok, Out.seq_nx, S.nil_eq, tupD_two, Z.px_eq, D.pure_tup, D.pures_cons, D.pures_nil, D.pure_int, Bool.and_self, Bool.true_or, if_true, S.putL_eq, S.withL_succ, S.withL_zero, List.set_cons_succ, List.set_cons_zero, nn, li, hh, eqD_int, k, decide_false, Bool.false_eq_true, if_false, S.app_eq, List.length_map]
      rw [if_pos hl]
      simp only [S.putL_eq, List.set_cons_succ, List.set_cons_zero, Out.seq_nx]
      rw [List.map_append (l₁ := l ++ [(a, b)])]
      rfl
theorem free_loop (c : Int) (A1 : D) : ∀ (ls : List (Int × Int × Int)) (acc : List (Int × Int)) (s3 s4 s5 : Sl), acc.length + ls.length < 16777216 → ∃ t3 t4 t5, loopM (.tp [(.nm 3), (.nm 4), (.nm 5)]) Mi.l1_free_times (ls.map (dS D.int)) [.sh (.int c), .sh A1, .ow (.node .leaf) (.lst (acc.map dP)), s3, s4, s5] = .nx [.sh (.int c), .sh A1, .ow (.node .leaf) (.lst ((ls.foldl (ftStep c) acc).map dP)), t3, t4, t5] := by
  intro ls
  induction ls with
  | nil => intro acc s3 s4 s5 _; exact ⟨s3, s4, s5, rfl⟩
  | cons p ls ih =>
    intro acc s3 s4 s5 hl
    obtain ⟨lo, hi, m⟩ := p
    rw [List.length_cons] at hl
    have bt : bindT (.tp [(.nm 3), (.nm 4), (.nm 5)]) (dS D.int (lo, hi, m)) = .ok [(3, .int lo), (4, .int hi), (5, .int m)] := by simp [dS]
    have es : setsE [.sh (.int c), .sh A1, .ow (.node .leaf) (.lst (acc.map dP)), s3, s4, s5] [(3, .int lo), (4, .int hi), (5, .int m)] = [.sh (.int c), .sh A1, .ow (.node .leaf) (.lst (acc.map dP)), .sh (.int lo), .sh (.int hi), .sh (.int m)] := rfl
    rw [List.map_cons]
    by_cases k : m = c
    · subst k
      have e1 := free_skip m A1 acc lo hi
      rw [← es] at e1
      obtain ⟨t3, t4, t5, e⟩ := ih acc (.sh (.int lo)) (.sh (.int hi)) (.sh (.int m)) (by omega)
      refine ⟨t3, t4, t5, ?_⟩
      rw [loop_cont bt e1, es, e, List.foldl_cons]
      unfold ftStep
      rw [if_pos rfl]
    · have e1 := free_step c A1 acc (by omega) lo hi m k
      rw [← es] at e1
      have hp := pushF_len acc lo hi
      obtain ⟨t3, t4, t5, e⟩ := ih (pushF acc lo hi) (.sh (.int lo)) (.sh (.int hi)) (.sh (.int m)) (by omega)
      refine ⟨t3, t4, t5, ?_⟩
      rw [loop_cons bt e1, e, List.foldl_cons]
      unfold ftStep
      rw [if_neg k]
end Lp

/-! # Plain law, part M: free times are the stretches in which not all is lent -/
namespace Lp
open PySem
def trues (B : List (Int × Int × Bool)) : List (Int × Int) := (B.filter (·.2.2)).map fun p => (p.1, p.2.1)
theorem trues_snoc_t (B : List (Int × Int × Bool)) (a b : Int) : trues (B ++ [(a, b, true)]) = trues B ++ [(a, b)] := by
  unfold trues
  rw [List.filter_append, List.map_append]
  rfl
theorem trues_snoc_f (B : List (Int × Int × Bool)) (a b : Int) : trues (B ++ [(a, b, false)]) = trues B := by
  unfold trues
  rw [List.filter_append]
  simp
theorem pushF_hi {G T : List (Int × Int)} {a h1 h2 p q : Int} (h : pushF G a h1 = T ++ [(p, q)]) : pushF G a h2 = T ++ [(p, h2)] := by
  rcases List.eq_nil_or_concat G with e | ⟨l, ⟨x, y⟩, e⟩
  · subst e
    rw [pushF_nil] at h ⊢
    have := List.append_inj' (s₁ := []) (t₁ := [(a, h1)]) h rfl
    obtain ⟨e1, e2⟩ := this
    rw [← e1]
    simp at e2
    rw [← e2.1]
    rfl
  · rw [List.concat_eq_append] at e
    subst e
    rw [pushF_last] at h ⊢
    by_cases c : y = a
    · rw [if_pos c] at h ⊢
      obtain ⟨e1, e2⟩ := List.append_inj' h rfl
      simp at e2
      rw [e1, ← e2.1]
    · rw [if_neg c] at h ⊢
      obtain ⟨e1, e2⟩ := List.append_inj' h rfl
      simp at e2
      rw [e1, ← e2.1]
theorem units_snoc {α : Type} [DecidableEq α] (f : Int → α) (n : Nat) : units f [] 0 (n + 1) = push (units f [] 0 n) n (n + 1) (f n) := by
  rw [units_add]
  simp [units]
structure FreeInv (f : Int → Int) (c : Int) (n : Nat) : Prop where
  l : ∃ l a, units f [] 0 n = l ++ [(a, (n : Int), f ((n : Int) - 1))]
  b : ∃ B a, units (fun t => decide (f t < c)) [] 0 n = B ++ [(a, (n : Int), decide (f ((n : Int) - 1) < c))]
  e : (units f [] 0 n).foldl (ftStep c) [] = trues (units (fun t => decide (f t < c)) [] 0 n)
  le : ∀ p ∈ trues (units (fun t => decide (f t < c)) [] 0 n), p.2 ≤ n
  lt : f ((n : Int) - 1) = c → ∀ p ∈ trues (units (fun t => decide (f t < c)) [] 0 n), p.2 < n
theorem free_inv (f : Int → Int) (c : Int) (hf : ∀ t, f t ≤ c) : ∀ n : Nat, FreeInv f c (n + 1)
  | 0 => by
    have e1 : units f [] 0 1 = [(0, 1, f 0)] := rfl
    have e2 : units (fun t => decide (f t < c)) [] 0 1 = [(0, 1, decide (f 0 < c))] := rfl
    have h0 := hf 0
    refine ⟨⟨[], 0, by rw [e1]; rfl⟩, ⟨[], 0, by rw [e2]; rfl⟩, ?_, ?_, ?_⟩
    · rw [e1, e2]
      show ftStep c [] (0, 1, f 0) = _
      unfold ftStep
      by_cases k : f 0 = c
      · have : ¬ f 0 < c := by omega
        simp [k, trues]
      · have : f 0 < c := by omega
        simp [k, trues, this, pushF_nil]
    · intro p hp
      rw [e2] at hp
      unfold trues at hp
      by_cases k : f 0 < c
      · simp [k] at hp
        rw [hp]
        simp
      · simp [k] at hp
    · intro k p hp
      rw [e2] at hp
      unfold trues at hp
      have k' : f 0 = c := by simpa using k
      simp [k'] at hp
  | n + 1 => by
    have ih := free_inv f c hf n
    obtain ⟨⟨l, a, hl⟩, ⟨B, a', hB⟩, he, hle, hlt⟩ := ih
    obtain ⟨N, hN⟩ : ∃ N : Nat, N = n + 1 := ⟨_, rfl⟩
    rw [← hN] at hl hB he hle hlt ⊢
    have s1 := units_snoc f N
    have s2 := units_snoc (fun t => decide (f t < c)) N
    have hN1 : ((N + 1 : Nat) : Int) - 1 = N := by omega
    have cN : ((N + 1 : Nat) : Int) = (N : Int) + 1 := by omega
    have hx := hf N
    have hy := hf ((N : Int) - 1)
    rw [hl, push_last] at s1
    rw [hB, push_last] at s2
    have fl : ∀ (m : List (Int × Int × Int)) (x : Int × Int × Int), (m ++ [x]).foldl (ftStep c) [] = ftStep c (m.foldl (ftStep c) []) x := fun m x => by rw [List.foldl_append]; rfl
    have he' := he
    rw [hl, fl, hB] at he'
    have hle' := hle
    rw [hB] at hle'
    by_cases xy : f ((N : Int) - 1) = f N
    · -- the same is lent
      rw [if_pos xy] at s1
      rw [if_pos (by rw [xy])] at s2
      by_cases k : f N = c
      · have nb : decide (f (N : Int) < c) = false := by simp; omega
        rw [xy, nb, trues_snoc_f] at he' hle'
        have hlt' := hlt (by rw [xy]; exact k)
        rw [hB, xy, nb, trues_snoc_f] at hlt'
        try simp only [] at s2
        rw [nb] at s2
        refine ⟨⟨l, a, by rw [hN1, cN]; exact s1⟩, ⟨B, a', by rw [hN1, cN, nb]; exact s2⟩, ?_, ?_, ?_⟩
        · rw [s1, s2, fl, trues_snoc_f, ← he']
          unfold ftStep
          simp [k]
        · rw [s2, trues_snoc_f]; intro p hp; have := hle' p hp; omega
        · intro _; rw [s2, trues_snoc_f]; intro p hp; have := hlt' p hp; omega
      · have nb : decide (f (N : Int) < c) = true := by simp; omega
        rw [xy, nb, trues_snoc_t] at he' hle'
        try simp only [] at s2
        rw [nb] at s2
        have st : ftStep c (l.foldl (ftStep c) []) (a, (N : Int), f N) = pushF (l.foldl (ftStep c) []) a N := by unfold ftStep; rw [if_neg k]
        rw [st] at he'
        refine ⟨⟨l, a, by rw [hN1, cN]; exact s1⟩, ⟨B, a', by rw [hN1, cN, nb]; exact s2⟩, ?_, ?_, ?_⟩
        · rw [s1, s2, fl, trues_snoc_t]
          have st2 : ftStep c (l.foldl (ftStep c) []) (a, (N : Int) + 1, f N) = pushF (l.foldl (ftStep c) []) a ((N : Int) + 1) := by unfold ftStep; rw [if_neg k]
          rw [st2]
          exact pushF_hi he'
        · rw [s2, trues_snoc_t]
          intro p hp
          rcases List.mem_append.mp hp with z | z
          · have := hle' p (List.mem_append_left _ z); omega
          · rw [List.mem_singleton.mp z]; show (N : Int) + 1 ≤ _; omega
        · intro z; rw [hN1] at z; exact absurd z k
    · rw [if_neg xy, ← hl] at s1
      by_cases k : f N = c
      · have nb : decide (f (N : Int) < c) = false := by simp; omega
        have yb : decide (f ((N : Int) - 1) < c) = true := by simp; omega
        try simp only [] at s2
        rw [nb, yb, if_neg (by simp), ← yb, ← hB] at s2
        refine ⟨⟨_, _, by rw [hN1, cN]; exact s1⟩, ⟨_, _, by rw [hN1, cN, nb]; exact s2⟩, ?_, ?_, ?_⟩
        · rw [s1, s2, fl, trues_snoc_f, he]
          unfold ftStep
          simp [k]
        · rw [s2, trues_snoc_f]; intro p hp; have := hle p hp; omega
        · intro _; rw [s2, trues_snoc_f]; intro p hp; have := hle p hp; omega
      · have nb : decide (f (N : Int) < c) = true := by simp; omega
        have st : ∀ G, ftStep c G ((N : Int), (N : Int) + 1, f N) = pushF G N ((N : Int) + 1) := fun G => by unfold ftStep; rw [if_neg k]
        by_cases k2 : f ((N : Int) - 1) = c
        · have yb : decide (f ((N : Int) - 1) < c) = false := by simp; omega
          try simp only [] at s2
          rw [nb, yb, if_neg (by simp), ← yb, ← hB] at s2
          have hlt' := hlt k2
          refine ⟨⟨_, _, by rw [hN1, cN]; exact s1⟩, ⟨_, _, by rw [hN1, cN, nb]; exact s2⟩, ?_, ?_, ?_⟩
          · rw [s1, s2, fl, trues_snoc_t, he, st]
            rcases List.eq_nil_or_concat (trues (units (fun t => decide (f t < c)) [] 0 N)) with e | ⟨T, ⟨p, q⟩, e⟩
            · rw [e]; rfl
            · rw [List.concat_eq_append] at e
              rw [e] at hlt' ⊢
              have := hlt' (p, q) (List.mem_append_right _ List.mem_cons_self)
              rw [pushF_last, if_neg (by simp only [] at this; omega)]
          · rw [s2, trues_snoc_t]
            intro p hp
            rcases List.mem_append.mp hp with z | z
            · have := hle p z; omega
            · rw [List.mem_singleton.mp z]; show (N : Int) + 1 ≤ _; omega
          · intro z; rw [hN1] at z; exact absurd z k
        · have yb : decide (f ((N : Int) - 1) < c) = true := by simp; omega
          try simp only [] at s2
          rw [nb, yb, if_pos rfl] at s2
          rw [yb, trues_snoc_t] at hle'
          have he2 := he
          rw [hB, yb, trues_snoc_t] at he2
          refine ⟨⟨_, _, by rw [hN1, cN]; exact s1⟩, ⟨_, _, by rw [hN1, cN, nb]; exact s2⟩, ?_, ?_, ?_⟩
          · rw [s1, s2, fl, trues_snoc_t, he2, st, pushF_last, if_pos rfl]
          · rw [s2, trues_snoc_t]
            intro p hp
            rcases List.mem_append.mp hp with z | z
            · have := hle' p (List.mem_append_left _ z); omega
            · rw [List.mem_singleton.mp z]; show (N : Int) + 1 ≤ _; omega
          · intro z; rw [hN1] at z; exact absurd z k
theorem free_all (f : Int → Int) (c : Int) (hf : ∀ t, f t ≤ c) (n : Nat) : (units f [] 0 n).foldl (ftStep c) [] = trues (units (fun t => decide (f t < c)) [] 0 n) := by
  cases n with
  | zero => rfl
  | succ n => exact (free_inv f c hf n).e
end Lp

/-! # Law k18 -/
namespace Lp
open PySem
theorem ends_bound : ∀ (as : Asks) (es : List Int) (K last : Int), 999 ≤ K → (∀ e ∈ es, e ≤ K) → es ≠ [] → okP last as = true → ∀ p ∈ spans (bgo es as) as, p.2 ≤ K + 99 * as.length
  | [], _, _, _, _, _, _, _ => fun p hp => by simp [spans] at hp
  | (w, l) :: as, es, K, last, hK, he, ne, o => by
    intro p hp
    rw [okP, Bool.and_eq_true] at o
    have o' := o.1
    simp at o'
    have m := he _ (minL_mem ne)
    rw [bgo_cons, spans_cons] at hp
    rw [List.length_cons]
    rcases List.mem_cons.mp hp with z | z
    · rw [z]
      show max w (minL es) + l ≤ _
      omega
    · have := ends_bound as (stp es w l) (K + 99) w (by omega) (fun e h => by
        rcases List.mem_or_eq_of_mem_set h with q | q
        · have := he e q; omega
        · rw [q]; omega) (stp_ne ne w l) o.2 p z
      omega
theorem last_bound (c : Nat) (as : Asks) (h1 : 1 ≤ c) (o : okP 0 as = true) (hl : as.length ≤ 40) : lastOf (spans (bg c as) as) < 100000 := by
  have : lastOf (spans (bg c as) as) ≤ 999 + 99 * as.length := by
    unfold lastOf
    rw [foldl_max_le (fun x : Int => x)]
    refine ⟨by omega, fun x hx => ?_⟩
    obtain ⟨p, hp, e⟩ := List.mem_map.mp hx
    rw [← e]
    exact ends_bound as (List.replicate c 0) 999 0 (by omega) (fun e he => by rw [List.eq_of_mem_replicate he]; omega) (rep_ne h1) o p hp
  omega
theorem units_len {α : Type} [DecidableEq α] (f : Int → α) : ∀ (n : Nat) (acc : List (Int × Int × α)) (lo : Int), (units f acc lo n).length ≤ acc.length + n
  | 0, acc, lo => Nat.le_refl _
  | n + 1, acc, lo => by
    have h1 := units_len f n (push acc lo (lo + 1) (f lo)) (lo + 1)
    have h2 := push_len acc lo (lo + 1) (f lo)
    rw [units]
    omega
theorem free_times_eq (c : Nat) (as : Asks) (h1 : 1 ≤ c) (h2 : c ≤ 40) (v : validP as = true) (hl : as.length ≤ 31) : Mi.free_times [.int c, dA as] = .ok (((ldsOf (spans (bg c as) as)).foldl (ftStep c) []).map dP) := by
  have o : okP 0 as = true := by unfold validP at v; simp at v; exact v.2
  have ld := loads_eq c as h1 h2 v hl
  obtain ⟨ls, hls⟩ : ∃ ls, ls = ldsOf (spans (bg c as) as) := ⟨_, rfl⟩
  have len : ls.length < 1000000 := by
    rw [hls, lds_units (span_ok c as o)]
    have := units_len (fun t => ((ov t (spans (bg c as) as) : Nat) : Int)) (lastOf (spans (bg c as) as)).toNat [] 0
    have := last_bound c as h1 o (by omega)
    simp at *
    omega
  rw [← hls] at ld ⊢
  have hp : D.pures (ls.map (dS D.int)) = true := by rw [D.pures_all]; simp [dS]
  obtain ⟨t3, t4, t5, e⟩ := free_loop c (dA as) ls [] .no .no .no (by simp; omega)
  have hz : ∀ en : En, Fl.call Mi.loads (E.cons (E.var 0) (E.cons (E.var 1) E.nil)) (.sh (.int c) :: .sh (dA as) :: en) = .ok (ls.map (dS D.int)) := fun en => by
    simp only [Fl.call_eq, E.cons_eq, E.nil_eq, E.var_eq, vw_zero, vw_succ, Sl.vw_sh, R.of_some, R.bind_ok, ld]
  unfold Mi.free_times Mi.b_free_times
  refine (fnF2 (o := .rt (.lst ((ls.foldl (ftStep c) []).map dP))) ?_).trans rfl
  simp only [List.replicate]
  refine (seq_step (by simp only [S.own_eq, Fl.lst_eq, E.nil_eq, R.bind_ok, List.length_nil, Nat.zero_le, if_true, R.out_ok, D.pures_nil, Bool.true_or, S.putL_eq, List.set_cons_succ, List.set_cons_zero]; rfl)).trans ?_
  refine (seq_step (by simp only [S.loop_eq, I.items_eq, Z.pf_eq, hz, R.bind_ok, hp, Bool.true_or, if_true, itemsD_lst, R.out_ok]; exact e)).trans ?_
  exact seq_end (by simp only [S.retO_eq, S.withL_succ, S.withL_zero]) (fun _ h => nomatch h)
theorem eqv_dS (L : List (Int × Int × Int)) : PyData.eqvAll (D.pys (L.map (dS D.int))) (D.pys (L.map (dS D.int))) = true := by
  induction L with
  | nil => simp [D.pys, PyData.eqvAll]
  | cons p L ih => simp [D.pys, D.py, dS, PyData.eqvAll, PyData.eqv, ih]
theorem ne_self (L : List (Int × Int × Int)) : neD (.lst (L.map (dS D.int))) (.lst (L.map (dS D.int))) = .ok (.bl false) := by
  unfold neD
  rw [if_pos ⟨by rw [D.dt]; exact dS_dts enc_int 6 L, by rw [D.dt]; exact dS_dts enc_int 6 L⟩, D.py, PyData.eqv, eqv_dS]
  rfl
theorem dP_dts : ∀ (n : Nat) (L : List (Int × Int)), D.dts (n + 1) (L.map dP) = true
  | n, [] => by rw [List.map_nil, D.dts]
  | n, p :: L => by
    rw [List.map_cons, D.dts, dP_dts n L]
    simp [dP, D.dt, D.dts]
theorem eqv_dP (L : List (Int × Int)) : PyData.eqvAll (D.pys (L.map dP)) (D.pys (L.map dP)) = true := by
  induction L with
  | nil => simp [D.pys, PyData.eqvAll]
  | cons p L ih => simp [D.pys, D.py, dP, PyData.eqvAll, PyData.eqv, ih]
theorem eq_selfP (L : List (Int × Int)) : eqD (.lst (L.map dP)) (.lst (L.map dP)) = .ok (.bl true) := by
  unfold eqD
  rw [if_pos ⟨by rw [D.dt]; exact dP_dts 6 L, by rw [D.dt]; exact dP_dts 6 L⟩, D.py, PyData.eqv, eqv_dP]
theorem k18_true (ns : List Int) : Mi.law_k18 [scr ns] = .ok (.bl true) := by
  have c0 : Mi.law_cell [scr ns, .int 0] = .ok (.int (cell ns 0)) := cell_eq ns 0
  obtain ⟨as, ha, o, l⟩ := asks_eq ns 1 25 (by omega)
  replace ha : Mi.law_asks [scr ns, .int 1, .int 25] = .ok (dA as) := ha
  have v : validP as = true := by unfold validP; simp [o]; omega
  have r0 := Int.emod_nonneg (cell ns 0) (show (5 : Int) ≠ 0 by omega)
  have r1 := Int.emod_lt_of_pos (cell ns 0) (show (0 : Int) < 5 by omega)
  obtain ⟨c, hc⟩ := Int.eq_ofNat_of_zero_le (show 0 ≤ 1 + cell ns 0 % 5 by omega)
  have lb := last_bound c as (by omega) o (by omega)
  have hrow := lent_at_eq c as (by omega) (by omega) o lb
  have ld := loads_eq c as (by omega) (by omega) v (by omega)
  have ft := free_times_eq c as (by omega) (by omega) v (by omega)
  obtain ⟨sp, hsp⟩ : ∃ sp, sp = spans (bg c as) as := ⟨_, rfl⟩
  have ovb : ∀ t, ((ov t sp : Nat) : Int) ≤ c := fun t => by
    have h1 := ov_le as (List.replicate c 0) (rep_ne (by omega)) (okP_pos o) t
    have h2 := cnt_le t (List.replicate c (0 : Int))
    rw [List.length_replicate] at h2
    rw [hsp]
    unfold bg
    omega
  have lu := lds_units (span_ok c as o)
  rw [← hsp] at lb hrow ld ft lu
  obtain ⟨n, hn⟩ : ∃ n, n = (lastOf sp).toNat := ⟨_, rfl⟩
  rw [← hn] at hrow lu
  rw [lu] at ld ft
  rw [free_all _ _ ovb] at ft
  obtain ⟨row, hr⟩ : ∃ row, row = (List.range n).map fun t : Nat => ((ov t sp : Nat) : Int) := ⟨_, rfl⟩
  rw [← hr] at hrow
  have rl : row.length < 100000 := by rw [hr, List.length_map, List.length_range]; omega
  have s1 := law_stretches_eq enc_int row (by omega)
  have s2 := law_stretches_eq enc_bool (row.map fun x => decide (x < (c : Int))) (by rw [List.length_map]; omega)
  have f1 : foldPush [] 0 row = units (fun t => ((ov t sp : Nat) : Int)) [] 0 n := by
    rw [hr, List.range_eq_range']
    exact foldPush_units (fun t => ((ov t sp : Nat) : Int)) n 0 []
  have f2 : foldPush [] 0 (row.map fun x => decide (x < (c : Int))) = units (fun t => decide (((ov t sp : Nat) : Int) < c)) [] 0 n := by
    rw [hr, List.map_map, List.range_eq_range']
    exact foldPush_units (fun t => decide (((ov t sp : Nat) : Int) < c)) n 0 []
  rw [f1] at s1
  rw [f2] at s2
  have bl := units_len (fun t => decide (((ov t sp : Nat) : Int) < c)) n [] 0
  obtain ⟨Bs, hB⟩ : ∃ Bs, Bs = units (fun t => decide (((ov t sp : Nat) : Int) < c)) [] 0 n := ⟨_, rfl⟩
  rw [← hB] at s2 ft bl
  have e1 := lcM_all (t := .nm 7) (vs := [7]) (elt := E.bin ltD (E.var 7) (E.var 1)) (e := [.sh (scr ns), .sh (.int c), .sh (dA as), .sh (.lst (row.map D.int)), .no, .no, .no, .no]) D.int (fun x => .bl (decide (x < (c : Int)))) row (fun x hx => ⟨[(7, .int x)], bindT_nm _ _, by simp only [setsE_cons, setsE_nil, wipeE_cons, wipeE_nil, List.set_cons_succ, List.set_cons_zero, E.bin_eq, E.var_eq, vw_zero, vw_succ, Sl.vw_sh, R.of_some, R.bind_ok, ltD_int], D.pure_bl _⟩)
  have e2 : (row.map fun x => D.bl (decide (x < (c : Int)))) = (row.map fun x => decide (x < (c : Int))).map D.bl := by rw [List.map_map]; rfl
  have e3 := lcM_map (t := .tp [(.nm 5), (.nm 6), (.nm 7)]) (vs := [5, 6, 7]) (test := B.tru (E.var 7)) (elt := E.call tupD (E.cons (E.var 5) (E.cons (E.var 6) E.nil))) (e := [.sh (scr ns), .sh (.int c), .sh (dA as), .sh (.lst (row.map D.int)), .no, .no, .no, .no]) (dS D.bl) (fun p => dP (p.1, p.2.1)) (fun p => p.2.2) Bs (fun p hp => ⟨[(5, .int p.1), (6, .int p.2.1), (7, .bl p.2.2)], by simp [dS], by simp only [setsE_cons, setsE_nil, wipeE_cons, wipeE_nil, List.set_cons_succ, List.set_cons_zero, B.tru_eq, E.var_eq, vw_zero, vw_succ, Sl.vw_sh, R.of_some, R.bind_ok, truD_bl], fun _ => ⟨by simp only [setsE_cons, setsE_nil, wipeE_cons, wipeE_nil, List.set_cons_succ, List.set_cons_zero, E.call_eq, E.cons_eq, E.nil_eq, E.var_eq, vw_zero, vw_succ, Sl.vw_sh, R.of_some, R.bind_ok, tupD_two]; rfl, by simp [dP]⟩⟩)
  have e4 : ((Bs.filter fun p => p.2.2).map fun p => dP (p.1, p.2.1)) = (trues Bs).map dP := by unfold trues; rw [List.map_map]; rfl
  have f3 : Fl.comp (I.items (E.call okLst (Fl.call Mi.law_stretches (E.cons (E.call okLst (Fl.comp (I.items (E.var 3)) (.nm 7) [7] B.yes (E.bin ltD (E.var 7) (E.var 1)))) E.nil)))) (.tp [(.nm 5), (.nm 6), (.nm 7)]) [5, 6, 7] (B.tru (E.var 7)) (E.call tupD (E.cons (E.var 5) (E.cons (E.var 6) E.nil))) [.sh (scr ns), .sh (.int c), .sh (dA as), .sh (.lst (row.map D.int)), .no, .no, .no, .no] = .ok ((trues Bs).map dP) := by
    rw [Fl.comp_eq, I.items_eq, E.call_eq, Fl.call_eq, E.cons_eq, E.call_eq, Fl.comp_eq]
    simp only [I.items_eq, E.var_eq, vw_zero, vw_succ, Sl.vw_sh, R.of_some, R.bind_ok, itemsD_lst, List.length_map]
    rw [if_pos (by omega), e1, e2]
    simp only [R.bind_ok, okLst_eq, E.nil_eq, s2, itemsD_lst, List.length_map]
    rw [if_pos (by simp at bl; omega), e3, e4]
  have hp : D.pures ((trues Bs).map dP) = true := by rw [D.pures_all]; simp [dP]
  unfold Mi.law_k18 Mi.b_law_k18
  refine (fn1 (o := .rt (.bl true)) ?_).trans rfl
  simp only [List.replicate]
  refine (seq_step (by simp only [S.set_eq, Z.px_eq, Z.pf_eq, E.call_eq, E.cons_eq, E.nil_eq, E.var_eq, E.c_eq, vw_zero, vw_succ, Sl.vw_sh, R.of_some, R.bind_ok, ha, c0, dA_pure, Bool.true_or, if_true, R.out_ok, List.set_cons_succ, List.set_cons_zero, E.bin_eq, modD_int _ 5 (show (0 : Int) < 5 by omega), addD_int, hc, D.pure_int, Fl.call_eq, hrow, D.pures_ints, okLst_eq, S.ite_eq, B.val_eq, ld, s1, ne_self, Bool.false_eq_true, if_false, S.nil_eq]; rfl)).trans ?_
  refine (seq_step (by simp only [S.set_eq, Z.px_eq, Z.pf_eq, E.call_eq, E.cons_eq, E.nil_eq, E.var_eq, E.c_eq, vw_zero, vw_succ, Sl.vw_sh, R.of_some, R.bind_ok, ha, c0, dA_pure, Bool.true_or, if_true, R.out_ok, List.set_cons_succ, List.set_cons_zero, E.bin_eq, modD_int _ 5 (show (0 : Int) < 5 by omega), addD_int, hc, D.pure_int, Fl.call_eq, hrow, D.pures_ints, okLst_eq, S.ite_eq, B.val_eq, ld, s1, ne_self, Bool.false_eq_true, if_false, S.nil_eq]; rfl)).trans ?_
  refine (seq_step (by simp only [S.set_eq, Z.px_eq, Z.pf_eq, E.call_eq, E.cons_eq, E.nil_eq, E.var_eq, E.c_eq, vw_zero, vw_succ, Sl.vw_sh, R.of_some, R.bind_ok, ha, c0, dA_pure, Bool.true_or, if_true, R.out_ok, List.set_cons_succ, List.set_cons_zero, E.bin_eq, modD_int _ 5 (show (0 : Int) < 5 by omega), addD_int, hc, D.pure_int, Fl.call_eq, hrow, D.pures_ints, okLst_eq, S.ite_eq, B.val_eq, ld, s1, ne_self, Bool.false_eq_true, if_false, S.nil_eq]; rfl)).trans ?_
  refine (seq_step (by simp only [S.set_eq, Z.px_eq, Z.pf_eq, E.call_eq, E.cons_eq, E.nil_eq, E.var_eq, E.c_eq, vw_zero, vw_succ, Sl.vw_sh, R.of_some, R.bind_ok, ha, c0, dA_pure, Bool.true_or, if_true, R.out_ok, List.set_cons_succ, List.set_cons_zero, E.bin_eq, modD_int _ 5 (show (0 : Int) < 5 by omega), addD_int, hc, D.pure_int, Fl.call_eq, hrow, D.pures_ints, okLst_eq, S.ite_eq, B.val_eq, ld, s1, ne_self, Bool.false_eq_true, if_false, S.nil_eq]; rfl)).trans ?_
  refine (seq_step (by simp only [S.set_eq, Z.pf_eq, f3, R.bind_ok, hp, Bool.true_or, if_true, R.out_ok, List.set_cons_succ, List.set_cons_zero]; rfl)).trans ?_
  exact seq_end (by simp only [S.ret_eq, E.bin_eq, E.call_eq, E.cons_eq, E.nil_eq, E.var_eq, vw_zero, vw_succ, Sl.vw_sh, R.of_some, R.bind_ok, Fl.call_eq, ft, okLst_eq, eq_selfP, R.out_ok]) (fun _ h => nomatch h)
end Lp
theorem Mi.law_k18_true (ns : List Int) (h : ns.length ≤ 63) : Mi.law_k18 [.fix (ns.map Lp.D.int)] = .ok (.bl true) := Lp.k18_true ns

/-! # Plain law, part N: stretches one behind the other; all lent while somebody waits -/
namespace Lp
open PySem
/-! ### loops that find no fault -/
theorem loop_inv {α : Type} {t : Tg} {b : En → Out} (f : α → D) (P : En → Prop) : ∀ (l : List α) (e : En), P e → (∀ a ∈ l, ∀ e, P e → ∃ bs e', bindT t (f a) = .ok bs ∧ b (setsE e bs) = .nx e' ∧ P e') → ∃ e', loopM t b (l.map f) e = .nx e' ∧ P e'
  | [], e, h, _ => ⟨e, rfl, h⟩
  | a :: l, e, h, g => by
    obtain ⟨bs, e1, h1, h2, h3⟩ := g a List.mem_cons_self e h
    obtain ⟨e2, h4, h5⟩ := loop_inv f P l e1 h3 fun a ha => g a (List.mem_cons_of_mem _ ha)
    exact ⟨e2, by rw [List.map_cons, loop_cons h1 h2]; exact h4, h5⟩
/-! ### stretches one behind the other -/
section
variable {α : Type} [DecidableEq α]
def chn (f : Int → α) : Int → Int → List (Int × Int × α) → Prop
  | lo, hi, [] => lo = hi
  | lo, hi, p :: L => p.1 = lo ∧ p.1 < p.2.1 ∧ (∀ t, p.1 ≤ t → t < p.2.1 → f t = p.2.2) ∧ (∀ y ∈ L.head?, p.2.2 ≠ y.2.2) ∧ chn f p.2.1 hi L
theorem push_one (a b : Int) (y : α) (lo hi : Int) (x : α) : push [(a, b, y)] lo hi x = if y = x then [(a, hi, x)] else [(a, b, y), (lo, hi, x)] := by
  have := push_last ([] : List (Int × Int × α)) a b y lo hi x
  simpa using this
theorem push_cons (p q : Int × Int × α) (L : List (Int × Int × α)) (lo hi : Int) (x : α) : push (p :: q :: L) lo hi x = p :: push (q :: L) lo hi x := by
  unfold push
  rw [List.getLast?_cons_cons]
  cases h : (q :: L).getLast? with
  | none => simp at h
  | some r =>
    obtain ⟨a, b, y⟩ := r
    simp only []
    by_cases c : y = x
    · rw [if_pos c, if_pos c]
      simp
    · rw [if_neg c, if_neg c]
      rfl
theorem push_head (q : Int × Int × α) (L : List (Int × Int × α)) (lo hi : Int) (x : α) : ∀ y ∈ (push (q :: L) lo hi x).head?, y.2.2 = q.2.2 := by
  intro y hy
  cases L with
  | nil =>
    obtain ⟨a, b, z⟩ := q
    rw [push_one] at hy
    by_cases c : z = x
    · rw [if_pos c] at hy
      simp at hy
      rw [← hy]
      exact c.symm
    · rw [if_neg c] at hy
      simp at hy
      rw [← hy]
  | cons r L =>
    rw [push_cons] at hy
    simp at hy
    rw [← hy]
theorem chn_push (f : Int → α) : ∀ (L : List (Int × Int × α)) (lo hi : Int), chn f lo hi L → chn f lo (hi + 1) (push L hi (hi + 1) (f hi))
  | [], lo, hi, h => by
    rw [chn] at h
    subst h
    rw [push_nil, chn]
    refine ⟨rfl, by show lo < lo + 1; omega, fun t h1 h2 => ?_, by simp, by rw [chn]⟩
    simp only [] at h1 h2
    have : t = lo := by omega
    rw [this]
  | [(a, b, y)], lo, hi, h => by
    rw [chn, chn] at h
    obtain ⟨h1, h2, h3, _, h5⟩ := h
    simp only [] at h1 h2 h3 h5
    subst h5
    rw [push_one]
    by_cases c : y = f b
    · rw [if_pos c, chn]
      refine ⟨h1, by show a < b + 1; omega, fun t g1 g2 => ?_, by simp, by rw [chn]⟩
      simp only [] at g1 g2
      by_cases z : t < b
      · rw [h3 t g1 z]; exact c
      · rw [show t = b by omega]
    · rw [if_neg c, chn, chn]
      refine ⟨h1, h2, h3, by simpa using c, rfl, by show b < b + 1; omega, fun t g1 g2 => ?_, by simp, by rw [chn]⟩
      simp only [] at g1 g2
      rw [show t = b by omega]
  | p :: q :: L, lo, hi, h => by
    rw [chn] at h
    obtain ⟨h1, h2, h3, h4, h5⟩ := h
    have ih := chn_push f (q :: L) p.2.1 hi h5
    rw [push_cons, chn]
    refine ⟨h1, h2, h3, fun y hy => ?_, ih⟩
    rw [push_head q L hi (hi + 1) (f hi) y hy]
    exact h4 q (by simp)
theorem chn_units (f : Int → α) : ∀ n : Nat, chn f 0 n (units f [] 0 n)
  | 0 => by rw [units, chn]; rfl
  | n + 1 => by
    rw [units_snoc]
    have := chn_push f _ 0 n (chn_units f n)
    rw [show ((n + 1 : Nat) : Int) = (n : Int) + 1 by omega]
    exact this
variable {f : Int → α}
theorem chn_le : ∀ {L : List (Int × Int × α)} {lo hi : Int}, chn f lo hi L → lo ≤ hi
  | [], lo, hi, h => by rw [chn] at h; omega
  | p :: L, lo, hi, h => by
    rw [chn] at h
    have := chn_le h.2.2.2.2
    omega
theorem chn_mem : ∀ {L : List (Int × Int × α)} {lo hi : Int}, chn f lo hi L → ∀ p ∈ L, lo ≤ p.1 ∧ p.1 < p.2.1 ∧ p.2.1 ≤ hi ∧ ∀ t, p.1 ≤ t → t < p.2.1 → f t = p.2.2
  | [], lo, hi, _, p, hp => nomatch hp
  | q :: L, lo, hi, h, p, hp => by
    rw [chn] at h
    obtain ⟨h1, h2, h3, h4, h5⟩ := h
    rcases List.mem_cons.mp hp with z | z
    · subst z
      exact ⟨by omega, h2, chn_le h5, h3⟩
    · have := chn_mem h5 p z
      exact ⟨by omega, this.2⟩
theorem chn_cover : ∀ {L : List (Int × Int × α)} {lo hi : Int}, chn f lo hi L → ∀ t, lo ≤ t → t < hi → ∃ p ∈ L, p.1 ≤ t ∧ t < p.2.1 ∧ p.2.2 = f t
  | [], lo, hi, h, t, h1, h2 => by rw [chn] at h; omega
  | q :: L, lo, hi, h, t, g1, g2 => by
    rw [chn] at h
    obtain ⟨h1, h2, h3, h4, h5⟩ := h
    by_cases c : t < q.2.1
    · exact ⟨q, List.mem_cons_self, by omega, c, (h3 t (by omega) c).symm⟩
    · obtain ⟨p, hp, e⟩ := chn_cover h5 t (by omega) g2
      exact ⟨p, List.mem_cons_of_mem _ hp, e⟩
theorem chn_adj : ∀ {L : List (Int × Int × α)} {lo hi : Int}, chn f lo hi L → ∀ q ∈ L.zip (L.drop 1), q.1.2.1 = q.2.1 ∧ q.1.2.2 ≠ q.2.2.2 ∧ q.1.1 < q.1.2.1
  | [], lo, hi, h, q, hq => by simp at hq
  | [p], lo, hi, h, q, hq => by simp at hq
  | p :: r :: L, lo, hi, h, q, hq => by
    rw [chn] at h
    obtain ⟨h1, h2, h3, h4, h5⟩ := h
    have ih := chn_adj h5
    rw [List.drop_succ_cons, List.drop_zero, List.zip_cons_cons] at hq
    rcases List.mem_cons.mp hq with z | z
    · rw [z]
      rw [chn] at h5
      exact ⟨h5.1.symm, h4 r (by simp), h2⟩
    · exact ih q (by rw [List.drop_succ_cons, List.drop_zero]; exact z)
theorem chn_last : ∀ {L : List (Int × Int × α)} {lo hi : Int}, chn f lo hi L → ∀ (T : List (Int × Int × α)) (p : Int × Int × α), L = T ++ [p] → p.2.1 = hi
  | [], lo, hi, h, T, p, e => by simp at e
  | q :: L, lo, hi, h, T, p, e => by
    rw [chn] at h
    cases T with
    | nil =>
      rw [List.nil_append] at e
      cases e
      have := h.2.2.2.2
      rw [chn] at this
      exact this
    | cons r T =>
      rw [List.cons_append] at e
      injection e with e1 e2
      exact chn_last h.2.2.2.2 T p e2
end
/-! ### sums by time -/
def sumT (f : Int → Int) (lo : Int) : Nat → Int
  | 0 => 0
  | n + 1 => f lo + sumT f (lo + 1) n
theorem sumT_split (f : Int → Int) : ∀ (n m : Nat) (lo : Int), sumT f lo (n + m) = sumT f lo n + sumT f (lo + n) m
  | 0, m, lo => by simp [sumT]
  | n + 1, m, lo => by
    rw [show n + 1 + m = (n + m) + 1 by omega, sumT, sumT, sumT_split f n m, show lo + 1 + (n : Int) = lo + ((n + 1 : Nat) : Int) by omega]
    omega
theorem sumT_const (f : Int → Int) (x : Int) : ∀ (n : Nat) (lo : Int), (∀ t, lo ≤ t → t < lo + n → f t = x) → sumT f lo n = n * x
  | 0, lo, _ => by simp [sumT]
  | n + 1, lo, h => by
    rw [sumT, sumT_const f x n (lo + 1) (fun t h1 h2 => h t (by omega) (by omega)), h lo (by omega) (by omega)]
    rw [show ((n + 1 : Nat) : Int) = (n : Int) + 1 by omega, Int.add_mul]
    omega
theorem sumT_add (f g : Int → Int) : ∀ (n : Nat) (lo : Int), sumT (fun t => f t + g t) lo n = sumT f lo n + sumT g lo n
  | 0, lo => by simp [sumT]
  | n + 1, lo => by
    rw [sumT, sumT, sumT, sumT_add f g n]
    omega
theorem chn_sum {f : Int → Int} : ∀ {L : List (Int × Int × Int)} {lo hi : Int}, chn f lo hi L → (L.map fun p => (p.2.1 - p.1) * p.2.2).sum = sumT f lo (hi - lo).toNat
  | [], lo, hi, h => by
    rw [chn] at h
    subst h
    simp [sumT]
  | p :: L, lo, hi, h => by
    rw [chn] at h
    obtain ⟨h1, h2, h3, h4, h5⟩ := h
    have hle := chn_le h5
    rw [List.map_cons, List.sum_cons, chn_sum h5]
    have e : (hi - lo).toNat = (p.2.1 - p.1).toNat + (hi - p.2.1).toNat := by omega
    rw [e, sumT_split, sumT_const f p.2.2 (p.2.1 - p.1).toNat lo (fun t g1 g2 => h3 t (by omega) (by omega))]
    rw [show lo + ((p.2.1 - p.1).toNat : Int) = p.2.1 by omega, show ((p.2.1 - p.1).toNat : Int) = p.2.1 - p.1 by omega]
theorem sumT_span (a b : Int) (n : Nat) (h0 : 0 ≤ a) (h1 : a ≤ b) (h2 : b ≤ n) : sumT (fun t => if a ≤ t ∧ t < b then 1 else 0) 0 n = b - a := by
  have e : n = a.toNat + ((b - a).toNat + (n - b.toNat)) := by omega
  rw [e, sumT_split, sumT_split]
  rw [sumT_const _ 0 a.toNat 0 (fun t g1 g2 => if_neg (by omega))]
  rw [sumT_const _ 1 (b - a).toNat _ (fun t g1 g2 => if_pos (by omega))]
  rw [sumT_const _ 0 (n - b.toNat) _ (fun t g1 g2 => if_neg (by omega))]
  omega
theorem sumT_ov (n : Nat) : ∀ (sp : Spans), (∀ p ∈ sp, 0 ≤ p.1 ∧ p.1 ≤ p.2 ∧ p.2 ≤ n) → sumT (fun t => ((ov t sp : Nat) : Int)) 0 n = (sp.map fun p => p.2 - p.1).sum
  | [], _ => by
    have := sumT_const (fun t => ((ov t [] : Nat) : Int)) 0 n 0 (fun t _ _ => rfl)
    rw [this]
    simp
  | p :: sp, h => by
    have hp := h p List.mem_cons_self
    have e : (fun t => ((ov t (p :: sp) : Nat) : Int)) = fun t => ((ov t sp : Nat) : Int) + (if p.1 ≤ t ∧ t < p.2 then 1 else 0) := by
      funext t
      rw [ov_cons]
      split <;> omega
    rw [e, sumT_add, sumT_ov n sp (fun q hq => h q (List.mem_cons_of_mem _ hq)), sumT_span p.1 p.2 n hp.1 hp.2.1 hp.2.2, List.map_cons, List.sum_cons]
    omega
theorem spans_longs : ∀ (bs : List Int) (as : Asks), bs.length = as.length → ((spans bs as).map fun p => p.2 - p.1) = as.map (·.2)
  | [], [], _ => rfl
  | b :: bs, (w, l) :: as, h => by
    rw [spans_cons, List.map_cons, List.map_cons, spans_longs bs as (by simpa using h)]
    congr 1
    show b + l - b = l
    omega
  | [], _ :: _, h => by simp at h
  | _ :: _, [], h => by simp at h
/-! ### all is lent while somebody waits -/
theorem ov_full : ∀ (as : Asks) (es : List Int), es ≠ [] → posP as → ∀ t, (∀ a ∈ as, a.1 ≤ t) → ov t (spans (bgo es as) as) + cnt t (fin es as) = cnt t es
  | [], es, _, _, t, _ => by simp [spans, ov, fin]
  | (w, l) :: as, es, h, p, t, ht => by
    have ih := ov_full as (stp es w l) (stp_ne h w l) (fun a ha => p a (List.mem_cons_of_mem _ ha)) t (fun a ha => ht a (List.mem_cons_of_mem _ ha))
    have hl : 1 ≤ l := p (w, l) List.mem_cons_self
    have hw : w ≤ t := ht (w, l) List.mem_cons_self
    rw [bgo_cons, spans_cons, ov_cons, fin]
    have h1 := cnt_stp h t w l
    have h3 := cnt_pos (t := t) h
    simp only [] at *
    by_cases c2 : minL es ≤ t
    · have c1 : max w (minL es) ≤ t := by omega
      by_cases c3 : t < max w (minL es) + l
      · have c4 : ¬ max w (minL es) + l ≤ t := by omega
        simp only [c2, c4, if_true, if_false] at h1
        simp only [c1, c3, and_self, if_true]
        omega
      · have c4 : max w (minL es) + l ≤ t := by omega
        simp only [c2, c4, if_true] at h1
        simp only [c3, and_false, if_false]
        omega
    · have c1 : ¬ max w (minL es) ≤ t := by omega
      have c4 : ¬ max w (minL es) + l ≤ t := by omega
      simp only [c2, c4, if_false] at h1
      simp only [c1, false_and, if_false]
      omega
theorem spans_append : ∀ (P Q : List Int) (as bs : Asks), P.length = as.length → spans (P ++ Q) (as ++ bs) = spans P as ++ spans Q bs := fun P Q as bs h => by
  unfold spans
  rw [List.zip_append h, List.map_append]
theorem ov_append (t : Int) (sp sq : Spans) : ov t (sp ++ sq) = ov t sp + ov t sq := by
  unfold ov
  rw [List.filter_append, List.length_append]
/-- an ask that waits at t: all is lent -/
theorem all_lent (c : Nat) (h : 1 ≤ c) (pre post : Asks) (w l : Int) (o : okP 0 (pre ++ (w, l) :: post) = true) (t : Int) (h1 : w ≤ t) (h2 : t < max w (minL (fin (List.replicate c 0) pre))) :
    c ≤ ov t (spans (bg c (pre ++ (w, l) :: post)) (pre ++ (w, l) :: post)) := by
  obtain ⟨o1, l2, _, o2, hle⟩ := okP_parts pre ((w, l) :: post) 0 o
  have hw : l2 ≤ w := okP_ge o2 (w, l) List.mem_cons_self
  have w0 : 0 ≤ w := okP_ge o (w, l) (List.mem_append_right _ List.mem_cons_self)
  have f := ov_full pre (List.replicate c 0) (rep_ne h) (okP_pos o1) t (fun a ha => by have := hle a ha; omega)
  rw [cnt_rep, if_pos (by omega)] at f
  have z : cnt t (fin (List.replicate c 0) pre) = 0 := by
    have := (cnt_pos (t := t) (fin_ne pre (rep_ne h))).mp
    have : ¬ 1 ≤ cnt t (fin (List.replicate c 0) pre) := fun q => by have := this q; omega
    omega
  unfold bg
  rw [bgo_append, spans_append _ _ _ _ (bgo_len pre _), ov_append]
  omega
/-- at most so many as busy tells -/
theorem ov_le_max (sp : Spans) (t : Int) (h : 1 ≤ ov t sp) : ∃ p ∈ sp, ov t sp ≤ ov p.1 sp := by
  -- of those that are lent at t, the one begun last
  have key : ∀ l : Spans, l ≠ [] → ∃ p ∈ l, ∀ q ∈ l, q.1 ≤ p.1 := by
    intro l
    induction l with
    | nil => intro h; exact absurd rfl h
    | cons a l ih =>
      intro _
      by_cases e : l = []
      · subst e
        exact ⟨a, List.mem_cons_self, fun q hq => by rw [List.mem_singleton.mp hq]; exact Int.le_refl _⟩
      · obtain ⟨p, hp, hq⟩ := ih e
        by_cases c : p.1 ≤ a.1
        · refine ⟨a, List.mem_cons_self, fun q h => ?_⟩
          rcases List.mem_cons.mp h with z | z
          · rw [z]; exact Int.le_refl _
          · have := hq q z; omega
        · refine ⟨p, List.mem_cons_of_mem _ hp, fun q h => ?_⟩
          rcases List.mem_cons.mp h with z | z
          · rw [z]; omega
          · exact hq q z
  have ne : sp.filter (inSp t) ≠ [] := fun z => by
    unfold ov at h
    rw [z] at h
    simp at h
  obtain ⟨p, hp, hq⟩ := key _ ne
  have hp' := List.mem_filter.mp hp
  refine ⟨p, hp'.1, ?_⟩
  unfold ov
  have e : sp.filter (inSp t) = (sp.filter (inSp t)).filter (inSp p.1) := by
    rw [eq_comm, List.filter_eq_self]
    intro q hqm
    have h1 := hq q hqm
    have h2 := (List.mem_filter.mp hqm).2
    have h3 := hp'.2
    unfold inSp at h2 h3 ⊢
    simp at h2 h3 ⊢
    omega
  rw [e, List.filter_filter]
  have : ∀ l : Spans, (l.filter fun a => inSp p.1 a && inSp t a).length ≤ (l.filter (inSp p.1)).length := by
    intro l
    rw [← List.countP_eq_length_filter, ← List.countP_eq_length_filter]
    exact List.countP_mono_left fun x _ hx => by
      rw [Bool.and_eq_true] at hx
      exact hx.1
  exact this sp
theorem ov_le_bsy (bs : List Int) (as : Asks) (t : Int) : ((ov t (spans bs as) : Nat) : Int) ≤ bsy bs as := by
  by_cases h : 1 ≤ ov t (spans bs as)
  · obtain ⟨p, hp, hle⟩ := ov_le_max _ t h
    have := ov_bsy hp
    omega
  · have h0 : 0 ≤ bsy bs as := ((foldl_max_le (fun p : Int × Int => (ov p.1 (spans bs as) : Int)) (spans bs as) 0 (bsy bs as)).mp (Int.le_refl _)).1
    omega
theorem foldl_max_mem' {α : Type} (f : α → Int) : ∀ (l : List α) (m : Int), l.foldl (fun m a => max m (f a)) m = m ∨ ∃ a ∈ l, l.foldl (fun m a => max m (f a)) m = f a
  | [], m => .inl rfl
  | a :: l, m => by
    rw [List.foldl_cons]
    rcases foldl_max_mem' f l (max m (f a)) with h | ⟨b, hb, h⟩
    · rcases Int.le_total m (f a) with z | z
      · exact .inr ⟨a, List.mem_cons_self, by rw [h]; omega⟩
      · exact .inl (by rw [h]; omega)
    · exact .inr ⟨b, List.mem_cons_of_mem _ hb, h⟩
/-- the most of the stretches is what busy tells -/
theorem most_bsy (bs : List Int) (as : Asks) (ok : spanOk (spans bs as)) (n : Nat) (hn : (n : Int) = lastOf (spans bs as)) :
    ((units (fun t => ((ov t (spans bs as) : Nat) : Int)) [] 0 n).map (·.2.2)).foldl max 0 = bsy bs as := by
  have ch := chn_units (fun t => ((ov t (spans bs as) : Nat) : Int)) n
  apply Int.le_antisymm
  · rw [foldl_max_le (fun x : Int => x)]
    have h0 : 0 ≤ bsy bs as := ((foldl_max_le (fun p : Int × Int => (ov p.1 (spans bs as) : Int)) (spans bs as) 0 (bsy bs as)).mp (Int.le_refl _)).1
    refine ⟨h0, fun x hx => ?_⟩
    obtain ⟨p, hp, e⟩ := List.mem_map.mp hx
    have := chn_mem ch p hp
    rw [← e, ← this.2.2.2 p.1 (Int.le_refl _) this.2.1]
    exact ov_le_bsy bs as p.1
  · have g := (foldl_max_le (fun x : Int => x) ((units (fun t => ((ov t (spans bs as) : Nat) : Int)) [] 0 n).map (·.2.2)) 0 _).mp (Int.le_refl _)
    rcases foldl_max_mem' (fun p : Int × Int => (ov p.1 (spans bs as) : Int)) (spans bs as) 0 with h | ⟨p, hp, h⟩
    · unfold bsy
      rw [h]
      exact g.1
    · unfold bsy
      rw [h]
      have h1 := ok p hp
      have h2 := (lastOf_ge (spans bs as)).2 p hp
      obtain ⟨q, hq, _, _, e⟩ := chn_cover ch p.1 h1.1 (by omega)
      exact g.2 _ (List.mem_map.mpr ⟨q, hq, e⟩)
end Lp

/-! # Law k19 -/
namespace Lp
open PySem
/-! ### equality with itself; with nothing -/
theorem eqD_self {d : D} (h : d.dt 8 = true) : eqD d d = .ok (.bl true) := by
  unfold eqD
  rw [if_pos ⟨h, h⟩, SeqAt.eqv_refl_plain _ (D.dt_plain d 8 h).1]
theorem neD_self {d : D} (h : d.dt 8 = true) : neD d d = .ok (.bl false) := by
  unfold neD
  rw [if_pos ⟨h, h⟩, SeqAt.eqv_refl_plain _ (D.dt_plain d 8 h).1]
  rfl
theorem eqvAll_nil (l : List PyData) : PyData.eqvAll l [] = l.isEmpty := by cases l <;> simp [PyData.eqvAll]
theorem pys_isEmpty (l : List D) : (D.pys l).isEmpty = l.isEmpty := by cases l <;> simp [D.pys]
theorem eqD_nilL {ds : List D} (h : D.dts 7 ds = true) : eqD (.lst ds) (.lst []) = .ok (.bl ds.isEmpty) := by
  unfold eqD
  rw [if_pos ⟨by rw [D.dt]; exact h, by simp [D.dt, D.dts]⟩, D.py, D.py, PyData.eqv, show D.pys [] = [] by rw [D.pys], eqvAll_nil, pys_isEmpty]
theorem eqD_nilT {ds : List D} (h : D.dts 7 ds = true) : eqD (.tup ds) (.tup []) = .ok (.bl ds.isEmpty) := by
  unfold eqD
  rw [if_pos ⟨by rw [D.dt]; exact h, by simp [D.dt, D.dts]⟩, D.py, D.py, PyData.eqv, show D.pys [] = [] by rw [D.pys], eqvAll_nil, pys_isEmpty]
theorem neD_nilL {ds : List D} (h : D.dts 7 ds = true) : neD (.lst ds) (.lst []) = .ok (.bl !ds.isEmpty) := by
  unfold neD
  rw [if_pos ⟨by rw [D.dt]; exact h, by simp [D.dt, D.dts]⟩, D.py, D.py, PyData.eqv, show D.pys [] = [] by rw [D.pys], eqvAll_nil, pys_isEmpty]
theorem neD_nilT {ds : List D} (h : D.dts 7 ds = true) : neD (.tup ds) (.tup []) = .ok (.bl !ds.isEmpty) := by
  unfold neD
  rw [if_pos ⟨by rw [D.dt]; exact h, by simp [D.dt, D.dts]⟩, D.py, D.py, PyData.eqv, show D.pys [] = [] by rw [D.pys], eqvAll_nil, pys_isEmpty]
theorem neD_bl (a b : Bool) : neD (.bl a) (.bl b) = .ok (.bl (a != b)) := by
  unfold neD
  rw [if_pos (by simp [D.dt]), D.py, D.py, PyData.eqv]
  rfl
theorem dts_mono {n : Nat} {ds : List D} : (∀ d ∈ ds, d.dt n = true) → D.dts n ds = true := fun h => by
  rw [D.dts_all, List.all_eq_true]; exact h
theorem dA_dts (as : Asks) (n : Nat) : D.dts (n + 1) (as.map dAsk) = true := dts_mono fun d hd => by
  obtain ⟨a, _, e⟩ := List.mem_map.mp hd
  rw [← e]
  simp [dAsk, D.dt, D.dts]
theorem dA_dt (as : Asks) (n : Nat) : (dA as).dt (n + 2) = true := by
  unfold dA
  rw [D.dt]
  exact dA_dts as n
theorem ints_dt (ns : List Int) (n : Nat) : (D.lst (ns.map D.int)).dt (n + 1) = true := by rw [D.dt]; exact dts_ints ns n
theorem dS_mid {α : Type} [DecidableEq α] {enc : α → D} (p : Int × Int × α) : ixD (dS enc p) (.int 1) = .ok (.int p.2.1) := by simp [dS]
@[simp] theorem tupD_nil : tupD [] = .ok (.tup []) := .trans rfl rfl
theorem cut_lst (ds : List D) (lo hi : Option Int) : Fl.cut (.lst ds) lo hi = .ok (cutD ds lo hi) := rfl
theorem zip_split : ∀ (as : Asks) (es : List Int) (p : Int × Int × Int), p ∈ (bgo es as).zip as → ∃ pre w l post, as = pre ++ (w, l) :: post ∧ p = (max w (minL (fin es pre)), w, l)
  | [], es, p, h => by simp [bgo] at h
  | (w, l) :: as, es, p, h => by
    rw [bgo_cons, List.zip_cons_cons] at h
    rcases List.mem_cons.mp h with z | z
    · exact ⟨[], w, l, as, rfl, z⟩
    · obtain ⟨pre, w2, l2, post, e1, e2⟩ := zip_split as _ p z
      exact ⟨(w, l) :: pre, w2, l2, post, by rw [e1]; rfl, by rw [e2]; rfl⟩
theorem trues_mem {Bx : List (Int × Int × Bool)} {q : Int × Int} (h : q ∈ trues Bx) : (q.1, q.2, true) ∈ Bx := by
  unfold trues at h
  obtain ⟨p, hp, e⟩ := List.mem_map.mp h
  obtain ⟨h1, h2⟩ := List.mem_filter.mp hp
  obtain ⟨a, b, t⟩ := p
  simp only [] at h2
  subst h2
  rw [← e]
  exact h1
local macro_rules | `(tactic| simp_all only [$as:simpLemma,*]) => `(tactic| simp only [R.bind_ok, R.bind_ex, R.bind_no, R.of_some, R.of_none, asInts_map, Out.seq_nx, Out.seq_rt, Out.seq_bk, Out.seq_ct, Out.seq_ex, Out.seq_no, R.out_ok, R.out_ex, R.out_no, E.c_eq, E.var_eq, E.un_eq, E.bin_eq, E.nil_eq, E.cons_eq, E.call_eq, E.ite_eq, E.andV_eq, E.orV_eq, E.notV_eq, E.chain_eq, E.methL_eq, E.none_eq, E.part_eq, E.slice_eq, asPart_int, B.val_eq, B.tru_eq, B.and_eq, B.or_eq, B.not_eq, B.yes_eq, truD_bl, truD_int, truD_lst, truD_tup, vw_nil, vw_zero, vw_succ, Sl.vw_no, Sl.vw_sh, Sl.vw_ow, Fl.lst_eq, Fl.add_eq, Fl.rep_eq, Fl.slice_eq, Fl.rev_eq, Fl.list_eq, Fl.sort_eq, Fl.call_eq, Fl.comp_eq, okLst_eq, I.items_eq, I.zip_eq, I.enum_eq, I.range1_eq, I.range2_eq, itemsD_lst, itemsD_tup, itemsD_fix, zipD_eq, enumD_eq, Z.px_eq, Z.pf_eq, Z.var_zero, Z.var_succ, S.seq_eq, S.nil_eq, S.drop_eq, S.ret_eq, S.retF_eq, S.retO_eq, S.retN_eq, S.withL_zero, S.withL_succ, S.putL_eq, S.ite_eq, S.set_eq, S.own_eq, S.bind_eq, S.app_eq, S.seti_eq, S.setD_int, S.putM_some, S.raise_eq, S.frzA_eq, S.frz_eq, S.never_eq, S.brk_eq, S.cont_eq, S.loop_eq, S.while_eq, noOw_nil, noOw_cons, Sl.noOw_no, Sl.noOw_sh, Sl.noOw_ow, frz1_zero, frz1_succ, Sl.frz_no, Sl.frz_sh, Sl.frz_ow, bindT_nm, bindT_tp, bindTs_nil, bindTs_cons, setsE_nil, setsE_cons, wipeE_nil, wipeE_cons, R.noex_ok, Fn.X_eq, Fn.F_eq, Fn.run1, Fn.run2, Fn.run3, Fn.outX_nx, Fn.outX_rt, Fn.outX_ex, Fn.outF_rt, Fn.outF_ex, on1_eq, on2_eq, index1_eq, D.pure_int, D.pure_bl, D.pure_str, D.pure_non, D.pure_tup, D.pure_lst, D.pures_nil, D.pures_cons, D.pures_app, D.pures_ints, addD_int, addD_lst, addD_tup, addI_int, subD_int, negD_int, ltD_int, leD_int, gtD_int, geD_int, max2D_int, min2D_int, lenD_lst, lenD_tup, lenD_fix, tupleD_lst, ixD_lst, ixD_tup, ixD_fix, tupD_two, tupD_three, lstD_one, lstD_two, lstD_three, lstD_nil, onInts_ints, sort1_ints, add2_eq, eqD_int, neD_int, within_int, noObj_int, noObj_bl, noObj_non, noObj_str, noObj_tup, noObj_lst, is_within_int, is_within_non, is_within_bl, is_within_str, is_within_tup, is_within_lst, dA_pure, itemsD_dA, lenD_dA, slD_tup, slD_lst, rev1_lst, S.ownD_eq, S.withD_zero, S.withD_succ, S.dput_eq, List.replicate, List.set_cons_succ, List.set_cons_zero, if_true, Bool.true_or, Bool.or_true, Bool.true_and, Bool.and_true, Bool.and_self, Bool.not_true, Bool.not_false, Bool.false_eq_true, if_false, Bool.or_false, Bool.false_or, Bool.false_and, Bool.and_false, List.length_map, List.length_nil, Nat.zero_le, List.append_nil, List.singleton_append, List.nil_append, and_self, true_and, and_true, false_and, and_false, decide_true, decide_false, tupD_nil, $as:simpLemma,*])
theorem k19_true (ns : List Int) : Mi.law_k19 [scr ns] = .ok (.bl true) := by
  have c0 : Mi.law_cell [scr ns, .int 0] = .ok (.int (cell ns 0)) := cell_eq ns 0
  obtain ⟨as, ha, o, l⟩ := asks_eq ns 1 25 (by omega)
  replace ha : Mi.law_asks [scr ns, .int 1, .int 25] = .ok (dA as) := ha
  have v : validP as = true := by unfold validP; simp [o]; omega
  have r0 := Int.emod_nonneg (cell ns 0) (show (5 : Int) ≠ 0 by omega)
  have r1 := Int.emod_lt_of_pos (cell ns 0) (show (0 : Int) < 5 by omega)
  obtain ⟨c, hc⟩ := Int.eq_ofNat_of_zero_le (show 0 ≤ 1 + cell ns 0 % 5 by omega)
  have hc1 : 1 ≤ c := by omega
  have hc5 : c ≤ 5 := by omega
  have lb := last_bound c as hc1 o (by omega)
  have ld := loads_eq c as hc1 (by omega) v (by omega)
  have ft := free_times_eq c as hc1 (by omega) v (by omega)
  have bE := begins_eq c as hc1 (by omega) v
  have yE := busy_eq c as hc1 (by omega) v
  have ok := span_ok c as o
  have mb := most_bsy (bg c as) as ok (lastOf (spans (bg c as) as)).toNat (Int.toNat_of_nonneg (lastOf_ge _).1)
  have lu := lds_units ok
  have lgs := spans_longs (bg c as) as (bg_len c as)
  have ovb : ∀ t, ((ov t (spans (bg c as) as) : Nat) : Int) ≤ c := fun t => by
    have h1 := ov_le as (List.replicate c 0) (rep_ne hc1) (okP_pos o) t
    have h2 := cnt_le t (List.replicate c (0 : Int))
    rw [List.length_replicate] at h2
    unfold bg
    omega
  have ovy := ov_le_bsy (bg c as) as
  obtain ⟨y, hy⟩ : ∃ y, y = bsy (bg c as) as := ⟨_, rfl⟩
  have y0 : 0 ≤ y := by rw [hy]; exact ((foldl_max_le (fun p : Int × Int => (ov p.1 (spans (bg c as) as) : Int)) (spans (bg c as) as) 0 (bsy (bg c as) as)).mp (Int.le_refl _)).1
  have yc : y ≤ c := by rw [hy]; exact bsy_bg c as hc1 (okP_pos o)
  rw [← hy] at mb yE ovy
  -- with less than limit at once nobody waits
  have freeB : y < c → bg c as = as.map (·.1) := fun hlt => by
    have key : ∀ (as0 pre post : Asks), as0 = pre ++ post → as0 = as → bgo (fin (List.replicate c 0) pre) post = post.map (·.1) := by
      intro as0 pre post
      induction post generalizing pre with
      | nil => intro _ _; rfl
      | cons a post ih =>
        intro e1 e2
        obtain ⟨w, l⟩ := a
        rw [bgo_cons, List.map_cons]
        have h1 := ih (pre ++ [(w, l)]) (by rw [e1, List.append_assoc]; rfl) e2
        have h2 : fin (List.replicate c 0) (pre ++ [(w, l)]) = stp (fin (List.replicate c 0) pre) w l := by
          have : ∀ (p : Asks) (es : List Int), fin es (p ++ [(w, l)]) = stp (fin es p) w l := by
            intro p
            induction p with
            | nil => intro es; rfl
            | cons b p ih => intro es; obtain ⟨w2, l2⟩ := b; exact ih _
          exact this pre _
        rw [h2] at h1
        rw [h1]
        congr 1
        by_cases q : w < max w (minL (fin (List.replicate c 0) pre))
        · have z := all_lent c hc1 pre post w l (by rw [← e1, e2]; exact o) w (Int.le_refl w) q
          rw [← e1, e2] at z
          have := ovy w
          omega
        · omega
    exact key as [] as rfl rfl
  obtain ⟨sp, hsp⟩ : ∃ sp, sp = spans (bg c as) as := ⟨_, rfl⟩
  rw [← hsp] at lb ld ft ok mb lu lgs ovb ovy
  obtain ⟨n, hn⟩ : ∃ n, n = (lastOf sp).toNat := ⟨_, rfl⟩
  have hnI : (n : Int) = lastOf sp := by rw [hn]; exact Int.toNat_of_nonneg (lastOf_ge sp).1
  have sl : sp.length = as.length := by rw [hsp]; unfold spans; rw [List.length_map, List.length_zip, bg_len, Nat.min_self]
  rw [← hn] at lu mb
  rw [lu] at ld ft
  rw [free_all _ _ ovb] at ft
  have ch := chn_units (fun t => ((ov t sp : Nat) : Int)) n
  have chB := chn_units (fun t => decide (((ov t sp : Nat) : Int) < c)) n
  have lenL := units_len (fun t => ((ov t sp : Nat) : Int)) n [] 0
  have lenB := units_len (fun t => decide (((ov t sp : Nat) : Int) < c)) n [] 0
  obtain ⟨L, hL⟩ : ∃ L, L = units (fun t => ((ov t sp : Nat) : Int)) [] 0 n := ⟨_, rfl⟩
  obtain ⟨Bs, hB⟩ : ∃ Bs, Bs = units (fun t => decide (((ov t sp : Nat) : Int) < c)) [] 0 n := ⟨_, rfl⟩
  rw [← hL] at ld mb ch lenL
  rw [← hB] at ft chB lenB
  simp at lenL lenB
  have trB : (trues Bs).length ≤ n := by
    unfold trues
    rw [List.length_map]
    exact Nat.le_trans (List.length_filter_le _ _) lenB
  have pL : D.pures (L.map (dS D.int)) = true := by rw [D.pures_all]; simp [dS]
  have dL : D.dts 7 (L.map (dS D.int)) = true := dS_dts enc_int 6 L
  have pT : D.pures ((trues Bs).map dP) = true := by rw [D.pures_all]; simp [dP]
  have dTr : D.dts 7 ((trues Bs).map dP) = true := dP_dts 6 (trues Bs)
  have LA : L.isEmpty = as.isEmpty := by
    cases as with
    | nil =>
      have : sp = [] := by rw [hsp]; rfl
      have n0 : n = 0 := by rw [hn, this]; rfl
      rw [hL, n0]; rfl
    | cons a as' =>
      have ne : sp ≠ [] := fun z => by rw [z] at sl; simp at sl
      have : 0 < lastOf sp := by
        cases hs : sp with
        | nil => exact absurd hs ne
        | cons p s =>
          have h1 := ok p (by rw [hs]; exact List.mem_cons_self)
          have h2 := (lastOf_ge sp).2 p (by rw [hs]; exact List.mem_cons_self)
          rw [← hs]; omega
      cases hL2 : L with
      | nil =>
        rw [hL2, chn] at ch
        omega
      | cons => rfl
  -- the last end
  have e5 := lcM_all (t := .tp [(.nm 6), (.nm 7)]) (vs := [6, 7]) (elt := E.bin addD (E.var 6) (E.bin ixD (E.var 7) (E.c (.int 1)))) (e := [.sh (scr ns), .sh (.int c), .sh (dA as), .sh (.lst (L.map (dS D.int))), .sh (.lst ((bg c as).map D.int)), .no, .no, .no, .no, .no, .no, .no, .no, .no, .no, .no])
    (fun p : Int × (Int × Int) => .tup [.int p.1, dAsk p.2]) (fun p => .int (p.1 + p.2.2)) ((bg c as).zip as) (fun p hp => ⟨[(6, .int p.1), (7, dAsk p.2)], by simp, by simp [dAsk], D.pure_int _⟩)
  have f5 : E.call (on1 (onInts maxI)) (E.cons (E.call okLst (Fl.add (E.call lstD (E.cons (E.c (.int 0)) E.nil)) (E.call okLst (Fl.comp (I.zip (E.cons (E.var 4) (E.cons (E.var 2) E.nil))) (.tp [(.nm 6), (.nm 7)]) [6, 7] B.yes (E.bin addD (E.var 6) (E.bin ixD (E.var 7) (E.c (.int 1)))))))) E.nil) [.sh (scr ns), .sh (.int c), .sh (dA as), .sh (.lst (L.map (dS D.int))), .sh (.lst ((bg c as).map D.int)), .no, .no, .no, .no, .no, .no, .no, .no, .no, .no, .no] = .ok (.int (lastOf sp)) := by
    have zl : ((bg c as).zip as).length = as.length := by rw [List.length_zip, bg_len, Nat.min_self]
    simp_all only [itemsD_dA, zipT_map, zl]
    rw [if_pos (by omega), e5]
    simp_all only [zl, List.length_singleton]
    rw [if_pos (by omega)]
    have e6 : D.int 0 :: (((bg c as).zip as).map fun p => D.int (p.1 + p.2.2)) = ((0 : Int) :: ((bg c as).zip as).map fun p => p.1 + p.2.2).map D.int := by simp
    simp_all only [e6, onInts_ints]
    rw [hsp]
    unfold lastOf spans
    rw [List.map_map]
    rfl
  -- more things
  have ld2 := loads_eq (c + 1) as (by omega) (by omega) v (by omega)
  have ok2 := span_ok (c + 1) as o
  rw [lds_units ok2] at ld2
  have more : lastOf (spans (bg (c + 1) as) as) ≤ lastOf sp := by
    have g := lastOf_ge sp
    have := (foldl_max_le (fun x : Int => x) ((spans (bg (c + 1) as) as).map (·.2)) 0 (lastOf sp)).mpr ⟨g.1, fun x hx => ?_⟩
    · exact this
    · obtain ⟨p, hp, e⟩ := List.mem_map.mp hx
      unfold spans at hp
      obtain ⟨q, hq, e2⟩ := List.mem_map.mp hp
      obtain ⟨i, hi, ei⟩ := List.getElem_of_mem hq
      rw [List.length_zip, bg_len, Nat.min_self] at hi
      have bl1 := bg_len (c + 1) as
      have bl2 := bg_len c as
      rw [List.getElem_zip] at ei
      have m := bg_more (d := c + 1) as hc1 (by omega) i
      rw [List.getD_eq_getElem?_getD, List.getD_eq_getElem?_getD, List.getElem?_eq_getElem (by omega), List.getElem?_eq_getElem (by omega), Option.getD_some, Option.getD_some] at m
      have i1 : i < (bg c as).length := by omega
      have i2 : i < ((bg c as).zip as).length := by rw [List.length_zip]; omega
      have s2 : ((bg c as)[i]'i1, (bg c as)[i]'i1 + (as[i]'hi).2) ∈ spans (bg c as) as := by
        unfold spans
        refine List.mem_map.mpr ⟨((bg c as)[i]'i1, as[i]'hi), ?_, rfl⟩
        rw [← List.getElem_zip (h := i2)]
        exact List.getElem_mem _
      have := g.2 _ (hsp ▸ s2)
      rw [← e, ← e2, ← ei]
      simp only [] at this ⊢
      omega
  obtain ⟨n2, hn2⟩ : ∃ n2, n2 = (lastOf (spans (bg (c + 1) as) as)).toNat := ⟨_, rfl⟩
  have ch2 := chn_units (fun t => ((ov t (spans (bg (c + 1) as) as) : Nat) : Int)) n2
  rw [← hn2] at ld2
  obtain ⟨L2, hL2⟩ : ∃ L2, L2 = units (fun t => ((ov t (spans (bg (c + 1) as) as) : Nat) : Int)) [] 0 n2 := ⟨_, rfl⟩
  rw [← hL2] at ld2 ch2
  have pL2 : D.pures (L2.map (dS D.int)) = true := by rw [D.pures_all]; simp [dS]
  have dL2 : D.dts 7 (L2.map (dS D.int)) = true := dS_dts enc_int 6 L2
  have ld2' : Mi.loads [.int ((c : Int) + 1), dA as] = .ok (L2.map (dS D.int)) := ld2
  have q1 : eqD (.lst (L.map (dS D.int))) (.lst []) = .ok (.bl as.isEmpty) := by rw [eqD_nilL dL, List.isEmpty_map, LA]
  have q3 : neD (.lst (L.map (dS D.int))) (.lst []) = .ok (.bl !as.isEmpty) := by rw [neD_nilL dL, List.isEmpty_map, LA]
  have q2 : eqD (dA as) (.tup []) = .ok (.bl as.isEmpty) := by unfold dA; rw [eqD_nilT (dA_dts as 6), List.isEmpty_map]
  have q2n : neD (dA as) (.tup []) = .ok (.bl !as.isEmpty) := by unfold dA; rw [neD_nilT (dA_dts as 6), List.isEmpty_map]
  have t6 : ∀ s6 s7 s8 s9 s10 s11 s12 s13 s14 s15, B.or (B.val (E.bin neD (E.bin eqD (E.var 3) (E.call lstD E.nil)) (E.bin eqD (E.var 2) (E.call tupD E.nil)))) (B.and (B.val (E.bin neD (E.var 3) (E.call lstD E.nil))) (B.or (B.val (E.bin neD (E.bin ixD (E.bin ixD (E.var 3) (E.c (.int 0))) (E.c (.int 0))) (E.c (.int 0)))) (B.val (E.bin neD (E.bin ixD (E.bin ixD (E.var 3) (E.un negD (E.c (.int 1)))) (E.c (.int 1))) (E.var 5))))) [.sh (scr ns), .sh (.int c), .sh (dA as), .sh (.lst (L.map (dS D.int))), .sh (.lst ((bg c as).map D.int)), .sh (.int (lastOf sp)), s6, s7, s8, s9, s10, s11, s12, s13, s14, s15] = .ok false := by
    intro s6 s7 s8 s9 s10 s11 s12 s13 s14 s15
    by_cases ea : as.isEmpty = true
    · simp_all only [q1, q2, q3, neD_bl, bne_self_eq_false, ea]
    · have ne : L ≠ [] := fun z => by rw [z] at LA; exact ea LA.symm
      obtain ⟨p, L', e1⟩ := List.exists_cons_of_ne_nil ne
      obtain ⟨T, q, e2⟩ : ∃ T q, L = T ++ [q] := ⟨L.dropLast, L.getLast ne, (List.dropLast_concat_getLast ne).symm⟩
      have g1 : p.1 = 0 := by have := ch; rw [e1, chn] at this; exact this.1
      have g2 : q.2.1 = n := chn_last ch T q e2
      have i1 : ixD (.lst (L.map (dS D.int))) (.int 0) = .ok (dS D.int p) := by rw [e1, ixD_lst, List.map_cons, atI_zero]; rfl
      have i2 : ixD (.lst (L.map (dS D.int))) (.int (-1)) = .ok (dS D.int q) := by rw [e2]; exact last_ix T q
      simp_all only [q1, q2, q3, neD_bl, bne_self_eq_false, ea, i1, i2, dS_lo, dS_mid, g1, g2, hnI, decide_true]
  obtain ⟨e7, l7, s7, s8, h7⟩ := loop_inv (t := .tp [(.nm 7), (.nm 8)]) (b := Mi.l1_law_k19) (fun q : (Int × Int × Int) × (Int × Int × Int) => .tup [dS D.int q.1, dS D.int q.2]) (fun e => ∃ s7 s8, e = [.sh (scr ns), .sh (.int c), .sh (dA as), .sh (.lst (L.map (dS D.int))), .sh (.lst ((bg c as).map D.int)), .sh (.int (lastOf sp)), .no, s7, s8, .no, .no, .no, .no, .no, .no, .no]) (L.zip (L.drop 1)) [.sh (scr ns), .sh (.int c), .sh (dA as), .sh (.lst (L.map (dS D.int))), .sh (.lst ((bg c as).map D.int)), .sh (.int (lastOf sp)), .no, .no, .no, .no, .no, .no, .no, .no, .no, .no] ⟨_, _, rfl⟩ (fun q hq e ⟨s7, s8, he⟩ => by
    subst he
    obtain ⟨h1, h2, h3⟩ := chn_adj ch q hq
    refine ⟨_, _, bindT_two 7 8 _ _, ?_, .sh (dS D.int q.1), .sh (dS D.int q.2), rfl⟩
    have h3' : ¬ q.1.2.1 ≤ q.1.1 := by omega
    unfold Mi.l1_law_k19
    simp_all only [dS_lo, dS_mid, dS_hi, h1, h2, h3', decide_true, decide_false]
    have h3'' : ¬ q.2.1 ≤ q.1.1 := by omega
    simp_all only [h3'', decide_false])
  have e8 := lcM_all (t := .tp [(.nm 9), (.nm 10), (.nm 11)]) (vs := [9, 10, 11]) (elt := E.bin mulD (E.bin subD (E.var 10) (E.var 9)) (E.var 11)) (e := [.sh (scr ns), .sh (.int c), .sh (dA as), .sh (.lst (L.map (dS D.int))), .sh (.lst ((bg c as).map D.int)), .sh (.int (lastOf sp)), .no, s7, s8, .no, .no, .no, .no, .no, .no, .no]) (dS D.int) (fun p => .int ((p.2.1 - p.1) * p.2.2)) L (fun p hp => ⟨[(9, .int p.1), (10, .int p.2.1), (11, .int p.2.2)], by simp [dS], by
    have m := chn_mem ch p hp
    have m2 := m.2.2.2 p.1 (Int.le_refl _) m.2.1
    have m3 := ovb p.1
    simp_all only [mulD_int (p.2.1 - p.1) p.2.2 (by omega)], D.pure_int _⟩)
  have e8b := lcM_all (t := .nm 7) (vs := [7]) (elt := E.bin ixD (E.var 7) (E.c (.int 1))) (e := [.sh (scr ns), .sh (.int c), .sh (dA as), .sh (.lst (L.map (dS D.int))), .sh (.lst ((bg c as).map D.int)), .sh (.int (lastOf sp)), .no, s7, s8, .no, .no, .no, .no, .no, .no, .no]) dAsk (fun a => .int a.2) as (fun a _ => ⟨[(7, dAsk a)], bindT_nm _ _, by simp [dAsk], D.pure_int _⟩)
  have f8 : E.call (on1 (onInts sumI)) (E.cons (E.call okLst (Fl.comp (I.items (E.var 3)) (.tp [(.nm 9), (.nm 10), (.nm 11)]) [9, 10, 11] B.yes (E.bin mulD (E.bin subD (E.var 10) (E.var 9)) (E.var 11)))) E.nil) [.sh (scr ns), .sh (.int c), .sh (dA as), .sh (.lst (L.map (dS D.int))), .sh (.lst ((bg c as).map D.int)), .sh (.int (lastOf sp)), .no, s7, s8, .no, .no, .no, .no, .no, .no, .no] = .ok (.int (L.map fun p => (p.2.1 - p.1) * p.2.2).sum) := by
    simp_all only []
    rw [if_pos (by omega), e8]
    have : (L.map fun p => D.int ((p.2.1 - p.1) * p.2.2)) = (L.map fun p => (p.2.1 - p.1) * p.2.2).map D.int := by rw [List.map_map]; rfl
    simp_all only [this, onInts_ints]
    rfl
  have f8b : E.call (on1 (onInts sumI)) (E.cons (E.call okLst (Fl.comp (I.items (E.var 2)) (.nm 7) [7] B.yes (E.bin ixD (E.var 7) (E.c (.int 1))))) E.nil) [.sh (scr ns), .sh (.int c), .sh (dA as), .sh (.lst (L.map (dS D.int))), .sh (.lst ((bg c as).map D.int)), .sh (.int (lastOf sp)), .no, s7, s8, .no, .no, .no, .no, .no, .no, .no] = .ok (.int (as.map (·.2)).sum) := by
    simp_all only [itemsD_dA]
    rw [if_pos (by omega), e8b]
    have : (as.map fun a => D.int a.2) = (as.map (·.2)).map D.int := by rw [List.map_map]; rfl
    simp_all only [this, onInts_ints]
    rfl
  have sums : (L.map fun p => (p.2.1 - p.1) * p.2.2).sum = (as.map (·.2)).sum := by
    rw [chn_sum ch, show ((n : Int) - 0).toNat = n by omega, sumT_ov n sp (fun p hp => by
      have h1 := ok p hp
      have h2 := (lastOf_ge sp).2 p hp
      omega), lgs]
  have e9 := lcM_all (t := .tp [(.nm 9), (.nm 10), (.nm 11)]) (vs := [9, 10, 11]) (elt := E.var 11) (e := [.sh (scr ns), .sh (.int c), .sh (dA as), .sh (.lst (L.map (dS D.int))), .sh (.lst ((bg c as).map D.int)), .sh (.int (lastOf sp)), .no, s7, s8, .no, .no, .no, .no, .no, .no, .no]) (dS D.int) (fun p => .int p.2.2) L (fun p hp => ⟨[(9, .int p.1), (10, .int p.2.1), (11, .int p.2.2)], by simp [dS], by simp_all only [], D.pure_int _⟩)
  have f9 : E.call (on1 (onInts maxI)) (E.cons (E.call okLst (Fl.add (E.call lstD (E.cons (E.c (.int 0)) E.nil)) (E.call okLst (Fl.comp (I.items (E.var 3)) (.tp [(.nm 9), (.nm 10), (.nm 11)]) [9, 10, 11] B.yes (E.var 11))))) E.nil) [.sh (scr ns), .sh (.int c), .sh (dA as), .sh (.lst (L.map (dS D.int))), .sh (.lst ((bg c as).map D.int)), .sh (.int (lastOf sp)), .no, s7, s8, .no, .no, .no, .no, .no, .no, .no] = .ok (.int y) := by
    simp_all only []
    rw [if_pos (by omega), e9]
    simp_all only [List.length_singleton]
    rw [if_pos (by omega)]
    have e6 : D.int 0 :: (L.map fun p => D.int p.2.2) = ((0 : Int) :: L.map (·.2.2)).map D.int := by simp
    simp_all only [e6, onInts_ints]
    rw [← mb]
    rfl
  obtain ⟨e11, l11, s6, s7', s9, s10, h11⟩ := loop_inv (t := .tp [(.nm 6), (.nm 7)]) (b := Mi.l3_law_k19) (fun p : Int × (Int × Int) => .tup [.int p.1, dAsk p.2]) (fun e => ∃ s6 s7 s9 s10, e = [.sh (scr ns), .sh (.int c), .sh (dA as), .sh (.lst (L.map (dS D.int))), .sh (.lst ((bg c as).map D.int)), .sh (.int (lastOf sp)), s6, s7, s8, s9, s10, .no, .sh (.lst ((trues Bs).map dP)), .no, .no, .no]) ((bg c as).zip as) [.sh (scr ns), .sh (.int c), .sh (dA as), .sh (.lst (L.map (dS D.int))), .sh (.lst ((bg c as).map D.int)), .sh (.int (lastOf sp)), .no, s7, s8, .no, .no, .no, .sh (.lst ((trues Bs).map dP)), .no, .no, .no] ⟨_, _, _, _, rfl⟩ (fun p hp e ⟨s6, s7, s9, s10, he⟩ => by
    subst he
    obtain ⟨pre, w, l, post, d1, d2⟩ := zip_split as _ p hp
    obtain ⟨e2, l2, s9', s10', h2⟩ := loop_inv (t := .tp [(.nm 9), (.nm 10)]) (b := Mi.l2_law_k19) dP (fun e => ∃ s9 s10, e = [.sh (scr ns), .sh (.int c), .sh (dA as), .sh (.lst (L.map (dS D.int))), .sh (.lst ((bg c as).map D.int)), .sh (.int (lastOf sp)), .sh (.int p.1), .sh (dAsk p.2), s8, s9, s10, .no, .sh (.lst ((trues Bs).map dP)), .no, .no, .no]) (trues Bs) [.sh (scr ns), .sh (.int c), .sh (dA as), .sh (.lst (L.map (dS D.int))), .sh (.lst ((bg c as).map D.int)), .sh (.int (lastOf sp)), .sh (.int p.1), .sh (dAsk p.2), s8, s9, s10, .no, .sh (.lst ((trues Bs).map dP)), .no, .no, .no] ⟨_, _, rfl⟩ (fun q hq e ⟨s9, s10, he⟩ => by
      subst he
      refine ⟨_, _, bindT_dP 9 10 q.1 q.2, ?_, .sh (.int q.1), .sh (.int q.2), rfl⟩
      have m := chn_mem chB _ (trues_mem hq)
      simp only [] at m
      have no : ¬ (p.2.1 < p.1 ∧ q.1 < p.1 ∧ p.2.1 < q.2) := fun ⟨g1, g2, g3⟩ => by
        rw [d2] at g1 g2 g3
        simp only [] at g1 g2 g3
        have z := all_lent c hc1 pre post w l (by rw [← d1]; exact o) (max w q.1) (by omega) (by omega)
        rw [← d1, ← hsp] at z
        have z2 := m.2.2.2 (max w q.1) (by omega) (by omega)
        simp at z2
        omega
      have ixA : ixD (dAsk p.2) (.int 0) = .ok (.int p.2.1) := by simp [dAsk]
      unfold Mi.l2_law_k19
      by_cases g1 : p.2.1 < p.1
      · by_cases g2 : q.1 < p.1
        · have g3 : ¬ p.2.1 < q.2 := fun g3 => no ⟨g1, g2, g3⟩
          simp_all only [ixA, g1, g2, g3, decide_true, decide_false]
        · simp_all only [ixA, g1, g2, decide_true, decide_false]
      · simp_all only [ixA, g1, decide_false])
    refine ⟨_, _, bindT_two 6 7 _ _, ?_, _, _, _, _, h2⟩
    unfold Mi.l3_law_k19
    simp_all only []
    rw [l2]
    rfl)
  have few : y < c → Mi.loads [.int (max 1 y), dA as] = .ok (L.map (dS D.int)) ∧ Mi.begins [.int (max 1 y), dA as] = .ok ((bg c as).map D.int) := fun hlt => by
    obtain ⟨d, hd⟩ := Int.eq_ofNat_of_zero_le (show 0 ≤ max 1 y by omega)
    have b1 := freeB hlt
    have b2 : bg d as = as.map (·.1) := bg_free d as (by omega) o (by rw [← b1, ← hy]; omega)
    have g1 := loads_eq d as (by omega) (by omega) v (by omega)
    have g2 := begins_eq d as (by omega) (by omega) v
    rw [hd]
    rw [b2, ← b1] at g1 g2
    rw [← hsp, lu] at g1
    exact ⟨by rw [hL]; exact g1, g2⟩
  have all : as.isEmpty = false → y < c → trues Bs = [(0, (n : Int))] := fun ne hlt => by
    have n1 : 0 < n := by
      cases h0 : n with
      | zero =>
        rw [hL, h0] at LA
        rw [ne] at LA
        cases LA
      | succ => omega
    obtain ⟨m, hm⟩ : ∃ m, n = m + 1 := ⟨n - 1, by omega⟩
    have := units_const (fun t => decide (((ov t sp : Nat) : Int) < c)) true m [] 0 (fun t _ _ => by
      have := ovy t
      simp
      omega)
    rw [hB, hm, this, push_nil]
    unfold trues
    simp
  have ret : (E.orV (E.bin eqD (E.var 15) (E.call lstD E.nil)) (E.bin leD (E.bin ixD (E.bin ixD (E.var 15) (E.un negD (E.c (.int 1)))) (E.c (.int 1))) (E.var 5))) [.sh (scr ns), .sh (.int c), .sh (dA as), .sh (.lst (L.map (dS D.int))), .sh (.lst ((bg c as).map D.int)), .sh (.int (lastOf sp)), s6, s7', s8, s9, s10, .no, .sh (.lst ((trues Bs).map dP)), .sh (.int y), .sh (.int (max 1 y)), .sh (.lst (L2.map (dS D.int)))] = .ok (.bl true) := by
    have q5 : eqD (.lst (L2.map (dS D.int))) (.lst []) = .ok (.bl L2.isEmpty) := by rw [eqD_nilL dL2, List.isEmpty_map]
    by_cases el : L2 = []
    · have q6 : L2.isEmpty = true := by rw [el]; rfl
      simp_all only [q5, q6]
    · obtain ⟨T, q, e2⟩ : ∃ T q, L2 = T ++ [q] := ⟨L2.dropLast, L2.getLast el, (List.dropLast_concat_getLast el).symm⟩
      have g2 : q.2.1 = n2 := chn_last ch2 T q e2
      have i2 : ixD (.lst (L2.map (dS D.int))) (.int (-1)) = .ok (dS D.int q) := by rw [e2]; exact last_ix T q
      have el' : L2.isEmpty = false := by
        cases h : L2 with
        | nil => exact absurd h el
        | cons => rfl
      have g3 : (n2 : Int) ≤ lastOf sp := by
        rw [hn2, Int.toNat_of_nonneg (lastOf_ge _).1]
        exact more
      simp_all only [q5, el', i2, dS_mid, g2, g3, decide_true]
  unfold Mi.law_k19 Mi.b_law_k19
  refine (fn1 (o := .rt (.bl true)) ?_).trans rfl
  simp only [List.replicate]
  refine (seq_step (by simp_all only [c0, modD_int _ 5 (show (0 : Int) < 5 by omega), hc] <;> rfl)).trans ?_
  refine (seq_step (by simp_all only [ha, dA_pure] <;> rfl)).trans ?_
  refine (seq_step (by simp_all only [ld, pL] <;> rfl)).trans ?_
  refine (seq_step (by simp_all only [bE, D.pures_ints] <;> rfl)).trans ?_
  refine (seq_step (by rw [S.set_eq, Z.px_eq, f5]; simp_all only [] <;> rfl)).trans ?_
  refine (seq_step (by rw [S.ite_eq, t6]; simp_all only [] <;> rfl)).trans ?_
  refine (seq_step (by
    have hz : I.zip (E.cons (Z.var 3) (E.cons (Z.pf (Fl.slice (E.var 3) (E.part (E.c (.int 1))) E.none)) E.nil)) [.sh (scr ns), .sh (.int c), .sh (dA as), .sh (.lst (L.map (dS D.int))), .sh (.lst ((bg c as).map D.int)), .sh (.int (lastOf sp)), .no, .no, .no, .no, .no, .no, .no, .no, .no, .no] = .ok ((L.zip (L.drop 1)).map fun q => .tup [dS D.int q.1, dS D.int q.2]) := by
      have cd : cutD (L.map (dS D.int)) (some 1) none = (L.drop 1).map (dS D.int) := by
        have := cut_drop (L.map (dS D.int)) 1
        rw [List.map_drop]
        exact this
      have pd : D.pures ((L.drop 1).map (dS D.int)) = true := by
        rw [D.pures_all, List.all_eq_true]
        intro x hx
        obtain ⟨p, _, e⟩ := List.mem_map.mp hx
        rw [← e]
        simp [dS]
      simp_all only [cut_lst, cd, pd, zipT_map]
    rw [S.loop_eq, hz, R.out_ok]
    exact l7)).trans ?_
  rw [h7]
  refine (seq_step (by rw [S.ite_eq, B.val_eq, E.bin_eq, f8, f8b]; simp_all only [sums, decide_true] <;> rfl)).trans ?_
  refine (seq_step (by rw [S.ite_eq, B.val_eq, E.bin_eq, f9]; simp_all only [yE, decide_true] <;> rfl)).trans ?_
  refine (seq_step (by simp_all only [ft, pT] <;> rfl)).trans ?_
  refine (seq_step (by
    have hz : I.zip (E.cons (Z.var 4) (E.cons (Z.var 2) E.nil)) [.sh (scr ns), .sh (.int c), .sh (dA as), .sh (.lst (L.map (dS D.int))), .sh (.lst ((bg c as).map D.int)), .sh (.int (lastOf sp)), .no, s7, s8, .no, .no, .no, .sh (.lst ((trues Bs).map dP)), .no, .no, .no] = .ok (((bg c as).zip as).map fun p => .tup [.int p.1, dAsk p.2]) := by
      simp_all only [itemsD_dA, zipT_map]
    rw [S.loop_eq, hz, R.out_ok]
    exact l11)).trans ?_
  rw [h11]
  refine (seq_step (by simp_all only [yE] <;> rfl)).trans ?_
  refine (seq_step (by simp_all only [] <;> rfl)).trans ?_
  refine (seq_step (by
    by_cases hlt : y < c
    · obtain ⟨g1, g2⟩ := few hlt
      have dd : D.dt 8 (.tup [.lst (L.map (dS D.int)), .lst ((bg c as).map D.int)]) = true := by
        simp [D.dt, D.dts, dts_ints, dS_dts enc_int]
      simp_all only [hlt, decide_true, g1, g2, neD_self dd] <;> rfl
    · simp_all only [hlt, decide_false] <;> rfl)).trans ?_
  refine (seq_step (by
    by_cases ea : as.isEmpty = true
    · simp_all only [q2n, ea] <;> rfl
    · by_cases hlt : y < c
      · have ea' : as.isEmpty = false := by simpa using ea
        have g := all ea' hlt
        have g2 : (D.lst ((trues Bs).map dP)) = .lst [.tup [.int 0, .int (lastOf sp)]] := by rw [g, ← hnI]; rfl
        have dd : D.dt 8 (.lst [.tup [.int 0, .int (lastOf sp)]]) = true := by simp [D.dt, D.dts]
        simp_all only [q2n, ea', hlt, decide_true, g2, neD_self dd] <;> rfl
      · simp_all only [q2n, ea, hlt, decide_false] <;> rfl)).trans ?_
  refine (seq_step (by simp_all only [ld2', pL2] <;> rfl)).trans ?_
  exact seq_end (by rw [S.ret_eq, ret]; rfl) (fun _ h => nomatch h)
end Lp
theorem Mi.law_k19_true (ns : List Int) (h : ns.length ≤ 63) : Mi.law_k19 [.fix (ns.map Lp.D.int)] = .ok (.bl true) := Lp.k19_true ns

/-! # The pure layer, part 18: sets of ints, sorted -/
namespace Lp
open PySem L2 PySem.Spec PyProof.Rows
/-- the set that a call of set begins with -/
abbrev eSet (w : World) : Obj := ⟨.type "set", none, .set #[] 0 (.fresh 0 0 (!w.params.followText "set-order")), #[]⟩
section
variable {P : Program} {w : World} {A : Around} {E : Value → Shared → Prop} {s : Shared}
set_option maxHeartbeats 3200000 in
/-- set(l) of a list of ints (as HandS.SetFor has it of a tuple) -/
theorem set_of_list {l : Addr} {items : Array Value} (ns : List Int) {Q : Value → Shared → Prop} (hh : A.handled = none) (hl : s.heap.IsList l items) (hit : IntsAre items.toList ns) (hb : ns.length + 1 < scanBound)
    (h : ∀ (h' : Heap) (tk c : Nat), SetR w h' s.heap.objs.size (fun j => decide (j ∈ ns)) c → c ≤ ns.length → (∀ b o, s.heap.get? b = some o → h'.get? b = some o) → Q (.ref s.heap.objs.size) { s with heap := h', toks := tk }) :
    wpAny (model P w) A (call (.type "set") [.ref l]) Q E s := by
  have len : items.size = ns.length := (Array.length_toList (xs := items)).symm.trans (IntsAre.length hit)
  obtain ⟨c, tl, hmro⟩ := F.called_set.mro
  have q1 := F.called_set.made
  have q2 := F.called_set.sub
  refine wpAny_call (codeAny_of_tree (show wpAny _ _ (callAny (.type "set") _) _ _ _ from wpAny_pure ⟨Code.quiet_builtin _ (by decide +kernel), codeAny_builtin F.entry_type_call ?_⟩))
  rw [Around.under_plain (weight_type_call_type "set" [.ref l] []) rfl]
  have q3 := F.called_set.notType
  have q4 := F.called_set.canCreate
  have q5 := F.typeCall_set_1 (.ref l)
  repeat (any_goals (first | assumption | wp_step))
  refine codeAny_mono (code_set_led1 (.ref l) (E := E) (Q₁ := fun ob t => ob = .ref s.heap.objs.size ∧ t = { s with heap := s.heap.push (eSet w) }) ⟨rfl, rfl⟩) fun r t hr => ?_
  cases r with
  | error e => exact hr
  | ok fl =>
    cases fl with
    | ret ob =>
      obtain ⟨rfl, rfl⟩ := hr
      have gS : (s.heap.push (eSet w)).get? s.heap.objs.size = some (eSet w) := Heap.get?_push_size _ rfl
      have tS : Shared.TypeIs { s with heap := s.heap.push (eSet w) } (.ref s.heap.objs.size) "set" := ⟨_, gS, rfl⟩
      have i1 := F.called_set.init.lookup
      have i2 := F.called_set.init.bind (.ref s.heap.objs.size)
      repeat (any_goals (first | assumption | wp_step))
      refine codeAny_mono (codeAny_call_builtin (R := wants (fun r t2 => r = .none ∧ ∃ h' tk c, t2 = { s with heap := h', toks := tk } ∧ SetR w h' s.heap.objs.size (fun j => decide (j ∈ ns)) c ∧ c ≤ ns.length ∧ (∀ b o, s.heap.get? b = some o → h'.get? b = some o)) E) F.called_set.init.plain F.entry_set_init (check_set_init_1 tS ?_)) fun r2 t2 hr2 => ?_
      · obtain ⟨ol, hol, hcl, nl, hdl⟩ := hl
        obtain ⟨ocls, odict, odata, oslots⟩ := ol
        simp only at hcl hdl
        subst hcl
        subst hdl
        have gL : (s.heap.push (eSet w)).get? l = some ⟨.type "list", odict, .seq items nl, oslots⟩ := Heap.get?_push_of_some _ hol
        have k1 := F.sub_list_set
        have k2 := F.sub_list_frozenset
        have k3 : (Value.type "list" == Value.type "dict") = false := by decide
        have isL : (s.heap.push (eSet w)).IsList l items := ⟨_, gL, rfl, nl, rfl⟩
        unfold Builtin.«set.__init__» noKeywords Builtin.Frozenset.updateFrom
        generalize hI : pyIter = PI
        wp_walk
        subst hI
        refine wpAny_pyIter_list isL (wpAny_bind (wpAny_runValue ?_))
        have lS : l < s.heap.objs.size := Heap.lt_size hol
        have sz : (s.heap.push (eSet w)).objs.size = s.heap.objs.size + 1 := Heap.size_push ..
        have n1 : l ≠ (s.heap.push (eSet w)).objs.size := by rw [sz]; exact Nat.ne_of_lt (Nat.lt_succ_of_lt lS)
        have n2 : s.heap.objs.size ∉ [(s.heap.push (eSet w)).objs.size, l] := by
          rw [sz]
          simp only [List.mem_cons, List.not_mem_nil, or_false, not_or]
          exact ⟨Nat.ne_of_lt (Nat.lt_succ_self _), Nat.ne_of_gt lS⟩
        have vals : ∀ (i : Nat) (v : Value), items[i]? = some v → ∃ k t, ns[i]? = some k ∧ v = .int k t := fun i v hv => by
          have hi : i < ns.length := by rw [← len]; exact (Array.getElem?_eq_some_iff.mp hv).1
          obtain ⟨t, e⟩ := IntsAre.int_at hit i v (by rw [Array.getElem?_toList]; exact hv)
          exact ⟨ns[i], t, List.getElem?_eq_getElem hi, by rw [e, List.getD_eq_getElem?_getD, List.getElem?_eq_getElem hi]; rfl⟩
        refine set_update_ints ((Walks.list (by simp [hh]) _ l n1 items).toS) s.heap.objs.size n2 ns len hb vals (items.size - 0) 0 _ (by omega) (Nat.zero_le _) ⟨⟨_, Heap.get?_push_size _ rfl, rfl, rfl⟩, isL.push _⟩ ⟨0, Nat.le_refl 0, setR_new_at (Heap.get?_push_of_some _ gS)⟩ ?_
        rintro ⟨h', g2, d', tk', os'⟩ c' hm hc' hS'
        have eg : g2 = s.gens := hm.gens
        have ed : d' = s.drawn := hm.drawn
        have eo : os' = s.os := hm.os
        subst eg ed eo
        refine wpAny_pure ?_
        show wpAny _ _ (ret Value.none) _ _ _
        refine wpAny_pure ⟨rfl, h', tk', c', rfl, hS', by rw [← len]; exact hc', fun b o e => ?_⟩
        have b0 : b < s.heap.objs.size := Heap.lt_size e
        refine hm.heap b o ?_ (Heap.get?_push_of_some _ (Heap.get?_push_of_some _ e))
        simp only [List.mem_cons, List.not_mem_nil, or_false, not_or]
        exact ⟨Nat.ne_of_lt b0, by rw [sz]; exact Nat.ne_of_lt (Nat.lt_succ_of_lt b0)⟩
      · cases r2 with
        | error e => exact hr2
        | ok fl2 =>
          cases fl2 with
          | ret r =>
            obtain ⟨rfl, h', tk, c', rfl, hS', hc', hk'⟩ := hr2
            repeat (any_goals (first | assumption | wp_step))
            exact h _ _ _ hS' hc' hk'
          | _ => exact hr2.elim
    | _ => exact hr.elim
end
/-- set(l), l a list of ints -/
def rSetI (K : PySem.W.Frag) (w : World) : List V → Hp → VK → Prop := fun xs H Q => ∃ (l : Addr) (ns : List Int), xs = [.ref l] ∧ SqL K H l (ns.map V.int) ∧ ns.length ≤ 1000 ∧ ∀ (p : Addr) (c : Nat), H p = none → c ≤ ns.length → Q (.ref p) (upd H p (SetO w p (fun j => decide (j ∈ ns)) c))
theorem cr_setI {X : Cx} (hc : X.calm = true) : CallR X (.type "set") (rSetI X.K X.w) := by
  intro pins s σ H xs us Q I r h
  obtain ⟨l, ns, rfl, hs, hl, q⟩ := h
  rw [Vals.ref1 r]
  obtain ⟨its, rv, pl, hz⟩ := I.list hs
  refine set_of_list ns (I.ok.hd hc) pl.isList (by simpa using ints_of_vals rv) (by unfold scanBound; omega) fun h' tk c R hcl k => ?_
  have hn : H s.heap.objs.size = none := I.hok.fresh (Nat.le_refl _)
  exact ⟨.ref s.heap.objs.size, _, I.laid (t' := tk) k (Nat.le_refl _) (setO_new R), rfl, q _ c hn hcl⟩
/-! sorted(set(l)) -/
def addS (ks : List Int) (b : Int) : List Int := if b ∈ ks then ks else ks ++ [b]
def sset (ns : List Int) : List Int := (ns.foldl addS []).mergeSort fun a b => decide (a ≤ b)
namespace Fl
def sortSet1 : List D → R (List D)
  | [.lst ds] => (R.of (asInts ds)).bind fun ns => if ns.length < 64 then .ok ((sset ns).map D.int) else .no
  | _ => .no
def sortSet (f : En → R (List D)) : En → R (List D) := fun e => (f e).bind sortSet1
end Fl
theorem lt_unique : ∀ {xs ys : List Int}, xs.Pairwise (· < ·) → ys.Pairwise (· < ·) → (∀ k, k ∈ xs ↔ k ∈ ys) → xs = ys
  | [], [], _, _, _ => rfl
  | [], y :: ys, _, _, h => absurd ((h y).mpr List.mem_cons_self) (by simp)
  | x :: xs, [], _, _, h => absurd ((h x).mp List.mem_cons_self) (by simp)
  | x :: xs, y :: ys, hx, hy, h => by
    rw [List.pairwise_cons] at hx hy
    have e : x = y := by
      rcases List.mem_cons.mp ((h x).mp List.mem_cons_self) with z | z
      · exact z
      · rcases List.mem_cons.mp ((h y).mpr List.mem_cons_self) with z2 | z2
        · exact z2.symm
        · have := hy.1 x z; have := hx.1 y z2; omega
    subst e
    rw [lt_unique hx.2 hy.2 fun k => ?_]
    constructor
    · intro hk
      rcases List.mem_cons.mp ((h k).mp (List.mem_cons_of_mem _ hk)) with z | z
      · have := hx.1 k hk; omega
      · exact z
    · intro hk
      rcases List.mem_cons.mp ((h k).mpr (List.mem_cons_of_mem _ hk)) with z | z
      · have := hy.1 k hk; omega
      · exact z
theorem addS_nodup {ks : List Int} (h : ks.Nodup) (b : Int) : (addS ks b).Nodup := by
  unfold addS
  by_cases c : b ∈ ks
  · rw [if_pos c]; exact h
  · rw [if_neg c, List.nodup_append]
    exact ⟨h, by simp, fun a ha b' hb => by rw [List.mem_singleton.mp hb]; exact fun z => c (z ▸ ha)⟩
theorem addS_mem {ks : List Int} {b x : Int} : x ∈ addS ks b ↔ x ∈ ks ∨ x = b := by
  unfold addS
  by_cases c : b ∈ ks
  · rw [if_pos c]
    exact ⟨.inl, fun h => h.elim id fun z => z ▸ c⟩
  · rw [if_neg c, List.mem_append, List.mem_singleton]
theorem adds_nodup : ∀ (ns : List Int) {ks : List Int}, ks.Nodup → (ns.foldl addS ks).Nodup
  | [], _, h => h
  | n :: ns, ks, h => adds_nodup ns (addS_nodup h n)
theorem adds_mem : ∀ (ns : List Int) {ks : List Int} {x : Int}, x ∈ ns.foldl addS ks ↔ x ∈ ks ∨ x ∈ ns
  | [], ks, x => by simp
  | n :: ns, ks, x => by
    rw [List.foldl_cons, adds_mem ns, addS_mem, List.mem_cons]
    constructor
    · rintro ((h | h) | h)
      · exact .inl h
      · exact .inr (.inl h)
      · exact .inr (.inr h)
    · rintro (h | h | h)
      · exact .inl (.inl h)
      · exact .inl (.inr h)
      · exact .inr h
theorem sset_mem {ns : List Int} {x : Int} : x ∈ sset ns ↔ x ∈ ns := by
  unfold sset
  rw [List.mem_mergeSort, adds_mem]
  simp
theorem sset_lt (ns : List Int) : (sset ns).Pairwise (· < ·) := by
  have hs := List.pairwise_mergeSort (le := fun a b : Int => decide (a ≤ b)) (fun a b c h1 h2 => by simp at *; omega) (fun a b => by simp; omega) (ns.foldl addS [])
  have hn : (sset ns).Nodup := (List.mergeSort_perm (ns.foldl addS []) _).nodup_iff.mpr (adds_nodup ns (by simp))
  have : (sset ns).Pairwise (fun a b => a ≤ b ∧ a ≠ b) := by
    rw [List.pairwise_and_iff]
    exact ⟨hs.imp fun h => by simpa using h, hn⟩
  exact this.imp fun h => by omega
section
variable {X : Cx} {W : WX} {a : Expr} {p p2 q pos : Pos} {fs : En → R (List D)}
theorem pf_sortSet (hc : X.calm = true) (g1 : Gl X "sorted") (m1 : X.mg "sorted" = none) (g2 : Gl X "set") (m2 : X.mg "set" = none) (ha : PXs X W [a] fs) (he : starEach [a] X.env = (false, eval a X.env) :: starEach [] X.env := by rfl) (hpl : (backTo q (starEach [] X.env)).any (·.1) = false := by rfl)
    (he2 : starEach [.Call (.Name "set" p2) [a] [] q] X.env = (false, eval (.Call (.Name "set" p2) [a] [] q) X.env) :: starEach [] X.env := by rfl) (hpl2 : (backTo pos (starEach [] X.env)).any (·.1) = false := by rfl) :
    PF X W (.Call (.Name "sorted" p) [.Call (.Name "set" p2) [a] [] q] [] pos) (Fl.sortSet fs) :=
  convE (pe_callB (cr_sortedSet hc) g1 m1 (by decide +kernel) (pa_cons (pe_callTy (cr_setI hc) g2 m2 (by decide +kernel) ha (by decide) (by decide) he hpl) pa_nil he2) (by decide) (by decide) he2 hpl2) fun σ H Q h =>
  Rg.seq (k := fun ds _ => Fl.sortSet1 ds) h fun ds vs H1 s1 r1 h1 => by
    match ds, r1, h1 with
    | [d], r1, h1 =>
      obtain ⟨v, e, rv⟩ := r1.one_
      cases d with
      | lst es =>
        obtain ⟨l, us, eu, _, hH, rr⟩ := rv.lst
        cases q : asInts es with
        | none => exact (h1.no fun _ => show (R.of (asInts es)).bind _ = .no by rw [q]; rfl).elim
        | some ns =>
          have ed := asInts_eq q
          rw [ed] at rr
          rw [rr.ints] at hH
          by_cases g : ns.length < 64
          · refine ⟨l, ns, by rw [e, eu], SqL.of hH, by omega, fun t c ht hcl => ?_⟩
            refine ⟨t, fun j => decide (j ∈ ns), c, rfl, upd_same, by omega, fun ys r hs hm hlen hr => ?_⟩
            have en : ys = sset ns := lt_unique hs (sset_lt ns) fun k => by rw [hm k, sset_mem]; simp
            rw [en]
            have nr : H1 r = none := (same_new ht).free hr
            have sm : Same H1 (upd (upd H1 t (SetO X.w t (fun j => decide (j ∈ ns)) c)) r (.lst ((sset ns).map V.int))) := (same_new ht).trans (same_new hr)
            exact h1.get (fun _ => show (R.of (asInts es)).bind _ = _ by rw [q]; exact if_pos g) sm ⟨r, _, rfl, nr, upd_same, Reps.of_ints⟩
          · exact (h1.no fun _ => show (R.of (asInts es)).bind _ = .no by rw [q]; exact if_neg g).elim
      | _ => exact (h1.no fun _ => rfl).elim
    | [], _, h1 => exact (h1.no fun _ => rfl).elim
    | x :: y :: z, r1, h1 => exact (h1.no fun _ => by cases x <;> rfl).elim
end
end Lp

/-! # The pure layer, part 19: rows of ints sorted, the least pair, list(range(n)) -/
namespace Lp
open PySem L2 PySem.Spec PyProof.Rows

/-! ### rows of ints -/
def asRow : D → Option (List Int)
  | .tup ds => asInts ds
  | _ => none
def dRow (r : List Int) : D := .tup (r.map .int)
theorem asRow_eq {d : D} {r : List Int} (h : asRow d = some r) : d = dRow r := by
  cases d with
  | tup ds => unfold dRow; rw [asInts_eq (show asInts ds = some r from h)]
  | _ => cases h
def asRows : List D → Option (List (List Int))
  | [] => some []
  | d :: ds => (asRow d).bind fun r => (asRows ds).map (r :: ·)
theorem asRows_eq : ∀ {ds : List D} {rows : List (List Int)}, asRows ds = some rows → ds = rows.map dRow
  | [], _, h => by cases h; rfl
  | d :: ds, rows, h => by
    rw [asRows] at h
    cases q : asRow d with
    | none => rw [q] at h; cases h
    | some r =>
      cases q2 : asRows ds with
      | none => rw [q, q2] at h; cases h
      | some rs =>
        rw [q, q2] at h
        cases h
        rw [asRow_eq q, asRows_eq q2]; rfl
theorem asRow_dRow (r : List Int) : asRow (dRow r) = some r := asInts_map r
theorem asRows_map (rows : List (List Int)) : asRows (rows.map dRow) = some rows := by
  induction rows with
  | nil => rfl
  | cons r rs ih => rw [List.map_cons, asRows, asRow_dRow, ih]; rfl
def rowOk (d : Nat) (r : List Int) : Bool := decide (r.length = d) && r.all fun n => decide (0 ≤ n) && decide (n < 100000)
theorem rowOk_bd {d : Nat} {r : List Int} (h : rowOk d r = true) : r.length = d ∧ TS.Bd 100000 r := by
  unfold rowOk at h
  rw [Bool.and_eq_true, List.all_eq_true] at h
  refine ⟨of_decide_eq_true h.1, fun m hm => ?_⟩
  have := h.2 m hm
  simpa using this
theorem code_inj : ∀ {a b : List Int}, a.length = b.length → TS.Bd 100000 a → TS.Bd 100000 b → TS.code 100000 a = TS.code 100000 b → a = b
  | [], [], _, _, _, _ => rfl
  | [], _ :: _, h, _, _, _ => by simp at h
  | _ :: _, [], h, _, _, _ => by simp at h
  | x :: a, y :: b, h, ha, hb, e => by
    have hl : a.length = b.length := by simpa using h
    rcases Int.lt_trichotomy x y with c | c | c
    · have := TS.code_lt (B := 100000) hl ha.tail hb.tail c
      omega
    · subst c
      have h1 := (TS.code_same (B := 100000) (d := x) hl)
      have h2 := (TS.code_same (B := 100000) (d := x) hl.symm)
      have e1 : TS.code 100000 a = TS.code 100000 b := by
        rcases Int.lt_trichotomy (TS.code 100000 a) (TS.code 100000 b) with z | z | z
        · have := h1.mpr z; omega
        · exact z
        · have := h2.mpr z; omega
      rw [code_inj hl ha.tail hb.tail e1]
    · have := TS.code_lt (B := 100000) hl.symm hb.tail ha.tail c
      omega
def leR (a b : List Int) : Bool := decide (TS.code 100000 a ≤ TS.code 100000 b)
def sortR (rows : List (List Int)) : List (List Int) := rows.mergeSort leR
theorem sortR_pair (rows : List (List Int)) : (sortR rows).Pairwise (fun a b => TS.code 100000 a ≤ TS.code 100000 b) := by
  have := List.pairwise_mergeSort (le := leR) (fun a b c => by unfold leR; simp; omega) (fun a b => by unfold leR; simp; omega) rows
  exact this.imp fun h => by unfold leR at h; simpa using h
theorem sortR_perm (rows : List (List Int)) : (sortR rows).Perm rows := List.mergeSort_perm rows leR
theorem sortR_eq {d : Nat} {rows out : List (List Int)} (h : ∀ r ∈ rows, rowOk d r = true) (p : out.Perm rows) (q : out.Pairwise (fun a b => TS.code 100000 a ≤ TS.code 100000 b)) : out = sortR rows :=
  (p.trans (sortR_perm rows).symm).eq_of_pairwise (fun a b ha hb h1 h2 => by
    have ra := rowOk_bd (h a (p.mem_iff.mp ha))
    have rb := rowOk_bd (h b ((sortR_perm rows).mem_iff.mp hb))
    exact code_inj (by rw [ra.1, rb.1]) ra.2 rb.2 (by omega)) q (sortR_pair rows)
theorem Reps.perm_map {K : PySem.W.Frag} {F : Addr → Prop} {H : Hp} {α : Type} {f : α → D} {us vs : List V} (p : us.Perm vs) : ∀ {rows : List α}, Reps K F H (rows.map f) vs → ∃ rows' : List α, rows'.Perm rows ∧ Reps K F H (rows'.map f) us := by
  induction p with
  | nil => exact fun {rows} h => ⟨rows, .refl _, h⟩
  | cons x p ih =>
    intro rows h
    cases rows with
    | nil => rw [List.map_nil, Reps] at h; cases h
    | cons r rs =>
      rw [List.map_cons, Reps] at h
      obtain ⟨v, rest, e, h1, h2⟩ := h
      injection e with e1 e2
      subst e1 e2
      obtain ⟨rs', p', h'⟩ := ih h2
      exact ⟨r :: rs', p'.cons r, .cons h1 h'⟩
  | swap x y l =>
    intro rows h
    cases rows with
    | nil => rw [List.map_nil, Reps] at h; cases h
    | cons r rs =>
      cases rs with
      | nil => 
        rw [List.map_cons, List.map_nil, Reps] at h
        obtain ⟨v, rest, e, h1, h2⟩ := h
        rw [Reps] at h2
        subst h2
        cases e
      | cons r2 rs =>
        rw [List.map_cons, List.map_cons, Reps] at h
        obtain ⟨v, rest, e, h1, h2⟩ := h
        rw [Reps] at h2
        obtain ⟨v2, rest2, e2, h3, h4⟩ := h2
        subst e2
        injection e with g1 g2
        injection g2 with g2 g3
        subst g1 g2 g3
        exact ⟨r2 :: r :: rs, .swap r r2 rs, .cons h3 (.cons h1 h4)⟩
  | trans p1 p2 ih1 ih2 =>
    intro rows h
    obtain ⟨r1, q1, h1⟩ := ih2 h
    obtain ⟨r2, q2, h2⟩ := ih1 h1
    exact ⟨r2, q2.trans q1, h2⟩
theorem Rep.row {K : PySem.W.Frag} {F : Addr → Prop} {H : Hp} {r : List Int} {v : V} (h : Rep K F H (dRow r) v) : TupI K H v r := by
  obtain ⟨a, vs, e, hs, rr⟩ := Rep.tup (show Rep K F H (.tup (r.map .int)) v from h)
  exact ⟨a, e, by rw [← rr.ints]; exact hs⟩
theorem rows_pair {K : PySem.W.Frag} {F : Addr → Prop} {H : Hp} : ∀ {rows : List (List Int)} {vs : List V}, Reps K F H (rows.map dRow) vs → vs.Pairwise (fun x y => ∀ n m, TupI K H x n → TupI K H y m → TS.code 100000 n ≤ TS.code 100000 m) → rows.Pairwise (fun a b => TS.code 100000 a ≤ TS.code 100000 b)
  | [], _, _, _ => .nil
  | r :: rs, vs, h, p => by
    rw [List.map_cons, Reps] at h
    obtain ⟨v, rest, e, h1, h2⟩ := h
    subst e
    rw [List.pairwise_cons] at p ⊢
    refine ⟨fun b hb => ?_, rows_pair h2 p.2⟩
    obtain ⟨i, hi, eb⟩ := List.getElem_of_mem hb
    obtain ⟨u, hu, ru⟩ := h2.get (i := i) (d := dRow b) (by rw [List.getElem?_map, List.getElem?_eq_getElem hi, eb]; rfl)
    exact p.1 u (List.mem_of_getElem? hu) r b h1.row ru.row
def rowsOk (rows : List (List Int)) : Bool := [1, 2, 3, 4, 5, 6, 7, 8].any fun d => rows.all (rowOk d)
theorem rowsOk_of {rows : List (List Int)} {d : Nat} (h1 : 1 ≤ d) (h2 : d ≤ 8) (h : ∀ r ∈ rows, rowOk d r = true) : rowsOk rows = true :=
  List.any_eq_true.mpr ⟨d, by simp; omega, List.all_eq_true.mpr h⟩
theorem of_rowsOk {rows : List (List Int)} (h : rowsOk rows = true) : ∃ d, 1 ≤ d ∧ ∀ r ∈ rows, rowOk d r = true := by
  obtain ⟨d, hd, h⟩ := List.any_eq_true.mp h
  exact ⟨d, by simp at hd; omega, List.all_eq_true.mp h⟩
namespace Fl
def sortT1 : List D → R (List D)
  | [.lst ds] => (R.of (asRows ds)).bind fun rows => if rows.length < 64 ∧ rowsOk rows = true then .ok ((sortR rows).map dRow) else .no
  | _ => .no
def sortT (f : En → R (List D)) : En → R (List D) := fun e => (f e).bind sortT1
end Fl
theorem sortT1_rows (rows : List (List Int)) (d : Nat) (hl : rows.length < 64) (h1 : 1 ≤ d) (h2 : d ≤ 8) (h : ∀ r ∈ rows, rowOk d r = true) : Fl.sortT1 [.lst (rows.map dRow)] = .ok ((sortR rows).map dRow) := by
  show (R.of (asRows (rows.map dRow))).bind _ = _
  rw [asRows_map]
  exact if_pos ⟨hl, rowsOk_of h1 h2 h⟩
section
variable {X : Cx} {W : WX} {a : Expr} {p p2 q pos : Pos} {fs : En → R (List D)}
theorem pf_sortT (hg : Gl X "sorted") (hm : X.mg "sorted" = none) (ha : PXs X W [a] fs) (he : starEach [a] X.env = (false, eval a X.env) :: starEach [] X.env := by rfl) (hpl : (backTo pos (starEach [] X.env)).any (·.1) = false := by rfl) :
    PF X W (.Call (.Name "sorted" p) [a] [] pos) (Fl.sortT fs) := by
  refine ⟨fun pins s σ H Q I h => ?_⟩
  obtain ⟨e0, V0, h⟩ := h
  -- which rows
  cases z : fs e0 with
  | ex cl =>
    have h' : Fin (repF X.K) X.mg W σ H ((fs e0).bind Fl.sortT1) Q := h
    rw [z] at h'
    exact (pe_callB (cr_sortT (d := 1) (B := 100000) (Nat.le_refl 1)) hg hm (by decide +kernel) ha (by decide) (by decide) he hpl).run pins s σ H Q I ⟨e0, V0, by rw [z]; exact h'⟩
  | no =>
    have h' : Fin (repF X.K) X.mg W σ H ((fs e0).bind Fl.sortT1) Q := h
    rw [z] at h'
    exact h'.elim
  | ok ds =>
    have h' : Fin (repF X.K) X.mg W σ H ((fs e0).bind Fl.sortT1) Q := h
    rw [z] at h'
    replace h' : Fin (repF X.K) X.mg W σ H (Fl.sortT1 ds) Q := h'
    match ds, z, h' with
    | [.lst es], z, h' =>
      replace h' : Fin (repF X.K) X.mg W σ H ((R.of (asRows es)).bind fun rows => if rows.length < 64 ∧ rowsOk rows = true then .ok ((sortR rows).map dRow) else .no) Q := h'
      cases q1 : asRows es with
      | none => rw [q1] at h'; exact h'.elim
      | some rows =>
        rw [q1] at h'
        replace h' : Fin (repF X.K) X.mg W σ H (if rows.length < 64 ∧ rowsOk rows = true then .ok ((sortR rows).map dRow) else .no) Q := h'
        by_cases c : rows.length < 64 ∧ rowsOk rows = true
        · rw [if_pos c] at h'
          obtain ⟨hl, hro⟩ := c
          obtain ⟨d, d1, hr⟩ := of_rowsOk hro
          refine (pe_callB (cr_sortT (d := d) (B := 100000) d1) hg hm (by decide +kernel) ha (by decide) (by decide) he hpl).run pins s σ H Q I ⟨e0, V0, ?_⟩
          rw [z]
          intro vs H1 s1 r1
          obtain ⟨v, e, rv⟩ := r1.one_
          obtain ⟨l, us, eu, _, hH, rr⟩ := rv.lst
          have ee := asRows_eq q1
          rw [ee] at rr
          refine ⟨l, us, by rw [e, eu], SqL.of hH, by rw [← rr.length, List.length_map]; exact hl, fun x hx => ?_, fun ys p hp pw hn => ?_⟩
          · obtain ⟨dx, hdx, rx⟩ := rr.mem hx
            obtain ⟨r, hrm, er⟩ := List.mem_map.mp hdx
            rw [← er] at rx
            have b := rowOk_bd (hr r hrm)
            exact ⟨r, rx.row, b.1, b.2⟩
          · obtain ⟨rows', p', r'⟩ := Reps.perm_map hp rr
            have pr := rows_pair r' pw
            rw [sortR_eq hr p' pr] at r'
            exact h' _ _ (s1.trans (same_new hn)) (MonoR.mono _ _ _ _ _ s1 (repF.new hn r'))
        · rw [if_neg c] at h'; exact h'.elim
    | [], _, h' => exact h'.elim
    | [.non], _, h' => exact h'.elim
    | [.bl _], _, h' => exact h'.elim
    | [.int _], _, h' => exact h'.elim
    | [.str _], _, h' => exact h'.elim
    | [.tup _], _, h' => exact h'.elim
    | [.fix _], _, h' => exact h'.elim
    | [.dic _ _], _, h' => exact h'.elim
    | [.obj _ _], _, h' => exact h'.elim
    | x :: y :: t, _, h' => cases x <;> exact h'.elim
/-! ### list(range(n)) -/
def tLR (ta : TA) : TE := fun σ H Q => ta σ H fun vs H1 => ∃ j : Int, vs = [.int j] ∧ 0 ≤ j ∧ j ≤ 1000000 ∧ ∀ p, H1 p = none → Q (.ref p) (upd H1 p (.lst ((List.range j.toNat).map fun i : Nat => V.int i)))
theorem vals_range : ∀ {acc : List Value} {n k : Nat}, acc.length = n → (∀ (j : Nat) (v : Value), acc[j]? = some v → ∃ t, v = Value.int ((k + j : Nat) : Int) t) → Vals ((List.range' k n).map fun i : Nat => V.int i) acc
  | [], n, k, h, _ => by
    have : n = 0 := by simpa using h.symm
    subst this
    exact .nil
  | u :: acc, n, k, h, q => by
    obtain ⟨m, rfl⟩ : ∃ m, n = m + 1 := ⟨acc.length, by simpa using h.symm⟩
    rw [List.range'_succ, List.map_cons]
    refine .cons ?_ (vals_range (by simpa using h) fun j v hj => ?_)
    · obtain ⟨t, e⟩ := q 0 u rfl
      exact ⟨t, by simpa using e⟩
    · obtain ⟨t, e⟩ := q (j + 1) v (by simpa using hj)
      exact ⟨t, by rw [e]; congr 1; omega⟩
theorem pe_lrange {ta : TA} (hc : X.calm = true) (g1 : Gl X "list") (m1 : X.mg "list" = none) (g2 : Gl X "range") (m2 : X.mg "range" = none) (ha : PA X [a] ta) (hs : starEach [a] X.env = [(false, eval a X.env)] := by rfl)
    (he2 : starEach [.Call (.Name "range" p2) [a] [] q] X.env = (false, eval (.Call (.Name "range" p2) [a] [] q) X.env) :: starEach [] X.env := by rfl) (hpl2 : (backTo pos (starEach [] X.env)).any (·.1) = false := by rfl) :
    PE X (.Call (.Name "list" p) [.Call (.Name "range" p2) [a] [] q] [] pos) (tLR ta) := by
  refine ⟨fun pins s σ H Q I h => ?_⟩
  refine PyProof.Rows.Call_ (ld_blt I g1 m1 (show bootBuiltins "list" = some (.type "list") by decide +kernel) (PyProof.Rows.callWith_type1 ?_ he2 hpl2))
  rw [he2]
  show wpAny _ _ (spliced ((false, eval (.Call (.Name "range" p2) [a] [] q) X.env) :: backTo pos (starEach [] X.env))) _ _ s
  refine Calls.spliced_cons (PyProof.Rows.Call_ (ld_blt I g2 m2 boot_range (PyProof.Rows.callWith_type1 (thn (ha.run q pins s σ H _ I h) fun us s1 ⟨vs, H1, I1, r1, q1⟩ => ?_) hs rfl)))
  obtain ⟨j, e, j0, j1, qq⟩ := q1
  subst e
  cases r1 with
  | cons r rr =>
    cases rr
    obtain ⟨t, rfl⟩ := r
    refine call_range_1 (Calls.spliced_nil ?_)
    have hsz : Builtin.Range.rangeSize 0 j 1 = (j.toNat : Nat) := by rw [rangeSize_one]; split <;> omega
    refine call_list_range (n := j.toNat) (I1.ok.hd hc) (IsRange.new ..) (small_one (by omega) (by omega) (by omega) (by omega)) hsz (by omega) fun h' tk acc' c' hk hS' hacc => ?_
    have hp : s1.heap.objs.size ≤ (s1.heap.push { cls := .type "range", data := .fields #[.int 0 s1.toks, .int j t, .int 1 (s1.toks + 1)] }).objs.size := by rw [Heap.size_push]; omega
    have hn := I1.hok.fresh hp
    have hlen : acc'.toList.length = j.toNat := by rw [Array.length_toList]; exact hacc.1
    have hv : Vals ((List.range j.toNat).map fun i : Nat => V.int i) acc'.toList := by
      rw [List.range_eq_range']
      refine vals_range hlen fun i v hi => ?_
      obtain ⟨t, e⟩ := hacc.2 i v (by rw [← Array.getElem?_toList]; exact hi)
      exact ⟨t, by rw [e]; congr 1; omega⟩
    have new : ObjOk X.prog X.w (upd H1 (s1.heap.push { cls := .type "range", data := .fields #[.int 0 s1.toks, .int j t, .int 1 (s1.toks + 1)] }).objs.size (.lst ((List.range j.toNat).map fun i : Nat => V.int i))) h' (s1.heap.push { cls := .type "range", data := .fields #[.int 0 s1.toks, .int j t, .int 1 (s1.toks + 1)] }).objs.size (.lst ((List.range j.toNat).map fun i : Nat => V.int i)) :=
      ⟨by rw [List.length_map, List.length_range, sizeLine_eq]; omega, acc'.toList, c', hv, hS'⟩
    exact ⟨.ref _, _, I1.laid (t' := tk) (fun b o e => hk b o (Heap.get?_push_of_some _ e)) hp new, rfl, qq _ hn⟩
namespace Fl
def lrange1 : List D → R (List D)
  | [.int j] => if 0 ≤ j ∧ j ≤ 1000000 then .ok ((List.range j.toNat).map fun i : Nat => D.int i) else .no
  | _ => .no
def lrange (f : En → R (List D)) : En → R (List D) := fun e => (f e).bind lrange1
end Fl
theorem pf_lrange (hc : X.calm = true) (g1 : Gl X "list") (m1 : X.mg "list" = none) (g2 : Gl X "range") (m2 : X.mg "range" = none) (ha : PXs X W [a] fs) (hs : starEach [a] X.env = [(false, eval a X.env)] := by rfl)
    (he2 : starEach [.Call (.Name "range" p2) [a] [] q] X.env = (false, eval (.Call (.Name "range" p2) [a] [] q) X.env) :: starEach [] X.env := by rfl) (hpl2 : (backTo pos (starEach [] X.env)).any (·.1) = false := by rfl) :
    PF X W (.Call (.Name "list" p) [.Call (.Name "range" p2) [a] [] q] [] pos) (Fl.lrange fs) := convE (pe_lrange hc g1 m1 g2 m2 ha hs he2 hpl2) fun σ H Q h =>
  Rg.seq (k := fun ds _ => Fl.lrange1 ds) h fun ds vs H1 s1 r1 h1 => by
    match ds, r1, h1 with
    | [d], r1, h1 =>
      obtain ⟨v, e, rv⟩ := r1.one_
      cases d with
      | int j =>
        by_cases c : 0 ≤ j ∧ j ≤ 1000000
        · refine ⟨j, by rw [e, rv.int], c.1, c.2, fun p hp => h1.get (fun _ => if_pos c) (same_new hp) (repF.new hp ?_)⟩
          have e1 : ((List.range j.toNat).map fun i : Nat => D.int i) = ((List.range j.toNat).map fun i : Nat => (i : Int)).map D.int := by rw [List.map_map]; rfl
          have e2 : ((List.range j.toNat).map fun i : Nat => V.int i) = ((List.range j.toNat).map fun i : Nat => (i : Int)).map V.int := by rw [List.map_map]; rfl
          rw [e1, e2]
          exact Reps.of_ints
        · exact (h1.no fun _ => if_neg c).elim
      | _ => exact (h1.no fun _ => rfl).elim
    | [], _, h1 => exact (h1.no fun _ => rfl).elim
    | x :: y :: z, r1, h1 => exact (h1.no fun _ => by cases x <;> rfl).elim
end
/-! ### the least pair -/
def asPair : D → Option (Int × Int)
  | .tup [.int x, .int y] => some (x, y)
  | _ => none
def dPr (p : Int × Int) : D := .tup [.int p.1, .int p.2]
theorem asPair_eq {d : D} {p : Int × Int} (h : asPair d = some p) : d = dPr p := by
  unfold asPair at h
  split at h
  · cases h; rfl
  · cases h
def asPairs : List D → Option (List (Int × Int))
  | [] => some []
  | d :: ds => (asPair d).bind fun r => (asPairs ds).map (r :: ·)
theorem asPairs_eq : ∀ {ds : List D} {rows : List (Int × Int)}, asPairs ds = some rows → ds = rows.map dPr
  | [], _, h => by cases h; rfl
  | d :: ds, rows, h => by
    rw [asPairs] at h
    cases q : asPair d with
    | none => rw [q] at h; cases h
    | some r =>
      cases q2 : asPairs ds with
      | none => rw [q, q2] at h; cases h
      | some rs =>
        rw [q, q2] at h
        cases h
        rw [asPair_eq q, asPairs_eq q2]; rfl
theorem asPairs_map (rows : List (Int × Int)) : asPairs (rows.map dPr) = some rows := by
  induction rows with
  | nil => rfl
  | cons r rs ih => rw [List.map_cons, asPairs, ih]; rfl
def ltP (p q : Int × Int) : Bool := decide (p.1 < q.1 ∨ (p.1 = q.1 ∧ p.2 < q.2))
def minP (p : Int × Int) (ps : List (Int × Int)) : Int × Int := ps.foldl (fun a y => if ltP y a = true then y else a) p
def pyP (p : Int × Int) : PyData := .tuple [.int p.1, .int p.2]
theorem dPr_py (p : Int × Int) : (dPr p).py = pyP p := by unfold dPr pyP; simp [D.py, D.pys]
theorem minD_pairs : ∀ (ps : List (Int × Int)) (p : Int × Int), PySem.W.minD (pyP p) (ps.map pyP) = pyP (minP p ps)
  | [], p => rfl
  | y :: ps, p => by
    have e : PySem.W.dataLt (pyP y) (pyP p) = ltP y p := PySem.W.dataLt_ii y.1 y.2 p.1 p.2
    show PySem.W.minD (if PySem.W.dataLt (pyP y) (pyP p) = true then pyP y else pyP p) (ps.map pyP) = _
    have e2 : minP p (y :: ps) = minP (if ltP y p = true then y else p) ps := rfl
    rw [e, e2, ← minD_pairs ps]
    split <;> rfl
theorem pyP_inj {p q : Int × Int} (h : pyP p = pyP q) : p = q := by
  unfold pyP at h
  simp at h
  exact Prod.ext h.1 h.2
theorem Rep.pr {K : PySem.W.Frag} {F : Addr → Prop} {H : Hp} {p : Int × Int} {v : V} (h : Rep K F H (dPr p) v) : Dp K H v (pyP p) := by
  rw [← dPr_py]
  exact Rep.dp (dPr p) 1 v (by unfold dPr; simp [D.dt, D.dts]) h
/-- min of a list of pairs -/
def rMinP (K : PySem.W.Frag) : List V → Hp → VK → Prop := fun vs H Q => ∃ (a : Addr) (p : Int × Int) (ps : List (Int × Int)) (us : List V), vs = [.ref a] ∧ SqL K H a us ∧ Reps K All H ((p :: ps).map dPr) us ∧
  ∀ u, Rep K All H (dPr (minP p ps)) u → Q u H
theorem pys_pairs (ps : List (Int × Int)) : D.pys (ps.map dPr) = ps.map pyP := by
  rw [D.pys_map, List.map_map]
  exact List.map_congr_left fun p _ => dPr_py p
theorem cr_minP {X : Cx} (hc : X.calm = true) (hu : X.A.units + 64 < cLine) : CallR X (.builtin "min") (rMinP X.K) := by
  intro pins s σ H vs us Q I r h
  obtain ⟨a, p, ps, ws, rfl, hs, rr, q⟩ := h
  rw [Vals.ref1 r]
  obtain ⟨its, rv, hl, hz⟩ := I.list hs
  have dp := Reps.dp ((p :: ps).map dPr) 2 ws (by rw [D.dts_all, List.all_eq_true]; intro d hd; obtain ⟨x, _, e⟩ := List.mem_map.mp hd; rw [← e]; simp [dPr, D.dt, D.dts]) rr
  rw [pys_pairs, List.map_cons] at dp
  obtain ⟨as, ra⟩ := Dp.readsAll I (pyP p :: ps.map pyP) ws its dp rv
  have hall : ∀ x ∈ pyP p :: ps.map pyP, ∃ y, x = pyP y := fun x hx => by
    rcases List.mem_cons.mp hx with z | z
    · exact ⟨p, z⟩
    · obtain ⟨y, _, e⟩ := List.mem_map.mp z
      exact ⟨y, e.symm⟩
  have al : PySem.W.AlikeAll (pyP p :: ps.map pyP) := ⟨fun x hx y hy => by
    obtain ⟨x', rfl⟩ := hall x hx
    obtain ⟨y', rfl⟩ := hall y hy
    unfold pyP
    simp [PySem.W.alike, PySem.W.alikeAll], fun x hx => by
    obtain ⟨x', rfl⟩ := hall x hx
    unfold pyP
    exact fun z => nomatch z⟩
  have dep : PyData.depthAll (pyP p :: ps.map pyP) ≤ 2 := by
    have : ∀ l : List (Int × Int), PyData.depthAll (l.map pyP) ≤ 1 := by
      intro l
      induction l with
      | nil => simp [PyData.depthAll]
      | cons x l ih => rw [List.map_cons, PyData.depthAll]; have e : (pyP x).depth = 1 := by unfold pyP; simp [PyData.depth, PyData.depthAll]
                       rw [e]; omega
    have := this (p :: ps)
    rw [List.map_cons] at this
    omega
  refine PySem.W.min_list_data (I.ok.hd hc) (vs := its.toArray) hl.isList (by simpa using ra) al (by omega) fun i v h' tk bs hv hr hk => ?_
  have hv' : its[i]? = some v := by simpa using hv
  -- which one it is
  have hi : i < ws.length := by rw [rv.length]; exact (List.getElem?_eq_some_iff.mp hv').1
  obtain ⟨u, hu2, ru⟩ := rv.get (List.getElem?_eq_getElem hi)
  have hl2 := rr.length
  rw [List.length_map] at hl2
  obtain ⟨w, hw, rw1⟩ := rr.get (i := i) (d := dPr ((p :: ps)[i]'(by omega))) (by rw [List.getElem?_map, List.getElem?_eq_getElem (by omega)]; rfl)
  rw [hv'] at hu2
  cases hu2
  rw [List.getElem?_eq_getElem hi] at hw
  cases hw
  have I1 : Inv X pins σ H { s with heap := h', toks := tk } := I.kept (t' := tk) hk
  obtain ⟨cs, rd⟩ := Dp.reads I1 _ _ v rw1.pr ru
  rw [minD_pairs] at hr
  have e := PySem.W.alike_unique _ _ _ _ _ (show PySem.W.alike (pyP (minP p ps)) (pyP ((p :: ps)[i]'(by omega))) = true by unfold pyP; simp [PySem.W.alike, PySem.W.alikeAll]) hr rd
  have e2 := pyP_inj e
  rw [← e2] at rw1
  exact ⟨_, H, I1, ru, q _ rw1⟩
def minT : D → R D
  | .lst ds => (R.of (asPairs ds)).bind fun ps => match ps with
    | [] => .no
    | p :: ps => .ok (dPr (minP p ps))
  | _ => .no
theorem cd_minT {X : Cx} (hc : X.calm = true) (hu : X.A.units + 64 < cLine) : CallD X (.builtin "min") (on1 minT) := by
  refine cd_1 _ (cr_minP hc hu) fun d v H Q mg W σ r z => ?_
  cases d with
  | lst ds =>
    obtain ⟨l, us, eu, _, hH, rr⟩ := r.lst
    cases q : asPairs ds with
    | none => exact (z.no fun _ => show (R.of (asPairs ds)).bind _ = .no by rw [q]; rfl).elim
    | some rows =>
      rw [asPairs_eq q] at rr
      cases rows with
      | nil => exact (z.no fun _ => show (R.of (asPairs ds)).bind _ = .no by rw [q]; rfl).elim
      | cons p ps => exact ⟨l, p, ps, us, by rw [eu], SqL.of hH, rr, fun u ru => z.get (fun _ => show (R.of (asPairs ds)).bind _ = .ok (dPr (minP p ps)) by rw [q]; rfl) (Same.refl H) ru⟩
  | _ => exact (z.no fun _ => rfl).elim
theorem minT_pairs (p : Int × Int) (ps : List (Int × Int)) : minT (.lst ((p :: ps).map dPr)) = .ok (dPr (minP p ps)) := by
  show (R.of (asPairs ((p :: ps).map dPr))).bind _ = _
  rw [asPairs_map]
  rfl
end Lp

/-! # The mirrors (printed by tools/gen.py) -/
namespace Mi
open PySem L2 Lp
def l1_law_cut : En → Out := (S.seq (S.app 2 (Z.px (E.call tupD (E.cons (E.var 3) (E.cons (E.var 1) E.nil))))) (S.seq (S.aug 4 subD (E.var 1)) S.nil))
def l2_law_cut : En → Out := (S.seq (S.while_ (B.val (E.bin gtD (E.var 4) (E.var 1))) Mi.l1_law_cut) (S.seq (S.app 2 (Z.px (E.call tupD (E.cons (E.var 3) (E.cons (E.var 4) E.nil))))) S.nil))
def b_law_cut : En → Out := (S.seq (S.own 2 (Fl.lst E.nil)) (S.seq (S.loop (I.items (Z.var 0)) (.tp [(.nm 3), (.nm 4)]) Mi.l2_law_cut) (S.frz 2 (S.seq (S.ret (E.call (on1 tupleD) (E.cons (E.var 2) E.nil))) S.nil))))
def law_cut : List D → R D := Fn.X 2 3 b_law_cut

def l1_plan_cut : En → Out := (S.seq (S.ext 2 (E.call okLst (Fl.rep (E.call lstD (E.cons (E.call tupD (E.cons (E.var 3) (E.cons (E.var 1) E.nil))) E.nil)) (E.bin divD (E.var 4) (E.var 1))))) (S.seq (S.ite (B.tru (E.bin modD (E.var 4) (E.var 1))) (S.seq (S.app 2 (Z.px (E.call tupD (E.cons (E.var 3) (E.cons (E.bin modD (E.var 4) (E.var 1)) E.nil))))) S.nil) S.nil) S.nil))
def b_plan_cut : En → Out := (S.seq (S.drop (E.call Mi.look_plan (E.cons (E.var 0) E.nil))) (S.seq (S.drop (E.call Mi.look_number (E.cons (E.var 1) (E.cons (E.c (.int 1)) (E.cons (E.c (.int 99)) E.nil))))) (S.seq (S.own 2 (Fl.lst E.nil)) (S.seq (S.loop (I.items (Z.var 0)) (.tp [(.nm 3), (.nm 4)]) Mi.l1_plan_cut) (S.frz 2 (S.seq (S.ite (B.val (E.bin gtD (E.call (on1 lenD) (E.cons (E.var 2) E.nil)) (E.c (.int 40)))) (S.seq (S.raise "BadPlan") S.nil) S.nil) (S.seq (S.ret (E.call (on1 tupleD) (E.cons (E.var 2) E.nil))) S.nil)))))))
def plan_cut : List D → R D := Fn.X 2 3 b_plan_cut

def b_plan_later : En → Out := (S.seq (S.drop (E.call Mi.look_plan (E.cons (E.var 0) E.nil))) (S.seq (S.drop (E.call Mi.look_number (E.cons (E.var 1) (E.cons (E.un negD (E.c (.int 999))) (E.cons (E.c (.int 999)) E.nil))))) (S.seq (S.set 2 (Z.px (E.call (on1 tupleD) (E.cons (E.call okLst (Fl.comp (I.items (E.var 0)) (.tp [(.nm 3), (.nm 4)]) [3, 4] B.yes (E.call tupD (E.cons (E.bin addD (E.var 3) (E.var 1)) (E.cons (E.var 4) E.nil))))) E.nil)))) (S.seq (S.ite (B.tru (E.call okLst (Fl.comp (I.items (E.var 2)) (.nm 5) [5] (B.not (B.tru (E.call Mi.is_within (E.cons (E.bin ixD (E.var 5) (E.c (.int 0))) (E.cons (E.c (.int 0)) (E.cons (E.c (.int 999)) E.nil)))))) (E.var 5)))) (S.seq (S.raise "BadNumber") S.nil) S.nil) (S.seq (S.ret (E.var 2)) S.nil)))))
def plan_later : List D → R D := Fn.X 2 4 b_plan_later

def b_plan_joined : En → Out := (S.seq (S.drop (E.call Mi.look_plan (E.cons (E.var 0) E.nil))) (S.seq (S.drop (E.call Mi.look_plan (E.cons (E.var 1) E.nil))) (S.seq (S.ite (B.val (E.bin gtD (E.bin addD (E.call (on1 lenD) (E.cons (E.var 0) E.nil)) (E.call (on1 lenD) (E.cons (E.var 1) E.nil))) (E.c (.int 40)))) (S.seq (S.raise "BadPlan") S.nil) S.nil) (S.seq (S.own 2 (Fl.comp (I.enum (E.cons (E.var 0) E.nil)) (.tp [(.nm 3), (.tp [(.nm 4), (.nm 5)])]) [3, 4, 5] B.yes (E.call tupD (E.cons (E.var 4) (E.cons (E.c (.int 0)) (E.cons (E.var 3) (E.cons (E.var 5) E.nil))))))) (S.seq (S.ext 2 (E.call okLst (Fl.comp (I.enum (E.cons (E.var 1) E.nil)) (.tp [(.nm 3), (.tp [(.nm 4), (.nm 5)])]) [3, 4, 5] B.yes (E.call tupD (E.cons (E.var 4) (E.cons (E.c (.int 1)) (E.cons (E.var 3) (E.cons (E.var 5) E.nil)))))))) (S.frz 2 (S.seq (S.ret (E.call (on1 tupleD) (E.cons (E.call okLst (Fl.comp (I.items (E.call okLst (Fl.sortT (E.cons (E.var 2) E.nil)))) (.tp [(.nm 4), (.nm 6), (.nm 3), (.nm 5)]) [4, 6, 3, 5] B.yes (E.call tupD (E.cons (E.var 4) (E.cons (E.var 5) E.nil))))) E.nil))) S.nil)))))))
def plan_joined : List D → R D := Fn.X 2 5 b_plan_joined

def b_law_called : En → Out := (S.seq (S.ite (B.val (E.bin ltD (E.var 0) (E.c (.int 3)))) (S.seq (S.ite (B.val (E.bin eqD (E.var 0) (E.c (.int 0)))) (S.seq (S.ret (fun _ => .no)) S.nil) S.nil) (S.seq (S.ret (E.ite (B.val (E.bin eqD (E.var 0) (E.c (.int 1)))) (fun _ => .no) (fun _ => .no))) S.nil)) S.nil) (S.seq (S.ite (B.val (E.bin ltD (E.var 0) (E.c (.int 5)))) (S.seq (S.ret (E.ite (B.val (E.bin eqD (E.var 0) (E.c (.int 3)))) (fun _ => .no) (fun _ => .no))) S.nil) S.nil) (S.seq (S.ret (E.ite (B.val (E.bin eqD (E.var 0) (E.c (.int 5)))) (E.call Mi.plan_later (E.cons (E.bin ixD (E.var 1) (E.c (.int 0))) (E.cons (E.bin ixD (E.var 1) (E.c (.int 1))) E.nil))) (E.call Mi.plan_joined (E.cons (E.bin ixD (E.var 1) (E.c (.int 0))) (E.cons (E.bin ixD (E.var 1) (E.c (.int 1))) E.nil))))) S.nil)))
def law_called : List D → R D := Fn.X 2 0 b_law_called

def b_plan_without : En → Out := (S.seq (S.drop (E.call Mi.look_plan (E.cons (E.var 0) E.nil))) (S.seq (S.drop (E.call Mi.look_number (E.cons (E.var 1) (E.cons (E.c (.int 0)) (E.cons (E.bin subD (E.call (on1 lenD) (E.cons (E.var 0) E.nil)) (E.c (.int 1))) E.nil))))) (S.seq (S.ret (E.bin addD (E.slice (E.var 0) E.none (E.part (E.var 1))) (E.slice (E.var 0) (E.part (E.bin addD (E.var 1) (E.c (.int 1)))) E.none))) S.nil)))
def plan_without : List D → R D := Fn.X 2 0 b_plan_without

def b_law_called_then : En → Out := (S.seq (S.ite (B.val (E.bin ltD (E.var 0) (E.c (.int 10)))) (S.seq (S.ite (B.val (E.bin eqD (E.var 0) (E.c (.int 7)))) (S.seq (S.ret (E.call Mi.plan_without (E.cons (E.bin ixD (E.var 1) (E.c (.int 0))) (E.cons (E.bin ixD (E.var 1) (E.c (.int 1))) E.nil)))) S.nil) S.nil) (S.seq (S.ret (E.ite (B.val (E.bin eqD (E.var 0) (E.c (.int 8)))) (E.call Mi.plan_cut (E.cons (E.bin ixD (E.var 1) (E.c (.int 0))) (E.cons (E.bin ixD (E.var 1) (E.c (.int 1))) E.nil))) (fun _ => .no))) S.nil)) S.nil) (S.seq (S.ite (B.val (E.bin ltD (E.var 0) (E.c (.int 12)))) (S.seq (S.ret (E.ite (B.val (E.bin eqD (E.var 0) (E.c (.int 10)))) (fun _ => .no) (fun _ => .no))) S.nil) S.nil) (S.seq (S.ret (E.ite (B.val (E.bin eqD (E.var 0) (E.c (.int 12)))) (fun _ => .no) (fun _ => .no))) S.nil)))
def law_called_then : List D → R D := Fn.X 2 0 b_law_called_then

def b_law_word : En → Out := (S.seq (S.set 2 (Z.px (E.c (.str "")))) (S.seq (S.try_ (S.seq (S.ite (B.val (E.bin ltD (E.var 0) (E.c (.int 7)))) (S.seq (S.drop (E.call Mi.law_called (E.cons (E.var 0) (E.cons (E.var 1) E.nil)))) S.nil) (S.seq (S.drop (E.call Mi.law_called_then (E.cons (E.var 0) (E.cons (E.var 1) E.nil)))) S.nil)) S.nil) [([("PoolError", false), ("BadSettings", false), ("BadNumber", true), ("BadThing", false), ("BadPlan", false), ("BadDeed", false), ("BadText", false), ("Nothing", false)], (S.seq (S.set 2 (Z.px (E.c (.str "number")))) S.nil)), ([("PoolError", false), ("BadSettings", false), ("BadNumber", false), ("BadThing", false), ("BadPlan", true), ("BadDeed", false), ("BadText", false), ("Nothing", false)], (S.seq (S.set 2 (Z.px (E.c (.str "plan")))) S.nil)), ([("PoolError", false), ("BadSettings", true), ("BadNumber", false), ("BadThing", false), ("BadPlan", false), ("BadDeed", false), ("BadText", false), ("Nothing", false)], (S.seq (S.set 2 (Z.px (E.c (.str "settings")))) S.nil)), ([("PoolError", false), ("BadSettings", false), ("BadNumber", false), ("BadThing", false), ("BadPlan", false), ("BadDeed", true), ("BadText", false), ("Nothing", false)], (S.seq (S.set 2 (Z.px (E.c (.str "deed")))) S.nil)), ([("PoolError", false), ("BadSettings", false), ("BadNumber", false), ("BadThing", false), ("BadPlan", false), ("BadDeed", false), ("BadText", true), ("Nothing", false)], (S.seq (S.set 2 (Z.px (E.c (.str "text")))) S.nil))]) (S.seq (S.ret (E.var 2)) S.nil)))
def law_word : List D → R D := Fn.X 2 1 b_law_word

def l1_law_joined : En → Out := (S.seq (S.set 2 (Z.px (E.bin addD (E.bin addD (E.var 2) (E.call okLst (Fl.comp (I.items (E.var 0)) (.nm 4) [4] (B.val (E.bin eqD (E.bin ixD (E.var 4) (E.c (.int 0))) (E.var 3))) (E.var 4)))) (E.call okLst (Fl.comp (I.items (E.var 1)) (.nm 4) [4] (B.val (E.bin eqD (E.bin ixD (E.var 4) (E.c (.int 0))) (E.var 3))) (E.var 4)))))) S.nil)
def b_law_joined : En → Out := (S.seq (S.set 2 (Z.pf (Fl.lst E.nil))) (S.seq (S.loop (I.items (Z.pf (Fl.sortSet (E.cons (E.call okLst (Fl.comp (I.items (E.bin addD (E.var 0) (E.var 1))) (.nm 4) [4] B.yes (E.bin ixD (E.var 4) (E.c (.int 0))))) E.nil)))) (.nm 3) Mi.l1_law_joined) (S.seq (S.ret (E.call (on1 tupleD) (E.cons (E.var 2) E.nil))) S.nil)))
def law_joined : List D → R D := Fn.X 2 3 b_law_joined

def b_law_k20 : En → Out := (S.seq (S.set 1 (Z.px (E.call Mi.law_asks (E.cons (E.var 0) (E.cons (E.c (.int 0)) (E.cons (E.c (.int 30)) E.nil)))))) (S.seq (S.set 2 (Z.px (E.call Mi.law_asks (E.cons (E.var 0) (E.cons (E.c (.int 7)) (E.cons (E.c (.int 20)) E.nil)))))) (S.seq (S.set 3 (Z.px (E.bin ixD (E.call lstD (E.cons (E.c (.int 20)) (E.cons (E.c (.int 999)) E.nil))) (E.bin modD (E.call Mi.law_cell (E.cons (E.var 0) (E.cons (E.c (.int 15)) E.nil))) (E.c (.int 2)))))) (S.seq (S.set 4 (Z.px (E.bin subD (E.call Mi.law_mix (E.cons (E.call Mi.law_cell (E.cons (E.var 0) (E.cons (E.c (.int 14)) E.nil))) (E.cons (E.c (.int 9949)) (E.cons (E.bin addD (E.bin mulD (E.c (.int 2)) (E.var 3)) (E.c (.int 1))) E.nil)))) (E.var 3)))) (S.seq (S.set 5 (Z.px (E.call (on1 tupleD) (E.cons (E.call okLst (Fl.comp (I.items (E.var 1)) (.tp [(.nm 6), (.nm 7)]) [6, 7] B.yes (E.call tupD (E.cons (E.bin addD (E.var 6) (E.var 4)) (E.cons (E.var 7) E.nil))))) E.nil)))) (S.seq (S.ite (B.val (E.bin neD (E.call okLst (Fl.comp (I.items (E.var 5)) (.nm 8) [8] (B.not (B.val (E.chain leD leD (E.c (.int 0)) (E.bin ixD (E.var 8) (E.c (.int 0))) (E.c (.int 999))))) (E.var 8))) (E.call lstD E.nil))) (S.seq (S.ite (B.val (E.bin neD (E.call Mi.law_word (E.cons (E.c (.int 5)) (E.cons (E.call lstD (E.cons (E.var 1) (E.cons (E.var 4) E.nil))) E.nil))) (E.c (.str "number")))) (S.seq (S.ret (E.c (.bl false))) S.nil) S.nil) S.nil) (S.seq (S.ite (B.val (E.bin neD (E.call Mi.plan_later (E.cons (E.var 1) (E.cons (E.var 4) E.nil))) (E.var 5))) (S.seq (S.ret (E.c (.bl false))) S.nil) S.nil) S.nil)) (S.seq (S.ite (B.val (E.bin gtD (E.bin addD (E.call (on1 lenD) (E.cons (E.var 1) E.nil)) (E.call (on1 lenD) (E.cons (E.var 2) E.nil))) (E.c (.int 40)))) (S.seq (S.ite (B.val (E.bin neD (E.call Mi.law_word (E.cons (E.c (.int 6)) (E.cons (E.call lstD (E.cons (E.var 1) (E.cons (E.var 2) E.nil))) E.nil))) (E.c (.str "plan")))) (S.seq (S.ret (E.c (.bl false))) S.nil) S.nil) S.nil) (S.seq (S.ite (B.val (E.bin neD (E.call Mi.plan_joined (E.cons (E.var 1) (E.cons (E.var 2) E.nil))) (E.call Mi.law_joined (E.cons (E.var 1) (E.cons (E.var 2) E.nil))))) (S.seq (S.ret (E.c (.bl false))) S.nil) S.nil) S.nil)) (S.seq (S.set 9 (Z.px (E.bin modD (E.call Mi.law_cell (E.cons (E.var 0) (E.cons (E.c (.int 16)) E.nil))) (E.c (.int 31))))) (S.seq (S.ite (B.val (E.bin geD (E.var 9) (E.call (on1 lenD) (E.cons (E.var 1) E.nil)))) (S.seq (S.ite (B.val (E.bin neD (E.call Mi.law_word (E.cons (E.c (.int 7)) (E.cons (E.call lstD (E.cons (E.var 1) (E.cons (E.var 9) E.nil))) E.nil))) (E.c (.str "number")))) (S.seq (S.ret (E.c (.bl false))) S.nil) S.nil) S.nil) (S.seq (S.ite (B.val (E.bin neD (E.call Mi.plan_without (E.cons (E.var 1) (E.cons (E.var 9) E.nil))) (E.bin addD (E.slice (E.var 1) E.none (E.part (E.var 9))) (E.slice (E.var 1) (E.part (E.bin addD (E.var 9) (E.c (.int 1)))) E.none)))) (S.seq (S.ret (E.c (.bl false))) S.nil) S.nil) S.nil)) (S.seq (S.set 10 (Z.px (E.bin addD (E.c (.int 1)) (E.bin modD (E.call Mi.law_cell (E.cons (E.var 0) (E.cons (E.c (.int 17)) E.nil))) (E.c (.int 99)))))) (S.seq (S.set 5 (Z.px (E.call Mi.law_cut (E.cons (E.var 1) (E.cons (E.var 10) E.nil))))) (S.seq (S.ite (B.val (E.bin gtD (E.call (on1 lenD) (E.cons (E.var 5) E.nil)) (E.c (.int 40)))) (S.seq (S.ret (E.bin eqD (E.call Mi.law_word (E.cons (E.c (.int 8)) (E.cons (E.call lstD (E.cons (E.var 1) (E.cons (E.var 10) E.nil))) E.nil))) (E.c (.str "plan")))) S.nil) S.nil) (S.seq (S.ret (E.bin eqD (E.call Mi.plan_cut (E.cons (E.var 1) (E.cons (E.var 10) E.nil))) (E.var 5))) S.nil)))))))))))))
def law_k20 : List D → R D := Fn.X 1 10 b_law_k20

def b_law_word_k26 : En → Out := (S.seq (S.set 2 (Z.px (E.c (.str "")))) (S.seq (S.try_ (S.seq (S.ite (B.val (E.bin ltD (E.var 0) (E.c (.int 7)))) (S.seq (S.drop (fun _ => .no)) S.nil) (S.seq (S.drop (E.call Mi.law_called_then (E.cons (E.var 0) (E.cons (E.var 1) E.nil)))) S.nil)) S.nil) [([("PoolError", false), ("BadSettings", false), ("BadNumber", true), ("BadThing", false), ("BadPlan", false), ("BadDeed", false), ("BadText", false), ("Nothing", false)], (S.seq (S.set 2 (Z.px (E.c (.str "number")))) S.nil)), ([("PoolError", false), ("BadSettings", false), ("BadNumber", false), ("BadThing", false), ("BadPlan", true), ("BadDeed", false), ("BadText", false), ("Nothing", false)], (S.seq (S.set 2 (Z.px (E.c (.str "plan")))) S.nil)), ([("PoolError", false), ("BadSettings", true), ("BadNumber", false), ("BadThing", false), ("BadPlan", false), ("BadDeed", false), ("BadText", false), ("Nothing", false)], (S.seq (S.set 2 (Z.px (E.c (.str "settings")))) S.nil)), ([("PoolError", false), ("BadSettings", false), ("BadNumber", false), ("BadThing", false), ("BadPlan", false), ("BadDeed", true), ("BadText", false), ("Nothing", false)], (S.seq (S.set 2 (Z.px (E.c (.str "deed")))) S.nil)), ([("PoolError", false), ("BadSettings", false), ("BadNumber", false), ("BadThing", false), ("BadPlan", false), ("BadDeed", false), ("BadText", true), ("Nothing", false)], (S.seq (S.set 2 (Z.px (E.c (.str "text")))) S.nil))]) (S.seq (S.ret (E.var 2)) S.nil)))
def law_word_k26 : List D → R D := Fn.X 2 1 b_law_word_k26

def b_law_k26 : En → Out := (S.seq (S.set 1 (Z.px (E.call Mi.law_asks (E.cons (E.var 0) (E.cons (E.c (.int 0)) (E.cons (E.c (.int 20)) E.nil)))))) (S.seq (S.ite (B.val (E.bin neD (E.call Mi.plan_cut (E.cons (E.var 1) (E.cons (E.c (.int 99)) E.nil))) (E.var 1))) (S.seq (S.ret (E.c (.bl false))) S.nil) S.nil) (S.seq (S.set 2 (Z.px (E.bin addD (E.c (.int 10)) (E.bin modD (E.call Mi.law_cell (E.cons (E.var 0) (E.cons (E.c (.int 16)) E.nil))) (E.c (.int 90)))))) (S.seq (S.ite (B.val (E.bin neD (E.call Mi.law_word_k26 (E.cons (E.c (.int 8)) (E.cons (E.call lstD (E.cons (E.var 1) (E.cons (E.var 2) E.nil))) E.nil))) (E.c (.str "")))) (S.seq (S.ret (E.c (.bl true))) S.nil) S.nil) (S.seq (S.set 3 (Z.px (E.call Mi.plan_cut (E.cons (E.var 1) (E.cons (E.var 2) E.nil))))) (S.seq (S.set 4 (Z.pf (Fl.comp (I.items (E.call tupD (E.cons (E.var 3) (E.cons (E.var 1) E.nil)))) (.nm 7) [7] B.yes (E.call (on1 (onInts sumI)) (E.cons (E.call okLst (Fl.comp (I.items (E.var 7)) (.tp [(.nm 5), (.nm 6)]) [5, 6] B.yes (E.var 6))) E.nil))))) (S.seq (S.ite (B.or (B.val (E.bin neD (E.bin ixD (E.var 4) (E.c (.int 0))) (E.bin ixD (E.var 4) (E.c (.int 1))))) (B.val (E.bin neD (E.call Mi.plan_cut (E.cons (E.var 3) (E.cons (E.var 2) E.nil))) (E.var 3)))) (S.seq (S.ret (E.c (.bl false))) S.nil) S.nil) (S.seq (S.ite (B.val (E.bin neD (E.call Mi.longest (E.cons (E.call (on2 max2D) (E.cons (E.c (.int 1)) (E.cons (E.call (on1 lenD) (E.cons (E.var 3) E.nil)) E.nil))) (E.cons (E.var 3) E.nil))) (E.c (.int 0)))) (S.seq (S.ret (E.c (.bl false))) S.nil) S.nil) (S.seq (S.set 8 (Z.pf (Fl.comp (I.items (E.call tupD (E.cons (E.var 3) (E.cons (E.var 1) E.nil)))) (.nm 7) [7] B.yes (E.call (on1 (onInts maxI)) (E.cons (E.call okLst (Fl.add (E.call lstD (E.cons (E.c (.int 0)) E.nil)) (E.call okLst (Fl.comp (I.items (E.call okLst (Fl.call Mi.loads (E.cons (E.c (.int 1)) (E.cons (E.var 7) E.nil))))) (.tp [(.nm 9), (.nm 10), (.nm 11)]) [9, 10, 11] B.yes (E.var 10))))) E.nil))))) (S.seq (S.ite (B.val (E.bin neD (E.bin ixD (E.var 8) (E.c (.int 0))) (E.bin ixD (E.var 8) (E.c (.int 1))))) (S.seq (S.ret (E.c (.bl false))) S.nil) S.nil) (S.seq (S.ret (E.bin leD (E.call (on1 (onInts maxI)) (E.cons (E.call okLst (Fl.add (E.call lstD (E.cons (E.c (.int 0)) E.nil)) (E.call okLst (Fl.comp (I.items (E.var 3)) (.tp [(.nm 5), (.nm 6)]) [5, 6] B.yes (E.var 6))))) E.nil)) (E.var 2))) S.nil)))))))))))
def law_k26 : List D → R D := Fn.X 1 11 b_law_k26

end Mi

/-! # Plain law, part P: plans changed: what the mirrors compute -/
namespace Lp
open PySem
@[simp] theorem S.ext_eq (i : Nat) (f : En → R D) (e : En) : S.ext i f e = S.withL i e fun ds => (f e).out e fun d => match d with
  | .lst es => if D.pures es = true ∧ ds.length + es.length ≤ 16777216 then S.putL i e (ds ++ es) else .no
  | _ => .no := .trans rfl rfl
theorem try_nx {m : En → Out} {hs : List (List (Str × Bool) × (En → Out))} {e e' : En} (h : m e = .nx e') : S.try_ m hs e = .nx e' := by
  unfold S.try_; rw [h]
theorem tryH_no' {cl : Str} {e : En} {tab : List (Str × Bool)} {h : En → Out} {r : List (List (Str × Bool) × (En → Out))} (q : tab.lookup cl = some false) : tryH cl e ((tab, h) :: r) = tryH cl e r := by rw [tryH, q]
theorem tryH_yes' {cl : Str} {e e' : En} {tab : List (Str × Bool)} {h : En → Out} {r : List (List (Str × Bool) × (En → Out))} (q : tab.lookup cl = some true) (z : h e = .nx e') : tryH cl e ((tab, h) :: r) = .nx e' := by
  rw [tryH, q]
  simp only [z]
  rfl
theorem try_ex' {m : En → Out} {hs : List (List (Str × Bool) × (En → Out))} {e e' : En} {cl : Str} (h : m e = .ex cl e') : S.try_ m hs e = tryH cl e' hs := by
  unfold S.try_; rw [h]
theorem rep_one {d : D} : ∀ k : Nat, (List.replicate k [d]).flatten = List.replicate k d
  | 0 => rfl
  | k + 1 => by rw [List.replicate_succ, List.flatten_cons, rep_one k, List.replicate_succ]; rfl
theorem rep2_one (d : D) (k : Int) (h0 : 0 ≤ k) (h : k ≤ 1000) : Fl.rep2 (.lst [d]) (.int k) = .ok (List.replicate k.toNat d) := by
  show (if 0 ≤ k ∧ k ≤ 1000 ∧ [d].length ≤ 1000 then R.ok (List.replicate k.toNat [d]).flatten else R.no) = _
  rw [if_pos ⟨h0, h, by simp⟩, rep_one]
/-! ### cut -/
def pieces (m : Int) (a : Int × Int) : Asks := List.replicate (a.2 / m).toNat (a.1, m) ++ if a.2 % m = 0 then [] else [(a.1, a.2 % m)]
def cutP (m : Int) (as : Asks) : Asks := as.flatMap (pieces m)
theorem pieces_len (m : Int) (a : Int × Int) (hm : 1 ≤ m) (h0 : 0 ≤ a.2) (h : a.2 ≤ 99) : (pieces m a).length ≤ 100 := by
  unfold pieces
  rw [List.length_append, List.length_replicate]
  have h1 : a.2 / m ≤ a.2 := Int.ediv_le_self _ h0
  have h2 : 0 ≤ a.2 / m := Int.ediv_nonneg h0 (by omega)
  split
  · simp; omega
  · simp; omega
theorem truD_ne (i : Int) : (i != 0) = !decide (i = 0) := by
  by_cases h : i = 0 <;> simp [h]
local macro_rules | `(tactic| simp_all only [$as:simpLemma,*]) => `(tactic| simp only [R.bind_ok, R.bind_ex, R.bind_no, R.of_some, R.of_none, asInts_map, Out.seq_nx, Out.seq_rt, Out.seq_bk, Out.seq_ct, Out.seq_ex, Out.seq_no, R.out_ok, R.out_ex, R.out_no, E.c_eq, E.var_eq, E.un_eq, E.bin_eq, E.nil_eq, E.cons_eq, E.call_eq, E.ite_eq, E.andV_eq, E.orV_eq, E.notV_eq, E.chain_eq, E.methL_eq, E.none_eq, E.part_eq, E.slice_eq, asPart_int, B.val_eq, B.tru_eq, B.and_eq, B.or_eq, B.not_eq, B.yes_eq, truD_bl, truD_int, truD_lst, truD_tup, vw_nil, vw_zero, vw_succ, Sl.vw_no, Sl.vw_sh, Sl.vw_ow, Fl.lst_eq, Fl.add_eq, Fl.rep_eq, Fl.slice_eq, Fl.rev_eq, Fl.list_eq, Fl.sort_eq, Fl.call_eq, Fl.comp_eq, okLst_eq, I.items_eq, I.zip_eq, I.enum_eq, I.range1_eq, I.range2_eq, itemsD_lst, itemsD_tup, itemsD_fix, zipD_eq, enumD_eq, Z.px_eq, Z.pf_eq, Z.var_zero, Z.var_succ, S.seq_eq, S.nil_eq, S.drop_eq, S.ret_eq, S.retF_eq, S.retO_eq, S.retN_eq, S.withL_zero, S.withL_succ, S.putL_eq, S.ite_eq, S.set_eq, S.own_eq, S.bind_eq, S.app_eq, S.seti_eq, S.setD_int, S.putM_some, S.raise_eq, S.frzA_eq, S.frz_eq, S.never_eq, S.brk_eq, S.cont_eq, S.loop_eq, S.while_eq, noOw_nil, noOw_cons, Sl.noOw_no, Sl.noOw_sh, Sl.noOw_ow, frz1_zero, frz1_succ, Sl.frz_no, Sl.frz_sh, Sl.frz_ow, bindT_nm, bindT_tp, bindTs_nil, bindTs_cons, setsE_nil, setsE_cons, wipeE_nil, wipeE_cons, R.noex_ok, Fn.X_eq, Fn.F_eq, Fn.run1, Fn.run2, Fn.run3, Fn.outX_nx, Fn.outX_rt, Fn.outX_ex, Fn.outF_rt, Fn.outF_ex, on1_eq, on2_eq, index1_eq, D.pure_int, D.pure_bl, D.pure_str, D.pure_non, D.pure_tup, D.pure_lst, D.pures_nil, D.pures_cons, D.pures_app, D.pures_ints, addD_int, addD_lst, addD_tup, addI_int, subD_int, negD_int, ltD_int, leD_int, gtD_int, geD_int, max2D_int, min2D_int, lenD_lst, lenD_tup, lenD_fix, tupleD_lst, ixD_lst, ixD_tup, ixD_fix, tupD_two, tupD_three, lstD_one, lstD_two, lstD_three, lstD_nil, onInts_ints, sort1_ints, add2_eq, eqD_int, neD_int, within_int, noObj_int, noObj_bl, noObj_non, noObj_str, noObj_tup, noObj_lst, is_within_int, is_within_non, is_within_bl, is_within_str, is_within_tup, is_within_lst, dA_pure, itemsD_dA, lenD_dA, slD_tup, slD_lst, rev1_lst, S.ownD_eq, S.withD_zero, S.withD_succ, S.dput_eq, tupD_nil, List.replicate, List.set_cons_succ, List.set_cons_zero, if_true, Bool.true_or, Bool.or_true, Bool.true_and, Bool.and_true, Bool.and_self, Bool.not_true, Bool.not_false, Bool.false_eq_true, if_false, Bool.or_false, Bool.false_or, Bool.false_and, Bool.and_false, List.length_map, List.length_nil, Nat.zero_le, List.append_nil, List.singleton_append, List.nil_append, and_self, true_and, and_true, false_and, and_false, decide_true, decide_false, S.ext_eq, $as:simpLemma,*])
theorem cut_step (A : D) (m : Int) (hm : 1 ≤ m) (hm2 : m ≤ 99) (fs : Asks) (hf : fs.length < 100000) (w l : Int) (h0 : 0 ≤ l) (h : l ≤ 99) :
    Mi.l1_plan_cut [.sh A, .sh (.int m), .ow (.node .leaf) (.lst (fs.map dAsk)), .sh (.int w), .sh (.int l)] = .nx [.sh A, .sh (.int m), .ow (.node .leaf) (.lst ((fs ++ pieces m (w, l)).map dAsk)), .sh (.int w), .sh (.int l)] := by
  have h1 : l / m ≤ l := Int.ediv_le_self _ h0
  have h2 : 0 ≤ l / m := Int.ediv_nonneg h0 (by omega)
  have p1 : D.pures (List.replicate (l / m).toNat (D.tup [.int w, .int m])) = true := by
    rw [D.pures_all, List.all_eq_true]
    intro x hx
    rw [List.eq_of_mem_replicate hx]
    simp
  have e1 : (List.replicate (l / m).toNat (D.tup [.int w, .int m])) = (List.replicate (l / m).toNat (w, m)).map dAsk := by rw [List.map_replicate]; rfl
  have l1 : fs.length + (l / m).toNat ≤ 16777216 := by omega
  have l2 : fs.length + (l / m).toNat < 16777216 := by omega
  unfold Mi.l1_plan_cut pieces
  by_cases c : l % m = 0
  · simp_all only [divD_int l m (by omega), rep2_one _ (l / m) h2 (by omega), p1, true_and, List.length_replicate, l1, modD_int l m (by omega), truD_ne, c, decide_true]
    rw [e1, ← List.map_append]
  · simp_all only [divD_int l m (by omega), rep2_one _ (l / m) h2 (by omega), p1, true_and, List.length_replicate, l1, modD_int l m (by omega), truD_ne, c, decide_false, List.length_append, l2]
    rw [e1, ← List.map_append, ← List.append_assoc, List.map_append (l₂ := [(w, l % m)])]
    rfl
theorem cut_loop (A : D) (m : Int) (hm : 1 ≤ m) (hm2 : m ≤ 99) : ∀ (as fs : Asks) (s3 s4 : Sl), fs.length + 100 * as.length ≤ 50000 → (∀ a ∈ as, 0 ≤ a.2 ∧ a.2 ≤ 99) → ∃ t3 t4, loopM (.tp [(.nm 3), (.nm 4)]) Mi.l1_plan_cut (as.map dAsk) [.sh A, .sh (.int m), .ow (.node .leaf) (.lst (fs.map dAsk)), s3, s4] =
    .nx [.sh A, .sh (.int m), .ow (.node .leaf) (.lst ((fs ++ cutP m as).map dAsk)), t3, t4]
  | [], fs, s3, s4, _, _ => ⟨s3, s4, by simp [loopM, cutP]⟩
  | (w, l) :: as, fs, s3, s4, hf, ok => by
    rw [List.length_cons] at hf
    have o := ok (w, l) List.mem_cons_self
    simp only [] at o
    have pl := pieces_len m (w, l) hm o.1 o.2
    obtain ⟨t3, t4, e⟩ := cut_loop A m hm hm2 as (fs ++ pieces m (w, l)) (.sh (.int w)) (.sh (.int l)) (by rw [List.length_append]; omega) (fun a ha => ok a (List.mem_cons_of_mem _ ha))
    refine ⟨t3, t4, ?_⟩
    rw [List.map_cons, loop_cons (bindT_dAsk 3 4 w l) (e' := [.sh A, .sh (.int m), .ow (.node .leaf) (.lst ((fs ++ pieces m (w, l)).map dAsk)), .sh (.int w), .sh (.int l)]) (cut_step A m hm hm2 fs (by omega) w l o.1 o.2), e, List.append_assoc]
    rfl
theorem okP_le {as : Asks} {last : Int} (h : okP last as = true) : ∀ a ∈ as, last ≤ a.1 ∧ a.1 ≤ 999 ∧ 1 ≤ a.2 ∧ a.2 ≤ 99 := by
  induction as generalizing last with
  | nil => intro a ha; cases ha
  | cons b as ih =>
    obtain ⟨w, l⟩ := b
    rw [okP, Bool.and_eq_true] at h
    simp at h
    intro a ha
    rcases List.mem_cons.mp ha with z | z
    · rw [z]; exact ⟨h.1.1.1.1, h.1.1.1.2, h.1.1.2, h.1.2⟩
    · have := ih h.2 a z
      exact ⟨by omega, this.2⟩
theorem valid_ok {as : Asks} (v : validP as = true) : okP 0 as = true := by unfold validP at v; simp at v; exact v.2
theorem plan_cut_eq (as : Asks) (v : validP as = true) (m : Int) (hm : 1 ≤ m) (hm2 : m ≤ 99) : Mi.plan_cut [dA as, .int m] = if (cutP m as).length ≤ 40 then .ok (dA (cutP m as)) else .ex "BadPlan" := by
  have o := okP_le (valid_ok v)
  have hl := valid_len v
  obtain ⟨t3, t4, e⟩ := cut_loop (dA as) m hm hm2 as [] .no .no (by simp; omega) (fun a ha => ⟨by have := o a ha; omega, (o a ha).2.2.2⟩)
  rw [List.map_nil, List.nil_append] at e
  unfold Mi.plan_cut Mi.b_plan_cut
  by_cases c : (cutP m as).length ≤ 40
  · have c' : ¬ (40 : Int) < ((cutP m as).length : Nat) := by omega
    simp_all only [look_plan_eq, v, look_int, hm, hm2, itemsD_dA, e, c', decide_false, c]
    rfl
  · have c' : (40 : Int) < ((cutP m as).length : Nat) := by omega
    simp_all only [look_plan_eq, v, look_int, hm, hm2, itemsD_dA, e, c', decide_true, c]
/-- a law's own cutting -/
def cw (m w : Int) : Nat → Int → Asks × Int
  | 0, l => ([], l)
  | n + 1, l => if m < l then ((w, m) :: (cw m w n (l - m)).1, (cw m w n (l - m)).2) else ([], l)
theorem cw_pieces (m w : Int) (hm : 1 ≤ m) : ∀ (n : Nat) (l : Int), 1 ≤ l → l ≤ m * (n + 1) → pieces m (w, l) = (cw m w n l).1 ++ [(w, (cw m w n l).2)]
  | 0, l, h1, h2 => by
    have h2' : l ≤ m := by simpa using h2
    unfold pieces
    simp only [cw, List.nil_append]
    rcases Int.lt_or_eq_of_le h2' with z | z
    · rw [Int.ediv_eq_zero_of_lt (by omega) z, Int.emod_eq_of_lt (by omega) z, if_neg (by omega)]
      rfl
    · rw [z, Int.ediv_self (by omega), Int.emod_self, if_pos rfl]
      rfl
  | n + 1, l, h1, h2 => by
    rw [cw]
    by_cases c : m < l
    · rw [if_pos c]
      have e1 : l / m = (l - m) / m + 1 := by
        have := Int.add_mul_ediv_right (l - m) 1 (show m ≠ 0 by omega)
        rw [Int.one_mul, Int.sub_add_cancel] at this
        exact this
      have e2 : l % m = (l - m) % m := by
        have := Int.add_mul_emod_self_right (l - m) 1 m
        rw [Int.one_mul, Int.sub_add_cancel] at this
        exact this
      have ih := cw_pieces m w hm n (l - m) (by omega) (by
        have : m * ((n + 1 : Nat) + 1 : Int) = m * (n + 1) + m := by
          rw [Int.mul_add, Int.mul_one]; push_cast; rfl
        push_cast at h2 this
        omega)
      have p0 : 0 ≤ (l - m) / m := Int.ediv_nonneg (by omega) (by omega)
      unfold pieces at ih ⊢
      simp only [] at ih ⊢
      rw [e1, e2, show ((l - m) / m + 1).toNat = ((l - m) / m).toNat + 1 by omega, List.replicate_succ, List.cons_append, ih]
      rfl
    · rw [if_neg c]
      have h2' : l ≤ m := by omega
      unfold pieces
      simp only [List.nil_append]
      rcases Int.lt_or_eq_of_le h2' with z | z
      · rw [Int.ediv_eq_zero_of_lt (by omega) z, Int.emod_eq_of_lt (by omega) z, if_neg (by omega)]
        rfl
      · rw [z, Int.ediv_self (by omega), Int.emod_self, if_pos rfl]
        rfl
theorem cw_len (m w : Int) : ∀ (n : Nat) (l : Int), (cw m w n l).1.length ≤ n
  | 0, l => Nat.le_refl _
  | n + 1, l => by
    rw [cw]
    split
    · rw [List.length_cons]
      have := cw_len m w n (l - m)
      omega
    · simp
theorem lcut_while (A : D) (m : Int) (hm : 1 ≤ m) (w : Int) : ∀ (n fuel : Nat) (l : Int) (fs : Asks), l ≤ m * (n + 1) → n < fuel → fs.length + n < 100000 →
    whileM (B.val (E.bin gtD (E.var 4) (E.var 1))) Mi.l1_law_cut fuel [.sh A, .sh (.int m), .ow (.node .leaf) (.lst (fs.map dAsk)), .sh (.int w), .sh (.int l)] = .nx [.sh A, .sh (.int m), .ow (.node .leaf) (.lst ((fs ++ (cw m w n l).1).map dAsk)), .sh (.int w), .sh (.int (cw m w n l).2)]
  | n, 0, l, fs, _, h, _ => absurd h (Nat.not_lt_zero n)
  | n, fuel + 1, l, fs, h1, h2, h3 => by
    rw [whileM_succ]
    cases n with
    | zero =>
      have c : ¬ m < l := by have : l ≤ m := by simpa using h1
                             omega
      simp_all only [c, decide_false, cw]
    | succ n =>
      by_cases c : m < l
      · have l2 : fs.length < 16777216 := by omega
        have st : Mi.l1_law_cut [.sh A, .sh (.int m), .ow (.node .leaf) (.lst (fs.map dAsk)), .sh (.int w), .sh (.int l)] = .nx [.sh A, .sh (.int m), .ow (.node .leaf) (.lst ((fs ++ [(w, m)]).map dAsk)), .sh (.int w), .sh (.int (l - m))] := by
          unfold Mi.l1_law_cut
          refine (seq_step (by simp_all only [l2]; rfl)).trans ?_
          refine (seq_step (aug_at (d0 := .int l) (d := .int m) (r := .int (l - m)) rfl (by simp_all only []) (by simp_all only []) (D.pure_int _))).trans ?_
          simp_all only [List.map_append]
          rfl
        have ih := lcut_while A m hm w n fuel (l - m) (fs ++ [(w, m)]) (by
          have : m * ((n + 1 : Nat) + 1 : Int) = m * (n + 1) + m := by
            rw [Int.mul_add, Int.mul_one]; push_cast; rfl
          push_cast at h1 this
          omega) (by omega) (by rw [List.length_append, List.length_singleton]; omega)
        simp_all only [c, decide_true, st, cw]
        rw [ih, List.append_assoc]
        rfl
      · simp_all only [c, decide_false, cw]
theorem lcut_step (A : D) (m : Int) (hm : 1 ≤ m) (fs : Asks) (hf : fs.length < 50000) (w l : Int) (h0 : 1 ≤ l) (h : l ≤ 99) :
    ∃ t4, Mi.l2_law_cut [.sh A, .sh (.int m), .ow (.node .leaf) (.lst (fs.map dAsk)), .sh (.int w), .sh (.int l)] = .nx [.sh A, .sh (.int m), .ow (.node .leaf) (.lst ((fs ++ pieces m (w, l)).map dAsk)), .sh (.int w), t4] := by
  have e := lcut_while A m hm w 99 1000000 l fs (by omega) (by omega) (by omega)
  have p := cw_pieces m w hm 99 l h0 (by omega)
  have cl := cw_len m w 99 l
  have l2 : fs.length + (cw m w 99 l).1.length < 16777216 := by omega
  refine ⟨.sh (.int (cw m w 99 l).2), ?_⟩
  unfold Mi.l2_law_cut
  refine (seq_step (by rw [S.while_eq]; exact e)).trans ?_
  simp_all only [List.length_append, l2]
  rw [p, ← List.append_assoc, List.map_append (l₂ := [(w, (cw m w 99 l).2)])]
  rfl
theorem lcut_loop (A : D) (m : Int) (hm : 1 ≤ m) : ∀ (as fs : Asks) (s3 s4 : Sl), fs.length + 100 * as.length ≤ 49000 → (∀ a ∈ as, 1 ≤ a.2 ∧ a.2 ≤ 99) → ∃ t3 t4, loopM (.tp [(.nm 3), (.nm 4)]) Mi.l2_law_cut (as.map dAsk) [.sh A, .sh (.int m), .ow (.node .leaf) (.lst (fs.map dAsk)), s3, s4] =
    .nx [.sh A, .sh (.int m), .ow (.node .leaf) (.lst ((fs ++ cutP m as).map dAsk)), t3, t4]
  | [], fs, s3, s4, _, _ => ⟨s3, s4, by simp [loopM, cutP]⟩
  | (w, l) :: as, fs, s3, s4, hf, ok => by
    rw [List.length_cons] at hf
    have o := ok (w, l) List.mem_cons_self
    simp only [] at o
    have pl := pieces_len m (w, l) hm (by simp only []; omega) o.2
    obtain ⟨u4, e1⟩ := lcut_step A m hm fs (by omega) w l o.1 o.2
    obtain ⟨t3, t4, e⟩ := lcut_loop A m hm as (fs ++ pieces m (w, l)) (.sh (.int w)) u4 (by rw [List.length_append]; omega) (fun a ha => ok a (List.mem_cons_of_mem _ ha))
    refine ⟨t3, t4, ?_⟩
    rw [List.map_cons, loop_cons (bindT_dAsk 3 4 w l) (e' := [.sh A, .sh (.int m), .ow (.node .leaf) (.lst ((fs ++ pieces m (w, l)).map dAsk)), .sh (.int w), u4]) e1, e, List.append_assoc]
    rfl
theorem law_cut_eq (as : Asks) (v : validP as = true) (m : Int) (hm : 1 ≤ m) : Mi.law_cut [dA as, .int m] = .ok (dA (cutP m as)) := by
  have o := okP_le (valid_ok v)
  have hl := valid_len v
  obtain ⟨t3, t4, e⟩ := lcut_loop (dA as) m hm as [] .no .no (by simp; omega) (fun a ha => (o a ha).2.2)
  rw [List.map_nil, List.nil_append] at e
  unfold Mi.law_cut Mi.b_law_cut
  simp_all only [itemsD_dA, e]
  rfl
/-! ### later -/
def laterP (by_ : Int) (as : Asks) : Asks := as.map fun a => (a.1 + by_, a.2)
def allIn (as : Asks) : Bool := as.all fun a => decide (0 ≤ a.1) && decide (a.1 ≤ 999)
theorem later_comp (as : Asks) (k : Int) (e : En) (i j n : Nat) (hi : i ≠ j) (hn : n ≠ i) (hn2 : n ≠ j) (hil : i < e.length) (hjl : j < e.length) (h : vw e n = some (.int k)) (hl : as.length ≤ 16777000) (f : En → R D) (hf : f e = .ok (dA as)) :
    Fl.comp (I.items f) (.tp [(.nm i), (.nm j)]) [i, j] B.yes (E.call tupD (E.cons (E.bin addD (E.var i) (E.var n)) (E.cons (E.var j) E.nil))) e = .ok ((laterP k as).map dAsk) := by
  have e1 := lcM_all (t := .tp [(.nm i), (.nm j)]) (vs := [i, j]) (elt := E.call tupD (E.cons (E.bin addD (E.var i) (E.var n)) (E.cons (E.var j) E.nil))) (e := e) dAsk (fun a => dAsk (a.1 + k, a.2)) as (fun a _ => ⟨[(i, .int a.1), (j, .int a.2)], bindT_dAsk i j a.1 a.2, by
    have v1 : vw (setsE (wipeE e [i, j]) [(i, .int a.1), (j, .int a.2)]) i = some (.int a.1) := by
      simp only [setsE_cons, setsE_nil, wipeE_cons, wipeE_nil]
      rw [vw_set, if_neg (fun z => hi z.1.symm), vw_set, if_pos ⟨rfl, by simp; exact hil⟩]
      rfl
    have v2 : vw (setsE (wipeE e [i, j]) [(i, .int a.1), (j, .int a.2)]) j = some (.int a.2) := by
      simp only [setsE_cons, setsE_nil, wipeE_cons, wipeE_nil]
      rw [vw_set, if_pos ⟨rfl, by simp; exact hjl⟩]
      rfl
    have v3 : vw (setsE (wipeE e [i, j]) [(i, .int a.1), (j, .int a.2)]) n = some (.int k) := by
      simp only [setsE_cons, setsE_nil, wipeE_cons, wipeE_nil]
      rw [vw_set, if_neg (fun z => hn2 z.1.symm), vw_set, if_neg (fun z => hn z.1.symm), vw_set, if_neg (fun z => hn z.1.symm), vw_set, if_neg (fun z => hn2 z.1.symm), h]
    simp only [E.call_eq, E.cons_eq, E.bin_eq, E.nil_eq, E.var_eq, v1, v2, v3, R.of_some, R.bind_ok, addD_int, tupD_two]
    rfl, by simp [dAsk]⟩)
  rw [Fl.comp_eq, I.items_eq, hf]
  simp only [R.bind_ok, itemsD_dA, List.length_map]
  rw [if_pos hl, e1]
  unfold laterP
  rw [List.map_map]
  rfl
theorem plan_later_eq (as : Asks) (v : validP as = true) (k : Int) (h1 : -999 ≤ k) (h2 : k ≤ 999) : Mi.plan_later [dA as, .int k] = if allIn (laterP k as) = true then .ok (dA (laterP k as)) else .ex "BadNumber" := by
  have hl := valid_len v
  have f1 := later_comp as k [.sh (dA as), .sh (.int k), .no, .no, .no, .no] 3 4 1 (by omega) (by omega) (by omega) (by simp) (by simp) rfl (by omega) (E.var 0) rfl
  have e2 := lcM_map (t := .nm 5) (vs := [5]) (test := B.not (B.tru (E.call Mi.is_within (E.cons (E.bin ixD (E.var 5) (E.c (.int 0))) (E.cons (E.c (.int 0)) (E.cons (E.c (.int 999)) E.nil)))))) (elt := E.var 5) (e := [.sh (dA as), .sh (.int k), .sh (dA (laterP k as)), .no, .no, .no])
    dAsk dAsk (fun a => !(decide (0 ≤ a.1) && decide (a.1 ≤ 999))) (laterP k as) (fun a _ => ⟨[(5, dAsk a)], bindT_nm _ _, by simp [dAsk], fun _ => ⟨by simp_all only [], by simp [dAsk]⟩⟩)
  have hl2 : (laterP k as).length = as.length := by unfold laterP; rw [List.length_map]
  unfold Mi.plan_later Mi.b_plan_later
  refine (fn2 (o := if allIn (laterP k as) = true then .rt (dA (laterP k as)) else .ex "BadNumber" [.sh (dA as), .sh (.int k), .sh (dA (laterP k as)), .no, .no, .no]) ?_).trans (by split <;> rfl)
  simp only [List.replicate]
  refine (seq_step (by simp_all only [look_plan_eq, v] <;> rfl)).trans ?_
  refine (seq_step (by simp_all only [look_int, h1, h2] <;> rfl)).trans ?_
  refine (seq_step (by
    rw [S.set_eq, Z.px_eq, E.call_eq, E.cons_eq, E.call_eq, f1]
    have : D.pures ((laterP k as).map dAsk) = true := by
      have := dA_pure (laterP k as)
      unfold dA at this
      rw [D.pure_tup] at this
      exact this
    simp_all only [this] <;> rfl)).trans ?_
  show S.seq _ _ [.sh (dA as), .sh (.int k), .sh (dA (laterP k as)), .no, .no, .no] = _
  have f2 : Fl.comp (I.items (E.var 2)) (.nm 5) [5] (B.not (B.tru (E.call Mi.is_within (E.cons (E.bin ixD (E.var 5) (E.c (.int 0))) (E.cons (E.c (.int 0)) (E.cons (E.c (.int 999)) E.nil)))))) (E.var 5) [.sh (dA as), .sh (.int k), .sh (dA (laterP k as)), .no, .no, .no] = .ok (((laterP k as).filter fun a => !(decide (0 ≤ a.1) && decide (a.1 ≤ 999))).map dAsk) := by
    rw [Fl.comp_eq, I.items_eq]
    simp_all only [itemsD_dA, hl2]
    rw [if_pos (by omega), e2]
  have emp : ((laterP k as).filter fun a => !(decide (0 ≤ a.1) && decide (a.1 ≤ 999))).isEmpty = allIn (laterP k as) := by
    unfold allIn
    rw [Bool.eq_iff_iff, List.isEmpty_iff, List.filter_eq_nil_iff, List.all_eq_true]
    constructor
    · intro h a ha
      have := h a ha
      simpa using this
    · intro h a ha
      have := h a ha
      simpa using this
  by_cases c : allIn (laterP k as) = true
  · refine (seq_step (by
      rw [S.ite_eq, B.tru_eq, E.call_eq, f2]
      simp_all only [List.isEmpty_map, emp, c] <;> rfl)).trans ?_
    simp_all only [c]
  · have c' : allIn (laterP k as) = false := by simpa using c
    rw [c']
    exact seq_end (by
      rw [S.ite_eq, B.tru_eq, E.call_eq, f2]
      simp_all only [List.isEmpty_map, emp, c']) (fun _ h => by simp at h)
/-! ### without -/
def withoutP (p : Nat) (as : Asks) : Asks := as.take p ++ as.drop (p + 1)
theorem plan_without_eq (as : Asks) (v : validP as = true) (p : Nat) : Mi.plan_without [dA as, .int p] = if p < as.length then .ok (dA (withoutP p as)) else .ex "BadNumber" := by
  have hl := valid_len v
  have s1 := sl_take as p
  have s2 := sl_drop as (p + 1)
  have ln : lenD (dA as) = .ok (.int (as.length : Nat)) := by unfold dA; rw [lenD_tup, List.length_map]
  have ad := add_dA (as.take p) (as.drop (p + 1)) (by rw [List.length_take, List.length_drop]; omega)
  push_cast at s2
  unfold Mi.plan_without Mi.b_plan_without
  by_cases c : p < as.length
  · have c1 : (p : Int) ≤ (as.length : Int) - 1 := by omega
    have c0 : (0 : Int) ≤ p := by omega
    simp_all only [look_plan_eq, v, ln, look_int, c0, c1, s1, s2, ad, c]
    rfl
  · have c1 : ¬ (p : Int) ≤ (as.length : Int) - 1 := by omega
    simp_all only [look_plan_eq, v, ln, look_int, c1, and_false, c]
end Lp

/-! # Plain law, part Q: the word of what refuses; plans cut -/
namespace Lp
open PySem
/-! ### the word of the class that refuses -/
def wordHs : List (List (Str × Bool) × (En → Out)) := [([("PoolError", false), ("BadSettings", false), ("BadNumber", true), ("BadThing", false), ("BadPlan", false), ("BadDeed", false), ("BadText", false), ("Nothing", false)], (S.seq (S.set 2 (Z.px (E.c (.str "number")))) S.nil)), ([("PoolError", false), ("BadSettings", false), ("BadNumber", false), ("BadThing", false), ("BadPlan", true), ("BadDeed", false), ("BadText", false), ("Nothing", false)], (S.seq (S.set 2 (Z.px (E.c (.str "plan")))) S.nil)), ([("PoolError", false), ("BadSettings", true), ("BadNumber", false), ("BadThing", false), ("BadPlan", false), ("BadDeed", false), ("BadText", false), ("Nothing", false)], (S.seq (S.set 2 (Z.px (E.c (.str "settings")))) S.nil)), ([("PoolError", false), ("BadSettings", false), ("BadNumber", false), ("BadThing", false), ("BadPlan", false), ("BadDeed", true), ("BadText", false), ("Nothing", false)], (S.seq (S.set 2 (Z.px (E.c (.str "deed")))) S.nil)), ([("PoolError", false), ("BadSettings", false), ("BadNumber", false), ("BadThing", false), ("BadPlan", false), ("BadDeed", false), ("BadText", true), ("Nothing", false)], (S.seq (S.set 2 (Z.px (E.c (.str "text")))) S.nil))]
def wordB (c1 c2 : En → R D) : En → Out := (S.seq (S.set 2 (Z.px (E.c (.str "")))) (S.seq (S.try_ (S.seq (S.ite (B.val (E.bin ltD (E.var 0) (E.c (.int 7)))) (S.seq (S.drop c1) S.nil) (S.seq (S.drop c2) S.nil)) S.nil) wordHs) (S.seq (S.ret (E.var 2)) S.nil)))
local macro_rules | `(tactic| simp_all only [$as:simpLemma,*]) => `(tactic| simp only [R.bind_ok, R.bind_ex, R.bind_no, R.of_some, R.of_none, asInts_map, Out.seq_nx, Out.seq_rt, Out.seq_bk, Out.seq_ct, Out.seq_ex, Out.seq_no, R.out_ok, R.out_ex, R.out_no, E.c_eq, E.var_eq, E.un_eq, E.bin_eq, E.nil_eq, E.cons_eq, E.call_eq, E.ite_eq, E.andV_eq, E.orV_eq, E.notV_eq, E.chain_eq, E.methL_eq, E.none_eq, E.part_eq, E.slice_eq, asPart_int, B.val_eq, B.tru_eq, B.and_eq, B.or_eq, B.not_eq, B.yes_eq, truD_bl, truD_int, truD_lst, truD_tup, vw_nil, vw_zero, vw_succ, Sl.vw_no, Sl.vw_sh, Sl.vw_ow, Fl.lst_eq, Fl.add_eq, Fl.rep_eq, Fl.slice_eq, Fl.rev_eq, Fl.list_eq, Fl.sort_eq, Fl.call_eq, Fl.comp_eq, okLst_eq, I.items_eq, I.zip_eq, I.enum_eq, I.range1_eq, I.range2_eq, itemsD_lst, itemsD_tup, itemsD_fix, zipD_eq, enumD_eq, Z.px_eq, Z.pf_eq, Z.var_zero, Z.var_succ, S.seq_eq, S.nil_eq, S.drop_eq, S.ret_eq, S.retF_eq, S.retO_eq, S.retN_eq, S.withL_zero, S.withL_succ, S.putL_eq, S.ite_eq, S.set_eq, S.own_eq, S.bind_eq, S.app_eq, S.seti_eq, S.setD_int, S.putM_some, S.raise_eq, S.frzA_eq, S.frz_eq, S.never_eq, S.brk_eq, S.cont_eq, S.loop_eq, S.while_eq, noOw_nil, noOw_cons, Sl.noOw_no, Sl.noOw_sh, Sl.noOw_ow, frz1_zero, frz1_succ, Sl.frz_no, Sl.frz_sh, Sl.frz_ow, bindT_nm, bindT_tp, bindTs_nil, bindTs_cons, setsE_nil, setsE_cons, wipeE_nil, wipeE_cons, R.noex_ok, Fn.X_eq, Fn.F_eq, Fn.run1, Fn.run2, Fn.run3, Fn.outX_nx, Fn.outX_rt, Fn.outX_ex, Fn.outF_rt, Fn.outF_ex, on1_eq, on2_eq, index1_eq, D.pure_int, D.pure_bl, D.pure_str, D.pure_non, D.pure_tup, D.pure_lst, D.pures_nil, D.pures_cons, D.pures_app, D.pures_ints, addD_int, addD_lst, addD_tup, addI_int, subD_int, negD_int, ltD_int, leD_int, gtD_int, geD_int, max2D_int, min2D_int, lenD_lst, lenD_tup, lenD_fix, tupleD_lst, ixD_lst, ixD_tup, ixD_fix, tupD_two, tupD_three, lstD_one, lstD_two, lstD_three, lstD_nil, onInts_ints, sort1_ints, add2_eq, eqD_int, neD_int, within_int, noObj_int, noObj_bl, noObj_non, noObj_str, noObj_tup, noObj_lst, is_within_int, is_within_non, is_within_bl, is_within_str, is_within_tup, is_within_lst, dA_pure, itemsD_dA, lenD_dA, slD_tup, slD_lst, rev1_lst, S.ownD_eq, S.withD_zero, S.withD_succ, S.dput_eq, tupD_nil, S.ext_eq, List.replicate, List.set_cons_succ, List.set_cons_zero, if_true, Bool.true_or, Bool.or_true, Bool.true_and, Bool.and_true, Bool.and_self, Bool.not_true, Bool.not_false, Bool.false_eq_true, if_false, Bool.or_false, Bool.false_or, Bool.false_and, Bool.and_false, List.length_map, List.length_nil, Nat.zero_le, List.append_nil, List.singleton_append, List.nil_append, and_self, true_and, and_true, false_and, and_false, decide_true, decide_false, $as:simpLemma,*])
theorem word_ok {c1 c2 : En → R D} {w : Int} {A d : D} (h : (if w < 7 then c1 else c2) [.sh (.int w), .sh A, .sh (.str "")] = .ok d) : Fn.X 2 1 (wordB c1 c2) [.int w, A] = .ok (.str "") := by
  refine (fn2 (o := .rt (.str "")) ?_).trans rfl
  simp only [List.replicate]
  unfold wordB
  refine (seq_step (by simp_all only [] <;> rfl)).trans ?_
  refine (seq_step (try_nx (e' := [.sh (.int w), .sh A, .sh (.str "")]) ?_)).trans ?_
  · by_cases c : w < 7
    · rw [if_pos c] at h
      simp_all only [c, h]
    · rw [if_neg c] at h
      simp_all only [c, h]
  · simp_all only []
theorem word_ex {c1 c2 : En → R D} {w : Int} {A : D} {cl wd : Str} (h : (if w < 7 then c1 else c2) [.sh (.int w), .sh A, .sh (.str "")] = .ex cl)
    (hc : (cl = "BadNumber" ∧ wd = "number") ∨ (cl = "BadPlan" ∧ wd = "plan") ∨ (cl = "BadSettings" ∧ wd = "settings") ∨ (cl = "BadDeed" ∧ wd = "deed") ∨ (cl = "BadText" ∧ wd = "text")) : Fn.X 2 1 (wordB c1 c2) [.int w, A] = .ok (.str wd) := by
  have body : (S.seq (S.ite (B.val (E.bin ltD (E.var 0) (E.c (.int 7)))) (S.seq (S.drop c1) S.nil) (S.seq (S.drop c2) S.nil)) S.nil) [.sh (.int w), .sh A, .sh (.str "")] = .ex cl [.sh (.int w), .sh A, .sh (.str "")] := by
    by_cases c : w < 7
    · rw [if_pos c] at h
      simp_all only [c, h]
    · rw [if_neg c] at h
      simp_all only [c, h]
  have key : tryH cl [.sh (.int w), .sh A, .sh (.str "")] wordHs = .nx [.sh (.int w), .sh A, .sh (.str wd)] := by
    unfold wordHs
    rcases hc with ⟨e1, e2⟩ | ⟨e1, e2⟩ | ⟨e1, e2⟩ | ⟨e1, e2⟩ | ⟨e1, e2⟩ <;> subst e1 e2
    · exact tryH_yes' (by decide +kernel) (by simp_all only [])
    · exact (tryH_no' (by decide +kernel)).trans (tryH_yes' (by decide +kernel) (by simp_all only []))
    · exact (tryH_no' (by decide +kernel)).trans ((tryH_no' (by decide +kernel)).trans (tryH_yes' (by decide +kernel) (by simp_all only [])))
    · exact (tryH_no' (by decide +kernel)).trans ((tryH_no' (by decide +kernel)).trans ((tryH_no' (by decide +kernel)).trans (tryH_yes' (by decide +kernel) (by simp_all only []))))
    · exact (tryH_no' (by decide +kernel)).trans ((tryH_no' (by decide +kernel)).trans ((tryH_no' (by decide +kernel)).trans ((tryH_no' (by decide +kernel)).trans (tryH_yes' (by decide +kernel) (by simp_all only [])))))
  refine (fn2 (o := .rt (.str wd)) ?_).trans rfl
  simp only [List.replicate]
  unfold wordB
  refine (seq_step (by simp_all only [] <;> rfl)).trans ?_
  refine (seq_step ((try_ex' body).trans key)).trans ?_
  simp_all only []
theorem eqv_str (x y : Str) : PyData.eqv (.str x) (.str y) = decide (x = y) := by
  rw [PyData.eqv]
  by_cases h : x = y <;> simp [h]
theorem eqD_str (x y : Str) : eqD (.str x) (.str y) = .ok (.bl (decide (x = y))) := by
  unfold eqD
  rw [if_pos (by simp [D.dt]), D.py, D.py, eqv_str]
theorem neD_str (x y : Str) : neD (.str x) (.str y) = .ok (.bl (!decide (x = y))) := by
  unfold neD
  rw [if_pos (by simp [D.dt]), D.py, D.py, eqv_str]
/-! ### plans cut -/
theorem pieces_self {m : Int} {a : Int × Int} (h1 : 1 ≤ a.2) (h2 : a.2 ≤ m) : pieces m a = [a] := by
  obtain ⟨w, l⟩ := a
  have := cw_pieces m w (by simp only [] at h1 h2; omega) 0 l h1 (by simpa using h2)
  rw [this]
  rfl
theorem cutP_cons (m : Int) (a : Int × Int) (as : Asks) : cutP m (a :: as) = pieces m a ++ cutP m as := rfl
theorem cutP_self {m : Int} : ∀ {as : Asks}, (∀ a ∈ as, 1 ≤ a.2 ∧ a.2 ≤ m) → cutP m as = as
  | [], _ => rfl
  | a :: as, h => by
    have := h a List.mem_cons_self
    rw [cutP_cons, pieces_self this.1 this.2, cutP_self fun b hb => h b (List.mem_cons_of_mem _ hb)]
    rfl
theorem pieces_mem {m : Int} (hm : 1 ≤ m) {a b : Int × Int} (h0 : 0 ≤ a.2) (hb : b ∈ pieces m a) : b.1 = a.1 ∧ 1 ≤ b.2 ∧ b.2 ≤ m := by
  unfold pieces at hb
  have h1 := Int.emod_nonneg a.2 (show m ≠ 0 by omega)
  have h2 := Int.emod_lt_of_pos a.2 (show 0 < m by omega)
  rcases List.mem_append.mp hb with z | z
  · rw [List.eq_of_mem_replicate z]
    exact ⟨rfl, hm, Int.le_refl _⟩
  · split at z
    · cases z
    · rw [List.mem_singleton.mp z]
      exact ⟨rfl, by show 1 ≤ a.2 % m; omega, by show a.2 % m ≤ m; omega⟩
theorem cutP_mem {m : Int} (hm : 1 ≤ m) {as : Asks} (h0 : ∀ a ∈ as, 0 ≤ a.2) {b : Int × Int} (hb : b ∈ cutP m as) : (∃ a ∈ as, b.1 = a.1) ∧ 1 ≤ b.2 ∧ b.2 ≤ m := by
  unfold cutP at hb
  obtain ⟨a, ha, hb⟩ := List.mem_flatMap.mp hb
  have := pieces_mem hm (h0 a ha) hb
  exact ⟨⟨a, ha, this.1⟩, this.2⟩
theorem okP_const {w : Int} : ∀ (L : Asks) (last : Int), (∀ a ∈ L, a.1 = w ∧ 1 ≤ a.2 ∧ a.2 ≤ 99) → last ≤ w → w ≤ 999 → okP last L = true
  | [], last, _, _, _ => rfl
  | (v, l) :: L, last, h, h1, h2 => by
    have := h (v, l) List.mem_cons_self
    simp only [] at this
    rw [okP, this.1, okP_const L w (fun a ha => h a (List.mem_cons_of_mem _ ha)) (Int.le_refl _) h2]
    simp
    omega
theorem okP_cut {m : Int} (hm : 1 ≤ m) (hm2 : m ≤ 99) : ∀ (as : Asks) (last : Int), okP last as = true → okP last (cutP m as) = true
  | [], _, _ => rfl
  | (w, l) :: as, last, h => by
    have h' := h
    rw [okP, Bool.and_eq_true] at h'
    simp at h'
    rw [cutP_cons]
    refine okP_join _ _ last w (okP_const (w := w) _ last (fun b hb => ?_) (by omega) (by omega)) (okP_cut hm hm2 as w h'.2) (by omega) fun b hb => ?_
    · have := pieces_mem hm (a := (w, l)) (by simp only []; omega) hb
      exact ⟨this.1, this.2.1, by omega⟩
    · have := pieces_mem hm (a := (w, l)) (by simp only []; omega) hb
      rw [this.1]
      exact Int.le_refl _
theorem sum_rep (x : Int) : ∀ k : Nat, (List.replicate k x).sum = k * x
  | 0 => by simp
  | k + 1 => by
    rw [List.replicate_succ, List.sum_cons, sum_rep x k, show ((k + 1 : Nat) : Int) = (k : Int) + 1 by omega, Int.add_mul]
    omega
theorem sum_app (xs ys : List Int) : (xs ++ ys).sum = xs.sum + ys.sum := by
  induction xs with
  | nil => simp
  | cons x xs ih => rw [List.cons_append, List.sum_cons, List.sum_cons, ih]; omega
theorem pieces_sum {m : Int} (hm : 1 ≤ m) (a : Int × Int) (h0 : 0 ≤ a.2) : ((pieces m a).map (·.2)).sum = a.2 := by
  have e := Int.mul_ediv_add_emod a.2 m
  have p := Int.ediv_nonneg h0 (show 0 ≤ m by omega)
  unfold pieces
  rw [List.map_append, sum_app, List.map_replicate, sum_rep, Int.toNat_of_nonneg p]
  split
  · simp
    rw [Int.mul_comm]
    omega
  · simp
    rw [Int.mul_comm]
    omega
theorem cutP_sum {m : Int} (hm : 1 ≤ m) : ∀ (as : Asks), (∀ a ∈ as, 0 ≤ a.2) → ((cutP m as).map (·.2)).sum = (as.map (·.2)).sum
  | [], _ => rfl
  | a :: as, h => by
    rw [cutP_cons, List.map_append, sum_app, pieces_sum hm a (h a List.mem_cons_self), cutP_sum hm as (fun b hb => h b (List.mem_cons_of_mem _ hb)), List.map_cons, List.sum_cons]
/-! ### one thing -/
def e1 : Int → Asks → Int
  | e, [] => e
  | e, (w, l) :: as => e1 (max w e + l) as
def ends1 : Int → Asks → List Int
  | _, [] => []
  | e, (w, l) :: as => (max w e + l) :: ends1 (max w e + l) as
theorem stp_one (e w l : Int) : stp [e] w l = [max w e + l] := by
  unfold stp
  show ([e] : List Int).set ([e].idxOf e) (max w e + l) = _
  simp
theorem spans_one : ∀ (as : Asks) (e : Int), (spans (bgo [e] as) as).map (·.2) = ends1 e as
  | [], e => rfl
  | (w, l) :: as, e => by
    rw [bgo_cons, stp_one, spans_cons, List.map_cons, spans_one as]
    rfl
theorem ends1_fold : ∀ (as : Asks) (e : Int), posP as → (ends1 e as).foldl max e = e1 e as
  | [], e, _ => rfl
  | (w, l) :: as, e, p => by
    have := p (w, l) List.mem_cons_self
    simp only [] at this
    rw [ends1, e1, List.foldl_cons, show max e (max w e + l) = max w e + l by omega]
    exact ends1_fold as _ fun a ha => p a (List.mem_cons_of_mem _ ha)
theorem last_one (as : Asks) (p : posP as) : lastOf (spans (bg 1 as) as) = e1 0 as := by
  unfold lastOf bg
  rw [show List.replicate 1 (0 : Int) = [0] from rfl, spans_one, ends1_fold as 0 p]
theorem e1_append : ∀ (as bs : Asks) (e : Int), e1 e (as ++ bs) = e1 (e1 e as) bs
  | [], bs, e => rfl
  | (w, l) :: as, bs, e => by
    rw [List.cons_append, e1, e1, e1_append as]
theorem e1_same {w : Int} : ∀ (L : Asks) (e : Int), w ≤ e → (∀ a ∈ L, a.1 = w ∧ 0 ≤ a.2) → e1 e L = e + (L.map (·.2)).sum
  | [], e, _, _ => by simp [e1]
  | (v, l) :: L, e, h, g => by
    have := g (v, l) List.mem_cons_self
    simp only [] at this
    rw [e1, this.1, e1_same (w := w) L _ (by omega) (fun a ha => g a (List.mem_cons_of_mem _ ha)), List.map_cons, List.sum_cons]
    omega
theorem e1_pieces {m : Int} (hm : 1 ≤ m) (w l e : Int) (h0 : 1 ≤ l) : e1 e (pieces m (w, l)) = max w e + l := by
  have s := pieces_sum hm (w, l) (by simp only []; omega)
  have mem := fun b hb => pieces_mem hm (a := (w, l)) (b := b) (by simp only []; omega) hb
  cases hp : pieces m (w, l) with
  | nil => rw [hp] at s; simp at s; omega
  | cons b L =>
    rw [hp] at s mem
    obtain ⟨v, k⟩ := b
    have h1 := mem (v, k) List.mem_cons_self
    simp only [] at h1
    rw [e1, h1.1, e1_same (w := w) L _ (by omega) (fun a ha => by
      have := mem a (List.mem_cons_of_mem _ ha)
      exact ⟨this.1, by omega⟩)]
    rw [List.map_cons, List.sum_cons] at s
    simp only [] at s
    omega
theorem e1_cut {m : Int} (hm : 1 ≤ m) : ∀ (as : Asks) (e : Int), posP as → e1 e (cutP m as) = e1 e as
  | [], _, _ => rfl
  | (w, l) :: as, e, p => by
    rw [cutP_cons, e1_append, e1_pieces hm w l e (p (w, l) List.mem_cons_self), e1]
    exact e1_cut hm as _ fun a ha => p a (List.mem_cons_of_mem _ ha)
/-! ### few marks -/
theorem nodup_len : ∀ {l m : List Int}, l.Nodup → (∀ x ∈ l, x ∈ m) → l.length ≤ m.length
  | [], m, _, _ => Nat.zero_le _
  | x :: l, m, h, g => by
    rw [List.nodup_cons] at h
    have hx := g x List.mem_cons_self
    have := nodup_len (l := l) (m := m.erase x) h.2 fun y hy => by
      have hne : y ≠ x := fun z => h.1 (z ▸ hy)
      exact (List.mem_erase_of_ne hne).mpr (g y (List.mem_cons_of_mem _ hy))
    rw [List.length_erase_of_mem hx] at this
    have := List.length_pos_of_mem hx
    rw [List.length_cons]
    omega
theorem begins_one : ∀ (as : Asks) (e : Int), ∀ b ∈ bgo [e] as, b = e ∨ b ∈ ends1 e as ∨ b ∈ as.map (·.1)
  | [], _, b, h => nomatch h
  | (w, l) :: as, e, b, h => by
    rw [bgo_cons, stp_one] at h
    rcases List.mem_cons.mp h with z | z
    · rcases Int.le_total w e with c | c
      · exact .inl (by rw [z]; show max w e = e; omega)
      · exact .inr (.inr (by rw [z, List.map_cons]; show max w e ∈ _; rw [show max w e = w by omega]; exact List.mem_cons_self))
    · rcases begins_one as _ b z with q | q | q
      · exact .inr (.inl (by rw [q, ends1]; exact List.mem_cons_self))
      · exact .inr (.inl (by rw [ends1]; exact List.mem_cons_of_mem _ q))
      · exact .inr (.inr (by rw [List.map_cons]; exact List.mem_cons_of_mem _ q))
theorem ends1_len : ∀ (as : Asks) (e : Int), (ends1 e as).length = as.length
  | [], _ => rfl
  | (w, l) :: as, e => by rw [ends1, List.length_cons, ends1_len as, List.length_cons]
/-- one thing: marks are 0, ends, and times at which somebody comes -/
theorem few_marks (as ts : Asks) (h : ∀ a ∈ as, ∃ t ∈ ts, a.1 = t.1) : (timesOf [0] (spans (bg 1 as) as)).length ≤ 1 + as.length + ts.length := by
  have := nodup_len (m := 0 :: (ends1 0 as ++ ts.map (·.1))) (times_nodup (spans (bg 1 as) as) (ks := [0]) (by simp)) fun x hx => by
    rcases (times_mem _).mp hx with z | ⟨p, hp, z⟩
    · rw [List.mem_singleton.mp z]; exact List.mem_cons_self
    · have e2 : p.2 ∈ ends1 0 as := by
        rw [← spans_one]
        exact List.mem_map.mpr ⟨p, hp, rfl⟩
      rcases z with z | z
      · have hb : p.1 ∈ bgo [0] as := by
          unfold spans at hp
          obtain ⟨q, hq, e⟩ := List.mem_map.mp hp
          rw [← e]
          exact (List.of_mem_zip hq).1
        rcases begins_one as 0 p.1 hb with q | q | q
        · rw [z, q]; exact List.mem_cons_self
        · rw [z]; exact List.mem_cons_of_mem _ (List.mem_append_left _ q)
        · obtain ⟨a, ha, e⟩ := List.mem_map.mp q
          obtain ⟨t, ht, e3⟩ := h a ha
          rw [z, ← e, e3]
          exact List.mem_cons_of_mem _ (List.mem_append_right _ (List.mem_map.mpr ⟨t, ht, rfl⟩))
      · rw [z]; exact List.mem_cons_of_mem _ (List.mem_append_left _ e2)
  rw [List.length_cons, List.length_append, ends1_len, List.length_map] at this
  omega
/-- the greatest end of the stretches -/
theorem units_last (f : Int → Int) (n : Nat) : ((units f [] 0 n).map (·.2.1)).foldl max 0 = n := by
  have ch := chn_units f n
  apply Int.le_antisymm
  · rw [foldl_max_le (fun x : Int => x)]
    refine ⟨by omega, fun x hx => ?_⟩
    obtain ⟨p, hp, e⟩ := List.mem_map.mp hx
    rw [← e]
    exact (chn_mem ch p hp).2.2.1
  · have g := (foldl_max_le (fun x : Int => x) ((units f [] 0 n).map (·.2.1)) 0 _).mp (Int.le_refl _)
    rcases List.eq_nil_or_concat (units f [] 0 n) with e | ⟨T, p, e⟩
    · rw [e, chn] at ch
      rw [e]
      show (n : Int) ≤ 0
      omega
    · rw [List.concat_eq_append] at e
      have := chn_last ch T p e
      rw [← this]
      exact g.2 _ (List.mem_map.mpr ⟨p, by rw [e]; simp, rfl⟩)
end Lp

/-! # The pure layer, part 20: the module's tuples, dicts read, three names at once -/
namespace Lp
open PySem L2

/-! ### the module's own tuples -/
mutual
def chkV (K : PySem.W.Frag) : D → Value → Bool
  | .non, .none => true
  | .bl b, .bool c => decide (b = c)
  | .int i, .int j _ => decide (i = j)
  | .str x, .str y _ => decide (x = y)
  | .tup ds, .ref a => (match K.lookup a with
    | some ⟨.type c, _, .seq its _, _⟩ => decide (c = "tuple") && (decide (its.size ≤ sizeLine) && chkVs K ds its.toList)
    | _ => false)
  | _, _ => false
def chkVs (K : PySem.W.Frag) : List D → List Value → Bool
  | [], [] => true
  | d :: ds, u :: us => chkV K d u && chkVs K ds us
  | _, _ => false
end
mutual
theorem chkV_ok {K : PySem.W.Frag} : ∀ (d : D) (u : Value), chkV K d u = true → ∃ v, RelV v u ∧ ∀ (F : Addr → Prop) (H : Hp), Rep K F H d v
  | .non, u, h => by
    cases u with
    | none => exact ⟨.non, rfl, fun F H => rep_non⟩
    | _ => simp [chkV] at h
  | .bl b, u, h => by
    cases u with
    | bool c =>
      have e : b = c := by simpa [chkV] using h
      exact ⟨.bl b, by rw [e]; rfl, fun F H => rep_bl⟩
    | _ => simp [chkV] at h
  | .int b, u, h => by
    cases u with
    | int c t =>
      have e : b = c := by simpa [chkV] using h
      exact ⟨.int b, ⟨t, by rw [e]⟩, fun F H => rep_int⟩
    | _ => simp [chkV] at h
  | .str b, u, h => by
    cases u with
    | str c t =>
      have e : b = c := by simpa [chkV] using h
      exact ⟨.str b, ⟨t, by rw [e]⟩, fun F H => rep_str⟩
    | _ => simp [chkV] at h
  | .tup ds, u, h => by
    cases u with
    | ref a =>
      rw [chkV] at h
      cases q : K.lookup a with
      | none => rw [q] at h; cases h
      | some o =>
        obtain ⟨oc, od, dt, osl⟩ := o
        rw [q] at h
        cases oc with
        | type c =>
          cases dt with
          | seq its n =>
            have h' : (decide (c = "tuple") && (decide (its.size ≤ sizeLine) && chkVs K ds its.toList)) = true := h
            rw [Bool.and_eq_true, Bool.and_eq_true] at h'
            obtain ⟨h1, h2, h3⟩ := h'
            obtain ⟨vs, hv, r⟩ := chkVs_ok ds its.toList h3
            refine ⟨.ref a, rfl, fun F H => ?_⟩
            rw [Rep]
            exact ⟨a, vs, rfl, .inr ⟨_, its, n, q, congrArg Value.type (of_decide_eq_true h1), rfl, of_decide_eq_true h2, hv⟩, r F H⟩
          | _ => cases h
        | _ => cases dt <;> cases h
    | _ => simp [chkV] at h
  | .lst ds, u, h => by simp [chkV] at h
  | .fix ds, u, h => by simp [chkV] at h
  | .dic ks ds, u, h => by simp [chkV] at h
  | .obj ks ds, u, h => by simp [chkV] at h
theorem chkVs_ok {K : PySem.W.Frag} : ∀ (ds : List D) (us : List Value), chkVs K ds us = true → ∃ vs, Vals vs us ∧ ∀ (F : Addr → Prop) (H : Hp), Reps K F H ds vs
  | [], [], _ => ⟨[], .nil, fun F H => .nil⟩
  | [], _ :: _, h => by simp [chkVs] at h
  | _ :: _, [], h => by simp [chkVs] at h
  | d :: ds, u :: us, h => by
    rw [chkVs, Bool.and_eq_true] at h
    obtain ⟨v, r1, q1⟩ := chkV_ok d u h.1
    obtain ⟨vs, r2, q2⟩ := chkVs_ok ds us h.2
    exact ⟨v :: vs, .cons r1 r2, fun F H => .cons (q1 F H) (q2 F H)⟩
end
theorem chk_tup {K : PySem.W.Frag} {x : Str} {d : D} (h : chkV K d (.ref (He.ga K x)) = true) (H : Hp) : Rep K All H d (.ref (He.ga K x)) := by
  obtain ⟨v, r, q⟩ := chkV_ok d _ h
  have : v = .ref (He.ga K x) := by
    cases v with
    | ref a =>
      have e : Value.ref (He.ga K x) = Value.ref a := r
      injection e with e
      rw [e]
    | _ => first | exact nomatch (show Value.ref (He.ga K x) = _ from r) | (obtain ⟨t, e⟩ := r; cases e)
  rw [← this]
  exact q All H
/-- the module's names that stand for tuples -/
abbrev AlP : Type := Bool × He.AlD
def obsP (tb : List (Str × D)) (fa : List He.Fa) (fn : List He.DefD) (K : PySem.W.Frag) : AlP := (tb.all fun p => chkV K p.2 (.ref (He.ga K p.1)), He.obsD fa fn K)
def valP_ (fn : List He.DefD) : AlP := (true, He.valD fn)
def SaysP (tb : List (Str × D)) (fa : List He.Fa) (fn : List He.DefD) (K : PySem.W.Frag) : Prop := obsP tb fa fn K = valP_ fn
def obsPG (n : Nat) (tb : List (Str × D)) (fa : List He.Fa) (fn : List He.DefD) (g : Addr → Option Obj) : AlP := obsP tb fa fn (He.frG g (He.asD g n))
def hookP (n : Nat) (tb : List (Str × D)) (fa : List He.Fa) (fn : List He.DefD) : PySem.W.Hook where
  α := AlP
  obs := fun s => obsPG n tb fa fn s.heap.get?
  val := fun _ => valP_ fn
  says := fun _ h => ∃ K : PySem.W.Frag, K.In h ∧ SaysP tb fa fn K
  of := fun _ _ e => ⟨_, He.frG_in, e⟩
  keeps := fun _ _ _ ⟨K, hK, c⟩ k => ⟨K, PySem.W.Frag.In.keeps hK k, c⟩
theorem obsPG_eq {n : Nat} {tb : List (Str × D)} {fa : List He.Fa} {fn : List He.DefD} {g : Addr → Option Obj} {s : Shared} (h : ∀ a, g a = s.heap.get? a) : obsPG n tb fa fn g = (hookP n tb fa fn).obs s := by
  have e : g = s.heap.get? := funext h
  rw [e] <;> rfl
section
variable {tb : List (Str × D)} {fa : List He.Fa} {fn : List He.DefD} {K : PySem.W.Frag}
theorem SaysP.d (c : SaysP tb fa fn K) : He.SaysD fa fn K := congrArg (fun z : AlP => z.2) c
theorem SaysP.tup (c : SaysP tb fa fn K) (i : Nat) {x : Str} {d : D} (h : tb[i]? = some (x, d)) (H : Hp) : Rep K All H d (.ref (He.ga K x)) := by
  have c1 : (tb.all fun p => chkV K p.2 (.ref (He.ga K p.1))) = true := congrArg (fun z : AlP => z.1) c
  exact chk_tup (List.all_eq_true.mp c1 (x, d) (List.mem_of_getElem? h)) H
end
/-! ### dicts read -/
def valD (ks : List Key) (ds : List D) (k : Key) : Option D := ((ks.zip ds).find? fun kv => decide (kv.1 = k)).map (·.2)
theorem valD_cons (x : Key) (ks : List Key) (d : D) (ds : List D) (k : Key) : valD (x :: ks) (d :: ds) k = if x = k then some d else valD ks ds k := by
  unfold valD
  rw [List.zip_cons_cons, List.find?_cons]
  by_cases e : x = k <;> simp [e]
theorem Reps.valD {K : PySem.W.Frag} {F : Addr → Prop} {H : Hp} {k : Key} : ∀ {ks : List Key} {ds : List D} {vs : List V}, Reps K F H ds vs → ks.length = vs.length → (∀ d, Lp.valD ks ds k = some d → ∃ v, valV (ks.zip vs) k = some v ∧ Rep K F H d v) ∧ (valV (ks.zip vs) k).isSome = hasK ks k
  | [], ds, vs, _, _ => ⟨fun d h => by simp [Lp.valD] at h, rfl⟩
  | x :: ks, [], vs, h, hl => by rw [Reps] at h; subst h; cases hl
  | x :: ks, d :: ds, vs, h, hl => by
    rw [Reps] at h
    obtain ⟨v, r, e, h1, h2⟩ := h
    subst e
    obtain ⟨g1, g2⟩ := Reps.valD (k := k) h2 (by simpa using hl)
    by_cases c : x = k
    · refine ⟨fun d' q => ?_, ?_⟩
      · rw [valD_cons, if_pos c] at q
        cases q
        exact ⟨v, valV_pos c, h1⟩
      · rw [List.zip_cons_cons, valV_pos (by exact c)]
        simp [hasK, c]
    · refine ⟨fun d' q => ?_, ?_⟩
      · rw [valD_cons, if_neg c] at q
        obtain ⟨w, hw, rw1⟩ := g1 d' q
        exact ⟨w, by rw [List.zip_cons_cons, valV_neg (by exact c)]; exact hw, rw1⟩
      · rw [List.zip_cons_cons, valV_neg (by exact c), g2]
        simp [hasK, c]
section
variable {X : Cx} {W : WX} {a b : Expr} {fa fb : En → R D} {pos : Pos}
def dgetD : D → D → R D
  | .dic ks ds, k => (R.of (keyD k)).bind fun k => R.of (valD ks ds k)
  | _, _ => .no
theorem px_dget (hu : X.A.units + 1 < cLine) (ha : PX X W a fa) (hb : PX X W b fb) (hs : NoSl b) : PX X W (.Subscript a b pos) (E.bin dgetD fa fb) := by
  refine convE (pe_dget hu ha hb hs) fun σ H Q h => ?_
  refine h.seq fun d v H1 s1 r1 h1 => h1.seq fun d2 v2 H2 s2 r2 h2 => ?_
  cases d with
  | dic ks ds =>
    obtain ⟨p, vs, e, _, hH, hl, rr⟩ := Rep.dicv (r1.mono s2)
    cases q : keyD d2 with
    | none => exact (h2.no fun _ => show (R.of (keyD d2)).bind _ = .no by rw [q]; rfl).elim
    | some k =>
      cases q2 : valD ks ds k with
      | none => exact (h2.no fun _ => show (R.of (keyD d2)).bind _ = .no by rw [q]; show R.of (valD ks ds k) = .no; rw [q2]; rfl).elim
      | some d3 =>
        obtain ⟨u, hu, ru⟩ := (rr.valD (k := k) hl).1 d3 q2
        rw [keyD_rep q r2]
        exact ⟨p, u, e, hu ▸ DGet.k hH, h2.get (fun _ => show (R.of (keyD d2)).bind _ = .ok d3 by rw [q]; show R.of (valD ks ds k) = _; rw [q2]; rfl) (Same.refl H2) ru⟩
  | _ => exact (h2.no fun _ => rfl).elim
def inKD : D → D → R D
  | x, .dic ks _ => (R.of (keyD x)).bind fun k => .ok (.bl (hasK ks k))
  | _, _ => .no
def notInKD : D → D → R D
  | x, .dic ks _ => (R.of (keyD x)).bind fun k => .ok (.bl (!hasK ks k))
  | _, _ => .no
theorem in_conv {fa fb : En → R D} {σ : L2.St} {H : Hp} {Q : VK} (h : tX X.K X.mg W (E.bin inKD fa fb) σ H Q) : tDIn (tX X.K X.mg W fa) (tX X.K X.mg W fb) σ H Q :=
  h.seq fun d v H1 s1 r1 h1 => h1.seq fun d2 v2 H2 s2 r2 h2 => by
    cases d2 with
    | dic ks ds =>
      obtain ⟨p, vs, e, _, hH, hl, rr⟩ := Rep.dicv r2
      cases q : keyD d with
      | none => exact (h2.no fun _ => show (R.of (keyD d)).bind _ = .no by rw [q]; rfl).elim
      | some k =>
        rw [keyD_rep q (r1.mono s2)]
        refine ⟨p, _, e, DGet.k hH, ?_⟩
        rw [(rr.valD (k := k) hl).2]
        exact h2.get (fun _ => show (R.of (keyD d)).bind _ = _ by rw [q]; rfl) (Same.refl H2) rep_bl
    | _ => exact (h2.no fun _ => by cases d <;> rfl).elim
theorem notIn_conv {fa fb : En → R D} {σ : L2.St} {H : Hp} {Q : VK} (h : tX X.K X.mg W (E.bin notInKD fa fb) σ H Q) : tDNotIn (tX X.K X.mg W fa) (tX X.K X.mg W fb) σ H Q :=
  h.seq fun d v H1 s1 r1 h1 => h1.seq fun d2 v2 H2 s2 r2 h2 => by
    cases d2 with
    | dic ks ds =>
      obtain ⟨p, vs, e, _, hH, hl, rr⟩ := Rep.dicv r2
      cases q : keyD d with
      | none => exact (h2.no fun _ => show (R.of (keyD d)).bind _ = .no by rw [q]; rfl).elim
      | some k =>
        rw [keyD_rep q (r1.mono s2)]
        refine ⟨p, _, e, DGet.k hH, ?_⟩
        rw [(rr.valD (k := k) hl).2]
        exact h2.get (fun _ => show (R.of (keyD d)).bind _ = _ by rw [q]; rfl) (Same.refl H2) rep_bl
    | _ => exact (h2.no fun _ => by cases d <;> rfl).elim
theorem px_din (hu : X.A.units + 1 < cLine) (ha : PX X W a fa) (hb : PX X W b fb) (hm : behindInMarks .In b = false := by first | exact nobehind _ (by decide) (by decide) | rfl) : PX X W (.Compare a [.In] [b] pos) (E.bin inKD fa fb) := convE (pe_cmp (pc_din hu ha hb) hm) fun σ H Q h => in_conv h
theorem px_dnotin (hu : X.A.units + 1 < cLine) (ha : PX X W a fa) (hb : PX X W b fb) (hm : behindInMarks .NotIn b = false := by first | exact nobehind _ (by decide) (by decide) | rfl) : PX X W (.Compare a [.NotIn] [b] pos) (E.bin notInKD fa fb) := convE (pe_cmp (pc_dnotin hu ha hb) hm) fun σ H Q h => notIn_conv h
theorem pb_din (hu : X.A.units + 1 < cLine) (ha : PX X W a fa) (hb : PX X W b fb) (hm : behindInMarks .In b = false := by first | exact nobehind _ (by decide) (by decide) | rfl) : PB X W (.Compare a [.In] [b] pos) (B.val (E.bin inKD fa fb)) := convT (pt_cmp (pc_din hu ha hb) hm) fun σ H Q h => in_conv (val_conv h fun k H1 q => ⟨k, rfl, q⟩)
theorem pb_dnotin (hu : X.A.units + 1 < cLine) (ha : PX X W a fa) (hb : PX X W b fb) (hm : behindInMarks .NotIn b = false := by first | exact nobehind _ (by decide) (by decide) | rfl) : PB X W (.Compare a [.NotIn] [b] pos) (B.val (E.bin notInKD fa fb)) := convT (pt_cmp (pc_dnotin hu ha hb) hm) fun σ H Q h => notIn_conv (val_conv h fun k H1 q => ⟨k, rfl, q⟩)
end
/-! ### a, b, c = {}, [], n -/
namespace S
def dln (i j k : Nat) (n : Int) : En → Out := fun e => if noOw e = true ∧ i < e.length ∧ j < e.length ∧ k < e.length then .nx (((e.set i (.ow (.node .leaf) (.dic [] []))).set j (.ow (.node .leaf) (.lst []))).set k (.sh (.int n))) else .no
end S
section
variable {X : Cx} {c : Cc} {W : WX} {i j k : Nat} {x y z : Str} {p1 p2 p3 p4 p5 p6 p7 p8 pos : Pos} {n1 n2 n3 : Nat} {n : Int}
theorem pm_dln (hc : X.calm = true) (hN : X.N.Nodup) (hij : i ≠ j) (hik : i ≠ k) (hjk : j ≠ k) (hi : X.N[i]? = some x := by rfl) (hj : X.N[j]? = some y := by rfl) (hk : X.N[k]? = some z := by rfl)
    (lx : Loc X.env.scope x := by first | exact Or.inl rfl | exact Or.inr rfl) (ly : Loc X.env.scope y := by first | exact Or.inl rfl | exact Or.inr rfl) (lz : Loc X.env.scope z := by first | exact Or.inl rfl | exact Or.inr rfl)
    (fx : X.fn x = true ∨ X.env.scope.names.lookup x = some .local := by first | exact .inl rfl | exact .inr rfl) (fy : X.fn y = true ∨ X.env.scope.names.lookup y = some .local := by first | exact .inl rfl | exact .inr rfl) (fz : X.fn z = true ∨ X.env.scope.names.lookup z = some .local := by first | exact .inl rfl | exact .inr rfl)
    (hs : swapsWithSole [.Tuple [.Name x p1, .Name y p2, .Name z p3] n1 p4] (.Tuple [.Dict [] [] p5, .List [] p6, .Constant (.int n) n3 p7] n2 p8) pos.line X.env = pure false := by rfl)
    (hw : swappedStores [.Tuple [.Name x p1, .Name y p2, .Name z p3] n1 p4] (.Tuple [.Dict [] [] p5, .List [] p6, .Constant (.int n) n3 p7] n2 p8) X.env = pure none := by rfl)
    (h1 : (assignEach [.Tuple [.Name x p1, .Name y p2, .Name z p3] n1 p4] X.env).map (·.2) = [assign (.Tuple [.Name x p1, .Name y p2, .Name z p3] n1 p4) X.env] := by rfl)
    (he1 : starEach [.Dict [] [] p5, .List [] p6, .Constant (.int n) n3 p7] X.env = (false, eval (.Dict [] [] p5) X.env) :: starEach [.List [] p6, .Constant (.int n) n3 p7] X.env := by rfl)
    (he2 : starEach [.List [] p6, .Constant (.int n) n3 p7] X.env = (false, eval (.List [] p6) X.env) :: starEach [.Constant (.int n) n3 p7] X.env := by rfl)
    (he3 : starEach [.Constant (.int n) n3 p7] X.env = (false, eval (.Constant (.int n) n3 p7) X.env) :: starEach [] X.env := by rfl)
    (g1 : (assignEach [.Name x p1, .Name y p2, .Name z p3] X.env).map (·.2) = assign (.Name x p1) X.env :: (assignEach [.Name y p2, .Name z p3] X.env).map (·.2) := by rfl)
    (g2 : (assignEach [.Name y p2, .Name z p3] X.env).map (·.2) = assign (.Name y p2) X.env :: (assignEach [.Name z p3] X.env).map (·.2) := by rfl)
    (g3 : (assignEach [.Name z p3] X.env).map (·.2) = assign (.Name z p3) X.env :: (assignEach [] X.env).map (·.2) := by rfl)
    (hn : (assignEach [.Name x p1, .Name y p2, .Name z p3] X.env).length = 3 := by rfl) (hst : (assignEach [.Name x p1, .Name y p2, .Name z p3] X.env).findIdx? (·.1) = none := by rfl) :
    PM X c W (.Assign [.Tuple [.Name x p1, .Name y p2, .Name z p3] n1 p4] (.Tuple [.Dict [] [] p5, .List [] p6, .Constant (.int n) n3 p7] n2 p8) pos) (S.dln i j k n) := by
  refine convS (ps_asg (pe_tup (pa_cons pe_dnewK (pa_cons (pe_lst pa_nil) (pa_cons pe_int pa_nil he3) he2) he1)) (pg_tup (n := 3) hc (pgs_cons (pg_name hN hi lx fx) (pgs_cons (pg_name hN hj ly fy) (pgs_cons (pg_name hN hk lz fz) pgs_nil g3) g2) g1) hn hst) hs hw h1) fun Ed σ H ⟨e, F, A, ok, h⟩ => ?_
  replace h : FinS c X.K X.mg W Ed (if noOw e = true ∧ i < e.length ∧ j < e.length ∧ k < e.length then .nx (((e.set i (.ow (.node .leaf) (.dic [] []))).set j (.ow (.node .leaf) (.lst []))).set k (.sh (.int n))) else .no) := h
  by_cases g : noOw e = true ∧ i < e.length ∧ j < e.length ∧ k < e.length
  · rw [if_pos g] at h
    obtain ⟨no, li, lj, lk⟩ := g
    have hA := ok.noA no
    refine fun q1 n1' => ⟨by simp, fun q2 n2' => ⟨by show 3 ≤ sizeLine; decide, fun q3 n3' => ?_⟩⟩
    have d2 : q2 ≠ q1 := fun z => by rw [z, upd_same] at n2'; cases n2'
    have m1 : H q2 = none := by rw [upd_ne d2] at n2'; exact n2'
    have d31 : q3 ≠ q1 := fun z => by
      rw [z] at n3'
      rw [upd_ne (Ne.symm d2), upd_same] at n3'
      cases n3'
    have d32 : q3 ≠ q2 := fun z => by rw [z, upd_same] at n3'; cases n3'
    have m3 : H q3 = none := by rw [upd_ne d32, upd_ne d31] at n3'; exact n3'
    have s0 : Same H (upd (upd (upd H q1 (.dK [])) q2 (.lst [])) q3 (.tup [.ref q1, .ref q2, .int n])) := ((same_new n1').trans (same_new n2')).trans (same_new n3')
    have ok1 := ok.mono s0
    have h1' : (upd (upd (upd H q1 (.dK [])) q2 (.lst [])) q3 (.tup [.ref q1, .ref q2, .int n])) q1 = some (.dK []) := by rw [upd_ne (Ne.symm d31), upd_ne (Ne.symm d2), upd_same]
    have h2' : (upd (upd (upd H q1 (.dK [])) q2 (.lst [])) q3 (.tup [.ref q1, .ref q2, .int n])) q2 = some (.lst []) := by rw [upd_ne (Ne.symm d32), upd_same]
    have k1 := ok1.put (i := i) (v := .ref q1) (s := .ow (.node .leaf) (.dic [] [])) (B := [q1]) li (fun _ _ e _ => e) (fun _ z => z) ⟨.ref q1, rfl, by rw [Own]; exact ⟨q1, [], [], rfl, h1', rfl, rfl, by rw [OwnL]; exact ⟨rfl, rfl⟩⟩⟩ (by simp) (fun a ha => by
      rw [List.mem_singleton.mp ha]
      exact ⟨fun z => ok.fh q1 z n1', fun j' _ => ok.free n1' j'⟩)
    have k2 := k1.put (i := j) (v := .ref q2) (s := .ow (.node .leaf) (.lst [])) (B := [q2]) (by rw [List.length_set]; exact lj) (fun _ _ e _ => e) (fun _ z => z) ⟨.ref q2, rfl, by rw [Own]; exact ⟨q2, [], [], rfl, h2', rfl, by rw [OwnL]; exact ⟨rfl, rfl⟩⟩⟩ (by simp) (fun a ha => by
      rw [List.mem_singleton.mp ha]
      refine ⟨fun z => ok.fh q2 z m1, fun j' _ => ?_⟩
      by_cases zj : j' = i
      · rw [zj, putA_same]; simpa using d2
      · rw [putA_ne zj]; exact ok.free m1 j')
    obtain ⟨A3, k3⟩ := k2.set_sh (i := k) (d := .int n) (v := .int n) rep_int
    exact ⟨q3, [.ref q1, .ref q2, .int n], rfl, SqT.of upd_same, rfl, .ref q1, [.ref q2, .int n], rfl, .ref q2, [.int n], rfl, .int n, [], rfl, rfl, h _ _ _ _ k3⟩
  · rw [if_neg g] at h; exact h.elim
end
end Lp

/-! # The pure layer, part 21: sorted(t), t a tuple of rows of ints -/
namespace Lp
open PySem L2 PySem.Spec PyProof.Rows
section
variable {prog : Program} {w : World} {A : Around} {E : Value → Shared → Prop} {s : Shared}
theorem collect_tupS {l : Addr} {vs : List Value} {Q : List Value → Shared → Prop} {o : Obj} {n : Nat} (ho : s.heap.get? l = some o) (hc : o.cls = .type "tuple") (hd : o.data = .seq vs.toArray n)
    (h : Q vs { s with heap := (s.heap.push (seqObj "list" #[] 0)).update s.heap.objs.size (Obj.mapSeq (· ++ vs.toArray)) }) (hsz : vs.length ≤ sizeLine) :
    wpAny (model prog w) A (collect (.ref l)) Q E s := by
  unfold collect
  refine wpAny_bind (wpAny_runValue (codeAny_builtin entry_proto_collect' ?_))
  show wpAny _ _ (do again (.builtin "list.__iadd__" ⟨[← newList [], .ref l], []⟩)) _ _ s
  refine wpAny_bind (wpAny_newList (wpAny_pure ⟨Code.quiet_builtin _ (by decide +kernel), codeAny_builtin entry_list_iadd' ?_⟩))
  show wpAny _ _ (Builtin.List.listExtendWith (.ref s.heap.objs.size) (.ref l) (.ref s.heap.objs.size)) _ _ { s with heap := s.heap.push (seqObj "list" #[] 0) }
  unfold Builtin.List.listExtendWith
  have ho' : (s.heap.push (seqObj "list" #[] 0)).get? l = some o := Heap.get?_push_of_some _ ho
  refine wpAny_bind (wpAny_typeOf (T := "tuple") ⟨o, ho', hc⟩ ?_)
  have ht : (Value.type "tuple" == Value.type "tuple") = true := by rfl
  rw [if_pos (by rw [ht]; simp)]
  refine wpAny_bind (listItems_at ho' hd ?_)
  refine wpAny_bind (listItems_at (xs := #[]) (n := 0) (Heap.get?_push_size _ rfl) rfl ?_)
  rw [if_neg (by simp)]
  refine wpAny_bind (listUpdate_at (xs := #[]) (n := 0) (Heap.get?_push_size _ rfl) rfl ?_ (Nat.zero_le _) (by show (#[] ++ vs.toArray).size ≤ sizeLine + 1; simp only [Array.size_append, List.size_toArray, List.length_nil]; omega))
  refine wpAny_pure ?_
  show wpAny (model prog w) A (do
      let o ← load s.heap.objs.size
      match o.data with
      | .seq xs _ => pure xs.toList
      | _ => unsupported "internal:collect") Q E { s with heap := (s.heap.push (seqObj "list" #[] 0)).update s.heap.objs.size (Obj.mapSeq (· ++ vs.toArray)) }
  refine wpAny_bind (wpAny_load (get?_update_seq (Heap.get?_push_size _ rfl) _) ?_)
  show wpAny _ _ (pure ((#[] : Array Value) ++ vs.toArray).toList) Q E _
  rw [show ((#[] : Array Value) ++ vs.toArray).toList = vs by simp]
  exact wpAny_pure h
/-- sorted(xs) of a tuple -/
theorem sorted_tupsT {l : Addr} {vs : List Value} {d : Nat} {B : Int} {Q : Value → Shared → Prop} {o : Obj} {n : Nat} (ho : s.heap.get? l = some o) (hc : o.cls = .type "tuple") (hdt : o.data = .seq vs.toArray n) (h64 : vs.length < 64) (hd : 1 ≤ d) (x : TS.TupsOk s.heap d B vs)
    (h : ∀ out : Array Value, out.toList.Perm vs → out.toList.Pairwise (fun u v => TS.code B (TS.intsOf s.heap u) ≤ TS.code B (TS.intsOf s.heap v)) → Q (.ref (s.heap.objs.size + 1)) { s with heap := sortedAll s.heap vs out }) :
    wpAny (model prog w) A (call (.builtin "sorted") [.ref l]) Q E s := by
  refine Calls.call_function_entry kind_sorted plain_sorted entry_sorted (args_sorted1 _) ?_
  unfold Builtin.«sorted»
  refine wpAny_bind (m := checkCount "sorted" 1 1 _) (wpAny_pure ?_)
  refine wpAny_bind (collect_tupS ho hc hdt ?_ (by rw [sizeLine_eq]; omega))
  refine wpAny_bind (wpAny_newList ?_ (by rw [sizeLine_eq]; omega))
  have hsz : ((s.heap.push (seqObj "list" #[] 0)).update s.heap.objs.size (Obj.mapSeq (· ++ vs.toArray))).objs.size = s.heap.objs.size + 1 := by
    rw [Heap.size_update, size_push']
  have hoL : (((s.heap.push (seqObj "list" #[] 0)).update s.heap.objs.size (Obj.mapSeq (· ++ vs.toArray))).push (seqObj "list" vs.toArray 0)).get? (s.heap.objs.size + 1) = some (seqObj "list" vs.toArray 0) := by
    rw [← hsz]; exact Heap.get?_push_size _ rfl
  have keep : ∀ b o, s.heap.get? b = some o → o.cls = .type "tuple" → (((s.heap.push (seqObj "list" #[] 0)).update s.heap.objs.size (Obj.mapSeq (· ++ vs.toArray))).push (seqObj "list" vs.toArray 0)).get? b = some o := fun b o q _ => by
    have hlt : b < s.heap.objs.size := Heap.lt_size q
    rw [Heap.get?_push_ne _ _ _ (by rw [hsz]; exact Nat.ne_of_lt (Nat.lt_succ_of_lt hlt)), Heap.get?_update_ne _ _ _ _ (Nat.ne_of_lt hlt), Heap.get?_push_ne _ _ _ (Nat.ne_of_lt hlt)]
    exact q
  show wpAny _ _ _ _ _ { s with heap := ((s.heap.push (seqObj "list" #[] 0)).update s.heap.objs.size (Obj.mapSeq (· ++ vs.toArray))).push (seqObj "list" vs.toArray 0) }
  rw [hsz]
  refine wpAny_bind (wpAny_holding (wpAny_call_entry slot_list_sort ⟨_, hoL, rfl⟩ entry_list_sort (TS.sort_tups hoL h64 hd (x.keeps keep) (fun v => TS.code B (TS.intsOf s.heap v)) (fun v hv ns t => ?_) fun out a1 a2 => ⟨_, rfl, ?_⟩) (args_list_sort _)))
  · obtain ⟨ns0, t0, _⟩ := x v hv
    have e : ns = ns0 := t.ints.symm.trans (t0.keeps keep).ints
    rw [e]
    show TS.code B (TS.intsOf s.heap v) = TS.code B ns0
    rw [t0.ints]
  · exact wpAny_pure ⟨_, rfl, h out a1 a2⟩
end
def rSortUT (K : PySem.W.Frag) (d : Nat) (B : Int) : List V → Hp → VK → Prop := fun vs H Q => ∃ (a : Addr) (xs : List V), vs = [V.ref a] ∧ SqT K H a xs ∧ xs.length < 64 ∧ (∀ x ∈ xs, ∃ ns, TupI K H x ns ∧ ns.length = d ∧ TS.Bd B ns) ∧
  ∀ (ys : List V) (p : Addr), ys.Perm xs → ys.Pairwise (fun x y => ∀ n m, TupI K H x n → TupI K H y m → TS.code B n ≤ TS.code B m) → H p = none → Q (.ref p) (upd H p (.lst ys))
theorem cr_sortTT {X : Cx} {d : Nat} {B : Int} (hd : 1 ≤ d) : CallR X (.builtin "sorted") (rSortUT X.K d B) := by
  intro pins s σ H vs us Q I r h
  obtain ⟨a, xs, rfl, hs, h64, hx, q⟩ := h
  obtain ⟨its, rv, ⟨o, ho, hc, n, hdt⟩, hz⟩ := I.tuple hs
  rw [Vals.ref1 r]
  obtain ⟨e1, e2⟩ := bkV_refs rv fun x m => by
    obtain ⟨ns, ⟨t, e, _⟩, _⟩ := hx x m
    exact ⟨t, e⟩
  refine sorted_tupsT (d := d) (B := B) ho hc (by simpa using hdt) (by rw [← rv.length]; exact h64) hd (fun v hv => ?_) fun out h1 h2 => ?_
  · obtain ⟨t, rfl⟩ := e2 v hv
    have hm : V.ref t ∈ xs := by
      rw [e1]
      exact List.mem_map.mpr ⟨_, hv, rfl⟩
    obtain ⟨ns, ⟨t', e, ht⟩, hn, hb⟩ := hx _ hm
    cases e
    exact ⟨ns, tupI_raw I ht, hn, hb⟩
  · obtain ⟨ep, he'⟩ := PyProof.Rows.sortedAll_at s.heap its out
    have h3 : ∀ u ∈ out.toList, ∃ a, u = Value.ref a := fun u hu => e2 u (h1.mem_iff.mp hu)
    have hp : (out.toList.map bkV).Perm xs := by
      rw [e1]
      exact h1.map bkV
    have hlen : (out.toList.map bkV).length ≤ sizeLine := by
      rw [hp.length_eq, sizeLine_eq]
      omega
    refine ⟨.ref _, upd H (s.heap.objs.size + 1) (.lst (out.toList.map bkV)), I.laid (t' := s.toks) (fun _ _ => PyProof.Rows.sortedAll_old) (Nat.le_succ _) ⟨hlen, out.toList, ep, bkV_vals h3, he'⟩, rfl, q _ _ hp ?_ (I.hok.fresh (Nat.le_succ _))⟩
    rw [List.pairwise_map]
    refine List.Pairwise.imp (fun {u v} huv n m hn hm => ?_) h2
    obtain ⟨t, et, ht⟩ := hn
    obtain ⟨t', et', ht'⟩ := hm
    have eu := bkV_ref et
    have ev := bkV_ref et'
    have i1 : TS.intsOf s.heap u = n := by
      rw [eu]
      exact (tupI_raw I ht).ints
    have i2 : TS.intsOf s.heap v = m := by
      rw [ev]
      exact (tupI_raw I ht').ints
    rw [← i1, ← i2]
    exact huv
namespace Fl
def sortTT1 : List D → R (List D)
  | [.tup ds] => (R.of (asRows ds)).bind fun rows => if rows.length < 64 ∧ rowsOk rows = true then .ok ((sortR rows).map dRow) else .no
  | _ => .no
def sortTT (f : En → R (List D)) : En → R (List D) := fun e => (f e).bind sortTT1
end Fl
theorem sortTT1_rows (rows : List (List Int)) (d : Nat) (hl : rows.length < 64) (h1 : 1 ≤ d) (h2 : d ≤ 8) (h : ∀ r ∈ rows, rowOk d r = true) : Fl.sortTT1 [.tup (rows.map dRow)] = .ok ((sortR rows).map dRow) := by
  show (R.of (asRows (rows.map dRow))).bind _ = _
  rw [asRows_map]
  exact if_pos ⟨hl, rowsOk_of h1 h2 h⟩
section
variable {X : Cx} {W : WX} {a : Expr} {p p2 q pos : Pos} {fs : En → R (List D)}
theorem pf_sortTT (hg : Gl X "sorted") (hm : X.mg "sorted" = none) (ha : PXs X W [a] fs) (he : starEach [a] X.env = (false, eval a X.env) :: starEach [] X.env := by rfl) (hpl : (backTo pos (starEach [] X.env)).any (·.1) = false := by rfl) :
    PF X W (.Call (.Name "sorted" p) [a] [] pos) (Fl.sortTT fs) := by
  refine ⟨fun pins s σ H Q I h => ?_⟩
  obtain ⟨e0, V0, h⟩ := h
  cases z : fs e0 with
  | ex cl =>
    have h' : Fin (repF X.K) X.mg W σ H ((fs e0).bind Fl.sortTT1) Q := h
    rw [z] at h'
    exact (pe_callB (cr_sortTT (d := 1) (B := 100000) (Nat.le_refl 1)) hg hm (by decide +kernel) ha (by decide) (by decide) he hpl).run pins s σ H Q I ⟨e0, V0, by rw [z]; exact h'⟩
  | no =>
    have h' : Fin (repF X.K) X.mg W σ H ((fs e0).bind Fl.sortTT1) Q := h
    rw [z] at h'
    exact h'.elim
  | ok ds =>
    have h' : Fin (repF X.K) X.mg W σ H ((fs e0).bind Fl.sortTT1) Q := h
    rw [z] at h'
    replace h' : Fin (repF X.K) X.mg W σ H (Fl.sortTT1 ds) Q := h'
    match ds, z, h' with
    | [.tup es], z, h' =>
      replace h' : Fin (repF X.K) X.mg W σ H ((R.of (asRows es)).bind fun rows => if rows.length < 64 ∧ rowsOk rows = true then .ok ((sortR rows).map dRow) else .no) Q := h'
      cases q1 : asRows es with
      | none => rw [q1] at h'; exact h'.elim
      | some rows =>
        rw [q1] at h'
        replace h' : Fin (repF X.K) X.mg W σ H (if rows.length < 64 ∧ rowsOk rows = true then .ok ((sortR rows).map dRow) else .no) Q := h'
        by_cases c : rows.length < 64 ∧ rowsOk rows = true
        · rw [if_pos c] at h'
          obtain ⟨hl, hro⟩ := c
          obtain ⟨d, d1, hr⟩ := of_rowsOk hro
          refine (pe_callB (cr_sortTT (d := d) (B := 100000) d1) hg hm (by decide +kernel) ha (by decide) (by decide) he hpl).run pins s σ H Q I ⟨e0, V0, ?_⟩
          rw [z]
          intro vs H1 s1 r1
          obtain ⟨v, e, rv⟩ := r1.one_
          obtain ⟨l, us, eu, hH, rr⟩ := rv.tup
          have ee := asRows_eq q1
          rw [ee] at rr
          refine ⟨l, us, by rw [e, eu], hH, by rw [← rr.length, List.length_map]; exact hl, fun x hx => ?_, fun ys p hp pw hn => ?_⟩
          · obtain ⟨dx, hdx, rx⟩ := rr.mem hx
            obtain ⟨r, hrm, er⟩ := List.mem_map.mp hdx
            rw [← er] at rx
            have b := rowOk_bd (hr r hrm)
            exact ⟨r, rx.row, b.1, b.2⟩
          · obtain ⟨rows', p', r'⟩ := Reps.perm_map hp rr
            have pr := rows_pair r' pw
            rw [sortR_eq hr p' pr] at r'
            exact h' _ _ (s1.trans (same_new hn)) (MonoR.mono _ _ _ _ _ s1 (repF.new hn r'))
        · rw [if_neg c] at h'; exact h'.elim
    | [], _, h' => exact h'.elim
    | [.non], _, h' => exact h'.elim
    | [.bl _], _, h' => exact h'.elim
    | [.int _], _, h' => exact h'.elim
    | [.str _], _, h' => exact h'.elim
    | [.lst _], _, h' => exact h'.elim
    | [.fix _], _, h' => exact h'.elim
    | [.dic _ _], _, h' => exact h'.elim
    | [.obj _ _], _, h' => exact h'.elim
    | x :: y :: t, _, h' => cases x <;> exact h'.elim
end

/-! ### len(set(l)), l a list of ints -/
theorem dedup_addS (ks : List Int) (b : Int) : step_dedup ks b = addS ks b := by
  unfold step_dedup addS
  by_cases c : b ∈ ks
  · rw [if_pos c, if_pos (List.any_eq_true.mpr ⟨b, c, by simp⟩)]
  · rw [if_neg c, if_neg (fun h => by
      obtain ⟨x, hx, e⟩ := List.any_eq_true.mp h
      have : x = b := by simpa using e
      exact c (this ▸ hx))]
theorem firstMet_addS (ns : List Int) : firstMet (fun i => ns.getD i 0) ns.length = ns.foldl addS [] := by
  unfold firstMet
  have e : (List.range ns.length).map (fun i => ns.getD i 0) = ns := by
    apply List.ext_getElem?
    intro i
    by_cases h : i < ns.length
    · rw [List.getElem?_map, List.getElem?_range h, List.getElem?_eq_getElem h]
      show some (ns.getD i 0) = _
      rw [List.getD_eq_getElem?_getD, List.getElem?_eq_getElem h]
      rfl
    · rw [List.getElem?_eq_none (by rw [List.length_map, List.length_range]; omega), List.getElem?_eq_none (by omega)]
  rw [e]
  have : (step_dedup : List Int → Int → List Int) = addS := by funext a b; exact dedup_addS a b
  rw [this]
section
variable {X : Cx}
def tLenSetA (K : PySem.W.Frag) (ta : TE) : TE := fun σ H Q => ta σ H fun x H1 => ∃ (l : Addr) (ns : List Int), x = V.ref l ∧ SqL K H1 l (ns.map V.int) ∧ ns.length < 1000 ∧ Q (.int (sset ns).length) H1
theorem sset_length (ns : List Int) : (sset ns).length = (ns.foldl addS []).length := by unfold sset; exact List.length_mergeSort _
theorem pe_lenSetA {a : Expr} {ta : TE} {p p2 q pos : Pos} (hc : X.calm = true) (hg : Gl X "len") (hm : X.mg "len" = none) (hg2 : Gl X "set") (hm2 : X.mg "set" = none) (ha : PE X a ta)
    (na : starEach [a] X.env = (false, eval a X.env) :: starEach [] X.env := by rfl) : PE X (.Call (.Name "len" p) [.Call (.Name "set" p2) [a] [] q] [] pos) (tLenSetA X.K ta) := by
  refine ⟨fun pins s σ H Q I h => ?_⟩
  refine Call_ (ld_blt I hg hm PySem.boot_len ?_)
  refine PyProof.Rows.callWith_builtin1 (PyProof.Rows.args_cons ?_ rfl) rfl rfl
  refine Call_ (ld_blt I hg2 hm2 PyProof.Rows.boot_set ?_)
  refine PyProof.Rows.callWith_type1 (PyProof.Rows.args_cons (thn (ha.run pins s σ H _ I h) fun v s1 ⟨x, H1, I1, r1, q1⟩ => PyProof.Rows.args_nil ?_) na) na rfl
  obtain ⟨l, ns, rfl, hq, h1, q1⟩ := q1
  cases r1
  obtain ⟨its, r, pl, hz⟩ := I1.list hq
  have hl : its.toArray.size = ns.length := by rw [List.size_toArray, ← r.length, List.length_map]
  refine call_set_list (I1.ok.hd hc) pl.isList (ns := ns) (by simpa using r.ints) (by unfold scanBound; omega) fun h' tk hS hk => ?_
  rw [hl, firstMet_addS] at hS
  refine PyProof.Rows.args_nil ?_
  obtain ⟨o, es, ep, t, ho, hex, hd, _, _, _, hf, hn⟩ := hS
  have I2 : Inv X pins σ H1 { s1 with heap := h', toks := tk } := I1.kept fun b o e => hk b o (Heap.lt_size e) e
  have hle : (ns.foldl addS []).length ≤ ns.length := by
    rw [← firstMet_addS]
    exact firstMet_length_le _ _
  rw [sset_length] at q1
  refine call_len_set ho hex hd hf (by rw [hn]; omega) ⟨.int (ns.foldl addS []).length, H1, I2.tok _, ⟨_, by rw [hn]⟩, q1⟩
end
namespace E
def lenSet1 : D → R D
  | .lst ds => (R.of (asInts ds)).bind fun ns => if ns.length < 1000 then .ok (.int (sset ns).length) else .no
  | _ => .no
def lenSet (f : En → R D) : En → R D := fun e => (f e).bind lenSet1
end E
section
variable {X : Cx} {W : WX} {a : Expr} {p p2 q pos : Pos} {fa : En → R D}
theorem px_lenSet (hc : X.calm = true) (hg : Gl X "len") (hm : X.mg "len" = none) (hg2 : Gl X "set") (hm2 : X.mg "set" = none) (ha : PX X W a fa)
    (na : starEach [a] X.env = (false, eval a X.env) :: starEach [] X.env := by rfl) : PX X W (.Call (.Name "len" p) [.Call (.Name "set" p2) [a] [] q] [] pos) (E.lenSet fa) :=
  convE (pe_lenSetA hc hg hm hg2 hm2 ha na) fun σ H Q h =>
  Rg.seq (k := fun x _ => E.lenSet1 x) h fun d v H1 s1 r1 h1 => by
    cases d with
    | lst ds =>
      obtain ⟨l, vs, e, _, hH, rr⟩ := r1.lst
      cases z : asInts ds with
      | none => exact (h1.no fun _ => show (R.of (asInts ds)).bind _ = .no by rw [z]; rfl).elim
      | some ns =>
        have ed := asInts_eq z
        rw [ed] at rr
        rw [rr.ints] at hH
        by_cases g : ns.length < 1000
        · exact ⟨l, ns, e, SqL.of hH, g, h1.get (fun _ => show (R.of (asInts ds)).bind _ = _ by rw [z]; exact if_pos g) (Same.refl H1) rep_int⟩
        · exact (h1.no fun _ => show (R.of (asInts ds)).bind _ = .no by rw [z]; exact if_neg g).elim
    | _ => exact (h1.no fun _ => rfl).elim
end
end Lp

/-! # The pure layer, part 22: instances made -/
namespace Lp
open PySem L2 PySem.Spec PyProof.Rows

section
variable {X : Cx} {CX : CXT} {k : Nat} {f C : Addr} {fd : FuncData} {ps : List Str} {sp : Sp} {E : L2.St → XK} {x m : Str} {p pos apos : Pos} {e o : Expr} {es : List Expr} {ta : TE} {t : TA}
/-- an instance made, at the slots σ -/
theorem run_makeS {pins : List (Addr × Obj)} {σ : L2.St} {H : Hp} {s : Shared} {Q : VK} {us : List Value} {vs : List V} (M : Mk X.K C f) (F : FnOk X.prog X.w X.K X.mg X.base CX k f fd ps sp) (hr : Room (k + 1) X.A) (hb : Binds X.K fd ps [])
    (hx : PassesAt CX X σ (E σ)) (I : Inv X pins σ H s) (r : Vals vs us)
    (h : ∀ x dx, H x = none → H dx = none → dx ≠ x → sp (.ref x :: vs) (upd (upd H dx (.own x)) x (.ins C dx [])) (fun v H2 => v = .non ∧ Q (.ref x) H2) (E σ)) :
    wpAny (model X.prog X.w) X.A (call (.ref C) us) (EP X pins σ Q) X.xe s := by
  have hq := h (s.heap.objs.size + 1) s.heap.objs.size (I.hok.fresh (Nat.le_succ _)) (I.hok.fresh (Nat.le_refl _)) (Nat.ne_of_lt (Nat.lt_succ_self _))
  have I2 := Inv.made (C := C) I
  have r2 : Vals (V.ref (s.heap.objs.size + 1) :: vs) (Value.ref (s.heap.objs.size + 1) :: us) := .cons rfl r
  have hl : (Value.ref (s.heap.objs.size + 1) :: us).length = ps.length := by
    have e := r2.length
    rw [F.len _ _ _ _ hq] at e
    exact e.symm
  have b := hb _ (Value.ref (s.heap.objs.size + 1) :: us) I2.kIn (by rw [List.append_nil]; exact hl)
  rw [List.append_nil] at b
  refine wpAny_call (make_map (f := f) I.kIn M.makes M.init (beq_iff_eq.mp M.fn) (codeAny_mono (F.run _ X.stack _ _ ⟨Value.ref (s.heap.objs.size + 1) :: us, []⟩ (Value.ref (s.heap.objs.size + 1) :: us) _ _ (E σ) (hr.make C us [])
    (I2.env0.make C us []) b r2 hq) fun r s' hq' => ?_))
  cases r with
  | error e => exact hx pins _ _ e s' I2 hq'
  | ok fl =>
    cases fl with
    | ret u =>
      obtain ⟨v, H', I3, rv, ev, q3⟩ := I2.after hq'
      subst ev
      exact ⟨rv, ⟨V.ref (s.heap.objs.size + 1), H', I3, rfl, q3⟩⟩
    | next => exact False.elim hq'
    | brk => exact False.elim hq'
    | cont => exact False.elim hq'
def tMakeS (C : Addr) (sp : Sp) (E : L2.St → XK) (t : TA) : TE := fun σ H Q => t σ H fun vs H1 => ∀ x dx, H1 x = none → H1 dx = none → dx ≠ x →
  sp (.ref x :: vs) (upd (upd H1 dx (.own x)) x (.ins C dx [])) (fun v H2 => v = .non ∧ Q (.ref x) H2) (E σ)
theorem pe_makeS (M : Mk X.K C f) (F : FnOk X.prog X.w X.K X.mg X.base CX k f fd ps sp) (hr : Room (k + 1) X.A) (hg : Gl X x) (hm : X.mg x = some (.ref C)) (hb : Binds X.K fd ps []) (hx : ∀ σ, PassesAt CX X σ (E σ))
    (ha : PA X (e :: es) t) (hdb : (x == ("__debug__" : Str)) = false := by decide) (he : starEach (e :: es) X.env = (false, eval e X.env) :: starEach es X.env := by rfl) (hpl : (backTo pos (starEach es X.env)).any (·.1) = false := by rfl) :
    PE X (.Call (.Name x p) (e :: es) [] pos) (tMakeS C sp E t) := by
  refine ⟨fun pins s σ H Q I h => ?_⟩
  refine wpAny_Call_Name_kw (ld_glob I hg hm ?_ hdb)
  refine PySem.W.callWith_K (h₀ := X.base) I.ok.mod.kin M.kp (thn (ha.run pos pins s σ H _ I h) fun us s1 ⟨vs, H1, I1, r, q⟩ => ⟨I1.kIn, ?_⟩) he hpl
  exact run_makeS M F hr hb (hx σ) I1 r q
/-- o.m(e, ..), at the slots σ -/
def tMethS' (C : Addr) (m : Str) (sp : Sp) (E : L2.St → XK) (ta : TE) (t : TA) : TE := fun σ H Q => ta σ H fun x H1 => ∃ a dx fs, x = .ref a ∧ H1 a = some (.ins C dx fs) ∧ fs.lookup m = none ∧
  t σ H1 fun vs H2 => sp (x :: vs) H2 Q (E σ)
theorem pe_methS' {pl : Sem Bool} (he : PE X o ta) (c : Cls X.K C) (hm : Meth X.K C m f) (F : FnOk X.prog X.w X.K X.mg X.base CX k f fd ps sp) (hr : Room k X.A) (hb : Binds X.K fd ps []) (hx : ∀ σ, PassesAt CX X σ (E σ)) (ha : PA X (e :: es) t)
    (hst : starEach (e :: es) X.env = (false, eval e X.env) :: starEach es X.env := by rfl) (hpl : (backTo pos (starEach es X.env)).any (·.1) = false := by rfl)
    (ht : eval (.Call (.Attribute o m apos) (e :: es) [] pos) X.env = (do
      let ov ← eval o X.env
      standAt apos.atName
      let (f, first) ← holding [ov] (getMethod ov m pl)
      callWith pos f first (backTo pos (starEach (e :: es) X.env)) (backToKw pos (keywordEach [] X.env))) := by rfl) :
    PE X (.Call (.Attribute o m apos) (e :: es) [] pos) (tMethS' C m sp E ta t) := by
  refine ⟨fun pins s σ H Q I h => ?_⟩
  refine PySem.W.methodCall_KW (pl := pl) (thn (he.run pins s σ H _ I h) fun u s1 ⟨x, H1, I1, rx, a, dx, fs, ex, ea, l, q⟩ => ?_) ht
  subst ex
  obtain rfl : u = Value.ref a := rx
  refine getmeth_ok I1 ea c hm l ?_
  refine PySem.W.callWith_K (first := [.ref a]) (h₀ := X.base) I.ok.mod.kin hm.kp (thn (ha.run pos pins s1 σ H1 _ I1 q) fun us s2 ⟨vs, H2, I2, r, q2⟩ => ⟨I2.kIn, ?_⟩) hst hpl
  exact run_fnS (us := .ref a :: us) (vs := .ref a :: vs) F hr hb (hx σ) I2 (.cons rfl r) q2
theorem pe_methS0 {pl : Sem Bool} (he : PE X o ta) (c : Cls X.K C) (hm : Meth X.K C m f) (F : FnOk X.prog X.w X.K X.mg X.base CX k f fd ps sp) (hr : Room k X.A) (hb : Binds X.K fd ps []) (hx : ∀ σ, PassesAt CX X σ (E σ))
    (ht : eval (.Call (.Attribute o m apos) [] [] pos) X.env = (do
      let ov ← eval o X.env
      standAt apos.atName
      let (f, first) ← holding [ov] (getMethod ov m pl)
      callWith pos f first (backTo pos (starEach [] X.env)) (backToKw pos (keywordEach [] X.env))) := by rfl) :
    PE X (.Call (.Attribute o m apos) [] [] pos) (tMethS' C m sp E ta tNil) := by
  refine ⟨fun pins s σ H Q I h => ?_⟩
  refine PySem.W.methodCall_KW (pl := pl) (thn (he.run pins s σ H _ I h) fun u s1 ⟨x, H1, I1, rx, a, dx, fs, ex, ea, l, q⟩ => ?_) ht
  subst ex
  obtain rfl : u = Value.ref a := rx
  refine getmeth_ok I1 ea c hm l ?_
  exact PySem.W.callWith_K0 (first := [.ref a]) I1.kIn hm.kp (run_fnS (us := [.ref a]) (vs := [.ref a]) F hr hb (hx σ) I1 (.cons rfl .nil) q)
end

/-! ### attributes read -/
theorem lookup_zip {K : PySem.W.Frag} {F : Addr → Prop} {H : Hp} {f : Str} {d : D} : ∀ {ns : List Str} {ds : List D} {vs : List V}, Reps K F H ds vs → (ns.zip ds).lookup f = some d → ∃ v, (ns.zip vs).lookup f = some v ∧ Rep K F H d v
  | [], _, _, _, h => by simp at h
  | _ :: _, [], _, _, h => by simp at h
  | n :: ns, d0 :: ds, vs, r, h => by
    rw [Reps] at r
    obtain ⟨v, rest, e, h1, h2⟩ := r
    subst e
    rw [List.zip_cons_cons, List.lookup_cons] at h
    by_cases c : (f == n) = true
    · rw [c] at h
      cases h
      exact ⟨v, by rw [List.zip_cons_cons, List.lookup_cons, c], h1⟩
    · have c' : (f == n) = false := by simpa using c
      rw [c'] at h
      obtain ⟨u, q, z⟩ := lookup_zip h2 h
      exact ⟨u, by rw [List.zip_cons_cons, List.lookup_cons, c']; exact q, z⟩
theorem lookup_none {f : Str} {α : Type} : ∀ {ns : List Str} {vs : List α}, ns.contains f = false → (ns.zip vs).lookup f = none
  | [], _, _ => by simp
  | _ :: _, [], _ => by simp
  | n :: ns, v :: vs, h => by
    rw [List.contains_cons, Bool.or_eq_false_iff] at h
    rw [List.zip_cons_cons, List.lookup_cons, h.1]
    exact lookup_none h.2
def attrD (cl f : Str) : D → R D
  | .obj (c :: ns) ds => if c = cl then R.of ((ns.zip ds).lookup f) else .no
  | _ => .no
namespace E
def attr (cl f : Str) (fo : En → R D) : En → R D := fun e => (fo e).bind (attrD cl f)
end E
theorem Rep.objv {K : PySem.W.Frag} {F : Addr → Prop} {H : Hp} {fs : List Str} {ds : List D} {v : V} (h : Rep K F H (.obj fs ds) v) : ∃ a C dx vs, v = .ref a ∧ F a ∧ H a = some (.ins C dx (fs.tail.zip vs)) ∧ (fs.head?.map (He.ga K) = some C ∧ fs.tail.length = vs.length) ∧ Reps K F H ds vs := by
  rw [Rep] at h; exact h
section
variable {X : Cx} {W : WX} {o : Expr} {f cl : Str} {pos : Pos} {fo : En → R D}
theorem px_attr (hC : Cls X.K (He.ga X.K cl)) (hn : NoAttr X.K (He.ga X.K cl) f) (ho : PX X W o fo) (hb : attributeBase o f X.env (eval o X.env) = eval o X.env := by rfl) : PX X W (.Attribute o f pos) (E.attr cl f fo) :=
  convE (pe_fld ho hb) fun σ H Q h => Rg.seq (k := fun d _ => attrD cl f d) h fun d v H1 s1 r1 h1 => by
    cases d with
    | obj fs ds =>
      cases fs with
      | nil => exact (h1.no fun _ => rfl).elim
      | cons c ns =>
        by_cases ec : c = cl
        · cases q : (ns.zip ds).lookup f with
          | none => exact (h1.no fun _ => show (if c = cl then R.of ((ns.zip ds).lookup f) else .no) = _ by rw [if_pos ec, q]; rfl).elim
          | some d' =>
            obtain ⟨a, C, dx, vs, e, _, hH, ⟨hc, hl⟩, rr⟩ := r1.objv
            obtain ⟨u, l, r2⟩ := lookup_zip rr q
            have eC : He.ga X.K cl = C := by rw [← ec]; exact Option.some.inj hc
            rw [eC] at hC hn
            exact ⟨a, C, dx, _, u, e, hH, hC, hn, l, h1.get (fun _ => show (if c = cl then R.of ((ns.zip ds).lookup f) else .no) = _ by rw [if_pos ec, q]; rfl) (Same.refl H1) r2⟩
        · exact (h1.no fun _ => if_neg ec).elim
    | _ => exact (h1.no fun _ => rfl).elim
end

/-! ### methods that read -/
def isOb (cl m : Str) : D → Bool
  | .obj (c :: ns) _ => decide (c = cl) && !ns.contains m
  | _ => false
namespace E
def meth {β : Type} (cl m : Str) (M : List D → R β) (fo : En → R D) (fs : En → R (List D)) : En → R β := fun e => (fo e).bind fun d => if isOb cl m d = true then (fs e).bind fun ds => M (d :: ds) else .no
end E
/-- a method, as its callers know it -/
def Mek (P : Program) (w : World) (K : PySem.W.Frag) (mg : Str → Option Value) (base : Heap) (k : Nat) (cl m : Str) (ps : List Str) (sp : Sp) : Prop :=
  ∃ fd, FnOk P w K mg base (L2.CX P w) k (He.ma K (He.ga K cl) m) fd ps sp ∧ Meth K (He.ga K cl) m (He.ma K (He.ga K cl) m) ∧ Cls K (He.ga K cl) ∧ Binds K fd ps []
theorem isOb_rep {K : PySem.W.Frag} {F : Addr → Prop} {H : Hp} {cl m : Str} {d : D} {v : V} (h : isOb cl m d = true) (r : Rep K F H d v) : ∃ a dx fs, v = .ref a ∧ H a = some (.ins (He.ga K cl) dx fs) ∧ fs.lookup m = none := by
  cases d with
  | obj fs ds =>
    cases fs with
    | nil => cases h
    | cons c ns =>
      have h' : (decide (c = cl) && !ns.contains m) = true := h
      rw [Bool.and_eq_true] at h'
      obtain ⟨a, C, dx, vs, e, _, hH, ⟨hc, hl⟩, rr⟩ := r.objv
      have eC : He.ga K cl = C := by rw [← of_decide_eq_true h'.1]; exact Option.some.inj hc
      rw [eC]
      exact ⟨a, dx, _, e, hH, lookup_none (by simpa using h'.2)⟩
  | _ => cases h
section
variable {X : Cx} {W : WX} {k n : Nat} {ps : List Str} {o : Expr} {m cl : Str} {apos pos : Pos} {fo : En → R D} {e : Expr} {es : List Expr} {fs : En → R (List D)}
theorem meth_conv {β : Type} {rep : Hp → Hp → β → V → Prop} [MonoR rep] {M : List D → R β} (hn : ∀ ds, ds.length = n ∨ M ds = .no) {σ : L2.St} {H : Hp} {Q : VK} (h : Rg rep X.K X.mg W (E.meth cl m M fo fs) σ H Q) :
    tMethS' (He.ga X.K cl) m (spG rep X.K X.mg n M) (WE W) (tX X.K X.mg W fo) (tA X.K X.mg W fs) σ H Q := by
  refine Rg.seq (k := fun d e => if isOb cl m d = true then (fs e).bind fun ds => M (d :: ds) else .no) h fun d v H1 s1 r1 h1 => ?_
  by_cases c : isOb cl m d = true
  · obtain ⟨a, dx, fs0, e1, e2, e3⟩ := isOb_rep c r1
    refine ⟨a, dx, fs0, e1, e2, e3, ?_⟩
    have h1' : Rg rep X.K X.mg W (fun e => (fs e).bind fun ds => M (d :: ds)) σ H1 Q := h1.congr fun e => if_pos c
    refine Rg.seq (k := fun ds _ => M (d :: ds)) h1' fun ds vs H2 s2 r2 h2 => ?_
    rcases hn (d :: ds) with l | l
    · obtain ⟨e, _, h2⟩ := h2
      refine ⟨?_, d :: ds, .cons (r1.mono s2) r2, h2.exk fun _ _ z => z⟩
      have := r2.length
      rw [List.length_cons] at l ⊢
      omega
    · exact (h2.no fun _ => l).elim
  · exact (h1.no fun _ => if_neg c).elim
theorem pg_meth {β : Type} {rep : Hp → Hp → β → V → Prop} [MonoR rep] {M : List D → R β} {pl : Sem Bool} (F : Mek X.prog X.w X.K X.mg X.base k cl m ps (spG rep X.K X.mg n M)) (tk : Takes X W) (hr : Room k X.A) (hn : ∀ ds, ds.length = n ∨ M ds = .no) (ho : PX X W o fo) (ha : PXs X W (e :: es) fs)
    (hst : starEach (e :: es) X.env = (false, eval e X.env) :: starEach es X.env := by rfl) (hpl : (backTo pos (starEach es X.env)).any (·.1) = false := by rfl)
    (ht : eval (.Call (.Attribute o m apos) (e :: es) [] pos) X.env = (do
      let ov ← eval o X.env
      standAt apos.atName
      let (f, first) ← holding [ov] (getMethod ov m pl)
      callWith pos f first (backTo pos (starEach (e :: es) X.env)) (backToKw pos (keywordEach [] X.env))) := by rfl) :
    PE X (.Call (.Attribute o m apos) (e :: es) [] pos) (Rg rep X.K X.mg W (E.meth cl m M fo fs)) := by
  obtain ⟨fd, F, hm, c, hb⟩ := F
  exact convE (pe_methS' (pl := pl) ho c hm F hr hb (passAt tk) ha hst hpl ht) fun σ H Q h => meth_conv hn h
theorem pg_meth0 {β : Type} {rep : Hp → Hp → β → V → Prop} [MonoR rep] {M : List D → R β} {pl : Sem Bool} (F : Mek X.prog X.w X.K X.mg X.base k cl m ps (spG rep X.K X.mg n M)) (tk : Takes X W) (hr : Room k X.A) (hn : ∀ ds, ds.length = n ∨ M ds = .no) (ho : PX X W o fo)
    (ht : eval (.Call (.Attribute o m apos) [] [] pos) X.env = (do
      let ov ← eval o X.env
      standAt apos.atName
      let (f, first) ← holding [ov] (getMethod ov m pl)
      callWith pos f first (backTo pos (starEach [] X.env)) (backToKw pos (keywordEach [] X.env))) := by rfl) :
    PE X (.Call (.Attribute o m apos) [] [] pos) (Rg rep X.K X.mg W (E.meth cl m M fo E.nil)) := by
  obtain ⟨fd, F, hm, c, hb⟩ := F
  refine convE (pe_methS0 (pl := pl) ho c hm F hr hb (passAt tk) ht) fun σ H Q h => ?_
  obtain ⟨e0, V0, h0⟩ := meth_conv (fs := E.nil) hn h
  refine ⟨e0, V0, ?_⟩
  cases z : fo e0 with
  | ok d =>
    rw [z] at h0
    intro v H1 s1 r1
    obtain ⟨a, dx, fs0, e1, e2, e3, q⟩ := h0 v H1 s1 r1
    refine ⟨a, dx, fs0, e1, e2, e3, ?_⟩
    obtain ⟨e5, V5, q⟩ := q
    exact q [] H1 (Same.refl H1) .nil
  | ex c => rw [z] at h0; exact h0
  | no => rw [z] at h0; exact h0
end

/-! ### an instance whose making fails -/
/-- C(..), where __init__ lets an own error out: what it is -/
def mkX (cl : Str) (M : List D → R D) : List D → R D := fun ds => match M (.obj [cl] [] :: ds) with
  | .ex c => .ex c
  | _ => .no
theorem same_made {H : Hp} {x dx : Addr} {C : Addr} (nx : H x = none) (nd : H dx = none) : Same H (upd (upd H dx (.own x)) x (.ins C dx [])) := fun b o e => by
  rw [upd_ne (fun z => by rw [z, nx] at e; cases e), upd_ne (fun z => by rw [z, nd] at e; cases e)]
  exact e
/-- a class that is made, as its callers know it -/
def Mak (P : Program) (w : World) (K : PySem.W.Frag) (mg : Str → Option Value) (base : Heap) (k : Nat) (cl : Str) (ps : List Str) (sp : Sp) : Prop :=
  ∃ fd, FnOk P w K mg base (L2.CX P w) k (He.ma K (He.ga K cl) "__init__") fd ps sp ∧ Mk K (He.ga K cl) (He.ma K (He.ga K cl) "__init__") ∧ mg cl = some (.ref (He.ga K cl)) ∧ Binds K fd ps []
section
variable {X : Cx} {W : WX} {k n : Nat} {ps : List Str} {cl : Str} {p pos : Pos} {e : Expr} {es : List Expr} {fs : En → R (List D)}
theorem px_mkX {M : List D → R D} (F : Mak X.prog X.w X.K X.mg X.base k cl ps (spG (repX X.K) X.K X.mg n M)) (tk : Takes X W) (hr : Room (k + 1) X.A) (hg : Gl X cl) (hn : ∀ ds, ds.length = n ∨ M ds = .no) (ha : PXs X W (e :: es) fs) (hdb : (cl == ("__debug__" : Str)) = false := by decide)
    (he : starEach (e :: es) X.env = (false, eval e X.env) :: starEach es X.env := by rfl) (hpl : (backTo pos (starEach es X.env)).any (·.1) = false := by rfl) : PX X W (.Call (.Name cl p) (e :: es) [] pos) (E.call (mkX cl M) fs) := by
  obtain ⟨fd, F, hmk, hm, hb⟩ := F
  refine convE (pe_makeS hmk F hr hg hm hb (passAt tk) ha hdb he hpl) fun σ H Q h => ?_
  refine Rg.seq (k := fun ds _ => mkX cl M ds) h fun ds vs H1 s1 r1 h1 => ?_
  intro x dx nx nd ne
  obtain ⟨e0, V0, h1⟩ := h1
  have sm := same_made (C := He.ga X.K cl) nx nd
  have ro : Rep X.K All (upd (upd H1 dx (.own x)) x (.ins (He.ga X.K cl) dx [])) (.obj [cl] []) (.ref x) := by
    rw [Rep]
    exact ⟨x, _, dx, [], rfl, trivial, upd_same, ⟨rfl, rfl⟩, .nil⟩
  have h1' : Fin (repX X.K) X.mg W σ H1 (mkX cl M ds) Q := h1
  unfold mkX at h1'
  cases z : M (.obj [cl] [] :: ds) with
  | ex c =>
    rw [z] at h1'
    rcases hn (.obj [cl] [] :: ds) with l | l
    · refine ⟨?_, .obj [cl] [] :: ds, .cons ro (r1.mono sm), ?_⟩
      · have := r1.length
        rw [List.length_cons] at l ⊢
        omega
      · rw [z]
        exact fun C H' g s => h1' C H' g (sm.trans s)
    · rw [l] at z; cases z
  | ok d => rw [z] at h1'; exact h1'.elim
  | no => rw [z] at h1'; exact h1'.elim
namespace S
/-- self.f = a, where a lets an error out -/
def fldX (fa : En → R D) : En → Out := fun e => (fa e).out e fun _ => .no
end S
theorem pm_fldX {c : Cc} {o a : Expr} {f : Str} {p2 pos : Pos} {fo fa : En → R D} (hC : Cls X.K (He.ga X.K cl)) (ho : PX X W o fo) (ha : PX X W a fa) (hs : swapsWith a (some (.Attribute o f p2)) pos.line X.env = pure false := by rfl) :
    PM X c W (.Assign [.Attribute o f p2] a pos) (S.fldX fa) :=
  convS (ps_fld ho ha hs) fun Ed σ H ⟨e, F, A, ok, h⟩ => Rg.out ok h fun d v H1 ok1 s1 r1 h1 => h1.elim
end
end Lp

/-! # The pure layer, part 23: texts, tables of the module -/
namespace Lp
open PySem L2 PySem.Spec PyProof.Rows

/-! ### lists of texts -/
def asStrs : List D → Option (List Str)
  | [] => some []
  | .str x :: r => (asStrs r).map (x :: ·)
  | _ => none
theorem asStrs_eq : ∀ {ds : List D} {ns : List Str}, asStrs ds = some ns → ds = ns.map D.str
  | [], ns, h => by cases h; rfl
  | d :: r, ns, h => by
    cases d with
    | str x =>
      rw [asStrs] at h
      cases q : asStrs r with
      | none => rw [q] at h; cases h
      | some ms =>
        rw [q] at h
        cases h
        rw [asStrs_eq q]; rfl
    | _ => cases h
theorem asStrs_map (ns : List Str) : asStrs (ns.map D.str) = some ns := by
  induction ns with
  | nil => rfl
  | cons n ns ih => rw [List.map_cons, asStrs, ih]; rfl

/-! ### join, split -/
def joinD : D → D → R D
  | .str a, .lst ds => (R.of (asStrs ds)).bind fun ys => if (ys.map (·.length)).sum + ys.length * a.length ≤ 16777216 then .ok (.str (Txt.join a ys)) else .no
  | _, _ => .no
def splitD : D → D → R (List D)
  | .str a, .str b => if (b.length == 0) = false ∧ a.length + 2 ≤ sizeLine then .ok ((Txt.split a b).map D.str) else .no
  | _, _ => .no
def isS : D → Bool
  | .str _ => true
  | _ => false
namespace E
def join (fo fe : En → R D) : En → R D := fun e => (fo e).bind fun x => if isS x = true then (fe e).bind fun d => joinD x d else .no
end E
namespace Fl
def split (fo fe : En → R D) : En → R (List D) := fun e => (fo e).bind fun x => if isS x = true then (fe e).bind fun d => splitD x d else .no
def ite (t : En → R Bool) (a b : En → R (List D)) : En → R (List D) := fun e => (t e).bind fun k => if k = true then a e else b e
end Fl
section
variable {X : Cx} {W : WX} {o a b : Expr} {fo fa fb : En → R D} {apos pos : Pos}
theorem isS_eq {d : D} (h : isS d = true) : ∃ x, d = .str x := by
  cases d with
  | str x => exact ⟨x, rfl⟩
  | _ => cases h
theorem px_join (ho : PX X W o fo) (he : PX X W a fa) (hs : starEach [a] X.env = [(false, eval a X.env)] := by rfl) (hbase : attributeBase o "join" X.env (eval o X.env) = eval o X.env := by rfl) (hline : (apos.endLine == pos.line) = true := by rfl) :
    PX X W (.Call (.Attribute o "join" apos) [a] [] pos) (E.join fo fa) := convE (pe_join ho he hs hbase hline) fun σ H Q h =>
  Rg.seq (k := fun x e => if isS x = true then (fa e).bind fun d => joinD x d else .no) h fun d v H1 s1 r1 h1 => by
    by_cases c : isS d = true
    · obtain ⟨x, ex⟩ := isS_eq c
      subst ex
      have h1' : Rg (repX X.K) X.K X.mg W (fun e => (fa e).bind fun d => joinD (.str x) d) σ H1 Q := h1.congr fun e => if_pos c
      refine ⟨⟨x, r1.str⟩, Rg.seq (k := fun d _ => joinD (.str x) d) h1' fun d2 v2 H2 s2 r2 h2 => ?_⟩
      cases d2 with
      | lst ds =>
        obtain ⟨p, vs, e, _, hH, rr⟩ := r2.lst
        cases q : asStrs ds with
        | none => exact (h2.no fun _ => show (R.of (asStrs ds)).bind _ = .no by rw [q]; rfl).elim
        | some ys =>
          have ed := asStrs_eq q
          rw [ed] at rr
          rw [rr.strs] at hH
          by_cases g : (ys.map (·.length)).sum + ys.length * x.length ≤ 16777216
          · exact ⟨x, p, ys, r1.str, by rw [e], .inl (SqL.of hH), g, h2.get (fun _ => show (R.of (asStrs ds)).bind _ = _ by rw [q]; exact if_pos g) (Same.refl H2) rep_str⟩
          · exact (h2.no fun _ => show (R.of (asStrs ds)).bind _ = .no by rw [q]; exact if_neg g).elim
      | _ => exact (h2.no fun _ => rfl).elim
    · exact (h1.no fun _ => if_neg c).elim
theorem pf_split (ho : PX X W o fo) (he : PX X W a fa) (hs : starEach [a] X.env = [(false, eval a X.env)] := by rfl) (hbase : attributeBase o "split" X.env (eval o X.env) = eval o X.env := by rfl) (hline : (apos.endLine == pos.line) = true := by rfl) :
    PF X W (.Call (.Attribute o "split" apos) [a] [] pos) (Fl.split fo fa) := convE (pe_split ho he hs hbase hline) fun σ H Q h =>
  Rg.seq (k := fun x e => if isS x = true then (fa e).bind fun d => splitD x d else .no) h fun d v H1 s1 r1 h1 => by
    by_cases c : isS d = true
    · obtain ⟨x, ex⟩ := isS_eq c
      subst ex
      have h1' : Rg (repF X.K) X.K X.mg W (fun e => (fa e).bind fun d => splitD (.str x) d) σ H1 Q := h1.congr fun e => if_pos c
      refine ⟨⟨x, r1.str⟩, Rg.seq (k := fun d _ => splitD (.str x) d) h1' fun d2 v2 H2 s2 r2 h2 => ?_⟩
      cases d2 with
      | str y =>
        by_cases g : (y.length == 0) = false ∧ x.length + 2 ≤ sizeLine
        · exact ⟨x, y, r1.str, by rw [r2.str], g.1, g.2, fun p hp => h2.get (fun _ => if_pos g) (same_new hp) (repF.new hp Reps.of_strs)⟩
        · exact (h2.no fun _ => if_neg g).elim
      | _ => exact (h2.no fun _ => rfl).elim
    · exact (h1.no fun _ => if_neg c).elim
/-- a new list, this or that -/
theorem pf_if {t : Expr} {tA : En → R Bool} {ga gb : En → R (List D)} (ht : PB X W t tA) (ha : PF X W a ga) (hb : PF X W b gb) : PF X W (.IfExp t a b pos) (Fl.ite tA ga gb) := convE (pe_ifExp ht ha hb) fun σ H Q h =>
  Rg.seq (k := fun k e => if k = true then ga e else gb e) h fun k k2 H1 s1 r1 h1 => by
    have r1 : k = k2 := r1
    subst r1
    cases k with
    | true => exact h1
    | false => exact h1
/-! ### the signs of a text -/
def charsD : D → R (List D)
  | .str x => .ok (x.cps.toList.map fun c => .str ⟨#[c]⟩)
  | _ => .no
namespace I
def chars (fa : En → R D) : En → R (List D) := fun e => (fa e).bind charsD
end I
theorem y_str {K : PySem.W.Frag} {F : Addr → Prop} (x : Str) : Yields K F (Its x) (fun _ => True) (x.cps.toList.map fun c => .str ⟨#[c]⟩) where
  go := fun i H hi _ => by
    rw [List.length_map] at hi
    show i < x.cps.size
    simpa using hi
  stop := fun H _ => by
    show x.cps.size ≤ (x.cps.toList.map fun c => D.str ⟨#[c]⟩).length
    rw [List.length_map]
    simp
  yld := fun i H v H' d _ e y => by
    obtain ⟨e', c, hc, ev⟩ := y
    subst e'
    refine ⟨Same.refl _, ?_⟩
    rw [List.getElem?_map, Array.getElem?_toList, hc] at e
    cases e
    rw [ev]
    exact rep_str
  keeps := fun _ _ _ _ => trivial
theorem pix_chars {tg : Expr} (ha : PX X W a fa) : PIx X W tg a (I.chars fa) := convI (pi_str ha) fun σ H Q h =>
  Rg.seq (k := fun d _ => charsD d) h fun d v H1 s1 r1 h1 => by
    cases d with
    | str x => exact ⟨x, r1.str, h1.get (fun _ => rfl) (Same.refl H1) ⟨_, trivial, y_str x⟩⟩
    | _ => exact (h1.no fun _ => rfl).elim
end
/-! ### a text so many times; a text longer -/
def mulS : D → D → R D
  | .str x, .int k => if k = 0 ∨ k = 1 then .ok (.str (Txt.mul x k)) else .no
  | _, _ => .no
theorem mulOk {x : Str} {k : Int} (h : k = 0 ∨ k = 1) : MulOk x k := by
  rcases h with z | z <;> subst z
  · exact ⟨by decide, fun h => absurd (by omega) h, fun h => absurd (by omega) h⟩
  · exact ⟨by decide, fun _ h => by simp at h, fun _ h => by simp at h⟩
theorem od_mulS {X : Cx} : OpD X (binaryOp .Mult) mulS := by
  refine ⟨fun x y H Q => ∃ i k, x = .str i ∧ y = .int k ∧ MulOk i k ∧ Q (.str (Txt.mul i k)) H, fun pins s σ H x y v u Q I rx ry h => ?_, fun d e x y H Q mg W σ r1 r2 z => ?_⟩
  · obtain ⟨i, k, rfl, rfl, hk, q⟩ := h
    obtain ⟨t, rfl⟩ := rx
    obtain ⟨t', rfl⟩ := ry
    exact PySem.SB.mul hk fun t2 k2 => ⟨.str _, H, I.tok k2, ⟨t2, rfl⟩, q⟩
  · cases d with
    | str i =>
      cases e with
      | int k =>
        by_cases c : k = 0 ∨ k = 1
        · exact ⟨i, k, r1.str, r2.int, mulOk c, z.get (fun _ => if_pos c) (Same.refl H) rep_str⟩
        · exact (z.no fun _ => if_neg c).elim
      | _ => exact (z.no fun _ => rfl).elim
    | _ => exact (z.no fun _ => by cases e <;> rfl).elim
def addS_ : D → D → R D
  | .str i, .str j => if i.length + j.length ≤ sizeLine then .ok (.str (i ++ j)) else .no
  | _, _ => .no
theorem id_addS {X : Cx} : IpD X .Add addS_ := ⟨_, iop_add_str, fun d e x y H Q mg W σ r1 r2 z => by
  cases d with
  | str i =>
    cases e with
    | str j =>
      by_cases c : i.length + j.length ≤ sizeLine
      · exact ⟨i, j, r1.str, r2.str, c, z.get (fun _ => if_pos c) (Same.refl H) rep_str⟩
      · exact (z.no fun _ => if_neg c).elim
    | _ => exact (z.no fun _ => rfl).elim
  | _ => exact (z.no fun _ => by cases e <;> rfl).elim⟩
/-! ### tables of the module: texts and their numbers -/
abbrev TabI : Type := Str × List (Str × Int)
def valOf (e : DictEntry) : Option Int := match e.val with
  | .int i _ => some i
  | _ => none
def chkKv (K : PySem.W.Frag) (a : Addr) (kvs : List (Str × Int)) : Bool := match K.lookup a with
  | some ⟨_, _, .dict es _, _⟩ => decide (es.toList.map valOf = kvs.map fun p => some p.2)
  | _ => false
abbrev AlQ : Type := (Bool × AlP) × List (Option (List (Option (Str × Int))))
def obsQ (td : List TabI) (tb : List (Str × D)) (fa : List He.Fa) (fn : List He.DefD) (K : PySem.W.Frag) : AlQ :=
  ((td.all fun t => chkKv K (He.ga K t.1) t.2, obsP tb fa fn K), td.map fun t => He.dicW K (He.ga K t.1))
def valQ (td : List TabI) (fn : List He.DefD) (w : World) : AlQ := ((true, valP_ fn), td.map fun t => some (He.keysIn w.params (t.2.map (·.1))))
def SaysQ (td : List TabI) (tb : List (Str × D)) (fa : List He.Fa) (fn : List He.DefD) (w : World) (K : PySem.W.Frag) : Prop := obsQ td tb fa fn K = valQ td fn w
def obsQG (n : Nat) (td : List TabI) (tb : List (Str × D)) (fa : List He.Fa) (fn : List He.DefD) (g : Addr → Option Obj) : AlQ := obsQ td tb fa fn (He.frG g (He.asD g n))
def hookQ (n : Nat) (td : List TabI) (tb : List (Str × D)) (fa : List He.Fa) (fn : List He.DefD) : PySem.W.Hook where
  α := AlQ
  obs := fun s => obsQG n td tb fa fn s.heap.get?
  val := fun w => valQ td fn w
  says := fun w h => ∃ K : PySem.W.Frag, K.In h ∧ SaysQ td tb fa fn w K
  of := fun _ _ e => ⟨_, He.frG_in, e⟩
  keeps := fun _ _ _ ⟨K, hK, c⟩ k => ⟨K, PySem.W.Frag.In.keeps hK k, c⟩
theorem obsQG_eq {n : Nat} {td : List TabI} {tb : List (Str × D)} {fa : List He.Fa} {fn : List He.DefD} {g : Addr → Option Obj} {s : Shared} (h : ∀ a, g a = s.heap.get? a) : obsQG n td tb fa fn g = (hookQ n td tb fa fn).obs s := by
  have e : g = s.heap.get? := funext h
  rw [e] <;> rfl
/-- at a: a table with these texts and numbers -/
structure TabAt (K : PySem.W.Frag) (w : World) (a : Addr) (kvs : List (Str × Int)) : Prop where
  kd : ∃ es n, KDict K w a es n
  has : ∀ z i, kvs.lookup z = some i → ∃ u, PySem.W.nsIn K a z = some (some u) ∧ RelV (.int i) u
  no : ∀ z, kvs.lookup z = none → PySem.W.nsIn K a z = some none
theorem find_kvs : ∀ {l : List DictEntry} {kvs : List (Str × Int)} {P : Params}, l.map He.keyOf = He.keysIn P (kvs.map (·.1)) → l.map valOf = kvs.map (fun p => some p.2) → ∀ z, (∀ i, kvs.lookup z = some i → ∃ e, l.find? (fun e => e.key.isStr z) = some e ∧ RelV (.int i) e.val) ∧ (kvs.lookup z = none → l.find? (fun e => e.key.isStr z) = none)
  | [], [], _, _, _, z => ⟨fun i h => (by cases h), fun _ => rfl⟩
  | [], _ :: _, _, h, _, _ => by cases h
  | _ :: _, [], _, h, _, _ => by cases h
  | e :: l, (x, n) :: kvs, P, h, g, z => by
    have h' : He.keyOf e :: l.map He.keyOf = some (x, PyData.keyHash P x) :: He.keysIn P (kvs.map (·.1)) := h
    have g' : valOf e :: l.map valOf = some n :: kvs.map fun p => some p.2 := g
    injection h' with h1 h2
    injection g' with g1 g2
    obtain ⟨i1, i2⟩ := find_kvs h2 g2 z
    have ek : ∃ t, e.key = .str x t := by
      unfold He.keyOf at h1
      split at h1
      · rename_i y t q
        have := Option.some.inj h1
        obtain ⟨h5, _⟩ := Prod.mk.inj this
        exact ⟨t, by rw [q, h5]⟩
      · cases h1
    have ev : ∃ t, e.val = .int n t := by
      unfold valOf at g1
      split at g1
      · rename_i y t q
        have := Option.some.inj g1
        exact ⟨t, by rw [q, this]⟩
      · cases g1
    obtain ⟨t, ek⟩ := ek
    obtain ⟨t2, ev⟩ := ev
    have is : e.key.isStr z = (z == x) := by
      rw [ek]
      show (x == z) = (z == x)
      rw [Bool.eq_iff_iff, beq_iff_eq, beq_iff_eq]
      exact ⟨Eq.symm, Eq.symm⟩
    rw [List.lookup_cons, List.find?_cons, is]
    by_cases c : (z == x) = true
    · rw [c]
      constructor
      · intro i hi
        have hi' : some n = some i := hi
        have hn : n = i := Option.some.inj hi'
        refine ⟨e, rfl, ?_⟩
        rw [ev, ← hn]
        exact ⟨t2, rfl⟩
      · intro h
        cases h
    · have c' : (z == x) = false := by simpa using c
      rw [c']
      exact ⟨i1, i2⟩
theorem tab_of {K : PySem.W.Frag} {w : World} {a : Addr} {kvs : List (Str × Int)} (h1 : He.dicW K a = some (He.keysIn w.params (kvs.map (·.1)))) (h2 : chkKv K a kvs = true) : TabAt K w a kvs := by
  obtain ⟨es, n, kd⟩ := He.dicW_ok h1
  have lk := kd.at_
  have k1 : es.toList.map He.keyOf = He.keysIn w.params (kvs.map (·.1)) := by
    unfold He.dicW at h1
    rw [lk] at h1
    have h1' : (match decide ("dict" = "dict") && ((#[] : Array (Option Value)).isEmpty && !(a == sysModules)) with
      | true => some (es.toList.map He.keyOf)
      | false => none) = some (He.keysIn w.params (kvs.map (·.1))) := h1
    split at h1'
    · exact Option.some.inj h1'
    · cases h1'
  have k2 : es.toList.map valOf = kvs.map fun p => some p.2 := by
    unfold chkKv at h2
    rw [lk] at h2
    exact of_decide_eq_true h2
  have f := find_kvs k1 k2
  have norf : es.toList.any (·.refKey) = false := by
    rw [List.any_eq_false]
    intro e he
    obtain ⟨x, t, q, _⟩ := kd.lit.all e he
    unfold DictEntry.refKey
    rw [q]
    intro h
    cases h
  refine ⟨⟨es, n, kd⟩, fun z i h => ?_, fun z h => ?_⟩
  · obtain ⟨e, he, r⟩ := (f z).1 i h
    refine ⟨e.val, ?_, r⟩
    unfold PySem.W.nsIn
    rw [lk]
    show (match es.toList.find? (·.key.isStr z) with | some e => some (some e.val) | none => if es.toList.any (·.refKey) then none else some none) = _
    rw [he]
  · unfold PySem.W.nsIn
    rw [lk]
    show (match es.toList.find? (·.key.isStr z) with | some e => some (some e.val) | none => if es.toList.any (·.refKey) then none else some none) = _
    rw [(f z).2 h, norf]
    rfl
section
variable {td : List TabI} {tb : List (Str × D)} {fa : List He.Fa} {fn : List He.DefD} {K : PySem.W.Frag} {w : World}
theorem SaysQ.p (c : SaysQ td tb fa fn w K) : SaysP tb fa fn K := congrArg (fun z : AlQ => z.1.2) c
theorem SaysQ.tab (c : SaysQ td tb fa fn w K) (i : Nat) {x : Str} {kvs : List (Str × Int)} (h : td[i]? = some (x, kvs)) : TabAt K w (He.ga K x) kvs := by
  have c1 : (td.all fun t => chkKv K (He.ga K t.1) t.2) = true := congrArg (fun z : AlQ => z.1.1) c
  have c2 : (td.map fun t => He.dicW K (He.ga K t.1)) = td.map fun t => some (He.keysIn w.params (t.2.map (·.1))) := congrArg (fun z : AlQ => z.2) c
  have e2 : (td.map fun t => He.dicW K (He.ga K t.1))[i]? = (td.map fun t => some (He.keysIn w.params (t.2.map (·.1))))[i]? := by rw [c2]
  rw [List.getElem?_map, List.getElem?_map, h] at e2
  exact tab_of (Option.some.inj e2) (List.all_eq_true.mp c1 (x, kvs) (List.mem_of_getElem? h))
end
/-! x in table, table[x] -/
def inT (kvs : List (Str × Int)) : D → R D
  | .str z => .ok (.bl (kvs.lookup z).isSome)
  | _ => .no
def ixT (kvs : List (Str × Int)) : D → R D
  | .str z => (R.of (kvs.lookup z)).bind fun i => .ok (.int i)
  | _ => .no
section
variable {X : Cx} {W : WX} {a : Expr} {fa : En → R D} {x : Str} {kvs : List (Str × Int)} {pos p : Pos}
theorem px_inT (T : TabAt X.K X.w (He.ga X.K x) kvs) (hg : Gl X x) (hm : X.mg x = some (.ref (He.ga X.K x))) (ha : PX X W a fa) (hm2 : behindInMarks .In (.Name x p) = false := by first | exact nobehind _ (by decide) (by decide) | rfl) (hd : (x == ("__debug__" : Str)) = false := by decide) :
    PX X W (.Compare a [.In] [.Name x p] pos) (E.un (inT kvs) fa) := by
  obtain ⟨es, n, kd⟩ := T.kd
  refine convE (pe_cmpR (op_in_kd kd) ha (pe_glob (v := .ref (He.ga X.K x)) hg hm rfl hd) hm2) fun σ H Q h => ?_
  refine Rg.seq (k := fun d _ => inT kvs d) h fun d v H1 s1 r1 h1 => ?_
  cases d with
  | str z =>
    cases q : kvs.lookup z with
    | none => exact ⟨z, none, r1.str, rfl, T.no z q, h1.get (fun _ => show R.ok (D.bl (kvs.lookup z).isSome) = .ok (.bl false) by rw [q]; rfl) (Same.refl H1) rep_bl⟩
    | some i =>
      obtain ⟨u, hu, _⟩ := T.has z i q
      exact ⟨z, some u, r1.str, rfl, hu, h1.get (fun _ => show R.ok (D.bl (kvs.lookup z).isSome) = _ by rw [q]; rfl) (Same.refl H1) rep_bl⟩
  | _ => exact (h1.no fun _ => rfl).elim
theorem ix_kd {d : Addr} {es : Array DictEntry} {n : Nat} (D : KDict X.K X.w d es n) : IxR X (fun x y H Q => ∃ (z : Str) (u0 : Value) (v0 : V), x = .ref d ∧ y = .str z ∧ PySem.W.nsIn X.K d z = some (some u0) ∧ RelV v0 u0 ∧ Q v0 H) := by
  intro value slice pins s σ H x y v u Q I rx ry h hs
  obtain ⟨z, u0, v0, rfl, rfl, e, r, q⟩ := h
  cases rx
  obtain ⟨t, rfl⟩ := ry
  have hm := PySem.W.mapOf_K (prog := X.prog) I.kIn D.at_ D.lit
  exact PyProof.Rows.tail_any hm.typeIs F.slot_dict_getitem.lookup (wpAny_getItem_of (PySem.strKind_is X.prog X.w z t) hm (PySem.W.find_K D.at_ e) ⟨v0, H, I.tok _, r, q⟩) hs
theorem px_ixT (T : TabAt X.K X.w (He.ga X.K x) kvs) (hg : Gl X x) (hm : X.mg x = some (.ref (He.ga X.K x))) (ha : PX X W a fa) (hs : PlainIx a) (hd : (x == ("__debug__" : Str)) = false := by decide) :
    PX X W (.Subscript (.Name x p) a pos) (E.un (ixT kvs) fa) := by
  obtain ⟨es, n, kd⟩ := T.kd
  refine convE (pe_ix (ix_kd kd) (pe_glob (v := .ref (He.ga X.K x)) hg hm rfl hd) ha hs) fun σ H Q h => ?_
  refine Rg.seq (k := fun d _ => ixT kvs d) h fun d v H1 s1 r1 h1 => ?_
  cases d with
  | str z =>
    cases q : kvs.lookup z with
    | none => exact (h1.no fun _ => show (R.of (kvs.lookup z)).bind (fun i => R.ok (D.int i)) = .no by rw [q]; rfl).elim
    | some i =>
      obtain ⟨u, hu, r⟩ := T.has z i q
      exact ⟨z, u, .int i, rfl, r1.str, hu, r, h1.get (fun _ => show (R.of (kvs.lookup z)).bind (fun i => R.ok (D.int i)) = .ok (.int i) by rw [q]; rfl) (Same.refl H1) rep_int⟩
  | _ => exact (h1.no fun _ => rfl).elim
end
end Lp

/-! # The pure layer, part 24: an except suite that raises -/
namespace Lp
open PySem L2 PySem.Spec PyProof.Rows

namespace S
/-- try: .. except x: raise y(..) -/
def tryX (m : En → Out) (tab : List (Str × Bool)) (y : Str) : En → Out := fun e => match m e with
  | .ex cl e' => match tab.lookup cl with
    | some true => .ex y e'
    | some false => .ex cl e'
    | none => .no
  | o => o
end S
section
variable {X : Cx} {c : Cc} {W : WX} {body : List Stmt} {m : En → Out} {x y : Str} {np pos pos' pos2 p p2 p3 : Pos} {j : Nat} {t : Str} {tab : List (Str × Bool)}
theorem pm_tryX (hs : X.stack = X.env :: X.outer) (hf : X.env.frame = some X.env.locals) (hpa : ∀ hd : Option Value, PassesOwnAt (model X.prog X.w) (X.A.mark hd) X.A X.env X.xe) (tk : Takes X W)
    (hx : ExTab X.K X.mg x tab) (hg : Gl X x) (oy : OwnEx X.K X.mg y) (hgy : Gl X y)
    (hb : ∀ (W : WX) (pn : List (Addr × Obj)) (xe : Value → Shared → Prop), L2N.Takes (X.tr pn xe) W → PassesOwn (model X.prog X.w) X.A X.env xe → PMs (X.tr pn xe) c W body m)
    (hdb : (x == ("__debug__" : Str)) = false := by decide) (hdy : (y == ("__debug__" : Str)) = false := by decide) :
    PM X c W (.Try body [.ExceptHandler (some (.Name x np)) none [.Raise (some (.Call (.Name y p) [.Constant (.str t) j p2] [] p3)) none pos2] pos'] [] [] pos) (S.tryX m tab y) := by
  obtain ⟨C', gC, hx⟩ := hx
  obtain ⟨Cy, gy, qy, ky, sb, ty⟩ := oy
  refine convS (L2H.ps_try_onlyX (tb := fun W => SR c X.K X.mg W m) (ts := fun _ _ _ _ σ H => W (.ref Cy) none σ H) (Wout := W) (c := .ref C') hs hf ⟨hg, hdb, .inl gC⟩ hpa tk (fun W pn xe t1 _ po => hb W pn xe t1 po)
    (fun a oe cls d pn _ _ tk2 hot => ?_)) fun Ed σ H ⟨e, F, A, ok, h⟩ => ⟨e, F, A, ok, ?_⟩
  · have r := L2H.ps_raiseH (X := L2H.suiteX X a ((a, oe) :: pn)) (pos := pos2) hot tk2 (L2N.pmk_own (p := p) (p2 := p2) (pos := p3) (m := t) (j := j) PySem.F.excBase_ValueError qy gy ky (raises_own sb ty) hgy hdy)
    exact pss_one r
  · replace h : FinS c X.K X.mg W Ed (match m e with
      | .ex cl e' => match tab.lookup cl with
        | some true => .ex y e'
        | some false => .ex cl e'
        | none => .no
      | o => o) := h
    cases q : m e with
    | ex cl e' =>
      rw [q] at h
      intro C σ1 H1 F1 A1 g ok1
      cases q2 : tab.lookup cl with
      | none =>
        replace h : FinS c X.K X.mg W Ed (match tab.lookup cl with
          | some true => .ex y e'
          | some false => .ex cl e'
          | none => .no) := h
        rw [q2] at h
        exact h.elim
      | some b =>
        replace h : FinS c X.K X.mg W Ed (match tab.lookup cl with
          | some true => .ex y e'
          | some false => .ex cl e'
          | none => .no) := h
        rw [q2] at h
        refine ⟨b, hx cl b q2 C g, fun eb a ha => ?_, fun eb => ?_⟩
        · subst eb
          exact h Cy σ1 H1 F1 A1 gy ok1
        · subst eb
          exact h C σ1 H1 F1 A1 g ok1
    | nx e' => rw [q] at h; exact h
    | rt d => rw [q] at h; exact h
    | bk e' => rw [q] at h; exact h
    | ct e' => rw [q] at h; exact h
    | no => rw [q] at h; exact h
end

/-! ### defs whose errors such a suite takes -/
section
variable {X : Cx} {c : Cc} {W : WX} {x : Str} {pos p p2 p3 : Pos} {j : Nat} {t : Str}
theorem pm_raiseN (hc : X.calm = true) (tk : L2N.Takes X W) (o : OwnEx X.K X.mg x) (hg : Gl X x) (hdb : (x == ("__debug__" : Str)) = false := by decide) : PM X c W (.Raise (some (.Call (.Name x p) [.Constant (.str t) j p2] [] p3)) none pos) (S.raise x) := by
  obtain ⟨C, gC, q, kC, sb, ty⟩ := o
  exact convS (L2N.ps_raise hc tk (L2N.pmk_own PySem.F.excBase_ValueError q gC kC (raises_own sb ty) hg hdb)) fun Ed σ H ⟨e, F, A, ok, h⟩ => h C σ H F A gC ok
end
/-- an own function, as its callers know it, its errors fresh ones -/
def FkN (P : Program) (w : World) (K : PySem.W.Frag) (mg : Str → Option Value) (base : Heap) (k : Nat) (x : Str) (ps : List Str) (sp : Sp) : Prop :=
  ∃ a fd, FnOk P w K mg base (L2N.CX P w) k a fd ps sp ∧ mg x = some (.ref a) ∧ PySem.W.keepIn K (.ref a) = true ∧ Binds K fd ps []
section
variable {X : Cx} {W : WX} {k n : Nat} {ps : List Str} {x : Str} {p pos : Pos} {e : Expr} {es : List Expr} {fs : En → R (List D)}
theorem px_ownN {m : List D → R D} (F : FkN X.prog X.w X.K X.mg X.base k x ps (spG (repX X.K) X.K X.mg n m)) (tk : L2N.Takes X W) (hr : Room k X.A) (hg : Gl X x) (hn : ∀ ds, ds.length = n ∨ m ds = .no) (ha : PXs X W (e :: es) fs) (hdb : (x == ("__debug__" : Str)) = false := by decide)
    (he : starEach (e :: es) X.env = (false, eval e X.env) :: starEach es X.env := by rfl) (hpl : (backTo pos (starEach es X.env)).any (·.1) = false := by rfl) :
    PX X W (.Call (.Name x p) (e :: es) [] pos) (E.call m fs) := by
  obtain ⟨a, fd, F, hm, hk, hb⟩ := F
  exact convE (pe_callS F hr hg hm hk hb (L2N.passAt tk) ha hdb he hpl) fun σ H Q h =>
    Rg.seq (k := fun ds _ => m ds) h fun ds vs H1 s1 r1 h1 => by
      rcases hn ds with l | l
      · obtain ⟨e, _, h1⟩ := h1
        exact ⟨by rw [← r1.length]; exact l, ds, r1, h1.exk fun _ _ z => z⟩
      · exact (h1.no fun _ => l).elim
/-- one that lets nothing out, wherever it is called -/
theorem px_ownC {m : List D → R D} (F : Fk X.prog X.w X.K X.mg X.base k x ps (spG (repX X.K) X.K X.mg n m)) (hr : Room k X.A) (hg : Gl X x) (hn : ∀ ds, ds.length = n ∨ m ds = .no) (nx : ∀ ds cl, m ds ≠ .ex cl) (ha : PXs X W (e :: es) fs) (hdb : (x == ("__debug__" : Str)) = false := by decide)
    (he : starEach (e :: es) X.env = (false, eval e X.env) :: starEach es X.env := by rfl) (hpl : (backTo pos (starEach es X.env)).any (·.1) = false := by rfl) :
    PX X W (.Call (.Name x p) (e :: es) [] pos) (E.call m fs) := by
  obtain ⟨a, fd, F, hm, hk, hb⟩ := F
  refine convE (pe_callS (E := fun _ _ _ _ => False) F hr hg hm hk hb (fun _ _ _ _ _ _ _ c => (cx_none c).elim) ha hdb he hpl) fun σ H Q h =>
    Rg.seq (k := fun ds _ => m ds) h fun ds vs H1 s1 r1 h1 => by
      rcases hn ds with l | l
      · obtain ⟨e, _, h1⟩ := h1
        refine ⟨by rw [← r1.length]; exact l, ds, r1, ?_⟩
        have h1' : Fin (repX X.K) X.mg W σ H1 (m ds) Q := h1
        cases q : m ds with
        | ok d => rw [q] at h1'; exact h1'
        | ex cl => exact (nx ds cl q).elim
        | no => rw [q] at h1'; exact h1'
      · exact (h1.no fun _ => l).elim
end
section
variable {P : Program} {w : World} {K : PySem.W.Frag} {mg : Str → Option Value} {base : Heap} {x qual : Str} {params : Arguments} {body : List Stmt} {scope : Scope} {f : Addr} {fd : FuncData} {N ps : List Str} {k loc : Nat} {m : En → Out}
theorem fnN (F : FunD K x qual params body scope [] [] f fd) (S : FnScope N ps scope) (hN : N.length = ps.length + loc)
    (hb : ∀ (cdv : Value) (A : Around) (outer : List Env) (s : Shared) (H : Hp) (E : XK) (c : Cc), Room k (A.deeper (envOfC qual scope s.heap.objs.size f cdv)) → c.fl = false → c.pl = true →
      L2N.Takes (cxOf (L2N.CX P w) P w K mg base N qual scope f cdv A outer s H E) (fun cls d _ H => E cls d H) →
      PassesOwn (model P w) (A.deeper (envOfC qual scope s.heap.objs.size f cdv)) (envOfC qual scope s.heap.objs.size f cdv) (cxOf (L2N.CX P w) P w K mg base N qual scope f cdv A outer s H E).xe →
      PMs (cxOf (L2N.CX P w) P w K mg base N qual scope f cdv A outer s H E) c (fun cls d _ H => E cls d H) body m) : FnOk P w K mg base (L2N.CX P w) (k + 1) f fd ps (spG (repX K) K mg ps.length (Fn.X ps.length loc m)) := by
  refine F.ok S (fun vs H Q E h => h.1) fun cdv A outer s H vs Q E hr h => ⟨_, hb cdv A outer s H E ⟨H, fun b => H b ≠ none, false, true, fun _ => True, none⟩ hr rfl rfl (L2N.takes_of rfl rfl rfl rfl) (passes_of (X := cxOf (L2N.CX P w) P w K mg base N qual scope f cdv A outer s H E) rfl), ?_⟩
  obtain ⟨hl, ds, r, fin⟩ := h
  refine ⟨_, _, _, start_ok r (by rw [hl]; exact hN), ?_⟩
  have e1 : Fn.run ps.length loc m ds = m (ds.map Sl.sh ++ List.replicate loc .no) := if_pos (by rw [r.length]; exact hl)
  replace fin : Fin (repX K) mg (fun c d _ H => E c d H) [] H (Fn.outX (Fn.run ps.length loc m ds)) Q := fin
  rw [e1] at fin
  cases q : m (ds.map Sl.sh ++ List.replicate loc .no) with
  | nx e => rw [q] at fin; exact fun σ H' F A ok => fin .non H' (fun b o z => (ok.pr b o z).1) rep_non
  | rt d =>
    rw [q] at fin
    intro v H' dn rt
    unfold retOk at rt
    rw [if_neg Bool.false_ne_true] at rt
    exact fin v H' (fun b o z => dn.1 b o z) rt
  | ex cl e => rw [q] at fin; exact fun C σ H' F A g ok => fin C H' g (fun b o z => (ok.pr b o z).1)
  | bk e => rw [q] at fin; exact fin.elim
  | ct e => rw [q] at fin; exact fin.elim
  | no => rw [q] at fin; exact fin.elim
theorem fkN (F : FunD K x qual params body scope [] [] f fd) (hm : mg x = some (.ref f)) (bd : Binds K fd ps []) (S : FnScope N ps scope) (hN : N.length = ps.length + loc)
    (hb : ∀ (cdv : Value) (A : Around) (outer : List Env) (s : Shared) (H : Hp) (E : XK) (c : Cc), Room k (A.deeper (envOfC qual scope s.heap.objs.size f cdv)) → c.fl = false → c.pl = true →
      L2N.Takes (cxOf (L2N.CX P w) P w K mg base N qual scope f cdv A outer s H E) (fun cls d _ H => E cls d H) →
      PassesOwn (model P w) (A.deeper (envOfC qual scope s.heap.objs.size f cdv)) (envOfC qual scope s.heap.objs.size f cdv) (cxOf (L2N.CX P w) P w K mg base N qual scope f cdv A outer s H E).xe →
      PMs (cxOf (L2N.CX P w) P w K mg base N qual scope f cdv A outer s H E) c (fun cls d _ H => E cls d H) body m) : FkN P w K mg base (k + 1) x ps (spG (repX K) K mg ps.length (Fn.X ps.length loc m)) :=
  ⟨f, fd, fnN F S hN hb, hm, F.kp, bd⟩
end
/-! ### mirrors without errors -/
def NX (f : En → R D) : Prop := ∀ e c, f e ≠ .ex c
theorem R.bind_nx {α β : Type} {r : R α} {f : α → R β} {c : Str} (h : ∀ c, r ≠ .ex c) (g : ∀ a c, f a ≠ .ex c) : r.bind f ≠ .ex c := by
  cases r with
  | ok a => exact g a c
  | ex x => exact absurd rfl (h x)
  | no => exact fun z => by cases z
theorem nx_var (i : Nat) : NX (E.var i) := fun e c z => by
  unfold E.var at z
  split at z <;> cases z
theorem nx_un {g : D → R D} {f : En → R D} (hg : ∀ d c, g d ≠ .ex c) (h : NX f) : NX (E.un g f) := fun e c => R.bind_nx (h e) hg
theorem nx_and {a b : En → R D} (ha : NX a) (hb : NX b) : NX (E.andV a b) := fun e c => R.bind_nx (ha e) fun x c => by
  cases x with
  | bl k => cases k with
    | true => exact hb e c
    | false => exact fun z => by cases z
  | _ => exact fun z => by cases z
theorem nx_not {a : En → R D} (ha : NX a) : NX (E.notV a) := fun e c => R.bind_nx (ha e) fun x c => by
  cases x <;> exact fun z => by cases z
theorem nx_chain {g1 g2 : D → D → R D} {a b c : En → R D} (h1 : ∀ d e c, g1 d e ≠ .ex c) (h2 : ∀ d e c, g2 d e ≠ .ex c) (ha : NX a) (hb : NX b) (hc : NX c) : NX (E.chain g1 g2 a b c) := fun e cl =>
  R.bind_nx (ha e) fun x cl => R.bind_nx (hb e) fun y cl => R.bind_nx (h1 x y) fun k cl => by
    cases k with
    | bl k => cases k with
      | true => exact R.bind_nx (hc e) fun z c => h2 y z c
      | false => exact fun z => by cases z
    | _ => exact fun z => by cases z
theorem nxg_isInt : ∀ d c, isInt d ≠ .ex c := fun d c => by cases d <;> exact fun z => by cases z
theorem nxg_isBool : ∀ d c, isBool d ≠ .ex c := fun d c => by cases d <;> exact fun z => by cases z
theorem nxg_le : ∀ d e c, leD d e ≠ .ex c := fun d e c => by
  cases d <;> cases e <;> first | exact fun z => (by cases z) | (unfold leD; split <;> exact fun z => by cases z)
theorem nx_ret {n loc : Nat} {f : En → R D} (h : NX f) : ∀ ds cl, Fn.X n loc (S.seq (S.ret f) S.nil) ds ≠ .ex cl := fun ds cl z => by
  unfold Fn.X Fn.run at z
  by_cases c : ds.length = n
  · rw [if_pos c] at z
    have key : ∀ e, Fn.outX (S.seq (S.ret f) S.nil e) ≠ .ex cl := fun e y => by
      have y' : Fn.outX (((f e).out e fun d => .rt d).seq S.nil) = .ex cl := y
      cases q : f e with
      | ok d => rw [q] at y'; cases y'
      | ex x => exact h e x q
      | no => rw [q] at y'; cases y'
    exact key _ z
  · rw [if_neg c] at z
    cases z
end Lp

/-! # The mirrors (printed by tools/gen.py) -/
namespace Mi
open PySem L2 Lp
def l1_law_plan_text : En → Out := (S.seq (S.set 1 (Z.px (E.bin addD (E.bin addD (E.bin addD (E.bin addD (E.var 1) (E.bin mulS (E.c (.str " ")) (E.call (on1 intD) (E.cons (E.bin gtD (E.var 2) (E.c (.int 0))) E.nil)))) (E.call (on1 strD) (E.cons (E.var 3) E.nil))) (E.c (.str "+"))) (E.call (on1 strD) (E.cons (E.var 4) E.nil))))) S.nil)
def b_law_plan_text : En → Out := (S.seq (S.set 1 (Z.px (E.c (.str "")))) (S.seq (S.loop (I.enum (E.cons (Z.var 0) E.nil)) (.tp [(.nm 2), (.tp [(.nm 3), (.nm 4)])]) Mi.l1_law_plan_text) (S.seq (S.ret (E.var 1)) S.nil)))
def law_plan_text : List D → R D := Fn.X 1 4 b_law_plan_text

def l1_law_deeds : En → Out := (S.seq (S.set 6 (Z.px (E.call Mi.law_seed (E.cons (E.bin addD (E.call Mi.law_cell (E.cons (E.var 0) (E.cons (E.bin addD (E.bin addD (E.var 1) (E.c (.int 1))) (E.bin modD (E.var 5) (E.c (.int 8)))) E.nil))) (E.bin mulD (E.c (.int 29)) (E.var 5))) (E.cons (E.var 5) E.nil))))) (S.seq (S.set 7 (Z.px (E.call Mi.law_pick (E.cons (E.var 6) (E.cons (E.c (.int 12)) E.nil))))) (S.seq (S.ite (B.val (E.bin ltD (E.var 7) (E.c (.int 4)))) (S.seq (S.app 3 (Z.px (E.call tupD (E.cons (E.c (.str "ask")) (E.cons (E.bin ixD (E.call lstD (E.cons (E.bin modD (E.bin divD (E.var 6) (E.c (.int 7))) (E.c (.int 10))) (E.cons (E.c (.int 5)) (E.cons (E.c (.int 5)) E.nil)))) (E.bin modD (E.bin divD (E.var 6) (E.c (.int 11))) (E.c (.int 3)))) E.nil))))) (S.seq (S.aug 4 addI (E.c (.int 1))) S.nil)) (S.seq (S.ite (B.val (E.bin ltD (E.var 7) (E.c (.int 8)))) (S.seq (S.app 3 (Z.px (E.call tupD (E.cons (E.c (.str "back")) (E.cons (E.bin modD (E.bin divD (E.var 6) (E.c (.int 7))) (E.bin addD (E.var 4) (E.c (.int 1)))) (E.cons (E.bin gtD (E.bin modD (E.bin divD (E.var 6) (E.c (.int 11))) (E.c (.int 4))) (E.c (.int 0))) E.nil)))))) S.nil) (S.seq (S.set 8 (Z.px (E.bin addD (E.c (.int 1)) (E.bin modD (E.bin divD (E.var 6) (E.c (.int 7))) (E.bin ixD (E.call lstD (E.cons (E.c (.int 12)) (E.cons (E.c (.int 99)) E.nil))) (E.call (on1 intD) (E.cons (E.bin eqD (E.bin modD (E.bin divD (E.var 6) (E.c (.int 13))) (E.c (.int 4))) (E.c (.int 0))) E.nil))))))) (S.seq (S.set 9 (Z.pf (Fl.lst (E.cons (E.call tupD (E.cons (E.c (.str "left")) (E.cons (E.bin modD (E.bin divD (E.var 6) (E.c (.int 7))) (E.bin addD (E.var 4) (E.c (.int 1)))) E.nil))) (E.cons (E.call tupD (E.cons (E.c (.str "spoil")) (E.cons (E.bin modD (E.bin divD (E.var 6) (E.c (.int 7))) (E.c (.int 5))) E.nil))) (E.cons (E.call tupD (E.cons (E.c (.str "wait")) (E.cons (E.var 8) E.nil))) E.nil)))))) (S.seq (S.app 3 (Z.px (E.bin ixD (E.call okLst (Fl.add (E.var 9) (E.call lstD (E.cons (E.call tupD (E.cons (E.c (.str "wait")) (E.cons (E.bin addD (E.c (.int 1)) (E.bin modD (E.bin divD (E.var 6) (E.c (.int 7))) (E.c (.int 3)))) E.nil))) E.nil)))) (E.bin subD (E.var 7) (E.c (.int 8)))))) S.nil)))) S.nil)) S.nil)))
def b_law_deeds : En → Out := (S.seq (S.own 3 (Fl.lst E.nil)) (S.seq (S.set 4 (Z.px (E.c (.int 0)))) (S.seq (S.loop (I.range1 (E.cons (Z.px (E.call Mi.law_mix (E.cons (E.call Mi.law_cell (E.cons (E.var 0) (E.cons (E.var 1) E.nil))) (E.cons (E.c (.int 9949)) (E.cons (E.bin addD (E.var 2) (E.c (.int 1))) E.nil))))) E.nil)) (.nm 5) Mi.l1_law_deeds) (S.seq (S.retO 3) S.nil))))
def law_deeds : List D → R (List D) := Fn.F 3 7 b_law_deeds

def l1_law_deeds_text : En → Out := (S.seq (S.set 3 (Z.px (E.bin addD (E.bin addD (E.bin ixD (E.var 2) (E.c (.int 0))) (E.c (.str " "))) (E.call (on1 strD) (E.cons (E.bin ixD (E.var 2) (E.c (.int 1))) E.nil))))) (S.seq (S.app 1 (Z.px (E.ite (B.val (E.bin eqD (E.bin ixD (E.var 2) (E.c (.int 0))) (E.c (.str "back")))) (E.bin addD (E.var 3) (E.bin ixD (E.call lstD (E.cons (E.c (.str " broken")) (E.cons (E.c (.str " good")) E.nil))) (E.call (on1 intD) (E.cons (E.bin ixD (E.var 2) (E.c (.int 2))) E.nil)))) (E.var 3)))) S.nil))
def b_law_deeds_text : En → Out := (S.seq (S.own 1 (Fl.lst E.nil)) (S.seq (S.loop (I.items (Z.var 0)) (.nm 2) Mi.l1_law_deeds_text) (S.frz 1 (S.seq (S.ret (E.join (E.c (.str "\n")) (E.var 1))) S.nil))))
def law_deeds_text : List D → R D := Fn.X 1 3 b_law_deeds_text

def b_law_called_k24 : En → Out := (S.seq (S.ite (B.val (E.bin ltD (E.var 0) (E.c (.int 3)))) (S.seq (S.ite (B.val (E.bin eqD (E.var 0) (E.c (.int 0)))) (S.seq (S.ret (fun _ => .no)) S.nil) S.nil) (S.seq (S.ret (E.ite (B.val (E.bin eqD (E.var 0) (E.c (.int 1)))) (fun _ => .no) (fun _ => .no))) S.nil)) S.nil) (S.seq (S.ite (B.val (E.bin ltD (E.var 0) (E.c (.int 5)))) (S.seq (S.ret (E.ite (B.val (E.bin eqD (E.var 0) (E.c (.int 3)))) (fun _ => .no) (fun _ => .no))) S.nil) S.nil) (S.seq (S.ret (E.ite (B.val (E.bin eqD (E.var 0) (E.c (.int 5)))) (fun _ => .no) (fun _ => .no))) S.nil)))
def law_called_k24 : List D → R D := Fn.X 2 0 b_law_called_k24

def b_is_deed : En → Out := (S.seq (S.ite (B.or (B.not (B.tru (E.un isTup (E.var 0)))) (B.or (B.not (B.tru (E.var 0))) (B.not (B.tru (E.un isStr (E.bin ixD (E.var 0) (E.c (.int 0)))))))) (S.seq (S.ret (E.c (.bl false))) S.nil) S.nil) (S.seq (S.ret (E.andV (E.un (inT [("ask", 1), ("back", 2), ("left", 1), ("spoil", 1), ("wait", 1)]) (E.bin ixD (E.var 0) (E.c (.int 0)))) (E.bin eqD (E.call (on1 lenD) (E.cons (E.var 0) E.nil)) (E.bin addD (E.un (ixT [("ask", 1), ("back", 2), ("left", 1), ("spoil", 1), ("wait", 1)]) (E.bin ixD (E.var 0) (E.c (.int 0)))) (E.c (.int 1)))))) S.nil))
def is_deed : List D → R D := Fn.X 1 0 b_is_deed

def b_is_plain : En → Out := (S.seq (S.ite (B.and (B.val (E.bin eqD (E.bin ixD (E.var 0) (E.c (.int 0))) (E.c (.str "back")))) (B.not (B.tru (E.un isBool (E.bin ixD (E.var 0) (E.c (.int 2))))))) (S.seq (S.ret (E.c (.bl false))) S.nil) S.nil) (S.seq (S.ret (E.call Mi.is_within (E.cons (E.bin ixD (E.var 0) (E.c (.int 1))) (E.cons (E.c (.int 0)) (E.cons (E.c (.int 999)) E.nil))))) S.nil))
def is_plain : List D → R D := Fn.X 1 0 b_is_plain

def l1_deeds_text : En → Out := (S.seq (S.set 3 (Z.px (E.bin addD (E.bin addD (E.bin ixD (E.var 1) (E.c (.int 0))) (E.c (.str " "))) (E.call (on1 strD) (E.cons (E.bin ixD (E.var 1) (E.c (.int 1))) E.nil))))) (S.seq (S.ite (B.val (E.bin eqD (E.bin ixD (E.var 1) (E.c (.int 0))) (E.c (.str "back")))) (S.seq (S.aug 3 addS_ (E.ite (B.tru (E.bin ixD (E.var 1) (E.c (.int 2)))) (E.c (.str " good")) (E.c (.str " broken")))) S.nil) S.nil) (S.seq (S.app 2 (Z.var 3)) S.nil)))
def b_deeds_text : En → Out := (S.seq (S.ite (B.or (B.not (B.tru (E.un isLst (E.var 0)))) (B.tru (E.call okLst (Fl.comp (I.items (E.var 0)) (.nm 1) [1] (B.or (B.not (B.tru (E.call Mi.is_deed (E.cons (E.var 1) E.nil)))) (B.not (B.tru (E.call Mi.is_plain (E.cons (E.var 1) E.nil))))) (E.var 1))))) (S.seq (S.raise "BadDeed") S.nil) S.nil) (S.seq (S.own 2 (Fl.lst E.nil)) (S.seq (S.loop (I.items (Z.var 0)) (.nm 1) Mi.l1_deeds_text) (S.frz 2 (S.seq (S.ret (E.join (E.c (.str "\n")) (E.var 2))) S.nil)))))
def deeds_text : List D → R D := Fn.X 1 3 b_deeds_text

def b_number_of : En → Out := (S.seq (S.ite (B.or (B.not (B.val (E.chain leD leD (E.c (.int 1)) (E.call (on1 lenD) (E.cons (E.var 0) E.nil)) (E.c (.int 3))))) (B.or (B.tru (E.call okLst (Fl.comp (I.chars (E.var 0)) (.nm 1) [1] (B.val (E.bin notInD (E.var 1) (E.c (.str "0123456789")))) (E.var 1)))) (B.val (E.bin neD (E.call (on1 strD) (E.cons (E.call (on1 intD) (E.cons (E.var 0) E.nil)) E.nil)) (E.var 0))))) (S.seq (S.raise "BadText") S.nil) S.nil) (S.seq (S.ret (E.call (on1 intD) (E.cons (E.var 0) E.nil))) S.nil))
def number_of : List D → R D := Fn.X 1 1 b_number_of

def l1_read_deeds : En → Out := (S.seq (S.set 3 (Z.pf (Fl.split (E.var 2) (E.c (.str " "))))) (S.seq (S.ite (B.or (B.val (E.bin ltD (E.call (on1 lenD) (E.cons (E.var 3) E.nil)) (E.c (.int 2)))) (B.and (B.val (E.bin eqD (E.bin ixD (E.var 3) (E.c (.int 0))) (E.c (.str "back")))) (B.or (B.val (E.bin neD (E.call (on1 lenD) (E.cons (E.var 3) E.nil)) (E.c (.int 3)))) (B.val (E.bin notInD (E.bin ixD (E.var 3) (E.c (.int 2))) (E.call tupD (E.cons (E.c (.str "good")) (E.cons (E.c (.str "broken")) E.nil)))))))) (S.seq (S.raise "BadText") S.nil) S.nil) (S.seq (S.set 4 (Z.px (E.call tupD (E.cons (E.bin ixD (E.var 3) (E.c (.int 0))) (E.cons (E.call Mi.number_of (E.cons (E.bin ixD (E.var 3) (E.c (.int 1))) E.nil)) E.nil))))) (S.seq (S.ite (B.val (E.bin eqD (E.bin ixD (E.var 3) (E.c (.int 0))) (E.c (.str "back")))) (S.seq (S.set 4 (Z.px (E.bin addD (E.var 4) (E.call tupD (E.cons (E.bin eqD (E.bin ixD (E.var 3) (E.c (.int 2))) (E.c (.str "good"))) E.nil))))) S.nil) (S.seq (S.ite (B.val (E.bin neD (E.call (on1 lenD) (E.cons (E.var 3) E.nil)) (E.c (.int 2)))) (S.seq (S.raise "BadText") S.nil) S.nil) S.nil)) (S.seq (S.ite (B.not (B.tru (E.call Mi.is_deed (E.cons (E.var 4) E.nil)))) (S.seq (S.raise "BadText") S.nil) S.nil) (S.seq (S.app 1 (Z.var 4)) S.nil))))))
def b_read_deeds : En → Out := (S.seq (S.ite (B.not (B.tru (E.un isStr (E.var 0)))) (S.seq (S.raise "BadText") S.nil) S.nil) (S.seq (S.own 1 (Fl.lst E.nil)) (S.seq (S.loop (I.items (Z.pf (Fl.ite (B.val (E.bin neD (E.var 0) (E.c (.str "")))) (Fl.split (E.var 0) (E.c (.str "\n"))) (Fl.lst E.nil)))) (.nm 2) Mi.l1_read_deeds) (S.seq (S.retO 1) S.nil))))
def read_deeds : List D → R (List D) := Fn.F 1 4 b_read_deeds

def b_plan_text : En → Out := (S.seq (S.drop (E.call Mi.look_plan (E.cons (E.var 0) E.nil))) (S.seq (S.ret (E.join (E.c (.str " ")) (E.call okLst (Fl.comp (I.items (E.var 0)) (.tp [(.nm 1), (.nm 2)]) [1, 2] B.yes (E.bin addD (E.bin addD (E.call (on1 strD) (E.cons (E.var 1) E.nil)) (E.c (.str "+"))) (E.call (on1 strD) (E.cons (E.var 2) E.nil))))))) S.nil))
def plan_text : List D → R D := Fn.X 1 2 b_plan_text

def l1_read_plan : En → Out := (S.seq (S.set 3 (Z.pf (Fl.split (E.var 2) (E.c (.str "+"))))) (S.seq (S.ite (B.val (E.bin neD (E.call (on1 lenD) (E.cons (E.var 3) E.nil)) (E.c (.int 2)))) (S.seq (S.raise "BadText") S.nil) S.nil) (S.seq (S.app 1 (Z.px (E.call tupD (E.cons (E.call Mi.number_of (E.cons (E.bin ixD (E.var 3) (E.c (.int 0))) E.nil)) (E.cons (E.call Mi.number_of (E.cons (E.bin ixD (E.var 3) (E.c (.int 1))) E.nil)) E.nil))))) S.nil)))
def b_read_plan : En → Out := (S.seq (S.ite (B.not (B.tru (E.un isStr (E.var 0)))) (S.seq (S.raise "BadText") S.nil) S.nil) (S.seq (S.own 1 (Fl.lst E.nil)) (S.seq (S.loop (I.items (Z.pf (Fl.ite (B.val (E.bin neD (E.var 0) (E.c (.str "")))) (Fl.split (E.var 0) (E.c (.str " "))) (Fl.lst E.nil)))) (.nm 2) Mi.l1_read_plan) (S.frz 1 (S.seq (S.tryX (S.seq (S.drop (E.call Mi.look_plan (E.cons (E.call (on1 tupleD) (E.cons (E.var 1) E.nil)) E.nil))) S.nil) [("PoolError", true), ("BadSettings", true), ("BadNumber", true), ("BadThing", true), ("BadPlan", true), ("BadDeed", true), ("BadText", true), ("Nothing", true)] "BadText") (S.seq (S.ret (E.call (on1 tupleD) (E.cons (E.var 1) E.nil))) S.nil))))))
def read_plan : List D → R D := Fn.X 1 3 b_read_plan

def b_law_called_then_k24 : En → Out := (S.seq (S.ite (B.val (E.bin ltD (E.var 0) (E.c (.int 10)))) (S.seq (S.ite (B.val (E.bin eqD (E.var 0) (E.c (.int 7)))) (S.seq (S.ret (fun _ => .no)) S.nil) S.nil) (S.seq (S.ret (E.ite (B.val (E.bin eqD (E.var 0) (E.c (.int 8)))) (fun _ => .no) (fun _ => .no))) S.nil)) S.nil) (S.seq (S.ite (B.val (E.bin ltD (E.var 0) (E.c (.int 12)))) (S.seq (S.ret (E.ite (B.val (E.bin eqD (E.var 0) (E.c (.int 10)))) (E.call Mi.plan_text (E.cons (E.bin ixD (E.var 1) (E.c (.int 0))) E.nil)) (E.call Mi.read_plan (E.cons (E.bin ixD (E.var 1) (E.c (.int 0))) E.nil)))) S.nil) S.nil) (S.seq (S.ret (E.ite (B.val (E.bin eqD (E.var 0) (E.c (.int 12)))) (E.call Mi.deeds_text (E.cons (E.bin ixD (E.var 1) (E.c (.int 0))) E.nil)) (E.call okLst (Fl.call Mi.read_deeds (E.cons (E.bin ixD (E.var 1) (E.c (.int 0))) E.nil))))) S.nil)))
def law_called_then_k24 : List D → R D := Fn.X 2 0 b_law_called_then_k24

def b_law_word_k24 : En → Out := (S.seq (S.set 2 (Z.px (E.c (.str "")))) (S.seq (S.try_ (S.seq (S.ite (B.val (E.bin ltD (E.var 0) (E.c (.int 7)))) (S.seq (S.drop (E.call Mi.law_called_k24 (E.cons (E.var 0) (E.cons (E.var 1) E.nil)))) S.nil) (S.seq (S.drop (E.call Mi.law_called_then_k24 (E.cons (E.var 0) (E.cons (E.var 1) E.nil)))) S.nil)) S.nil) [([("PoolError", false), ("BadSettings", false), ("BadNumber", true), ("BadThing", false), ("BadPlan", false), ("BadDeed", false), ("BadText", false), ("Nothing", false)], (S.seq (S.set 2 (Z.px (E.c (.str "number")))) S.nil)), ([("PoolError", false), ("BadSettings", false), ("BadNumber", false), ("BadThing", false), ("BadPlan", true), ("BadDeed", false), ("BadText", false), ("Nothing", false)], (S.seq (S.set 2 (Z.px (E.c (.str "plan")))) S.nil)), ([("PoolError", false), ("BadSettings", true), ("BadNumber", false), ("BadThing", false), ("BadPlan", false), ("BadDeed", false), ("BadText", false), ("Nothing", false)], (S.seq (S.set 2 (Z.px (E.c (.str "settings")))) S.nil)), ([("PoolError", false), ("BadSettings", false), ("BadNumber", false), ("BadThing", false), ("BadPlan", false), ("BadDeed", true), ("BadText", false), ("Nothing", false)], (S.seq (S.set 2 (Z.px (E.c (.str "deed")))) S.nil)), ([("PoolError", false), ("BadSettings", false), ("BadNumber", false), ("BadThing", false), ("BadPlan", false), ("BadDeed", false), ("BadText", true), ("Nothing", false)], (S.seq (S.set 2 (Z.px (E.c (.str "text")))) S.nil))]) (S.seq (S.ret (E.var 2)) S.nil)))
def law_word_k24 : List D → R D := Fn.X 2 1 b_law_word_k24

def b_law_k24 : En → Out := (S.seq (S.set 1 (Z.px (E.call Mi.law_asks (E.cons (E.var 0) (E.cons (E.c (.int 0)) (E.cons (E.c (.int 20)) E.nil)))))) (S.seq (S.set 2 (Z.px (E.call Mi.law_plan_text (E.cons (E.var 1) E.nil)))) (S.seq (S.ite (B.or (B.val (E.bin neD (E.call Mi.plan_text (E.cons (E.var 1) E.nil)) (E.var 2))) (B.or (B.val (E.bin neD (E.call Mi.law_word_k24 (E.cons (E.c (.int 11)) (E.cons (E.call lstD (E.cons (E.var 2) E.nil)) E.nil))) (E.c (.str "")))) (B.val (E.bin neD (E.call Mi.read_plan (E.cons (E.var 2) E.nil)) (E.var 1))))) (S.seq (S.ret (E.c (.bl false))) S.nil) S.nil) (S.seq (S.set 3 (Z.pf (Fl.lst (E.cons (E.bin addD (E.var 2) (E.c (.str " "))) (E.cons (E.bin addD (E.c (.str " ")) (E.var 2)) (E.cons (E.c (.str "1+0")) (E.cons (E.c (.str "01+1")) (E.cons (E.c (.str "1+100")) (E.cons (E.c (.str "5+1 4+1")) (E.cons (E.c .non) (E.cons (E.bin addD (E.var 2) (E.c (.str "+1"))) E.nil))))))))))) (S.seq (S.set 3 (Z.px (E.bin addD (E.var 3) (E.call lstD (E.cons (E.c (.str "1 + 1")) (E.cons (E.c (.str "1000+1")) (E.cons (E.c (.str "+1")) (E.cons (E.call lstD (E.cons (E.var 2) E.nil)) E.nil)))))))) (S.seq (S.ite (B.val (E.bin neD (E.call Mi.law_word_k24 (E.cons (E.c (.int 11)) (E.cons (E.call lstD (E.cons (E.bin ixD (E.var 3) (E.bin modD (E.call Mi.law_cell (E.cons (E.var 0) (E.cons (E.c (.int 7)) E.nil))) (E.c (.int 12)))) E.nil)) E.nil))) (E.c (.str "text")))) (S.seq (S.ret (E.c (.bl false))) S.nil) S.nil) (S.seq (S.set 4 (Z.pf (Fl.call Mi.law_deeds (E.cons (E.var 0) (E.cons (E.c (.int 8)) (E.cons (E.c (.int 30)) E.nil)))))) (S.seq (S.set 5 (Z.px (E.call Mi.law_deeds_text (E.cons (E.var 4) E.nil)))) (S.seq (S.ite (B.or (B.val (E.bin neD (E.call Mi.deeds_text (E.cons (E.call okLst (Fl.list (E.cons (E.var 4) E.nil))) E.nil)) (E.var 5))) (B.or (B.val (E.bin neD (E.call Mi.law_word_k24 (E.cons (E.c (.int 13)) (E.cons (E.call lstD (E.cons (E.var 5) E.nil)) E.nil))) (E.c (.str "")))) (B.val (E.bin neD (E.call okLst (Fl.call Mi.read_deeds (E.cons (E.var 5) E.nil))) (E.var 4))))) (S.seq (S.ret (E.c (.bl false))) S.nil) S.nil) (S.seq (S.set 3 (Z.pf (Fl.lst (E.cons (E.c (.str "ask")) (E.cons (E.c (.str "ask 1 2")) (E.cons (E.c (.str "back 1")) (E.cons (E.c (.str "back 1 bad")) (E.cons (E.c (.str "lend 1")) (E.cons (E.c (.str "wait 01")) (E.cons (E.c (.str "wait -1")) E.nil)))))))))) (S.seq (S.set 3 (Z.px (E.bin addD (E.var 3) (E.call lstD (E.cons (E.bin addD (E.var 5) (E.c (.str "\n"))) (E.cons (E.c (.str "ask  1")) (E.cons (E.c (.str "wait 1000")) (E.cons (E.c .non) E.nil)))))))) (S.seq (S.set 6 (Z.px (E.bin modD (E.call Mi.law_cell (E.cons (E.var 0) (E.cons (E.c (.int 17)) E.nil))) (E.c (.int 11))))) (S.seq (S.ite (B.and (B.val (E.bin eqD (E.var 6) (E.c (.int 7)))) (B.val (E.bin eqD (E.var 5) (E.c (.str ""))))) (S.seq (S.ret (E.andV (E.bin eqD (E.call okLst (Fl.call Mi.read_deeds (E.cons (E.c (.str "")) E.nil))) (E.call lstD E.nil)) (E.bin eqD (E.call Mi.read_plan (E.cons (E.c (.str "")) E.nil)) (E.call tupD E.nil)))) S.nil) S.nil) (S.seq (S.ite (B.val (E.bin neD (E.call Mi.law_word_k24 (E.cons (E.c (.int 13)) (E.cons (E.call lstD (E.cons (E.bin ixD (E.var 3) (E.var 6)) E.nil)) E.nil))) (E.c (.str "text")))) (S.seq (S.ret (E.c (.bl false))) S.nil) S.nil) (S.seq (S.set 7 (Z.pf (Fl.lst (E.cons (E.call tupD (E.cons (E.c (.str "back")) (E.cons (E.c (.int 1)) (E.cons (E.c (.int 1)) E.nil)))) (E.cons (E.call tupD (E.cons (E.c (.str "wait")) (E.cons (E.un negD (E.c (.int 1))) E.nil))) (E.cons (E.call tupD (E.cons (E.c (.str "ask")) (E.cons (E.c (.int 1000)) E.nil))) (E.cons (E.call tupD (E.cons (E.c (.str "ask")) (E.cons (E.c (.bl true)) E.nil))) (E.cons (E.call tupD (E.cons (E.c (.str "ask")) E.nil)) (E.cons (E.c .non) (E.cons (E.call tupD (E.cons (E.c (.str "ask")) (E.cons (E.c (.str "1")) E.nil))) E.nil)))))))))) (S.seq (S.ret (E.bin eqD (E.call Mi.law_word_k24 (E.cons (E.c (.int 12)) (E.cons (E.call lstD (E.cons (E.call okLst (Fl.add (E.var 4) (E.call lstD (E.cons (E.bin ixD (E.var 7) (E.bin modD (E.call Mi.law_cell (E.cons (E.var 0) (E.cons (E.c (.int 18)) E.nil))) (E.c (.int 7)))) E.nil)))) E.nil)) E.nil))) (E.c (.str "deed")))) S.nil))))))))))))))))
def law_k24 : List D → R D := Fn.X 1 7 b_law_k24

end Mi

/-! # Plain law, part R: plans joined -/
namespace Lp
open PySem
def enumP (k : Nat) : Asks → List (Nat × (Int × Int))
  | [] => []
  | a :: as => (k, a) :: enumP (k + 1) as
theorem enumT_P : ∀ (as : Asks) (k : Nat), enumT k (as.map dAsk) = (enumP k as).map fun p => .tup [.int p.1, dAsk p.2]
  | [], _ => rfl
  | a :: as, k => by rw [List.map_cons, enumT, enumT_P as, enumP, List.map_cons]
theorem enumP_len : ∀ (as : Asks) (k : Nat), (enumP k as).length = as.length
  | [], _ => rfl
  | a :: as, k => by rw [enumP, List.length_cons, enumP_len as, List.length_cons]
def mkRow (who : Int) (p : Nat × (Int × Int)) : List Int := [p.2.1, who, p.1, p.2.2]
def rowsOf (who : Int) (k : Nat) (as : Asks) : List (List Int) := (enumP k as).map (mkRow who)
theorem rowsOf_cons (who : Int) (k : Nat) (a : Int × Int) (as : Asks) : rowsOf who k (a :: as) = mkRow who (k, a) :: rowsOf who (k + 1) as := rfl
@[simp] theorem tupD_four (a b c d : D) : tupD [a, b, c, d] = .ok (.tup [a, b, c, d]) := .trans rfl rfl
theorem dRow_mk (who : Int) (p : Nat × (Int × Int)) : dRow (mkRow who p) = .tup [.int p.2.1, .int who, .int p.1, .int p.2.2] := rfl
def prj (r : List Int) : Int × Int := (r.getD 0 0, r.getD 3 0)
def jn (one other : Asks) : Asks := (sortR (rowsOf 0 0 one ++ rowsOf 1 0 other)).map prj
theorem rowsOf_mem {who : Int} {r : List Int} : ∀ {as : Asks} {k : Nat}, r ∈ rowsOf who k as → ∃ i a, a ∈ as ∧ k ≤ i ∧ i < k + as.length ∧ r = mkRow who (i, a)
  | [], k, h => nomatch h
  | a :: as, k, h => by
    rw [rowsOf_cons] at h
    rcases List.mem_cons.mp h with z | z
    · exact ⟨k, a, List.mem_cons_self, Nat.le_refl _, by simp, z⟩
    · obtain ⟨i, b, h1, h2, h3, h4⟩ := rowsOf_mem z
      exact ⟨i, b, List.mem_cons_of_mem _ h1, by omega, by rw [List.length_cons]; omega, h4⟩
theorem rows_ok {who : Int} {as : Asks} (o : okP 0 as = true) (hl : as.length ≤ 40) (hw : 0 ≤ who ∧ who ≤ 1) : ∀ r ∈ rowsOf who 0 as, rowOk 4 r = true := fun r hr => by
  obtain ⟨i, a, ha, _, hi, e⟩ := rowsOf_mem hr
  have b := okP_le o a ha
  rw [e]
  unfold rowOk mkRow
  simp
  omega
local macro_rules | `(tactic| simp_all only [$as:simpLemma,*]) => `(tactic| simp only [R.bind_ok, R.bind_ex, R.bind_no, R.of_some, R.of_none, asInts_map, Out.seq_nx, Out.seq_rt, Out.seq_bk, Out.seq_ct, Out.seq_ex, Out.seq_no, R.out_ok, R.out_ex, R.out_no, E.c_eq, E.var_eq, E.un_eq, E.bin_eq, E.nil_eq, E.cons_eq, E.call_eq, E.ite_eq, E.andV_eq, E.orV_eq, E.notV_eq, E.chain_eq, E.methL_eq, E.none_eq, E.part_eq, E.slice_eq, asPart_int, B.val_eq, B.tru_eq, B.and_eq, B.or_eq, B.not_eq, B.yes_eq, truD_bl, truD_int, truD_lst, truD_tup, vw_nil, vw_zero, vw_succ, Sl.vw_no, Sl.vw_sh, Sl.vw_ow, Fl.lst_eq, Fl.add_eq, Fl.rep_eq, Fl.slice_eq, Fl.rev_eq, Fl.list_eq, Fl.sort_eq, Fl.call_eq, Fl.comp_eq, okLst_eq, I.items_eq, I.zip_eq, I.enum_eq, I.range1_eq, I.range2_eq, itemsD_lst, itemsD_tup, itemsD_fix, zipD_eq, enumD_eq, Z.px_eq, Z.pf_eq, Z.var_zero, Z.var_succ, S.seq_eq, S.nil_eq, S.drop_eq, S.ret_eq, S.retF_eq, S.retO_eq, S.retN_eq, S.withL_zero, S.withL_succ, S.putL_eq, S.ite_eq, S.set_eq, S.own_eq, S.bind_eq, S.app_eq, S.seti_eq, S.setD_int, S.putM_some, S.raise_eq, S.frzA_eq, S.frz_eq, S.never_eq, S.brk_eq, S.cont_eq, S.loop_eq, S.while_eq, noOw_nil, noOw_cons, Sl.noOw_no, Sl.noOw_sh, Sl.noOw_ow, frz1_zero, frz1_succ, Sl.frz_no, Sl.frz_sh, Sl.frz_ow, bindT_nm, bindT_tp, bindTs_nil, bindTs_cons, setsE_nil, setsE_cons, wipeE_nil, wipeE_cons, R.noex_ok, Fn.X_eq, Fn.F_eq, Fn.run1, Fn.run2, Fn.run3, Fn.outX_nx, Fn.outX_rt, Fn.outX_ex, Fn.outF_rt, Fn.outF_ex, on1_eq, on2_eq, index1_eq, D.pure_int, D.pure_bl, D.pure_str, D.pure_non, D.pure_tup, D.pure_lst, D.pures_nil, D.pures_cons, D.pures_app, D.pures_ints, addD_int, addD_lst, addD_tup, addI_int, subD_int, negD_int, ltD_int, leD_int, gtD_int, geD_int, max2D_int, min2D_int, lenD_lst, lenD_tup, lenD_fix, tupleD_lst, ixD_lst, ixD_tup, ixD_fix, tupD_two, tupD_three, lstD_one, lstD_two, lstD_three, lstD_nil, onInts_ints, sort1_ints, add2_eq, eqD_int, neD_int, within_int, noObj_int, noObj_bl, noObj_non, noObj_str, noObj_tup, noObj_lst, is_within_int, is_within_non, is_within_bl, is_within_str, is_within_tup, is_within_lst, dA_pure, itemsD_dA, lenD_dA, slD_tup, slD_lst, rev1_lst, S.ownD_eq, S.withD_zero, S.withD_succ, S.dput_eq, tupD_nil, S.ext_eq, List.replicate, List.set_cons_succ, List.set_cons_zero, if_true, Bool.true_or, Bool.or_true, Bool.true_and, Bool.and_true, Bool.and_self, Bool.not_true, Bool.not_false, Bool.false_eq_true, if_false, Bool.or_false, Bool.false_or, Bool.false_and, Bool.and_false, List.length_map, List.length_nil, Nat.zero_le, List.append_nil, List.singleton_append, List.nil_append, and_self, true_and, and_true, false_and, and_false, decide_true, decide_false, tupD_four, $as:simpLemma,*])
theorem plan_joined_eq (one other : Asks) (v1 : validP one = true) (v2 : validP other = true) : Mi.plan_joined [dA one, dA other] = if one.length + other.length ≤ 40 then .ok (dA (jn one other)) else .ex "BadPlan" := by
  have h1 := valid_len v1
  have h2 := valid_len v2
  have ln : ∀ as : Asks, lenD (dA as) = .ok (.int (as.length : Nat)) := fun as => by unfold dA; rw [lenD_tup, List.length_map]
  unfold Mi.plan_joined Mi.b_plan_joined
  by_cases c : one.length + other.length ≤ 40
  · have c' : ¬ (40 : Int) < (one.length : Nat) + (other.length : Nat) := by omega
    have e1 := lcM_all (t := .tp [(.nm 3), (.tp [(.nm 4), (.nm 5)])]) (vs := [3, 4, 5]) (elt := E.call tupD (E.cons (E.var 4) (E.cons (E.c (.int 0)) (E.cons (E.var 3) (E.cons (E.var 5) E.nil))))) (e := [.sh (dA one), .sh (dA other), .no, .no, .no, .no, .no])
      (fun p : Nat × (Int × Int) => .tup [.int p.1, dAsk p.2]) (fun p => dRow (mkRow 0 p)) (enumP 0 one) (fun p _ => ⟨[(3, .int p.1), (4, .int p.2.1), (5, .int p.2.2)], bindT_enum 3 4 5 _ _ _, by simp_all only [dRow_mk], by rw [dRow_mk]; simp⟩)
    have e2 := lcM_all (t := .tp [(.nm 3), (.tp [(.nm 4), (.nm 5)])]) (vs := [3, 4, 5]) (elt := E.call tupD (E.cons (E.var 4) (E.cons (E.c (.int 1)) (E.cons (E.var 3) (E.cons (E.var 5) E.nil))))) (e := [.sh (dA one), .sh (dA other), .ow (.node .leaf) (.lst ((rowsOf 0 0 one).map dRow)), .no, .no, .no, .no])
      (fun p : Nat × (Int × Int) => .tup [.int p.1, dAsk p.2]) (fun p => dRow (mkRow 1 p)) (enumP 0 other) (fun p _ => ⟨[(3, .int p.1), (4, .int p.2.1), (5, .int p.2.2)], bindT_enum 3 4 5 _ _ _, by simp_all only [dRow_mk], by rw [dRow_mk]; simp⟩)
    have m1 : ((enumP 0 one).map fun p => dRow (mkRow 0 p)) = (rowsOf 0 0 one).map dRow := by unfold rowsOf; rw [List.map_map]; rfl
    have m2 : ((enumP 0 other).map fun p => dRow (mkRow 1 p)) = (rowsOf 1 0 other).map dRow := by unfold rowsOf; rw [List.map_map]; rfl
    have l1 : (rowsOf 0 0 one).length = one.length := by unfold rowsOf; rw [List.length_map, enumP_len]
    have l2 : (rowsOf 1 0 other).length = other.length := by unfold rowsOf; rw [List.length_map, enumP_len]
    have pr : ∀ rows : List (List Int), D.pures (rows.map dRow) = true := fun rows => by
      rw [D.pures_all, List.all_eq_true]
      intro x hx
      obtain ⟨r, _, e⟩ := List.mem_map.mp hx
      rw [← e]
      unfold dRow
      simp
    obtain ⟨rows, hrows⟩ : ∃ rows, rows = rowsOf 0 0 one ++ rowsOf 1 0 other := ⟨_, rfl⟩
    have ok : ∀ r ∈ rows, rowOk 4 r = true := fun r hr => by
      rw [hrows] at hr
      rcases List.mem_append.mp hr with z | z
      · exact rows_ok (valid_ok v1) h1 (by omega) r z
      · exact rows_ok (valid_ok v2) h2 (by omega) r z
    have frm : ∀ r ∈ sortR rows, ∃ a b c d, r = [a, b, c, d] := fun r hr => by
      have := (sortR_perm rows).mem_iff.mp hr
      rw [hrows] at this
      rcases List.mem_append.mp this with z | z
      · obtain ⟨i, a, _, _, _, e⟩ := rowsOf_mem z
        exact ⟨_, _, _, _, e⟩
      · obtain ⟨i, a, _, _, _, e⟩ := rowsOf_mem z
        exact ⟨_, _, _, _, e⟩
    have lr : rows.length ≤ 40 := by rw [hrows, List.length_append, l1, l2]; exact c
    have st := sortT1_rows rows 4 (by omega) (by omega) (by omega) ok
    have sl : (sortR rows).length = rows.length := (sortR_perm rows).length_eq
    have e3 := lcM_all (t := .tp [(.nm 4), (.nm 6), (.nm 3), (.nm 5)]) (vs := [4, 6, 3, 5]) (elt := E.call tupD (E.cons (E.var 4) (E.cons (E.var 5) E.nil))) (e := [.sh (dA one), .sh (dA other), .sh (.lst (rows.map dRow)), .no, .no, .no, .no])
      dRow (fun r => dAsk (prj r)) (sortR rows) (fun r hr => by
        obtain ⟨a, b, c, d, e⟩ := frm r hr
        subst e
        exact ⟨[(4, .int a), (6, .int b), (3, .int c), (5, .int d)], by unfold dRow; simp, by simp_all only [prj]; rfl, by simp [dAsk]⟩)
    have x1 : Fl.comp (I.enum (E.cons (E.var 0) E.nil)) (.tp [(.nm 3), (.tp [(.nm 4), (.nm 5)])]) [3, 4, 5] B.yes (E.call tupD (E.cons (E.var 4) (E.cons (E.c (.int 0)) (E.cons (E.var 3) (E.cons (E.var 5) E.nil))))) [.sh (dA one), .sh (dA other), .no, .no, .no, .no, .no] = .ok ((rowsOf 0 0 one).map dRow) := by
      rw [Fl.comp_eq]
      simp_all only [itemsD_dA, enumT_P, enumP_len]
      rw [if_pos (by omega), e1, m1]
    have x2 : Fl.comp (I.enum (E.cons (E.var 1) E.nil)) (.tp [(.nm 3), (.tp [(.nm 4), (.nm 5)])]) [3, 4, 5] B.yes (E.call tupD (E.cons (E.var 4) (E.cons (E.c (.int 1)) (E.cons (E.var 3) (E.cons (E.var 5) E.nil))))) [.sh (dA one), .sh (dA other), .ow (.node .leaf) (.lst ((rowsOf 0 0 one).map dRow)), .no, .no, .no, .no] = .ok ((rowsOf 1 0 other).map dRow) := by
      rw [Fl.comp_eq]
      simp_all only [itemsD_dA, enumT_P, enumP_len]
      rw [if_pos (by omega), e2, m2]
    have l3 : one.length + other.length ≤ 16777216 := by omega
    rw [if_pos c]
    refine (fn2 (o := .rt (dA (jn one other))) ?_).trans rfl
    simp only [List.replicate]
    refine (seq_step (by simp_all only [look_plan_eq, v1] <;> rfl)).trans ?_
    refine (seq_step (by simp_all only [look_plan_eq, v2] <;> rfl)).trans ?_
    refine (seq_step (by simp_all only [ln, c'] <;> rfl)).trans ?_
    refine (seq_step (by rw [S.own_eq, x1]; simp_all only [pr] <;> rfl)).trans ?_
    refine (seq_step (e' := [.sh (dA one), .sh (dA other), .ow (.node .leaf) (.lst (rows.map dRow)), .no, .no, .no, .no]) (by
      rw [S.ext_eq, S.withL_succ, S.withL_succ, S.withL_zero, E.call_eq, x2]
      simp_all only [pr, l1, l2, l3]
      rw [hrows, List.map_append])).trans ?_
    simp_all only []
    show Out.seq ((((E.call okLst (Fl.sortT (E.cons (E.var 2) E.nil)) _).bind itemsD).bind _ |>.bind okLst |>.bind _ |>.bind _).out _ _) _ = _
    have x3 : E.call okLst (Fl.sortT (E.cons (E.var 2) E.nil)) [.sh (dA one), .sh (dA other), .sh (.lst (rows.map dRow)), .no, .no, .no, .no] = .ok (.lst ((sortR rows).map dRow)) := by
      rw [E.call_eq]
      show (((E.cons (E.var 2) E.nil) _).bind Fl.sortT1).bind okLst = _
      simp_all only [st]
    rw [x3]
    simp_all only [sl]
    rw [if_pos (by omega), e3]
    simp_all only []
    unfold jn dA
    rw [← hrows, List.map_map]
    rfl
  · have c' : (40 : Int) < (one.length : Nat) + (other.length : Nat) := by omega
    rw [if_neg c]
    simp_all only [look_plan_eq, v1, v2, ln, c']
/-! ### joined, time by time -/
def jt (one other : Asks) : Asks := (sset ((one ++ other).map (·.1))).flatMap fun t => one.filter (fun a => decide (a.1 = t)) ++ other.filter fun a => decide (a.1 = t)
theorem flat_perm {α : Type} (key : α → Int) : ∀ (T : List Int) (R : List α), T.Nodup → (T.flatMap fun t => R.filter fun r => decide (key r = t)).Perm (R.filter fun r => decide (key r ∈ T))
  | [], R, _ => by
    have : (R.filter fun r => decide (key r ∈ ([] : List Int))) = [] := by
      rw [List.filter_eq_nil_iff]
      intro a _
      simp
    rw [this]
    exact .refl _
  | t :: T, R, h => by
    rw [List.nodup_cons] at h
    rw [List.flatMap_cons]
    have ih := flat_perm key T R h.2
    have p := List.filter_append_perm (fun r => decide (key r = t)) (R.filter fun r => decide (key r ∈ t :: T))
    rw [List.filter_filter, List.filter_filter] at p
    have e1 : (R.filter fun a => decide (key a = t) && decide (key a ∈ t :: T)) = R.filter fun r => decide (key r = t) := by
      apply List.filter_congr
      intro a _
      by_cases c : key a = t
      · simp [c]
      · simp [c]
    have e2 : (R.filter fun a => (!decide (key a = t)) && decide (key a ∈ t :: T)) = R.filter fun r => decide (key r ∈ T) := by
      apply List.filter_congr
      intro a _
      by_cases c : key a = t
      · simp [c, h.1]
      · simp [c]
    rw [e1, e2] at p
    exact (List.Perm.append_left _ ih).trans p
theorem head_bd {a : Int} {r : List Int} {d : Nat} (h : rowOk (d + 1) (a :: r) = true) : rowOk d r = true := by
  unfold rowOk at h ⊢
  simp at h ⊢
  exact ⟨h.1, h.2.2⟩
theorem code_step {a b : List Int} {x y : Int} {d : Nat} (ha : rowOk (d + 1) (x :: a) = true) (hb : rowOk (d + 1) (y :: b) = true) (h : x < y ∨ (x = y ∧ TS.code 100000 a < TS.code 100000 b)) : TS.code 100000 (x :: a) < TS.code 100000 (y :: b) := by
  have a1 := rowOk_bd ha
  have b1 := rowOk_bd hb
  have hl : a.length = b.length := by
    have h1 := a1.1
    have h2 := b1.1
    simp at h1 h2
    omega
  rcases h with h | ⟨e, h⟩
  · exact TS.code_lt hl a1.2.tail b1.2.tail h
  · subst e
    exact (TS.code_same hl).mpr h
theorem mk_lt {who who' : Int} {p q : Nat × (Int × Int)} (h1 : rowOk 4 (mkRow who p) = true) (h2 : rowOk 4 (mkRow who' q) = true) (e : p.2.1 = q.2.1) (h : who < who' ∨ (who = who' ∧ p.1 < q.1)) : TS.code 100000 (mkRow who p) < TS.code 100000 (mkRow who' q) := by
  refine code_step h1 h2 (.inr ⟨e, ?_⟩)
  refine code_step (head_bd h1) (head_bd h2) ?_
  rcases h with h | ⟨e2, h⟩
  · exact .inl h
  · exact .inr ⟨e2, code_step (head_bd (head_bd h1)) (head_bd (head_bd h2)) (.inl (by omega))⟩
theorem rows_key_pair {who : Int} : ∀ (as : Asks) (k : Nat), (∀ r ∈ rowsOf who k as, rowOk 4 r = true) → (rowsOf who k as).Pairwise fun a b => a.getD 0 0 = b.getD 0 0 → TS.code 100000 a ≤ TS.code 100000 b
  | [], _, _ => .nil
  | a :: as, k, ok => by
    rw [rowsOf_cons] at ok ⊢
    rw [List.pairwise_cons]
    refine ⟨fun b hb e => ?_, rows_key_pair as (k + 1) fun r hr => ok r (List.mem_cons_of_mem _ hr)⟩
    obtain ⟨i, c, _, h2, _, e2⟩ := rowsOf_mem hb
    have o1 := ok _ List.mem_cons_self
    have o2 := ok b (List.mem_cons_of_mem _ hb)
    subst e2
    exact Int.le_of_lt (mk_lt o1 o2 e (.inr ⟨rfl, by show k < i; omega⟩))
theorem filter_rows {who : Int} (t : Int) : ∀ (as : Asks) (k : Nat), (((rowsOf who k as).filter fun r => decide (r.getD 0 0 = t)).map prj) = as.filter fun a => decide (a.1 = t)
  | [], _ => rfl
  | a :: as, k => by
    rw [rowsOf_cons, List.filter_cons, List.filter_cons]
    have e : (mkRow who (k, a)).getD 0 0 = a.1 := rfl
    rw [e]
    by_cases c : a.1 = t
    · rw [if_pos (by simpa using c), if_pos (by simpa using c), List.map_cons, filter_rows t as]
      rfl
    · rw [if_neg (by simpa using c), if_neg (by simpa using c), filter_rows t as]
theorem jn_jt (one other : Asks) (v1 : validP one = true) (v2 : validP other = true) : jn one other = jt one other := by
  have h1 := valid_len v1
  have h2 := valid_len v2
  obtain ⟨rows, hrows⟩ : ∃ rows, rows = rowsOf 0 0 one ++ rowsOf 1 0 other := ⟨_, rfl⟩
  have ok1 := rows_ok (who := 0) (valid_ok v1) h1 (by omega)
  have ok2 := rows_ok (who := 1) (valid_ok v2) h2 (by omega)
  have ok : ∀ r ∈ rows, rowOk 4 r = true := fun r hr => by
    rw [hrows] at hr
    rcases List.mem_append.mp hr with z | z
    · exact ok1 r z
    · exact ok2 r z
  obtain ⟨T, hT⟩ : ∃ T, T = sset ((one ++ other).map (·.1)) := ⟨_, rfl⟩
  have Tlt : T.Pairwise (· < ·) := by rw [hT]; exact sset_lt _
  have Tn : T.Nodup := Tlt.imp fun h => by omega
  have keyT : ∀ r ∈ rows, r.getD 0 0 ∈ T := fun r hr => by
    rw [hT, sset_mem]
    rw [hrows] at hr
    rcases List.mem_append.mp hr with z | z
    · obtain ⟨i, a, ha, _, _, e⟩ := rowsOf_mem z
      rw [e]
      exact List.mem_map.mpr ⟨a, List.mem_append_left _ ha, rfl⟩
    · obtain ⟨i, a, ha, _, _, e⟩ := rowsOf_mem z
      rw [e]
      exact List.mem_map.mpr ⟨a, List.mem_append_right _ ha, rfl⟩
  have perm : (T.flatMap fun t => rows.filter fun r => decide (r.getD 0 0 = t)).Perm rows := by
    have p := flat_perm (fun r : List Int => r.getD 0 0) T rows Tn
    have : (rows.filter fun r => decide (r.getD 0 0 ∈ T)) = rows := by
      rw [List.filter_eq_self]
      intro r hr
      simpa using keyT r hr
    rw [this] at p
    exact p
  have kp : rows.Pairwise fun a b => a.getD 0 0 = b.getD 0 0 → TS.code 100000 a ≤ TS.code 100000 b := by
    rw [hrows, List.pairwise_append]
    refine ⟨rows_key_pair one 0 ok1, rows_key_pair other 0 ok2, fun a ha b hb e => ?_⟩
    have o1 := ok1 a ha
    have o2 := ok2 b hb
    obtain ⟨i, x, _, _, _, ea⟩ := rowsOf_mem ha
    obtain ⟨j, y, _, _, _, eb⟩ := rowsOf_mem hb
    subst ea eb
    exact Int.le_of_lt (mk_lt o1 o2 e (.inl (by omega)))
  have pair : (T.flatMap fun t => rows.filter fun r => decide (r.getD 0 0 = t)).Pairwise fun a b => TS.code 100000 a ≤ TS.code 100000 b := by
    rw [List.pairwise_flatMap]
    refine ⟨fun t _ => ?_, Tlt.imp_of_mem fun {t u} _ _ htu x hx y hy => ?_⟩
    · exact (kp.filter _).imp_of_mem fun {a b} ha hb h => h (by
        have h1 := (List.mem_filter.mp ha).2
        have h2 := (List.mem_filter.mp hb).2
        simp only [decide_eq_true_eq] at h1 h2
        rw [h1, h2])
    · obtain ⟨hx1, hx2⟩ := List.mem_filter.mp hx
      obtain ⟨hy1, hy2⟩ := List.mem_filter.mp hy
      simp only [decide_eq_true_eq] at hx2 hy2
      have ox := ok x hx1
      have oy := ok y hy1
      have cx := (rowOk_bd ox).1
      have cy := (rowOk_bd oy).1
      cases x with
      | nil => simp at cx
      | cons x0 x =>
        cases y with
        | nil => simp at cy
        | cons y0 y =>
          have hx3 : x0 = t := hx2
          have hy3 : y0 = u := hy2
          exact Int.le_of_lt (code_step ox oy (.inl (by omega)))
  have e := sortR_eq ok perm pair
  unfold jn jt
  rw [← hrows, ← e, ← hT, List.map_flatMap]
  congr 1
  funext t
  rw [hrows, List.filter_append, List.map_append, filter_rows, filter_rows]
/-! ### the law's own -/
theorem lj_step (one other fs : Asks) (t : Int) (h1 : one.length ≤ 100) (h2 : other.length ≤ 100) (hf : fs.length ≤ 10000000) : Mi.l1_law_joined [.sh (dA one), .sh (dA other), .sh (.lst (fs.map dAsk)), .sh (.int t), .no] = .nx [.sh (dA one), .sh (dA other), .sh (.lst ((fs ++ (one.filter (fun a => decide (a.1 = t)) ++ other.filter fun a => decide (a.1 = t))).map dAsk)), .sh (.int t), .no] := by
  have cmp : ∀ (i : Nat) (as : Asks), as.length ≤ 100 → vw [.sh (dA one), .sh (dA other), .sh (.lst (fs.map dAsk)), .sh (.int t), .no] i = some (dA as) → Fl.comp (I.items (E.var i)) (.nm 4) [4] (B.val (E.bin eqD (E.bin ixD (E.var 4) (E.c (.int 0))) (E.var 3))) (E.var 4) [.sh (dA one), .sh (dA other), .sh (.lst (fs.map dAsk)), .sh (.int t), .no] = .ok ((as.filter fun a => decide (a.1 = t)).map dAsk) := fun i as hl hv => by
    have e := lcM_map (t := .nm 4) (vs := [4]) (test := B.val (E.bin eqD (E.bin ixD (E.var 4) (E.c (.int 0))) (E.var 3))) (elt := E.var 4) (e := [.sh (dA one), .sh (dA other), .sh (.lst (fs.map dAsk)), .sh (.int t), .no]) dAsk dAsk (fun a => decide (a.1 = t)) as (fun a _ => ⟨[(4, dAsk a)], bindT_nm _ _, by
      have : ixD (dAsk a) (.int 0) = .ok (.int a.1) := by simp [dAsk]
      simp_all only [this], fun _ => ⟨by simp_all only [], by simp [dAsk]⟩⟩)
    rw [Fl.comp_eq, I.items_eq, E.var_eq, hv]
    simp_all only [itemsD_dA]
    rw [if_pos (by omega), e]
  have l1 := List.length_filter_le (fun a : Int × Int => decide (a.1 = t)) one
  have l2 := List.length_filter_le (fun a : Int × Int => decide (a.1 = t)) other
  have n1 : fs.length + (one.filter fun a => decide (a.1 = t)).length ≤ 16777216 := by omega
  have n2 : fs.length + (one.filter fun a => decide (a.1 = t)).length + (other.filter fun a => decide (a.1 = t)).length ≤ 16777216 := by omega
  unfold Mi.l1_law_joined
  rw [seq_step (e' := [.sh (dA one), .sh (dA other), .sh (.lst ((fs ++ (one.filter (fun a => decide (a.1 = t)) ++ other.filter fun a => decide (a.1 = t))).map dAsk)), .sh (.int t), .no])]
  · simp_all only []
  · rw [S.set_eq, Z.px_eq, E.bin_eq, E.bin_eq, E.call_eq, cmp 0 one h1 rfl]
    simp only [E.var_eq, vw_zero, vw_succ, Sl.vw_sh, R.of_some, R.bind_ok, okLst_eq]
    rw [E.call_eq, cmp 1 other h2 rfl]
    simp_all only [n1, n2, List.length_append, List.map_append, List.append_assoc]
theorem lj_loop (one other : Asks) (h1 : one.length ≤ 100) (h2 : other.length ≤ 100) : ∀ (T : List Int) (fs : Asks) (s3 : Sl), fs.length + 200 * T.length ≤ 1000000 → ∃ t3, loopM (.nm 3) Mi.l1_law_joined (T.map D.int) [.sh (dA one), .sh (dA other), .sh (.lst (fs.map dAsk)), s3, .no] =
    .nx [.sh (dA one), .sh (dA other), .sh (.lst ((fs ++ T.flatMap fun t => one.filter (fun a => decide (a.1 = t)) ++ other.filter fun a => decide (a.1 = t)).map dAsk)), t3, .no]
  | [], fs, s3, _ => ⟨s3, by simp [loopM]⟩
  | t :: T, fs, s3, h => by
    rw [List.length_cons] at h
    have l1 := List.length_filter_le (fun a : Int × Int => decide (a.1 = t)) one
    have l2 := List.length_filter_le (fun a : Int × Int => decide (a.1 = t)) other
    obtain ⟨t3, e⟩ := lj_loop one other h1 h2 T (fs ++ (one.filter (fun a => decide (a.1 = t)) ++ other.filter fun a => decide (a.1 = t))) (.sh (.int t)) (by rw [List.length_append, List.length_append]; omega)
    refine ⟨t3, ?_⟩
    rw [List.map_cons, loop_cons (bindT_nm 3 (.int t)) (lj_step one other fs t h1 h2 (by omega)), e, List.flatMap_cons, List.append_assoc]
theorem sset_len (ns : List Int) : (sset ns).length ≤ ns.length := nodup_len ((sset_lt ns).imp fun h => by omega) fun x hx => sset_mem.mp hx
theorem law_joined_eq (one other : Asks) (h1 : one.length ≤ 40) (h2 : other.length ≤ 40) (h : one.length + other.length < 64) : Mi.law_joined [dA one, dA other] = .ok (dA (jt one other)) := by
  have ad := add_dA one other (by omega)
  have e1 := lcM_all (t := .nm 4) (vs := [4]) (elt := E.bin ixD (E.var 4) (E.c (.int 0))) (e := [.sh (dA one), .sh (dA other), .sh (.lst []), .no, .no]) dAsk (fun a => .int a.1) (one ++ other) (fun a _ => ⟨[(4, dAsk a)], bindT_nm _ _, by
    have : ixD (dAsk a) (.int 0) = .ok (.int a.1) := by simp [dAsk]
    simp_all only [this], D.pure_int _⟩)
  have m : ((one ++ other).map fun a => D.int a.1) = ((one ++ other).map (·.1)).map D.int := by rw [List.map_map]; rfl
  have la : (one ++ other).length = one.length + other.length := List.length_append
  have x1 : Fl.sortSet (E.cons (E.call okLst (Fl.comp (I.items (E.bin addD (E.var 0) (E.var 1))) (.nm 4) [4] B.yes (E.bin ixD (E.var 4) (E.c (.int 0))))) E.nil) [.sh (dA one), .sh (dA other), .sh (.lst []), .no, .no] = .ok ((sset ((one ++ other).map (·.1))).map D.int) := by
    show (E.cons _ _ _).bind Fl.sortSet1 = _
    rw [E.cons_eq, E.call_eq, Fl.comp_eq, I.items_eq]
    simp_all only [ad, itemsD_dA, la]
    rw [if_pos (by omega), e1, m]
    simp_all only []
    show (R.of (asInts (((one ++ other).map (·.1)).map D.int))).bind _ = _
    rw [asInts_map]
    exact if_pos (by rw [List.length_map]; omega)
  have sl := sset_len ((one ++ other).map (·.1))
  rw [List.length_map] at sl
  obtain ⟨t3, e⟩ := lj_loop one other (by omega) (by omega) (sset ((one ++ other).map (·.1))) [] .no (by rw [List.length_nil]; omega)
  rw [List.map_nil, List.nil_append] at e
  unfold Mi.law_joined Mi.b_law_joined
  refine (fn2 (o := .rt (dA (jt one other))) ?_).trans rfl
  simp only [List.replicate]
  refine (seq_step (by simp_all only [] <;> rfl)).trans ?_
  refine (seq_step (by
    rw [S.loop_eq, I.items_eq, Z.pf_eq, x1]
    simp_all only []
    exact e)).trans ?_
  simp_all only []
  rfl
end Lp

set_option maxRecDepth 1000000
/-! # Plain law, part Y: texts of plans -/
namespace Lp
open PySem
@[simp] theorem E.join_eq (fo fe : En → R D) (e : En) : E.join fo fe e = (fo e).bind fun x => if isS x = true then (fe e).bind fun d => joinD x d else .no := .trans rfl rfl
@[simp] theorem Fl.split_eq (fo fe : En → R D) (e : En) : Fl.split fo fe e = (fo e).bind fun x => if isS x = true then (fe e).bind fun d => splitD x d else .no := .trans rfl rfl
@[simp] theorem Fl.ite_eq (t : En → R Bool) (a b : En → R (List D)) (e : En) : Fl.ite t a b e = (t e).bind fun k => if k = true then a e else b e := .trans rfl rfl
@[simp] theorem isS_str (x : Str) : isS (.str x) = true := .trans rfl rfl
@[simp] theorem S.tryX_eq (m : En → Out) (tab : List (Str × Bool)) (y : Str) (e : En) : S.tryX m tab y e = (match m e with
  | .ex cl e' => match tab.lookup cl with
    | some true => .ex y e'
    | some false => .ex cl e'
    | none => .no
  | o => o) := .trans rfl rfl
/-! ### numbers written -/
def nS (n : Int) : Str := toString n
def okI (r : R D) (n : Int) : Bool := match r with
  | .ok (.int m) => decide (m = n)
  | _ => false
def exB {α : Type} (r : R α) (c : Str) : Bool := match r with
  | .ex d => decide (d = c)
  | _ => false
theorem exB_eq {α : Type} {r : R α} {c : Str} (h : exB r c = true) : r = .ex c := by
  cases r with
  | ex d => rw [of_decide_eq_true h]
  | _ => cases h
theorem okI_eq {r : R D} {n : Int} (h : okI r n = true) : r = .ok (.int n) := by
  cases r with
  | ok d =>
    cases d with
    | int m => rw [of_decide_eq_true (show decide (m = n) = true from h)]
    | _ => cases h
  | _ => cases h
theorem nums : (List.range 1000).all (fun n => okI (Mi.number_of [.str (nS n)]) n && (decide ((nS n).length ≤ 3) && (decide (1 ≤ (nS n).length) && !((TL.tl (nS n)).contains 32 || ((TL.tl (nS n)).contains 43 || (TL.tl (nS n)).contains 10))))) = true := by decide +kernel
structure NumOk (n : Int) : Prop where
  of : Mi.number_of [.str (nS n)] = .ok (.int n)
  le : (nS n).length ≤ 3
  ge : 1 ≤ (nS n).length
  sp : 32 ∉ TL.tl (nS n)
  pl : 43 ∉ TL.tl (nS n)
  nl : 10 ∉ TL.tl (nS n)
  st : strD (.int n) = .ok (.str (nS n))
theorem num_ok {n : Int} (h0 : 0 ≤ n) (h : n ≤ 999) : NumOk n := by
  obtain ⟨k, rfl⟩ := Int.eq_ofNat_of_zero_le h0
  have := List.all_eq_true.mp nums k (List.mem_range.mpr (by omega))
  simp only [Bool.and_eq_true, Bool.not_eq_true', Bool.or_eq_false_iff, decide_eq_true_eq] at this
  obtain ⟨h1, h2, h3, h4, h5, h6⟩ := this
  refine ⟨okI_eq h1, h2, h3, by simpa using h4, by simpa using h5, by simpa using h6, ?_⟩
  show (if ((k : Int)).natAbs < 1000000000000 then R.ok (D.str (toString (k : Int))) else .no) = _
  rw [if_pos (by omega)]
  rfl
/-! ### a plan written -/
def pS : Str := "+"
def sS : Str := " "
def wS (a : Int × Int) : Str := nS a.1 ++ pS ++ nS a.2
def ptS (as : Asks) : Str := Txt.join sS (as.map wS)
theorem tl_pS : TL.tl pS = [43] := by decide +kernel
theorem tl_sS : TL.tl sS = [32] := by decide +kernel
theorem tl_wS (a : Int × Int) : TL.tl (wS a) = TL.tl (nS a.1) ++ ([43] ++ TL.tl (nS a.2)) := by
  unfold wS
  rw [TL.tl_append, TL.tl_append, tl_pS, List.append_assoc]
theorem wS_join (a : Int × Int) : wS a = Txt.join pS [nS a.1, nS a.2] := by
  refine TL.ext_tl ?_
  rw [TL.join_eq, TL.tl_join, tl_wS, tl_pS]
  rfl
theorem joinL_snoc (S : List Nat) (q : List Nat) : ∀ (ps : List (List Nat)), ps ≠ [] → TL.joinL S (ps ++ [q]) = TL.joinL S ps ++ (S ++ q)
  | [], h => absurd rfl h
  | [p], _ => rfl
  | p :: p2 :: ps, _ => by
    show p ++ (S ++ TL.joinL S ((p2 :: ps) ++ [q])) = (p ++ (S ++ TL.joinL S (p2 :: ps))) ++ (S ++ q)
    rw [joinL_snoc S q (p2 :: ps) (by simp)]
    simp
theorem tl_ptS (as : Asks) : TL.tl (ptS as) = TL.joinL [32] (as.map fun a => TL.tl (wS a)) := by
  unfold ptS
  rw [TL.join_eq, TL.tl_join, tl_sS, List.map_map]
  rfl
theorem wS_len {a : Int × Int} (h : 0 ≤ a.1 ∧ a.1 ≤ 999 ∧ 1 ≤ a.2 ∧ a.2 ≤ 99) : (wS a).length ≤ 7 := by
  have n1 := num_ok h.1 h.2.1
  have n2 := num_ok (show 0 ≤ a.2 by omega) (show a.2 ≤ 999 by omega)
  rw [TL.len_tl, tl_wS, List.length_append, List.length_append, ← TL.len_tl, ← TL.len_tl]
  have := n1.le
  have := n2.le
  simp
  omega
theorem joinL_len {S : List Nat} {k : Nat} : ∀ (ps : List (List Nat)), (∀ p ∈ ps, p.length ≤ k) → (TL.joinL S ps).length ≤ ps.length * (k + S.length)
  | [], _ => Nat.zero_le _
  | [p], h => by
    have := h p List.mem_cons_self
    show p.length ≤ _
    simp
    omega
  | p :: q :: ps, h => by
    have := h p List.mem_cons_self
    have ih := joinL_len (S := S) (k := k) (q :: ps) fun x hx => h x (List.mem_cons_of_mem _ hx)
    show (p ++ (S ++ TL.joinL S (q :: ps))).length ≤ _
    rw [List.length_append, List.length_append, List.length_cons (a := p), Nat.succ_mul]
    omega
theorem ptS_len {as : Asks} (o : okP 0 as = true) : (ptS as).length ≤ as.length * 8 := by
  rw [TL.len_tl, tl_ptS]
  have := joinL_len (S := [32]) (k := 7) (as.map fun a => TL.tl (wS a)) fun p hp => by
    obtain ⟨a, ha, e⟩ := List.mem_map.mp hp
    rw [← e, ← TL.len_tl]
    exact wS_len (okP_le o a ha)
  rw [List.length_map] at this
  simpa using this
local macro_rules | `(tactic| simp_all only [$as:simpLemma,*]) => `(tactic| simp only [R.bind_ok, R.bind_ex, R.bind_no, R.of_some, R.of_none, asInts_map, Out.seq_nx, Out.seq_rt, Out.seq_bk, Out.seq_ct, Out.seq_ex, Out.seq_no, R.out_ok, R.out_ex, R.out_no, E.c_eq, E.var_eq, E.un_eq, E.bin_eq, E.nil_eq, E.cons_eq, E.call_eq, E.ite_eq, E.andV_eq, E.orV_eq, E.notV_eq, E.chain_eq, E.methL_eq, E.none_eq, E.part_eq, E.slice_eq, asPart_int, B.val_eq, B.tru_eq, B.and_eq, B.or_eq, B.not_eq, B.yes_eq, truD_bl, truD_int, truD_lst, truD_tup, vw_nil, vw_zero, vw_succ, Sl.vw_no, Sl.vw_sh, Sl.vw_ow, Fl.lst_eq, Fl.add_eq, Fl.rep_eq, Fl.slice_eq, Fl.rev_eq, Fl.list_eq, Fl.sort_eq, Fl.call_eq, Fl.comp_eq, okLst_eq, I.items_eq, I.zip_eq, I.enum_eq, I.range1_eq, I.range2_eq, itemsD_lst, itemsD_tup, itemsD_fix, zipD_eq, enumD_eq, Z.px_eq, Z.pf_eq, Z.var_zero, Z.var_succ, S.seq_eq, S.nil_eq, S.drop_eq, S.ret_eq, S.retF_eq, S.retO_eq, S.retN_eq, S.withL_zero, S.withL_succ, S.putL_eq, S.ite_eq, S.set_eq, S.own_eq, S.bind_eq, S.app_eq, S.seti_eq, S.setD_int, S.putM_some, S.raise_eq, S.frzA_eq, S.frz_eq, S.never_eq, S.brk_eq, S.cont_eq, S.loop_eq, S.while_eq, noOw_nil, noOw_cons, Sl.noOw_no, Sl.noOw_sh, Sl.noOw_ow, frz1_zero, frz1_succ, Sl.frz_no, Sl.frz_sh, Sl.frz_ow, bindT_nm, bindT_tp, bindTs_nil, bindTs_cons, setsE_nil, setsE_cons, wipeE_nil, wipeE_cons, R.noex_ok, Fn.X_eq, Fn.F_eq, Fn.run1, Fn.run2, Fn.run3, Fn.outX_nx, Fn.outX_rt, Fn.outX_ex, Fn.outF_rt, Fn.outF_ex, on1_eq, on2_eq, index1_eq, D.pure_int, D.pure_bl, D.pure_str, D.pure_non, D.pure_tup, D.pure_lst, D.pures_nil, D.pures_cons, D.pures_app, D.pures_ints, addD_int, addD_lst, addD_tup, addI_int, subD_int, negD_int, ltD_int, leD_int, gtD_int, geD_int, max2D_int, min2D_int, lenD_lst, lenD_tup, lenD_fix, tupleD_lst, ixD_lst, ixD_tup, ixD_fix, tupD_two, tupD_three, lstD_one, lstD_two, lstD_three, lstD_nil, onInts_ints, sort1_ints, add2_eq, eqD_int, neD_int, within_int, noObj_int, noObj_bl, noObj_non, noObj_str, noObj_tup, noObj_lst, is_within_int, is_within_non, is_within_bl, is_within_str, is_within_tup, is_within_lst, dA_pure, itemsD_dA, lenD_dA, slD_tup, slD_lst, rev1_lst, S.ownD_eq, S.withD_zero, S.withD_succ, S.dput_eq, tupD_nil, S.ext_eq, List.replicate, List.set_cons_succ, List.set_cons_zero, if_true, Bool.true_or, Bool.or_true, Bool.true_and, Bool.and_true, Bool.and_self, Bool.not_true, Bool.not_false, Bool.false_eq_true, if_false, Bool.or_false, Bool.false_or, Bool.false_and, Bool.and_false, List.length_map, List.length_nil, Nat.zero_le, List.append_nil, List.singleton_append, List.nil_append, and_self, true_and, and_true, false_and, and_false, decide_true, decide_false, E.join_eq, Fl.split_eq, Fl.ite_eq, isS_str, S.tryX_eq, $as:simpLemma,*])
theorem plan_text_eq (as : Asks) (v : validP as = true) : Mi.plan_text [dA as] = .ok (.str (ptS as)) := by
  have o := valid_ok v
  have hl := valid_len v
  have lp : Mi.look_plan [dA as] = .ok .non := by rw [look_plan_eq, if_pos v]
  have ec := lcM_all (t := .tp [(.nm 1), (.nm 2)]) (vs := [1, 2]) (elt := E.bin addD (E.bin addD (E.call (on1 strD) (E.cons (E.var 1) E.nil)) (E.c (.str "+"))) (E.call (on1 strD) (E.cons (E.var 2) E.nil))) (e := [.sh (dA as), .no, .no])
    dAsk (fun a => .str (wS a)) as (fun a ha => ⟨[(1, .int a.1), (2, .int a.2)], by simp [dAsk], by
      have b := okP_le o a ha
      have n1 := num_ok b.1 b.2.1
      have n2 := num_ok (show 0 ≤ a.2 by omega) (show a.2 ≤ 999 by omega)
      have a1 : addD (.str (nS a.1)) (.str "+") = .ok (.str (nS a.1 ++ pS)) := by
        have l1 := n1.le
        have lp : pS.length = 1 := by decide +kernel
        show (if (nS a.1).length + pS.length ≤ 16777216 then R.ok (D.str (nS a.1 ++ pS)) else .no) = _
        rw [if_pos (by omega)]
      have a2 : addD (.str (nS a.1 ++ pS)) (.str (nS a.2)) = .ok (.str (wS a)) := by
        have l1 := n1.le
        have l2 := n2.le
        have lp : pS.length = 1 := by decide +kernel
        have lx : (nS a.1 ++ pS).length = (nS a.1).length + pS.length := by rw [TL.len_tl, TL.tl_append, List.length_append, ← TL.len_tl, ← TL.len_tl]
        show (if (nS a.1 ++ pS).length + (nS a.2).length ≤ 16777216 then R.ok (D.str (nS a.1 ++ pS ++ nS a.2)) else .no) = _
        rw [if_pos (by omega)]
        rfl
      simp_all only [n1.st, n2.st, a1, a2], D.pure_str _⟩)
  have em : (as.map fun a => D.str (wS a)) = (as.map wS).map D.str := by rw [List.map_map]; rfl
  rw [em] at ec
  have sl : ((as.map wS).map (·.length)).sum + (as.map wS).length * sS.length ≤ 16777216 := by
    have h1 : ∀ (bs : Asks), (∀ a ∈ bs, (wS a).length ≤ 7) → ((bs.map wS).map (·.length)).sum ≤ 7 * bs.length := by
      intro bs
      induction bs with
      | nil => intro _; exact Nat.le_refl _
      | cons a bs ih =>
        intro h
        rw [List.map_cons, List.map_cons, List.sum_cons, List.length_cons]
        have := ih fun x hx => h x (List.mem_cons_of_mem _ hx)
        have := h a List.mem_cons_self
        omega
    have h2 := h1 as fun a ha => wS_len (okP_le o a ha)
    have lp : sS.length = 1 := by decide +kernel
    rw [List.length_map, lp]
    omega
  have jn : joinD (.str " ") (.lst ((as.map wS).map D.str)) = .ok (.str (ptS as)) := by
    show (R.of (asStrs ((as.map wS).map D.str))).bind _ = _
    rw [asStrs_map]
    exact if_pos sl
  unfold Mi.plan_text Mi.b_plan_text
  simp_all only [lp, itemsD_dA, if_pos (show as.length ≤ 16777000 by omega), ec, jn]
end Lp

/-! # Plain law, part Z: texts of plans read -/
namespace Lp
open PySem
theorem str_add {x y : Str} (h : x.length + y.length ≤ 16777216) : addD (.str x) (.str y) = .ok (.str (x ++ y)) := if_pos h
theorem len_add (x y : Str) : (x ++ y).length = x.length + y.length := by rw [TL.len_tl, TL.tl_append, List.length_append, ← TL.len_tl, ← TL.len_tl]
theorem lp1 : pS.length = 1 := by decide +kernel
theorem ls1 : sS.length = 1 := by decide +kernel
/-! ### the law's own text -/
theorem ptS_snoc (as : Asks) (a : Int × Int) (k : Int) (hk : (as = [] ∧ k = 0) ∨ (as ≠ [] ∧ k = 1)) : ptS as ++ Txt.mul sS k ++ nS a.1 ++ pS ++ nS a.2 = ptS (as ++ [a]) := by
  refine TL.ext_tl ?_
  rw [TL.tl_append, TL.tl_append, TL.tl_append, TL.tl_append, tl_pS, tl_ptS, tl_ptS, List.map_append, List.map_cons, List.map_nil, tl_wS]
  rcases hk with ⟨h1, h2⟩ | ⟨h1, h2⟩
  · subst h1 h2
    have : TL.tl (Txt.mul sS 0) = [] := by decide +kernel
    rw [this]
    simp [TL.joinL]
  · subst h2
    have : TL.tl (Txt.mul sS 1) = [32] := by decide +kernel
    rw [this, joinL_snoc [32] _ _ (by simpa using h1)]
    simp
theorem lpt_step (A : D) (as : Asks) (a : Int × Int) (s2 s3 s4 : Sl) (o : okP 0 (as ++ [a]) = true) (hl : as.length ≤ 100) :
    Mi.l1_law_plan_text [.sh A, .sh (.str (ptS as)), .sh (.int as.length), .sh (.int a.1), .sh (.int a.2)] = .nx [.sh A, .sh (.str (ptS (as ++ [a]))), .sh (.int as.length), .sh (.int a.1), .sh (.int a.2)] := by
  have b := okP_le o a (by simp)
  have n1 := num_ok b.1 b.2.1
  have n2 := num_ok (show 0 ≤ a.2 by omega) (show a.2 ≤ 999 by omega)
  have l0 := ptS_len (as := as) (okP_parts as [a] 0 o).1
  have l1 := n1.le
  have l2 := n2.le
  have key : ∀ k : Int, ((as = [] ∧ k = 0) ∨ (as ≠ [] ∧ k = 1)) → mulS (.str " ") (.int k) = .ok (.str (Txt.mul sS k)) ∧ (Txt.mul sS k).length ≤ 1 := fun k hk => by
    have k01 : k = 0 ∨ k = 1 := by rcases hk with h | h <;> omega
    refine ⟨if_pos k01, ?_⟩
    rcases k01 with z | z <;> subst z <;> decide +kernel
  have fin : ∀ k : Int, (hk : (as = [] ∧ k = 0) ∨ (as ≠ [] ∧ k = 1)) → (E.bin addD (E.bin addD (E.bin addD (E.bin addD (E.var 1) (E.bin mulS (E.c (.str " ")) (E.call (on1 intD) (E.cons (E.bin gtD (E.var 2) (E.c (.int 0))) E.nil)))) (E.call (on1 strD) (E.cons (E.var 3) E.nil))) (E.c (.str "+"))) (E.call (on1 strD) (E.cons (E.var 4) E.nil))) [.sh A, .sh (.str (ptS as)), .sh (.int as.length), .sh (.int a.1), .sh (.int a.2)] = .ok (.str (ptS (as ++ [a]))) := fun k hk => by
    obtain ⟨m1, m2⟩ := key k hk
    have a1 := str_add (x := ptS as) (y := Txt.mul sS k) (by omega)
    have e1 := len_add (ptS as) (Txt.mul sS k)
    have a2 := str_add (x := ptS as ++ Txt.mul sS k) (y := nS a.1) (by omega)
    have e2 := len_add (ptS as ++ Txt.mul sS k) (nS a.1)
    have a3 : addD (.str (ptS as ++ Txt.mul sS k ++ nS a.1)) (.str "+") = .ok (.str (ptS as ++ Txt.mul sS k ++ nS a.1 ++ pS)) := str_add (y := pS) (by rw [lp1]; omega)
    have e3 := len_add (ptS as ++ Txt.mul sS k ++ nS a.1) pS
    have a4 := str_add (x := ptS as ++ Txt.mul sS k ++ nS a.1 ++ pS) (y := nS a.2) (by rw [e3, lp1]; omega)
    rw [ptS_snoc as a k hk] at a4
    have gi : gtD (.int as.length) (.int 0) = .ok (.bl (decide (k = 1))) := by
      rw [gtD_int]
      congr 2
      rw [Bool.eq_iff_iff, decide_eq_true_eq, decide_eq_true_eq]
      rcases hk with ⟨h1, h2⟩ | ⟨h1, h2⟩
      · subst h1 h2; simp
      · have := List.length_pos_iff.mpr h1
        omega
    have ik : intD (.bl (decide (k = 1))) = .ok (.int k) := by
      rcases hk with ⟨_, h2⟩ | ⟨_, h2⟩ <;> subst h2 <;> rfl
    simp only [E.bin_eq, E.var_eq, E.c_eq, E.call_eq, E.cons_eq, E.nil_eq, on1_eq, vw_zero, vw_succ, Sl.vw_sh, R.of_some, R.bind_ok, gi, ik, m1, a1, n1.st, a2, a3, n2.st, a4]
  have fin' := fin (if as = [] then 0 else 1) (by by_cases c : as = [] <;> simp [c])
  unfold Mi.l1_law_plan_text
  refine (seq_step (by rw [S.set_eq, Z.px_eq, fin']; rfl)).trans rfl
local macro_rules | `(tactic| simp_all only [$as:simpLemma,*]) => `(tactic| simp only [R.bind_ok, R.bind_ex, R.bind_no, R.of_some, R.of_none, asInts_map, Out.seq_nx, Out.seq_rt, Out.seq_bk, Out.seq_ct, Out.seq_ex, Out.seq_no, R.out_ok, R.out_ex, R.out_no, E.c_eq, E.var_eq, E.un_eq, E.bin_eq, E.nil_eq, E.cons_eq, E.call_eq, E.ite_eq, E.andV_eq, E.orV_eq, E.notV_eq, E.chain_eq, E.methL_eq, E.none_eq, E.part_eq, E.slice_eq, asPart_int, B.val_eq, B.tru_eq, B.and_eq, B.or_eq, B.not_eq, B.yes_eq, truD_bl, truD_int, truD_lst, truD_tup, vw_nil, vw_zero, vw_succ, Sl.vw_no, Sl.vw_sh, Sl.vw_ow, Fl.lst_eq, Fl.add_eq, Fl.rep_eq, Fl.slice_eq, Fl.rev_eq, Fl.list_eq, Fl.sort_eq, Fl.call_eq, Fl.comp_eq, okLst_eq, I.items_eq, I.zip_eq, I.enum_eq, I.range1_eq, I.range2_eq, itemsD_lst, itemsD_tup, itemsD_fix, zipD_eq, enumD_eq, Z.px_eq, Z.pf_eq, Z.var_zero, Z.var_succ, S.seq_eq, S.nil_eq, S.drop_eq, S.ret_eq, S.retF_eq, S.retO_eq, S.retN_eq, S.withL_zero, S.withL_succ, S.putL_eq, S.ite_eq, S.set_eq, S.own_eq, S.bind_eq, S.app_eq, S.seti_eq, S.setD_int, S.putM_some, S.raise_eq, S.frzA_eq, S.frz_eq, S.never_eq, S.brk_eq, S.cont_eq, S.loop_eq, S.while_eq, noOw_nil, noOw_cons, Sl.noOw_no, Sl.noOw_sh, Sl.noOw_ow, frz1_zero, frz1_succ, Sl.frz_no, Sl.frz_sh, Sl.frz_ow, bindT_nm, bindT_tp, bindTs_nil, bindTs_cons, setsE_nil, setsE_cons, wipeE_nil, wipeE_cons, R.noex_ok, Fn.X_eq, Fn.F_eq, Fn.run1, Fn.run2, Fn.run3, Fn.outX_nx, Fn.outX_rt, Fn.outX_ex, Fn.outF_rt, Fn.outF_ex, on1_eq, on2_eq, index1_eq, D.pure_int, D.pure_bl, D.pure_str, D.pure_non, D.pure_tup, D.pure_lst, D.pures_nil, D.pures_cons, D.pures_app, D.pures_ints, addD_int, addD_lst, addD_tup, addI_int, subD_int, negD_int, ltD_int, leD_int, gtD_int, geD_int, max2D_int, min2D_int, lenD_lst, lenD_tup, lenD_fix, tupleD_lst, ixD_lst, ixD_tup, ixD_fix, tupD_two, tupD_three, lstD_one, lstD_two, lstD_three, lstD_nil, onInts_ints, sort1_ints, add2_eq, eqD_int, neD_int, within_int, noObj_int, noObj_bl, noObj_non, noObj_str, noObj_tup, noObj_lst, is_within_int, is_within_non, is_within_bl, is_within_str, is_within_tup, is_within_lst, dA_pure, itemsD_dA, lenD_dA, slD_tup, slD_lst, rev1_lst, S.ownD_eq, S.withD_zero, S.withD_succ, S.dput_eq, tupD_nil, S.ext_eq, E.join_eq, Fl.split_eq, Fl.ite_eq, isS_str, S.tryX_eq, tupD_four, List.replicate, List.set_cons_succ, List.set_cons_zero, if_true, Bool.true_or, Bool.or_true, Bool.true_and, Bool.and_true, Bool.and_self, Bool.not_true, Bool.not_false, Bool.false_eq_true, if_false, Bool.or_false, Bool.false_or, Bool.false_and, Bool.and_false, List.length_map, List.length_nil, Nat.zero_le, List.append_nil, List.singleton_append, List.nil_append, and_self, true_and, and_true, false_and, and_false, decide_true, decide_false, $as:simpLemma,*])
theorem law_plan_text_eq (as : Asks) (v : validP as = true) : Mi.law_plan_text [dA as] = .ok (.str (ptS as)) := by
  have o := valid_ok v
  have hl := valid_len v
  have key : ∀ (rest pre : Asks) (s2 s3 s4 : Sl), okP 0 (pre ++ rest) = true → pre.length + rest.length ≤ 100 → ∃ t2 t3 t4, loopM (.tp [(.nm 2), (.tp [(.nm 3), (.nm 4)])]) Mi.l1_law_plan_text (enumT pre.length (rest.map dAsk)) [.sh (dA as), .sh (.str (ptS pre)), s2, s3, s4] = .nx [.sh (dA as), .sh (.str (ptS (pre ++ rest))), t2, t3, t4] := by
    intro rest
    induction rest with
    | nil => intro pre s2 s3 s4 _ _; exact ⟨s2, s3, s4, by rw [List.append_nil]; rfl⟩
    | cons a rest ih =>
      intro pre s2 s3 s4 h h2
      have e : pre ++ a :: rest = (pre ++ [a]) ++ rest := by rw [List.append_assoc]; rfl
      rw [e] at h ⊢
      rw [List.length_cons] at h2
      obtain ⟨t2, t3, t4, z⟩ := ih (pre ++ [a]) (.sh (.int pre.length)) (.sh (.int a.1)) (.sh (.int a.2)) h (by rw [List.length_append]; simp; omega)
      refine ⟨t2, t3, t4, ?_⟩
      have st := lpt_step (dA as) pre a s2 s3 s4 (okP_parts (pre ++ [a]) rest 0 h).1 (by omega)
      rw [List.length_append, List.length_singleton] at z
      refine (loop_cons (bs := [(2, .int pre.length), (3, .int a.1), (4, .int a.2)]) (by simp [dAsk]) ?_).trans z
      exact st
  obtain ⟨t2, t3, t4, z⟩ := key as [] .no .no .no o (by simp; omega)
  have p0 : ptS [] = "" := by decide +kernel
  rw [p0, List.nil_append] at z
  unfold Mi.law_plan_text Mi.b_law_plan_text
  refine (fn1 (o := .rt (.str (ptS as))) ?_).trans rfl
  simp only [List.replicate]
  refine (seq_step (by simp_all only [] <;> rfl)).trans ?_
  refine (seq_step (e' := [.sh (dA as), .sh (.str (ptS as)), t2, t3, t4]) (by
    rw [S.loop_eq]
    have it : I.enum (E.cons (Z.var 0) E.nil) [.sh (dA as), .sh (.str ""), .no, .no, .no] = .ok (enumT 0 (as.map dAsk)) := rfl
    rw [it]
    exact z)).trans ?_
  simp_all only []
/-! ### read back -/
theorem splitD_ok {a b : Str} (h1 : 1 ≤ b.length) (h2 : a.length ≤ 1000000) : splitD (.str a) (.str b) = .ok ((Txt.split a b).map D.str) := by
  show (if (b.length == 0) = false ∧ a.length + 2 ≤ sizeLine then R.ok ((Txt.split a b).map D.str) else .no) = _
  rw [if_pos ⟨by simp; omega, by rw [sizeLine_eq]; omega⟩]
theorem wS_split {a : Int × Int} (n1 : NumOk a.1) (n2 : NumOk a.2) : Txt.split (wS a) pS = [nS a.1, nS a.2] := by
  rw [wS_join]
  exact TL.split_join (s := 43) (S := []) tl_pS (by decide +kernel) (by simp) fun p hp => by
    simp only [List.mem_cons, List.not_mem_nil, or_false] at hp
    rcases hp with z | z <;> subst z
    · exact n1.pl
    · exact n2.pl
theorem read_step (T : D) (fs : Asks) (a : Int × Int) (s3 : Sl) (b : 0 ≤ a.1 ∧ a.1 ≤ 999 ∧ 1 ≤ a.2 ∧ a.2 ≤ 99) (hf : fs.length ≤ 1000) :
    Mi.l1_read_plan [.sh T, .ow (.node .leaf) (.lst (fs.map dAsk)), .sh (.str (wS a)), s3] = .nx [.sh T, .ow (.node .leaf) (.lst ((fs ++ [a]).map dAsk)), .sh (.str (wS a)), .sh (.lst [.str (nS a.1), .str (nS a.2)])] := by
  have n1 := num_ok b.1 b.2.1
  have n2 := num_ok (show 0 ≤ a.2 by omega) (show a.2 ≤ 999 by omega)
  have wl := wS_len b
  have sp : splitD (.str (wS a)) (.str "+") = .ok [.str (nS a.1), .str (nS a.2)] := by
    have := splitD_ok (a := wS a) (b := pS) (by rw [lp1]; omega) (by omega)
    rw [wS_split n1 n2] at this
    exact this
  have l2 : lenD (.lst [.str (nS a.1), .str (nS a.2)]) = .ok (.int 2) := rfl
  have lf : fs.length < 16777216 := by omega
  have o1 := n1.of
  have o2 := n2.of
  have pu : D.pures [.str (nS a.1), .str (nS a.2)] = true := rfl
  unfold Mi.l1_read_plan
  refine (seq_step (e' := [.sh T, .ow (.node .leaf) (.lst (fs.map dAsk)), .sh (.str (wS a)), .sh (.lst [.str (nS a.1), .str (nS a.2)])]) (by simp_all only [sp, pu])).trans ?_
  refine (seq_step (e' := [.sh T, .ow (.node .leaf) (.lst (fs.map dAsk)), .sh (.str (wS a)), .sh (.lst [.str (nS a.1), .str (nS a.2)])]) (by
    have ne : neD (.int 2) (.int 2) = .ok (.bl false) := by rw [neD_int]; rfl
    rw [S.ite_eq, B.val_eq, E.bin_eq, E.call_eq, E.cons_eq, E.var_eq]
    simp only [vw_zero, vw_succ, Sl.vw_sh, R.of_some, R.bind_ok, E.nil_eq, on1_eq, l2, E.c_eq, ne]
    rfl)).trans ?_
  have i0 : ixD (.lst [.str (nS a.1), .str (nS a.2)]) (.int 0) = .ok (.str (nS a.1)) := rfl
  have i1 : ixD (.lst [.str (nS a.1), .str (nS a.2)]) (.int 1) = .ok (.str (nS a.2)) := rfl
  refine (seq_step (e' := [.sh T, .ow (.node .leaf) (.lst ((fs ++ [a]).map dAsk)), .sh (.str (wS a)), .sh (.lst [.str (nS a.1), .str (nS a.2)])]) (by
    simp_all only [i0, i1, o1, o2, lf, List.map_append]
    rfl)).trans rfl
theorem read_loop (T : D) : ∀ (as fs : Asks) (s2 s3 : Sl) (ys : List D), (∀ a ∈ as, 0 ≤ a.1 ∧ a.1 ≤ 999 ∧ 1 ≤ a.2 ∧ a.2 ≤ 99) → fs.length + as.length ≤ 1000 → ∃ t2 t3, loopM (.nm 2) Mi.l1_read_plan ((as.map wS).map D.str ++ ys) [.sh T, .ow (.node .leaf) (.lst (fs.map dAsk)), s2, s3] = loopM (.nm 2) Mi.l1_read_plan ys [.sh T, .ow (.node .leaf) (.lst ((fs ++ as).map dAsk)), t2, t3]
  | [], fs, s2, s3, ys, _, _ => ⟨s2, s3, by rw [List.append_nil]; rfl⟩
  | a :: as, fs, s2, s3, ys, h, hl => by
    rw [List.length_cons] at hl
    obtain ⟨t2, t3, e⟩ := read_loop T as (fs ++ [a]) (.sh (.str (wS a))) (.sh (.lst [.str (nS a.1), .str (nS a.2)])) ys (fun x hx => h x (List.mem_cons_of_mem _ hx)) (by rw [List.length_append]; simp; omega)
    refine ⟨t2, t3, ?_⟩
    rw [List.append_assoc] at e
    rw [← show fs ++ ([a] ++ as) = fs ++ a :: as from rfl, ← e]
    exact loop_cons (bindT_nm _ _) (read_step T fs a s3 (h a List.mem_cons_self) (by omega))
theorem ptS_ne {as : Asks} (o : okP 0 as = true) (h : as ≠ []) : ptS as ≠ "" := fun z => by
  have t := congrArg TL.tl z
  rw [tl_ptS] at t
  have e0 : TL.tl ("" : Str) = [] := by decide +kernel
  rw [e0] at t
  cases as with
  | nil => exact h rfl
  | cons a as =>
    have l := congrArg List.length t
    have w : 1 ≤ (TL.tl (wS a)).length := by rw [tl_wS]; simp; omega
    cases as with
    | nil =>
      have l' : (TL.tl (wS a)).length = 0 := l
      omega
    | cons b as =>
      have l' : (TL.tl (wS a) ++ ([32] ++ TL.joinL [32] ((b :: as).map fun a => TL.tl (wS a)))).length = 0 := l
      rw [List.length_append] at l'
      omega
theorem ptS_split {as : Asks} (o : okP 0 as = true) (h : as ≠ []) : Txt.split (ptS as) sS = as.map wS :=
  TL.split_join (s := 32) (S := []) tl_sS (by decide +kernel) (by simpa using h) fun p hp => by
    obtain ⟨a, ha, e⟩ := List.mem_map.mp hp
    have b := okP_le o a ha
    have n1 := num_ok b.1 b.2.1
    have n2 := num_ok (show 0 ≤ a.2 by omega) (show a.2 ≤ 999 by omega)
    rw [← e, tl_wS]
    intro z
    rcases List.mem_append.mp z with z | z
    · exact n1.sp z
    · rcases List.mem_append.mp z with z | z
      · simp at z
      · exact n2.sp z
theorem read_plan_eq (as : Asks) (v : validP as = true) : Mi.read_plan [.str (ptS as)] = .ok (dA as) := by
  have o := valid_ok v
  have hl := valid_len v
  have il : isStr (.str (ptS as)) = .ok (.bl true) := rfl
  obtain ⟨t2, t3, lp⟩ := read_loop (.str (ptS as)) as [] .no .no [] (okP_le o) (by simp; omega)
  rw [List.append_nil, List.nil_append] at lp
  have it : I.items (Z.pf (Fl.ite (B.val (E.bin neD (E.var 0) (E.c (.str "")))) (Fl.split (E.var 0) (E.c (.str " "))) (Fl.lst E.nil))) [.sh (.str (ptS as)), .ow (.node .leaf) (.lst []), .no, .no] = .ok ((as.map wS).map D.str) := by
    by_cases c : as = []
    · subst c
      have p0 : ptS [] = "" := by decide +kernel
      rw [p0]
      simp_all only [neD_str]
      rfl
    · have ne : ¬ ptS as = "" := ptS_ne o c
      have sp := splitD_ok (a := ptS as) (b := sS) (by rw [ls1]; omega) (by have := ptS_len o; omega)
      rw [ptS_split o c] at sp
      replace sp : splitD (.str (ptS as)) (.str " ") = .ok ((as.map wS).map D.str) := sp
      have pu : D.pures ((as.map wS).map D.str) = true := by rw [D.pures_all]; simp
      simp_all only [neD_str, decide_eq_false ne, sp, pu]
  have tl : tupleD (.lst (as.map dAsk)) = .ok (dA as) := rfl
  have lk : Mi.look_plan [dA as] = .ok .non := by rw [look_plan_eq, if_pos v]
  unfold Mi.read_plan Mi.b_read_plan
  refine (fn1 (o := .rt (dA as)) ?_).trans rfl
  simp only [List.replicate]
  refine (seq_step (by simp_all only [il] <;> rfl)).trans ?_
  refine (seq_step (e' := [.sh (.str (ptS as)), .ow (.node .leaf) (.lst []), .no, .no]) (by simp_all only [] <;> rfl)).trans ?_
  refine (seq_step (e' := [.sh (.str (ptS as)), .ow (.node .leaf) (.lst (as.map dAsk)), t2, t3]) (by
    rw [S.loop_eq, it]
    exact lp)).trans ?_
  rw [S.frz_eq]
  simp only [frz1_succ, frz1_zero, Sl.frz_ow]
  refine (seq_step (e' := [.sh (.str (ptS as)), .sh (.lst (as.map dAsk)), t2, t3]) (by simp_all only [tl, lk])).trans ?_
  simp_all only [tl]
end Lp

/-! # Plain law, part Y2: texts of plans spoilt -/
namespace Lp
open PySem
theorem loop_ex {t : Tg} {b : En → Out} {x : D} {xs : List D} {e e' : En} {bs : List (Nat × D)} {cl : Str} (h1 : bindT t x = .ok bs) (h2 : b (setsE e bs) = .ex cl e') : loopM t b (x :: xs) e = .ex cl e' := by
  rw [loopM, h1]
  simp only []
  rw [h2]
local macro_rules | `(tactic| simp_all only [$as:simpLemma,*]) => `(tactic| simp only [R.bind_ok, R.bind_ex, R.bind_no, R.of_some, R.of_none, asInts_map, Out.seq_nx, Out.seq_rt, Out.seq_bk, Out.seq_ct, Out.seq_ex, Out.seq_no, R.out_ok, R.out_ex, R.out_no, E.c_eq, E.var_eq, E.un_eq, E.bin_eq, E.nil_eq, E.cons_eq, E.call_eq, E.ite_eq, E.andV_eq, E.orV_eq, E.notV_eq, E.chain_eq, E.methL_eq, E.none_eq, E.part_eq, E.slice_eq, asPart_int, B.val_eq, B.tru_eq, B.and_eq, B.or_eq, B.not_eq, B.yes_eq, truD_bl, truD_int, truD_lst, truD_tup, vw_nil, vw_zero, vw_succ, Sl.vw_no, Sl.vw_sh, Sl.vw_ow, Fl.lst_eq, Fl.add_eq, Fl.rep_eq, Fl.slice_eq, Fl.rev_eq, Fl.list_eq, Fl.sort_eq, Fl.call_eq, Fl.comp_eq, okLst_eq, I.items_eq, I.zip_eq, I.enum_eq, I.range1_eq, I.range2_eq, itemsD_lst, itemsD_tup, itemsD_fix, zipD_eq, enumD_eq, Z.px_eq, Z.pf_eq, Z.var_zero, Z.var_succ, S.seq_eq, S.nil_eq, S.drop_eq, S.ret_eq, S.retF_eq, S.retO_eq, S.retN_eq, S.withL_zero, S.withL_succ, S.putL_eq, S.ite_eq, S.set_eq, S.own_eq, S.bind_eq, S.app_eq, S.seti_eq, S.setD_int, S.putM_some, S.raise_eq, S.frzA_eq, S.frz_eq, S.never_eq, S.brk_eq, S.cont_eq, S.loop_eq, S.while_eq, noOw_nil, noOw_cons, Sl.noOw_no, Sl.noOw_sh, Sl.noOw_ow, frz1_zero, frz1_succ, Sl.frz_no, Sl.frz_sh, Sl.frz_ow, bindT_nm, bindT_tp, bindTs_nil, bindTs_cons, setsE_nil, setsE_cons, wipeE_nil, wipeE_cons, R.noex_ok, Fn.X_eq, Fn.F_eq, Fn.run1, Fn.run2, Fn.run3, Fn.outX_nx, Fn.outX_rt, Fn.outX_ex, Fn.outF_rt, Fn.outF_ex, on1_eq, on2_eq, index1_eq, D.pure_int, D.pure_bl, D.pure_str, D.pure_non, D.pure_tup, D.pure_lst, D.pures_nil, D.pures_cons, D.pures_app, D.pures_ints, addD_int, addD_lst, addD_tup, addI_int, subD_int, negD_int, ltD_int, leD_int, gtD_int, geD_int, max2D_int, min2D_int, lenD_lst, lenD_tup, lenD_fix, tupleD_lst, ixD_lst, ixD_tup, ixD_fix, tupD_two, tupD_three, lstD_one, lstD_two, lstD_three, lstD_nil, onInts_ints, sort1_ints, add2_eq, eqD_int, neD_int, within_int, noObj_int, noObj_bl, noObj_non, noObj_str, noObj_tup, noObj_lst, is_within_int, is_within_non, is_within_bl, is_within_str, is_within_tup, is_within_lst, dA_pure, itemsD_dA, lenD_dA, slD_tup, slD_lst, rev1_lst, S.ownD_eq, S.withD_zero, S.withD_succ, S.dput_eq, tupD_nil, S.ext_eq, E.join_eq, Fl.split_eq, Fl.ite_eq, isS_str, S.tryX_eq, tupD_four, List.replicate, List.set_cons_succ, List.set_cons_zero, if_true, Bool.true_or, Bool.or_true, Bool.true_and, Bool.and_true, Bool.and_self, Bool.not_true, Bool.not_false, Bool.false_eq_true, if_false, Bool.or_false, Bool.false_or, Bool.false_and, Bool.and_false, List.length_map, List.length_nil, Nat.zero_le, List.append_nil, List.singleton_append, List.nil_append, and_self, true_and, and_true, false_and, and_false, decide_true, decide_false, $as:simpLemma,*])
theorem two_parts {bad : Str} (h : bad.length ≤ 1000000) (hn : (Txt.split bad pS).length ≠ 2) (T : D) (fs : Asks) (s3 : Sl) : ∃ e, Mi.l1_read_plan [.sh T, .ow (.node .leaf) (.lst (fs.map dAsk)), .sh (.str bad), s3] = .ex "BadText" e := by
  have sp := splitD_ok (a := bad) (b := pS) (by rw [lp1]; omega) h
  replace sp : splitD (.str bad) (.str "+") = .ok ((Txt.split bad pS).map D.str) := sp
  have pu : D.pures ((Txt.split bad pS).map D.str) = true := by rw [D.pures_all]; simp
  have ll : lenD (.lst ((Txt.split bad pS).map D.str)) = .ok (.int (Txt.split bad pS).length) := by rw [lenD_lst, List.length_map]
  have ne : neD (.int (Txt.split bad pS).length) (.int 2) = .ok (.bl true) := by
    rw [neD_int]
    have : ¬ (((Txt.split bad pS).length : Nat) : Int) = 2 := by omega
    simp [this]
  refine ⟨[.sh T, .ow (.node .leaf) (.lst (fs.map dAsk)), .sh (.str bad), .sh (.lst ((Txt.split bad pS).map D.str))], ?_⟩
  unfold Mi.l1_read_plan
  refine (seq_step (e' := [.sh T, .ow (.node .leaf) (.lst (fs.map dAsk)), .sh (.str bad), .sh (.lst ((Txt.split bad pS).map D.str))]) (by simp_all only [sp, pu])).trans ?_
  refine seq_end ?_ (fun _ h => nomatch h)
  rw [S.ite_eq, B.val_eq, E.bin_eq, E.call_eq, E.cons_eq, E.var_eq]
  simp only [vw_zero, vw_succ, Sl.vw_sh, R.of_some, R.bind_ok, E.nil_eq, on1_eq, ll, E.c_eq, ne]
  rfl
theorem read_bad {x bad : Str} {as : Asks} {post : List Str} (hx : ¬ x = "") (hl : x.length ≤ 1000000) (hs : Txt.split x sS = as.map wS ++ bad :: post) (ha : ∀ a ∈ as, 0 ≤ a.1 ∧ a.1 ≤ 999 ∧ 1 ≤ a.2 ∧ a.2 ≤ 99) (hlen : as.length ≤ 900)
    (hb : ∀ (T : D) (fs : Asks) (s3 : Sl), ∃ e, Mi.l1_read_plan [.sh T, .ow (.node .leaf) (.lst (fs.map dAsk)), .sh (.str bad), s3] = .ex "BadText" e) : Mi.read_plan [.str x] = .ex "BadText" := by
  have il : isStr (.str x) = .ok (.bl true) := rfl
  obtain ⟨t2, t3, lp⟩ := read_loop (.str x) as [] .no .no ((bad :: post).map D.str) ha (by simp; omega)
  rw [List.nil_append] at lp
  obtain ⟨e, he⟩ := hb (.str x) as t3
  have le : loopM (.nm 2) Mi.l1_read_plan ((bad :: post).map D.str) [.sh (.str x), .ow (.node .leaf) (.lst (as.map dAsk)), t2, t3] = .ex "BadText" e := loop_ex (bindT_nm _ _) he
  have it : I.items (Z.pf (Fl.ite (B.val (E.bin neD (E.var 0) (E.c (.str "")))) (Fl.split (E.var 0) (E.c (.str " "))) (Fl.lst E.nil))) [.sh (.str x), .ow (.node .leaf) (.lst []), .no, .no] = .ok ((as.map wS).map D.str ++ (bad :: post).map D.str) := by
    have sp := splitD_ok (a := x) (b := sS) (by rw [ls1]; omega) hl
    rw [hs, List.map_append] at sp
    replace sp : splitD (.str x) (.str " ") = .ok ((as.map wS).map D.str ++ (bad :: post).map D.str) := sp
    have pu : D.pures ((as.map wS).map D.str ++ (bad :: post).map D.str) = true := by rw [← List.map_append, D.pures_all]; simp
    simp_all only [neD_str, decide_eq_false hx, sp, pu]
  unfold Mi.read_plan Mi.b_read_plan
  refine (fn1 (o := .ex "BadText" e) ?_).trans rfl
  simp only [List.replicate]
  refine (seq_step (by simp_all only [il] <;> rfl)).trans ?_
  refine (seq_step (e' := [.sh (.str x), .ow (.node .leaf) (.lst []), .no, .no]) (by simp_all only [] <;> rfl)).trans ?_
  refine seq_end ?_ (fun _ h => nomatch h)
  rw [S.loop_eq, it]
  exact lp.trans le
theorem no_text {d : D} (h : isStr d = .ok (.bl false)) : Mi.read_plan [d] = .ex "BadText" := by
  unfold Mi.read_plan Mi.b_read_plan
  simp_all only [h]
theorem bad_texts : (["1+0", "01+1", "1+100", "5+1 4+1", "1 + 1", "1000+1", "+1", " "] : List Str).all (fun x => exB (Mi.read_plan [.str x]) "BadText") = true := by decide +kernel
theorem tl_e : TL.tl ("" : Str) = [] := by decide +kernel
theorem word_sp {as : Asks} (o : okP 0 as = true) : ∀ p ∈ as.map wS, 32 ∉ TL.tl p := fun p hp => by
  obtain ⟨a, ha, e⟩ := List.mem_map.mp hp
  have b := okP_le o a ha
  have n1 := num_ok b.1 b.2.1
  have n2 := num_ok (show 0 ≤ a.2 by omega) (show a.2 ≤ 999 by omega)
  rw [← e, tl_wS]
  intro z
  rcases List.mem_append.mp z with z | z
  · exact n1.sp z
  · rcases List.mem_append.mp z with z | z
    · simp at z
    · exact n2.sp z
theorem ne_of_tl {x : Str} (h : TL.tl x ≠ []) : ¬ x = "" := fun z => h (by rw [z, tl_e])
theorem one_e : (Txt.split "" pS).length ≠ 2 := by decide +kernel
def p1S : Str := "+1"
theorem spoil_end (as : Asks) (v : validP as = true) : Mi.read_plan [.str (ptS as ++ " ")] = .ex "BadText" := by
  have o := valid_ok v
  have hl := valid_len v
  by_cases c : as = []
  · subst c
    have e : ptS [] ++ " " = " " := by decide +kernel
    rw [e]
    exact exB_eq (List.all_eq_true.mp bad_texts _ (by simp))
  · have pl := ptS_len o
    have ex : ptS as ++ sS = Txt.join sS (as.map wS ++ [("" : Str)]) := by
      refine TL.ext_tl ?_
      rw [TL.join_eq, TL.tl_join, TL.tl_append, tl_sS, tl_ptS, List.map_append, List.map_map, List.map_cons, List.map_nil, tl_e]
      show _ = TL.joinL [32] ((as.map fun a => TL.tl (wS a)) ++ [[]])
      rw [joinL_snoc [32] [] _ (by simpa using c)]
      simp
    refine read_bad (x := ptS as ++ sS) (bad := "") (as := as) (post := []) (ne_of_tl (by rw [TL.tl_append, tl_sS]; simp)) (by rw [len_add, ls1]; omega) ?_ (okP_le o) (by omega) (fun T fs s3 => two_parts (by decide +kernel) one_e T fs s3)
    rw [ex]
    exact TL.split_join (s := 32) (S := []) tl_sS (by decide +kernel) (by simp) fun p hp => by
      rcases List.mem_append.mp hp with z | z
      · exact word_sp o p z
      · rw [List.mem_singleton.mp z, tl_e]; simp
theorem spoil_start (as : Asks) (v : validP as = true) : Mi.read_plan [.str (" " ++ ptS as)] = .ex "BadText" := by
  have o := valid_ok v
  have hl := valid_len v
  by_cases c : as = []
  · subst c
    have e : (" " : Str) ++ ptS [] = " " := by decide +kernel
    rw [e]
    exact exB_eq (List.all_eq_true.mp bad_texts _ (by simp))
  · have pl := ptS_len o
    have ex : sS ++ ptS as = Txt.join sS (("" : Str) :: as.map wS) := by
      refine TL.ext_tl ?_
      rw [TL.join_eq, TL.tl_join, TL.tl_append, tl_sS, tl_ptS, List.map_cons, List.map_map, tl_e]
      cases as with
      | nil => exact absurd rfl c
      | cons a as => rfl
    refine read_bad (x := sS ++ ptS as) (bad := "") (as := []) (post := as.map wS) (ne_of_tl (by rw [TL.tl_append, tl_sS]; simp)) (by rw [len_add, ls1]; omega) ?_ (fun a h => by cases h) (by simp) (fun T fs s3 => two_parts (by decide +kernel) one_e T fs s3)
    rw [ex]
    exact TL.split_join (s := 32) (S := []) tl_sS (by decide +kernel) (by simp) fun p hp => by
      rcases List.mem_cons.mp hp with z | z
      · rw [z, tl_e]; simp
      · exact word_sp o p z
theorem spoil_more (as : Asks) (v : validP as = true) : Mi.read_plan [.str (ptS as ++ "+1")] = .ex "BadText" := by
  have o := valid_ok v
  have hl := valid_len v
  by_cases c : as = []
  · subst c
    have e : ptS [] ++ "+1" = "+1" := by decide +kernel
    rw [e]
    exact exB_eq (List.all_eq_true.mp bad_texts _ (by simp))
  · have pl := ptS_len o
    obtain ⟨init, a, ea⟩ : ∃ init a, as = init ++ [a] := ⟨as.dropLast, as.getLast c, (List.dropLast_concat_getLast c).symm⟩
    subst ea
    have b := okP_le o a (by simp)
    have n1 := num_ok b.1 b.2.1
    have n2 := num_ok (show 0 ≤ a.2 by omega) (show a.2 ≤ 999 by omega)
    have o1 := (okP_parts init [a] 0 o).1
    have tp : TL.tl p1S = [43, 49] := by decide +kernel
    have tone : TL.tl ("1" : Str) = [49] := by decide +kernel
    have wl := wS_len b
    have lp1S : p1S.length = 2 := by decide +kernel
    have ex : ptS (init ++ [a]) ++ p1S = Txt.join sS (init.map wS ++ [wS a ++ p1S]) := by
      refine TL.ext_tl ?_
      rw [TL.join_eq, TL.tl_join, TL.tl_append, tl_sS, tl_ptS, List.map_append, List.map_append, List.map_map, List.map_cons, List.map_nil, List.map_cons, List.map_nil, TL.tl_append]
      by_cases ci : init = []
      · subst ci; rfl
      · rw [joinL_snoc [32] _ _ (by simpa using ci), joinL_snoc [32] _ _ (by simpa using ci)]
        simp
        rfl
    have three : Txt.split (wS a ++ p1S) pS = [nS a.1, nS a.2, "1"] := by
      have e : wS a ++ p1S = Txt.join pS [nS a.1, nS a.2, "1"] := by
        refine TL.ext_tl ?_
        rw [TL.join_eq, TL.tl_join, TL.tl_append, tl_wS, tl_pS, tp]
        show _ = TL.tl (nS a.1) ++ ([43] ++ (TL.tl (nS a.2) ++ ([43] ++ TL.tl ("1" : Str))))
        rw [tone]
        simp
      rw [e]
      exact TL.split_join (s := 43) (S := []) tl_pS (by decide +kernel) (by simp) fun p hp => by
        simp only [List.mem_cons, List.not_mem_nil, or_false] at hp
        rcases hp with z | z | z <;> subst z
        · exact n1.pl
        · exact n2.pl
        · rw [tone]; simp
    refine read_bad (x := ptS (init ++ [a]) ++ p1S) (bad := wS a ++ p1S) (as := init) (post := []) (ne_of_tl (by rw [TL.tl_append, tp]; simp)) (by rw [len_add, lp1S]; omega) ?_ (okP_le o1) (by rw [List.length_append] at hl; omega)
      (fun T fs s3 => two_parts (by rw [len_add, lp1S]; omega) (by rw [three]; simp) T fs s3)
    rw [ex]
    exact TL.split_join (s := 32) (S := []) tl_sS (by decide +kernel) (by simp) fun p hp => by
      rcases List.mem_append.mp hp with z | z
      · exact word_sp o1 p z
      · rw [List.mem_singleton.mp z, TL.tl_append, tp]
        intro y
        rcases List.mem_append.mp y with y | y
        · exact word_sp o (wS a) (by simp) y
        · simp at y
end Lp

/-! # Plain law, part Y3: deeds and their texts -/
namespace Lp
open PySem
inductive De where
  | one (k : Nat) (n : Int)
  | back (n : Int) (g : Bool)
def dwS : Nat → Str
  | 0 => "ask"
  | 1 => "left"
  | 2 => "spoil"
  | _ => "wait"
def bkS : Str := "back"
def gdS : Bool → Str
  | true => "good"
  | false => "broken"
def nlS : Str := "\n"
def dDe : De → D
  | .one k n => .tup [.str (dwS k), .int n]
  | .back n g => .tup [.str bkS, .int n, .bl g]
def De.num : De → Int
  | .one _ n => n
  | .back n _ => n
def De.Ok (d : De) : Prop := 0 ≤ d.num ∧ d.num ≤ 999
def De.ws : De → List Str
  | .one k n => [dwS k, nS n]
  | .back n g => [bkS, nS n, gdS g]
def lnS (d : De) : Str := Txt.join sS d.ws
def dtS (ds : List De) : Str := Txt.join nlS (ds.map lnS)
theorem dDe_pure (d : De) : (dDe d).pure = true := by cases d <;> rfl
structure WdOk (x : Str) : Prop where
  sp : 32 ∉ TL.tl x
  nl : 10 ∉ TL.tl x
  le : x.length ≤ 6
  ge : 1 ≤ x.length
theorem wd_of {x : Str} (h : (!((TL.tl x).contains 32 || (TL.tl x).contains 10) && (decide (x.length ≤ 6) && decide (1 ≤ x.length))) = true) : WdOk x := by
  simp only [Bool.and_eq_true, Bool.not_eq_true', Bool.or_eq_false_iff, decide_eq_true_eq] at h
  exact ⟨by simpa using h.1.1, by simpa using h.1.2, h.2.1, h.2.2⟩
theorem dw_ok (k : Nat) : WdOk (dwS k) := by
  rcases k with _ | _ | _ | k
  · exact wd_of (by decide +kernel)
  · exact wd_of (by decide +kernel)
  · exact wd_of (by decide +kernel)
  · exact wd_of (x := "wait") (by decide +kernel)
theorem bk_ok : WdOk bkS := wd_of (by decide +kernel)
theorem gd_ok (g : Bool) : WdOk (gdS g) := by cases g <;> exact wd_of (by decide +kernel)
theorem tl_nl : TL.tl nlS = [10] := by decide +kernel
theorem num_wd {n : Int} (h : NumOk n) : WdOk (nS n) := ⟨h.sp, h.nl, by have := h.le; omega, h.ge⟩
theorem ws_ok {d : De} (h : d.Ok) : ∀ p ∈ d.ws, WdOk p := by
  cases d with
  | one k n =>
    intro p hp
    simp only [De.ws, List.mem_cons, List.not_mem_nil, or_false] at hp
    rcases hp with z | z <;> subst z
    · exact dw_ok k
    · exact num_wd (num_ok h.1 h.2)
  | back n g =>
    intro p hp
    simp only [De.ws, List.mem_cons, List.not_mem_nil, or_false] at hp
    rcases hp with z | z | z <;> subst z
    · exact bk_ok
    · exact num_wd (num_ok h.1 h.2)
    · exact gd_ok g
theorem tl_lnS (d : De) : TL.tl (lnS d) = TL.joinL [32] (d.ws.map TL.tl) := by
  unfold lnS
  rw [TL.join_eq, TL.tl_join, tl_sS]
theorem lnS_split {d : De} (h : d.Ok) : Txt.split (lnS d) sS = d.ws :=
  TL.split_join (s := 32) (S := []) tl_sS (by decide +kernel) (by cases d <;> simp [De.ws]) fun p hp => (ws_ok h p hp).sp
theorem joinL_mem {S : List Nat} {x : Nat} (hS : x ∉ S) : ∀ (ps : List (List Nat)), (∀ p ∈ ps, x ∉ p) → x ∉ TL.joinL S ps
  | [], _ => by simp [TL.joinL]
  | [p], h => h p List.mem_cons_self
  | p :: q :: ps, h => by
    intro z
    have z' : x ∈ p ++ (S ++ TL.joinL S (q :: ps)) := z
    rcases List.mem_append.mp z' with y | y
    · exact h p List.mem_cons_self y
    · rcases List.mem_append.mp y with y | y
      · exact hS y
      · exact joinL_mem hS (q :: ps) (fun r hr => h r (List.mem_cons_of_mem _ hr)) y
theorem lnS_nl {d : De} (h : d.Ok) : 10 ∉ TL.tl (lnS d) := by
  rw [tl_lnS]
  refine joinL_mem (by simp) _ fun p hp => ?_
  obtain ⟨q, hq, e⟩ := List.mem_map.mp hp
  rw [← e]
  exact (ws_ok h q hq).nl
theorem lnS_len {d : De} (h : d.Ok) : (lnS d).length ≤ 30 := by
  rw [TL.len_tl, tl_lnS]
  have := joinL_len (S := [32]) (k := 6) (d.ws.map TL.tl) fun p hp => by
    obtain ⟨q, hq, e⟩ := List.mem_map.mp hp
    rw [← e, ← TL.len_tl]
    exact (ws_ok h q hq).le
  rw [List.length_map] at this
  have l : d.ws.length ≤ 3 := by cases d <;> simp [De.ws]
  have := Nat.mul_le_mul_right (6 + [32].length) l
  simp at *
  omega
theorem tl_dtS (ds : List De) : TL.tl (dtS ds) = TL.joinL [10] (ds.map fun d => TL.tl (lnS d)) := by
  unfold dtS
  rw [TL.join_eq, TL.tl_join, tl_nl, List.map_map]
  rfl
theorem dtS_len {ds : List De} (h : ∀ d ∈ ds, d.Ok) : (dtS ds).length ≤ ds.length * 31 := by
  rw [TL.len_tl, tl_dtS]
  have := joinL_len (S := [10]) (k := 30) (ds.map fun d => TL.tl (lnS d)) fun p hp => by
    obtain ⟨d, hd, e⟩ := List.mem_map.mp hp
    rw [← e, ← TL.len_tl]
    exact lnS_len (h d hd)
  rw [List.length_map] at this
  simpa using this
theorem dtS_split {ds : List De} (h : ∀ d ∈ ds, d.Ok) (ne : ds ≠ []) : Txt.split (dtS ds) nlS = ds.map lnS :=
  TL.split_join (s := 10) (S := []) tl_nl (by decide +kernel) (by simpa using ne) fun p hp => by
    obtain ⟨d, hd, e⟩ := List.mem_map.mp hp
    rw [← e]
    exact lnS_nl (h d hd)
theorem lnS_ge {d : De} (h : d.Ok) : 1 ≤ (TL.tl (lnS d)).length := by
  rw [tl_lnS]
  cases d with
  | one k n =>
    have := (dw_ok k).ge
    rw [TL.len_tl] at this
    show 1 ≤ (TL.tl (dwS k) ++ ([32] ++ TL.tl (nS n))).length
    rw [List.length_append]
    omega
  | back n g =>
    have := bk_ok.ge
    rw [TL.len_tl] at this
    show 1 ≤ (TL.tl bkS ++ ([32] ++ (TL.tl (nS n) ++ ([32] ++ TL.tl (gdS g))))).length
    rw [List.length_append]
    omega
theorem dtS_ne {ds : List De} (h : ∀ d ∈ ds, d.Ok) (ne : ds ≠ []) : ¬ dtS ds = "" := fun z => by
  have t := congrArg TL.tl z
  rw [tl_dtS, tl_e] at t
  cases ds with
  | nil => exact ne rfl
  | cons a ds =>
    have l := congrArg List.length t
    have w := lnS_ge (h a List.mem_cons_self)
    cases ds with
    | nil =>
      have l' : (TL.tl (lnS a)).length = 0 := l
      omega
    | cons b ds =>
      have l' : (TL.tl (lnS a) ++ ([10] ++ TL.joinL [10] ((b :: ds).map fun d => TL.tl (lnS d)))).length = 0 := l
      rw [List.length_append] at l'
      omega
/-! ### which are deeds -/
def szs : List (Str × Int) := [("ask", 1), ("back", 2), ("left", 1), ("spoil", 1), ("wait", 1)]
theorem is_deed_ok (d : De) : Mi.is_deed [dDe d] = .ok (.bl true) := by
  cases d with
  | one k n =>
    rcases k with _ | _ | _ | k <;> rfl
  | back n g => rfl
local macro_rules | `(tactic| simp_all only [$as:simpLemma,*]) => `(tactic| simp only [R.bind_ok, R.bind_ex, R.bind_no, R.of_some, R.of_none, asInts_map, Out.seq_nx, Out.seq_rt, Out.seq_bk, Out.seq_ct, Out.seq_ex, Out.seq_no, R.out_ok, R.out_ex, R.out_no, E.c_eq, E.var_eq, E.un_eq, E.bin_eq, E.nil_eq, E.cons_eq, E.call_eq, E.ite_eq, E.andV_eq, E.orV_eq, E.notV_eq, E.chain_eq, E.methL_eq, E.none_eq, E.part_eq, E.slice_eq, asPart_int, B.val_eq, B.tru_eq, B.and_eq, B.or_eq, B.not_eq, B.yes_eq, truD_bl, truD_int, truD_lst, truD_tup, vw_nil, vw_zero, vw_succ, Sl.vw_no, Sl.vw_sh, Sl.vw_ow, Fl.lst_eq, Fl.add_eq, Fl.rep_eq, Fl.slice_eq, Fl.rev_eq, Fl.list_eq, Fl.sort_eq, Fl.call_eq, Fl.comp_eq, okLst_eq, I.items_eq, I.zip_eq, I.enum_eq, I.range1_eq, I.range2_eq, itemsD_lst, itemsD_tup, itemsD_fix, zipD_eq, enumD_eq, Z.px_eq, Z.pf_eq, Z.var_zero, Z.var_succ, S.seq_eq, S.nil_eq, S.drop_eq, S.ret_eq, S.retF_eq, S.retO_eq, S.retN_eq, S.withL_zero, S.withL_succ, S.putL_eq, S.ite_eq, S.set_eq, S.own_eq, S.bind_eq, S.app_eq, S.seti_eq, S.setD_int, S.putM_some, S.raise_eq, S.frzA_eq, S.frz_eq, S.never_eq, S.brk_eq, S.cont_eq, S.loop_eq, S.while_eq, noOw_nil, noOw_cons, Sl.noOw_no, Sl.noOw_sh, Sl.noOw_ow, frz1_zero, frz1_succ, Sl.frz_no, Sl.frz_sh, Sl.frz_ow, bindT_nm, bindT_tp, bindTs_nil, bindTs_cons, setsE_nil, setsE_cons, wipeE_nil, wipeE_cons, R.noex_ok, Fn.X_eq, Fn.F_eq, Fn.run1, Fn.run2, Fn.run3, Fn.outX_nx, Fn.outX_rt, Fn.outX_ex, Fn.outF_rt, Fn.outF_ex, on1_eq, on2_eq, index1_eq, D.pure_int, D.pure_bl, D.pure_str, D.pure_non, D.pure_tup, D.pure_lst, D.pures_nil, D.pures_cons, D.pures_app, D.pures_ints, addD_int, addD_lst, addD_tup, addI_int, subD_int, negD_int, ltD_int, leD_int, gtD_int, geD_int, max2D_int, min2D_int, lenD_lst, lenD_tup, lenD_fix, tupleD_lst, ixD_lst, ixD_tup, ixD_fix, tupD_two, tupD_three, lstD_one, lstD_two, lstD_three, lstD_nil, onInts_ints, sort1_ints, add2_eq, eqD_int, neD_int, within_int, noObj_int, noObj_bl, noObj_non, noObj_str, noObj_tup, noObj_lst, is_within_int, is_within_non, is_within_bl, is_within_str, is_within_tup, is_within_lst, dA_pure, itemsD_dA, lenD_dA, slD_tup, slD_lst, rev1_lst, S.ownD_eq, S.withD_zero, S.withD_succ, S.dput_eq, tupD_nil, S.ext_eq, E.join_eq, Fl.split_eq, Fl.ite_eq, isS_str, S.tryX_eq, tupD_four, List.replicate, List.set_cons_succ, List.set_cons_zero, if_true, Bool.true_or, Bool.or_true, Bool.true_and, Bool.and_true, Bool.and_self, Bool.not_true, Bool.not_false, Bool.false_eq_true, if_false, Bool.or_false, Bool.false_or, Bool.false_and, Bool.and_false, List.length_map, List.length_nil, Nat.zero_le, List.append_nil, List.singleton_append, List.nil_append, and_self, true_and, and_true, false_and, and_false, decide_true, decide_false, $as:simpLemma,*])
theorem is_plain_ok {d : De} (h : d.Ok) : Mi.is_plain [dDe d] = .ok (.bl true) := by
  have key : ∀ n : Int, 0 ≤ n → n ≤ 999 → Mi.is_within [.int n, .int 0, .int 999] = .ok (.bl true) := fun n h0 h1 => by
    rw [is_within_int]
    simp [h0, h1]
  have w := key d.num h.1 h.2
  cases d with
  | one k n =>
    have e : eqD (.str (dwS k)) (.str "back") = .ok (.bl false) := by
      rw [eqD_str]
      have : ¬ dwS k = "back" := by
        rcases k with _ | _ | _ | k
        · decide +kernel
        · decide +kernel
        · decide +kernel
        · exact show ¬ ("wait" : Str) = "back" by decide +kernel
      simp [this]
    have i0 : ixD (dDe (.one k n)) (.int 0) = .ok (.str (dwS k)) := rfl
    have i1 : ixD (dDe (.one k n)) (.int 1) = .ok (.int n) := rfl
    have w' : Mi.is_within [.int n, .int 0, .int 999] = .ok (.bl true) := w
    unfold Mi.is_plain Mi.b_is_plain
    simp_all only [i0, i1, e, w']
  | back n g =>
    have e : eqD (.str bkS) (.str "back") = .ok (.bl true) := by
      rw [eqD_str]
      have : bkS = "back" := rfl
      simp [this]
    have i0 : ixD (dDe (.back n g)) (.int 0) = .ok (.str bkS) := rfl
    have i1 : ixD (dDe (.back n g)) (.int 1) = .ok (.int n) := rfl
    have i2 : ixD (dDe (.back n g)) (.int 2) = .ok (.bl g) := rfl
    have b : isBool (.bl g) = .ok (.bl true) := rfl
    have w' : Mi.is_within [.int n, .int 0, .int 999] = .ok (.bl true) := w
    unfold Mi.is_plain Mi.b_is_plain
    simp_all only [i0, i1, i2, e, b, w']
end Lp

/-! # Plain law, part Y4: deeds written -/
namespace Lp
open PySem
def l0S (w : Str) (n : Int) : Str := w ++ sS ++ nS n
def sgS : Bool → Str
  | true => " good"
  | false => " broken"
theorem ln_one (k : Nat) (n : Int) : lnS (.one k n) = l0S (dwS k) n := by
  refine TL.ext_tl ?_
  unfold l0S
  rw [tl_lnS, TL.tl_append, TL.tl_append, tl_sS, List.append_assoc]
  rfl
theorem ln_back (n : Int) (g : Bool) : lnS (.back n g) = l0S bkS n ++ sgS g := by
  refine TL.ext_tl ?_
  unfold l0S
  have e : TL.tl (sgS g) = [32] ++ TL.tl (gdS g) := by cases g <;> decide +kernel
  rw [tl_lnS, TL.tl_append, TL.tl_append, TL.tl_append, tl_sS, e]
  show TL.tl bkS ++ ([32] ++ (TL.tl (nS n) ++ ([32] ++ TL.tl (gdS g)))) = _
  simp
theorem l0_val {w : Str} {n : Int} (hw : WdOk w) (hn : NumOk n) : (addD (.str w) (.str " ")).bind (fun x => (strD (.int n)).bind fun y => addD x y) = .ok (.str (l0S w n)) ∧ (l0S w n).length ≤ 10 := by
  have lw := hw.le
  have ln := hn.le
  have a1 : addD (.str w) (.str " ") = .ok (.str (w ++ sS)) := str_add (y := sS) (by rw [ls1]; omega)
  have e1 := len_add w sS
  have a2 := str_add (x := w ++ sS) (y := nS n) (by rw [e1, ls1]; omega)
  refine ⟨by rw [a1, R.bind_ok, hn.st, R.bind_ok, a2]; rfl, ?_⟩
  unfold l0S
  rw [len_add, e1, ls1]
  omega
theorem sg_len (g : Bool) : (sgS g).length ≤ 10 := by cases g <;> decide +kernel
theorem dw_ne (k : Nat) : ¬ dwS k = "back" := by
  rcases k with _ | _ | _ | k
  · decide +kernel
  · decide +kernel
  · decide +kernel
  · exact show ¬ ("wait" : Str) = "back" by decide +kernel
theorem eq_dw (k : Nat) : eqD (.str (dwS k)) (.str "back") = .ok (.bl false) := by
  rw [eqD_str]
  simp [dw_ne k]
theorem eq_bk : eqD (.str bkS) (.str "back") = .ok (.bl true) := by
  rw [eqD_str]
  have : bkS = "back" := rfl
  simp [this]
def dls (ds : List De) : List D := ds.map dDe
def lns (ds : List De) : List D := (ds.map lnS).map D.str
theorem lns_snoc (ds : List De) (d : De) : lns (ds ++ [d]) = lns ds ++ [.str (lnS d)] := by simp [lns]
local macro_rules | `(tactic| simp_all only [$as:simpLemma,*]) => `(tactic| simp only [R.bind_ok, R.bind_ex, R.bind_no, R.of_some, R.of_none, asInts_map, Out.seq_nx, Out.seq_rt, Out.seq_bk, Out.seq_ct, Out.seq_ex, Out.seq_no, R.out_ok, R.out_ex, R.out_no, E.c_eq, E.var_eq, E.un_eq, E.bin_eq, E.nil_eq, E.cons_eq, E.call_eq, E.ite_eq, E.andV_eq, E.orV_eq, E.notV_eq, E.chain_eq, E.methL_eq, E.none_eq, E.part_eq, E.slice_eq, asPart_int, B.val_eq, B.tru_eq, B.and_eq, B.or_eq, B.not_eq, B.yes_eq, truD_bl, truD_int, truD_lst, truD_tup, vw_nil, vw_zero, vw_succ, Sl.vw_no, Sl.vw_sh, Sl.vw_ow, Fl.lst_eq, Fl.add_eq, Fl.rep_eq, Fl.slice_eq, Fl.rev_eq, Fl.list_eq, Fl.sort_eq, Fl.call_eq, Fl.comp_eq, okLst_eq, I.items_eq, I.zip_eq, I.enum_eq, I.range1_eq, I.range2_eq, itemsD_lst, itemsD_tup, itemsD_fix, zipD_eq, enumD_eq, Z.px_eq, Z.pf_eq, Z.var_zero, Z.var_succ, S.seq_eq, S.nil_eq, S.drop_eq, S.ret_eq, S.retF_eq, S.retO_eq, S.retN_eq, S.withL_zero, S.withL_succ, S.putL_eq, S.ite_eq, S.set_eq, S.own_eq, S.bind_eq, S.app_eq, S.seti_eq, S.setD_int, S.putM_some, S.raise_eq, S.frzA_eq, S.frz_eq, S.never_eq, S.brk_eq, S.cont_eq, S.loop_eq, S.while_eq, noOw_nil, noOw_cons, Sl.noOw_no, Sl.noOw_sh, Sl.noOw_ow, frz1_zero, frz1_succ, Sl.frz_no, Sl.frz_sh, Sl.frz_ow, bindT_nm, bindT_tp, bindTs_nil, bindTs_cons, setsE_nil, setsE_cons, wipeE_nil, wipeE_cons, R.noex_ok, Fn.X_eq, Fn.F_eq, Fn.run1, Fn.run2, Fn.run3, Fn.outX_nx, Fn.outX_rt, Fn.outX_ex, Fn.outF_rt, Fn.outF_ex, on1_eq, on2_eq, index1_eq, D.pure_int, D.pure_bl, D.pure_str, D.pure_non, D.pure_tup, D.pure_lst, D.pures_nil, D.pures_cons, D.pures_app, D.pures_ints, addD_int, addD_lst, addD_tup, addI_int, subD_int, negD_int, ltD_int, leD_int, gtD_int, geD_int, max2D_int, min2D_int, lenD_lst, lenD_tup, lenD_fix, tupleD_lst, ixD_lst, ixD_tup, ixD_fix, tupD_two, tupD_three, lstD_one, lstD_two, lstD_three, lstD_nil, onInts_ints, sort1_ints, add2_eq, eqD_int, neD_int, within_int, noObj_int, noObj_bl, noObj_non, noObj_str, noObj_tup, noObj_lst, is_within_int, is_within_non, is_within_bl, is_within_str, is_within_tup, is_within_lst, dA_pure, itemsD_dA, lenD_dA, slD_tup, slD_lst, rev1_lst, S.ownD_eq, S.withD_zero, S.withD_succ, S.dput_eq, tupD_nil, S.ext_eq, E.join_eq, Fl.split_eq, Fl.ite_eq, isS_str, S.tryX_eq, tupD_four, List.replicate, List.set_cons_succ, List.set_cons_zero, if_true, Bool.true_or, Bool.or_true, Bool.true_and, Bool.and_true, Bool.and_self, Bool.not_true, Bool.not_false, Bool.false_eq_true, if_false, Bool.or_false, Bool.false_or, Bool.false_and, Bool.and_false, List.length_map, List.length_nil, Nat.zero_le, List.append_nil, List.singleton_append, List.nil_append, and_self, true_and, and_true, false_and, and_false, decide_true, decide_false, $as:simpLemma,*])
theorem ldt_step (A : D) (ds : List De) (d : De) (s3 : Sl) (h : d.Ok) (hl : ds.length ≤ 1000) : ∃ t3, Mi.l1_law_deeds_text [.sh A, .ow (.node .leaf) (.lst (lns ds)), .sh (dDe d), s3] = .nx [.sh A, .ow (.node .leaf) (.lst (lns (ds ++ [d]))), .sh (dDe d), t3] := by
  have ll : (lns ds).length < 16777216 := by unfold lns; rw [List.length_map, List.length_map]; omega
  cases d with
  | one k n =>
    obtain ⟨v, _⟩ := l0_val (dw_ok k) (num_ok (n := n) h.1 h.2)
    have i0 : ixD (dDe (.one k n)) (.int 0) = .ok (.str (dwS k)) := rfl
    have i1 : ixD (dDe (.one k n)) (.int 1) = .ok (.int n) := rfl
    refine ⟨.sh (.str (l0S (dwS k) n)), ?_⟩
    rw [lns_snoc, ln_one]
    unfold Mi.l1_law_deeds_text
    refine (seq_step (e' := [.sh A, .ow (.node .leaf) (.lst (lns ds)), .sh (dDe (.one k n)), .sh (.str (l0S (dwS k) n))]) (by
      have z : E.bin addD (E.bin addD (E.bin ixD (E.var 2) (E.c (.int 0))) (E.c (.str " "))) (E.call (on1 strD) (E.cons (E.bin ixD (E.var 2) (E.c (.int 1))) E.nil)) [.sh A, .ow (.node .leaf) (.lst (lns ds)), .sh (dDe (.one k n)), s3] = .ok (.str (l0S (dwS k) n)) := by
        simp only [E.bin_eq, E.var_eq, E.c_eq, E.call_eq, E.cons_eq, E.nil_eq, on1_eq, vw_zero, vw_succ, Sl.vw_sh, R.of_some, R.bind_ok, i0, i1]
        exact v
      rw [S.set_eq, Z.px_eq, z]
      rfl)).trans ?_
    refine (seq_step (by simp_all only [i0, eq_dw, ll] <;> rfl)).trans rfl
  | back n g =>
    obtain ⟨v, vl⟩ := l0_val bk_ok (num_ok (n := n) h.1 h.2)
    have i0 : ixD (dDe (.back n g)) (.int 0) = .ok (.str bkS) := rfl
    have i1 : ixD (dDe (.back n g)) (.int 1) = .ok (.int n) := rfl
    have i2 : ixD (dDe (.back n g)) (.int 2) = .ok (.bl g) := rfl
    have gl := sg_len g
    have a : addD (.str (l0S bkS n)) (.str (sgS g)) = .ok (.str (lnS (.back n g))) := by rw [ln_back]; exact str_add (by omega)
    have l2 : lstD [.str " broken", .str " good"] = .ok (.lst [.str " broken", .str " good"]) := rfl
    have ig : ∃ i, intD (.bl g) = .ok (.int i) ∧ ixD (.lst [.str " broken", .str " good"]) (.int i) = .ok (.str (sgS g)) := by cases g <;> exact ⟨_, rfl, rfl⟩
    obtain ⟨i, ii, ig⟩ := ig
    refine ⟨.sh (.str (l0S bkS n)), ?_⟩
    rw [lns_snoc]
    unfold Mi.l1_law_deeds_text
    refine (seq_step (e' := [.sh A, .ow (.node .leaf) (.lst (lns ds)), .sh (dDe (.back n g)), .sh (.str (l0S bkS n))]) (by
      have z : E.bin addD (E.bin addD (E.bin ixD (E.var 2) (E.c (.int 0))) (E.c (.str " "))) (E.call (on1 strD) (E.cons (E.bin ixD (E.var 2) (E.c (.int 1))) E.nil)) [.sh A, .ow (.node .leaf) (.lst (lns ds)), .sh (dDe (.back n g)), s3] = .ok (.str (l0S bkS n)) := by
        simp only [E.bin_eq, E.var_eq, E.c_eq, E.call_eq, E.cons_eq, E.nil_eq, on1_eq, vw_zero, vw_succ, Sl.vw_sh, R.of_some, R.bind_ok, i0, i1]
        exact v
      rw [S.set_eq, Z.px_eq, z]
      rfl)).trans ?_
    refine (seq_step (by simp_all only [i0, i2, eq_bk, l2, ii, ig, a, ll] <;> rfl)).trans rfl
theorem dt_step (A : D) (ds : List De) (d : De) (s3 : Sl) (h : d.Ok) (hl : ds.length ≤ 1000) : ∃ t3, Mi.l1_deeds_text [.sh A, .sh (dDe d), .ow (.node .leaf) (.lst (lns ds)), s3] = .nx [.sh A, .sh (dDe d), .ow (.node .leaf) (.lst (lns (ds ++ [d]))), t3] := by
  have ll : (lns ds).length < 16777216 := by unfold lns; rw [List.length_map, List.length_map]; omega
  cases d with
  | one k n =>
    obtain ⟨v, _⟩ := l0_val (dw_ok k) (num_ok (n := n) h.1 h.2)
    have i0 : ixD (dDe (.one k n)) (.int 0) = .ok (.str (dwS k)) := rfl
    have i1 : ixD (dDe (.one k n)) (.int 1) = .ok (.int n) := rfl
    refine ⟨.sh (.str (l0S (dwS k) n)), ?_⟩
    rw [lns_snoc, ln_one]
    unfold Mi.l1_deeds_text
    refine (seq_step (e' := [.sh A, .sh (dDe (.one k n)), .ow (.node .leaf) (.lst (lns ds)), .sh (.str (l0S (dwS k) n))]) (by
      have z : E.bin addD (E.bin addD (E.bin ixD (E.var 1) (E.c (.int 0))) (E.c (.str " "))) (E.call (on1 strD) (E.cons (E.bin ixD (E.var 1) (E.c (.int 1))) E.nil)) [.sh A, .sh (dDe (.one k n)), .ow (.node .leaf) (.lst (lns ds)), s3] = .ok (.str (l0S (dwS k) n)) := by
        simp only [E.bin_eq, E.var_eq, E.c_eq, E.call_eq, E.cons_eq, E.nil_eq, on1_eq, vw_zero, vw_succ, Sl.vw_sh, R.of_some, R.bind_ok, i0, i1]
        exact v
      rw [S.set_eq, Z.px_eq, z]
      rfl)).trans ?_
    refine (seq_step (e' := [.sh A, .sh (dDe (.one k n)), .ow (.node .leaf) (.lst (lns ds)), .sh (.str (l0S (dwS k) n))]) (by simp_all only [i0, eq_dw])).trans ?_
    refine (seq_step (by simp_all only [ll] <;> rfl)).trans rfl
  | back n g =>
    obtain ⟨v, vl⟩ := l0_val bk_ok (num_ok (n := n) h.1 h.2)
    have i0 : ixD (dDe (.back n g)) (.int 0) = .ok (.str bkS) := rfl
    have i1 : ixD (dDe (.back n g)) (.int 1) = .ok (.int n) := rfl
    have i2 : ixD (dDe (.back n g)) (.int 2) = .ok (.bl g) := rfl
    have gl := sg_len g
    have a : addS_ (.str (l0S bkS n)) (.str (sgS g)) = .ok (.str (lnS (.back n g))) := by
      rw [ln_back]
      show (if (l0S bkS n).length + (sgS g).length ≤ sizeLine then R.ok (D.str (l0S bkS n ++ sgS g)) else .no) = _
      rw [if_pos (by rw [sizeLine_eq]; omega)]
    refine ⟨.sh (.str (lnS (.back n g))), ?_⟩
    rw [lns_snoc]
    unfold Mi.l1_deeds_text
    refine (seq_step (e' := [.sh A, .sh (dDe (.back n g)), .ow (.node .leaf) (.lst (lns ds)), .sh (.str (l0S bkS n))]) (by
      have z : E.bin addD (E.bin addD (E.bin ixD (E.var 1) (E.c (.int 0))) (E.c (.str " "))) (E.call (on1 strD) (E.cons (E.bin ixD (E.var 1) (E.c (.int 1))) E.nil)) [.sh A, .sh (dDe (.back n g)), .ow (.node .leaf) (.lst (lns ds)), s3] = .ok (.str (l0S bkS n)) := by
        simp only [E.bin_eq, E.var_eq, E.c_eq, E.call_eq, E.cons_eq, E.nil_eq, on1_eq, vw_zero, vw_succ, Sl.vw_sh, R.of_some, R.bind_ok, i0, i1]
        exact v
      rw [S.set_eq, Z.px_eq, z]
      rfl)).trans ?_
    refine (seq_step (e' := [.sh A, .sh (dDe (.back n g)), .ow (.node .leaf) (.lst (lns ds)), .sh (.str (lnS (.back n g)))]) (by
      have t : B.val (E.bin eqD (E.bin ixD (E.var 1) (E.c (.int 0))) (E.c (.str "back"))) [.sh A, .sh (dDe (.back n g)), .ow (.node .leaf) (.lst (lns ds)), .sh (.str (l0S bkS n))] = .ok true := by simp_all only [i0, eq_bk]
      have f : E.ite (B.tru (E.bin ixD (E.var 1) (E.c (.int 2)))) (E.c (.str " good")) (E.c (.str " broken")) [.sh A, .sh (dDe (.back n g)), .ow (.node .leaf) (.lst (lns ds)), .sh (.str (l0S bkS n))] = .ok (.str (sgS g)) := by
        cases g <;> simp_all only [i2] <;> rfl
      rw [S.ite_eq, t]
      simp only [R.out_ok, if_true]
      exact (seq_step (aug_at (d0 := .str (l0S bkS n)) (d := .str (sgS g)) (r := .str (lnS (.back n g))) rfl f a rfl)).trans rfl)).trans ?_
    refine (seq_step (by simp_all only [ll] <;> rfl)).trans rfl
theorem join_lines {ds : List De} (h : ∀ d ∈ ds, d.Ok) (hl : ds.length ≤ 1000) : joinD (.str "\n") (.lst (lns ds)) = .ok (.str (dtS ds)) := by
  have sl : ((ds.map lnS).map (·.length)).sum + (ds.map lnS).length * nlS.length ≤ 16777216 := by
    have h1 : ∀ (bs : List De), (∀ d ∈ bs, d.Ok) → ((bs.map lnS).map (·.length)).sum ≤ 30 * bs.length := by
      intro bs
      induction bs with
      | nil => intro _; exact Nat.le_refl _
      | cons a bs ih =>
        intro h
        rw [List.map_cons, List.map_cons, List.sum_cons, List.length_cons]
        have := ih fun x hx => h x (List.mem_cons_of_mem _ hx)
        have := lnS_len (h a List.mem_cons_self)
        omega
    have h2 := h1 ds h
    have lp : nlS.length = 1 := by decide +kernel
    rw [List.length_map, lp]
    omega
  show (R.of (asStrs ((ds.map lnS).map D.str))).bind _ = _
  rw [asStrs_map]
  exact if_pos sl
theorem law_deeds_text_eq {ds : List De} (h : ∀ d ∈ ds, d.Ok) (hl : ds.length ≤ 500) : Mi.law_deeds_text [.lst (dls ds)] = .ok (.str (dtS ds)) := by
  have key : ∀ (rest pre : List De) (s2 s3 : Sl), (∀ d ∈ rest, d.Ok) → pre.length + rest.length ≤ 1000 → ∃ t2 t3, loopM (.nm 2) Mi.l1_law_deeds_text (dls rest) [.sh (.lst (dls ds)), .ow (.node .leaf) (.lst (lns pre)), s2, s3] = .nx [.sh (.lst (dls ds)), .ow (.node .leaf) (.lst (lns (pre ++ rest))), t2, t3] := by
    intro rest
    induction rest with
    | nil => intro pre s2 s3 _ _; exact ⟨s2, s3, by rw [List.append_nil]; rfl⟩
    | cons d rest ih =>
      intro pre s2 s3 h h2
      rw [List.length_cons] at h2
      obtain ⟨t3, st⟩ := ldt_step (.lst (dls ds)) pre d s3 (h d List.mem_cons_self) (by omega)
      obtain ⟨u2, u3, z⟩ := ih (pre ++ [d]) (.sh (dDe d)) t3 (fun x hx => h x (List.mem_cons_of_mem _ hx)) (by rw [List.length_append]; simp; omega)
      rw [List.append_assoc] at z
      exact ⟨u2, u3, (loop_cons (bindT_nm _ _) st).trans z⟩
  obtain ⟨t2, t3, lp⟩ := key ds [] .no .no h (by simp; omega)
  rw [List.nil_append] at lp
  have jn := join_lines h (by omega)
  unfold Mi.law_deeds_text Mi.b_law_deeds_text
  refine (fn1 (o := .rt (.str (dtS ds))) ?_).trans rfl
  simp only [List.replicate]
  refine (seq_step (e' := [.sh (.lst (dls ds)), .ow (.node .leaf) (.lst (lns [])), .no, .no]) (by rfl)).trans ?_
  refine (seq_step (e' := [.sh (.lst (dls ds)), .ow (.node .leaf) (.lst (lns ds)), t2, t3]) (by
    rw [S.loop_eq]
    have it : I.items (Z.var 0) [.sh (.lst (dls ds)), .ow (.node .leaf) (.lst (lns [])), .no, .no] = .ok (dls ds) := rfl
    rw [it]
    exact lp)).trans ?_
  rw [S.frz_eq]
  simp only [frz1_succ, frz1_zero, Sl.frz_ow]
  simp_all only [jn]
theorem deeds_text_eq {ds : List De} (h : ∀ d ∈ ds, d.Ok) (hl : ds.length ≤ 500) : Mi.deeds_text [.lst (dls ds)] = .ok (.str (dtS ds)) := by
  have key : ∀ (rest pre : List De) (s2 s3 : Sl), (∀ d ∈ rest, d.Ok) → pre.length + rest.length ≤ 1000 → ∃ t2 t3, loopM (.nm 1) Mi.l1_deeds_text (dls rest) [.sh (.lst (dls ds)), s2, .ow (.node .leaf) (.lst (lns pre)), s3] = .nx [.sh (.lst (dls ds)), t2, .ow (.node .leaf) (.lst (lns (pre ++ rest))), t3] := by
    intro rest
    induction rest with
    | nil => intro pre s2 s3 _ _; exact ⟨s2, s3, by rw [List.append_nil]; rfl⟩
    | cons d rest ih =>
      intro pre s2 s3 h h2
      rw [List.length_cons] at h2
      obtain ⟨t3, st⟩ := dt_step (.lst (dls ds)) pre d s3 (h d List.mem_cons_self) (by omega)
      obtain ⟨u2, u3, z⟩ := ih (pre ++ [d]) (.sh (dDe d)) t3 (fun x hx => h x (List.mem_cons_of_mem _ hx)) (by rw [List.length_append]; simp; omega)
      rw [List.append_assoc] at z
      exact ⟨u2, u3, (loop_cons (bindT_nm _ _) st).trans z⟩
  obtain ⟨t2, t3, lp⟩ := key ds [] .no .no h (by simp; omega)
  rw [List.nil_append] at lp
  have jn := join_lines h (by omega)
  have e1 := lcM_map (t := .nm 1) (vs := [1]) (test := B.or (B.not (B.tru (E.call Mi.is_deed (E.cons (E.var 1) E.nil)))) (B.not (B.tru (E.call Mi.is_plain (E.cons (E.var 1) E.nil))))) (elt := E.var 1) (e := [.sh (.lst (dls ds)), .no, .no, .no])
    dDe dDe (fun _ => false) ds (fun d hd => ⟨[(1, dDe d)], bindT_nm _ _, by
      have a := is_deed_ok d
      have b := is_plain_ok (h d hd)
      simp_all only [a, b], fun z => by cases z⟩)
  have f0 : ds.filter (fun _ => false) = [] := List.filter_eq_nil_iff.mpr fun _ _ z => by cases z
  rw [f0] at e1
  unfold Mi.deeds_text Mi.b_deeds_text
  refine (fn1 (o := .rt (.str (dtS ds))) ?_).trans rfl
  simp only [List.replicate]
  refine (seq_step (e' := [.sh (.lst (dls ds)), .no, .no, .no]) (by
    have il : isLst (.lst (dls ds)) = .ok (.bl true) := rfl
    have x : Fl.comp (I.items (E.var 0)) (.nm 1) [1] (B.or (B.not (B.tru (E.call Mi.is_deed (E.cons (E.var 1) E.nil)))) (B.not (B.tru (E.call Mi.is_plain (E.cons (E.var 1) E.nil))))) (E.var 1) [.sh (.lst (dls ds)), .no, .no, .no] = .ok [] := by
      rw [Fl.comp_eq, I.items_eq]
      simp_all only []
      rw [if_pos (by unfold dls; rw [List.length_map]; omega)]
      exact e1
    have t : B.or (B.not (B.tru (E.un isLst (E.var 0)))) (B.tru (E.call okLst (Fl.comp (I.items (E.var 0)) (.nm 1) [1] (B.or (B.not (B.tru (E.call Mi.is_deed (E.cons (E.var 1) E.nil)))) (B.not (B.tru (E.call Mi.is_plain (E.cons (E.var 1) E.nil))))) (E.var 1)))) [.sh (.lst (dls ds)), .no, .no, .no] = .ok false := by
      rw [B.or_eq, B.not_eq, B.tru_eq, B.tru_eq, E.un_eq, E.call_eq, x]
      simp_all only [il]
      rfl
    rw [S.ite_eq, t]
    rfl)).trans ?_
  refine (seq_step (e' := [.sh (.lst (dls ds)), .no, .ow (.node .leaf) (.lst (lns [])), .no]) (by rfl)).trans ?_
  refine (seq_step (e' := [.sh (.lst (dls ds)), t2, .ow (.node .leaf) (.lst (lns ds)), t3]) (by
    rw [S.loop_eq]
    have it : I.items (Z.var 0) [.sh (.lst (dls ds)), .no, .ow (.node .leaf) (.lst (lns [])), .no] = .ok (dls ds) := rfl
    rw [it]
    exact lp)).trans ?_
  rw [S.frz_eq]
  simp only [frz1_succ, frz1_zero, Sl.frz_ow]
  simp_all only [jn]
end Lp

/-! # Plain law, part Y5: deeds read -/
namespace Lp
open PySem
theorem dls_snoc (ds : List De) (d : De) : dls (ds ++ [d]) = dls ds ++ [dDe d] := by simp [dls]
theorem gd_in (g : Bool) : notInD (.str (gdS g)) (.tup [.str "good", .str "broken"]) = .ok (.bl false) := by
  have h : inD (.str (gdS g)) (.tup [.str "good", .str "broken"]) = .ok (.bl true) := by
    show (if (D.str (gdS g)).dt 8 = true ∧ D.dts 8 [.str "good", .str "broken"] = true then R.ok (D.bl ((D.pys [.str "good", .str "broken"]).any fun y => PyData.eqv y (D.str (gdS g)).py)) else R.no) = _
    rw [if_pos (by simp [D.dt, D.dts])]
    simp only [D.pys, D.py, List.any_cons, List.any_nil, eqv_str, Bool.or_false]
    cases g
    · have : ("broken" : Str) = gdS false := rfl
      simp [this]
    · have : ("good" : Str) = gdS true := rfl
      simp [this]
  unfold notInD
  rw [h]
  rfl
theorem gd_eq (g : Bool) : eqD (.str (gdS g)) (.str "good") = .ok (.bl g) := by
  rw [eqD_str]
  cases g
  · have : ¬ gdS false = "good" := by decide +kernel
    simp [this]
  · have : gdS true = "good" := rfl
    simp [this]
local macro_rules | `(tactic| simp_all only [$as:simpLemma,*]) => `(tactic| simp only [R.bind_ok, R.bind_ex, R.bind_no, R.of_some, R.of_none, asInts_map, Out.seq_nx, Out.seq_rt, Out.seq_bk, Out.seq_ct, Out.seq_ex, Out.seq_no, R.out_ok, R.out_ex, R.out_no, E.c_eq, E.var_eq, E.un_eq, E.bin_eq, E.nil_eq, E.cons_eq, E.call_eq, E.ite_eq, E.andV_eq, E.orV_eq, E.notV_eq, E.chain_eq, E.methL_eq, E.none_eq, E.part_eq, E.slice_eq, asPart_int, B.val_eq, B.tru_eq, B.and_eq, B.or_eq, B.not_eq, B.yes_eq, truD_bl, truD_int, truD_lst, truD_tup, vw_nil, vw_zero, vw_succ, Sl.vw_no, Sl.vw_sh, Sl.vw_ow, Fl.lst_eq, Fl.add_eq, Fl.rep_eq, Fl.slice_eq, Fl.rev_eq, Fl.list_eq, Fl.sort_eq, Fl.call_eq, Fl.comp_eq, okLst_eq, I.items_eq, I.zip_eq, I.enum_eq, I.range1_eq, I.range2_eq, itemsD_lst, itemsD_tup, itemsD_fix, zipD_eq, enumD_eq, Z.px_eq, Z.pf_eq, Z.var_zero, Z.var_succ, S.seq_eq, S.nil_eq, S.drop_eq, S.ret_eq, S.retF_eq, S.retO_eq, S.retN_eq, S.withL_zero, S.withL_succ, S.putL_eq, S.ite_eq, S.set_eq, S.own_eq, S.bind_eq, S.app_eq, S.seti_eq, S.setD_int, S.putM_some, S.raise_eq, S.frzA_eq, S.frz_eq, S.never_eq, S.brk_eq, S.cont_eq, S.loop_eq, S.while_eq, noOw_nil, noOw_cons, Sl.noOw_no, Sl.noOw_sh, Sl.noOw_ow, frz1_zero, frz1_succ, Sl.frz_no, Sl.frz_sh, Sl.frz_ow, bindT_nm, bindT_tp, bindTs_nil, bindTs_cons, setsE_nil, setsE_cons, wipeE_nil, wipeE_cons, R.noex_ok, Fn.X_eq, Fn.F_eq, Fn.run1, Fn.run2, Fn.run3, Fn.outX_nx, Fn.outX_rt, Fn.outX_ex, Fn.outF_rt, Fn.outF_ex, on1_eq, on2_eq, index1_eq, D.pure_int, D.pure_bl, D.pure_str, D.pure_non, D.pure_tup, D.pure_lst, D.pures_nil, D.pures_cons, D.pures_app, D.pures_ints, addD_int, addD_lst, addD_tup, addI_int, subD_int, negD_int, ltD_int, leD_int, gtD_int, geD_int, max2D_int, min2D_int, lenD_lst, lenD_tup, lenD_fix, tupleD_lst, ixD_lst, ixD_tup, ixD_fix, tupD_two, tupD_three, lstD_one, lstD_two, lstD_three, lstD_nil, onInts_ints, sort1_ints, add2_eq, eqD_int, neD_int, within_int, noObj_int, noObj_bl, noObj_non, noObj_str, noObj_tup, noObj_lst, is_within_int, is_within_non, is_within_bl, is_within_str, is_within_tup, is_within_lst, dA_pure, itemsD_dA, lenD_dA, slD_tup, slD_lst, rev1_lst, S.ownD_eq, S.withD_zero, S.withD_succ, S.dput_eq, tupD_nil, S.ext_eq, E.join_eq, Fl.split_eq, Fl.ite_eq, isS_str, S.tryX_eq, tupD_four, List.replicate, List.set_cons_succ, List.set_cons_zero, if_true, Bool.true_or, Bool.or_true, Bool.true_and, Bool.and_true, Bool.and_self, Bool.not_true, Bool.not_false, Bool.false_eq_true, if_false, Bool.or_false, Bool.false_or, Bool.false_and, Bool.and_false, List.length_map, List.length_nil, Nat.zero_le, List.append_nil, List.singleton_append, List.nil_append, and_self, true_and, and_true, false_and, and_false, decide_true, decide_false, $as:simpLemma,*])
theorem rd_step (T : D) (ds : List De) (d : De) (s3 s4 : Sl) (h : d.Ok) (hl : ds.length ≤ 1000) : ∃ t3 t4, Mi.l1_read_deeds [.sh T, .ow (.node .leaf) (.lst (dls ds)), .sh (.str (lnS d)), s3, s4] = .nx [.sh T, .ow (.node .leaf) (.lst (dls (ds ++ [d]))), .sh (.str (lnS d)), t3, t4] := by
  have ll : (dls ds).length < 16777216 := by unfold dls; rw [List.length_map]; omega
  have sp := splitD_ok (a := lnS d) (b := sS) (by rw [ls1]; omega) (by have := lnS_len h; omega)
  rw [lnS_split h] at sp
  replace sp : splitD (.str (lnS d)) (.str " ") = .ok (d.ws.map D.str) := sp
  have idd := is_deed_ok d
  have dp := dDe_pure d
  cases d with
  | one k n =>
    have on := (num_ok (n := n) h.1 h.2).of
    have pu : D.pures [.str (dwS k), .str (nS n)] = true := rfl
    replace sp : splitD (.str (lnS (.one k n))) (.str " ") = .ok [.str (dwS k), .str (nS n)] := sp
    have l2 : lenD (.lst [.str (dwS k), .str (nS n)]) = .ok (.int 2) := rfl
    have i0 : ixD (.lst [.str (dwS k), .str (nS n)]) (.int 0) = .ok (.str (dwS k)) := rfl
    have i1 : ixD (.lst [.str (dwS k), .str (nS n)]) (.int 1) = .ok (.str (nS n)) := rfl
    have n2 : neD (.int 2) (.int 2) = .ok (.bl false) := by rw [neD_int]; rfl
    have t2 : ltD (.int 2) (.int 2) = .ok (.bl false) := by rw [ltD_int]; rfl
    refine ⟨.sh (.lst [.str (dwS k), .str (nS n)]), .sh (dDe (.one k n)), ?_⟩
    rw [dls_snoc]
    unfold Mi.l1_read_deeds
    refine (seq_step (e' := [.sh T, .ow (.node .leaf) (.lst (dls ds)), .sh (.str (lnS (.one k n))), .sh (.lst [.str (dwS k), .str (nS n)]), s4]) (by simp_all only [sp, pu])).trans ?_
    refine (seq_step (e' := [.sh T, .ow (.node .leaf) (.lst (dls ds)), .sh (.str (lnS (.one k n))), .sh (.lst [.str (dwS k), .str (nS n)]), s4]) (by
      have t : B.or (B.val (E.bin ltD (E.call (on1 lenD) (E.cons (E.var 3) E.nil)) (E.c (.int 2)))) (B.and (B.val (E.bin eqD (E.bin ixD (E.var 3) (E.c (.int 0))) (E.c (.str "back")))) (B.or (B.val (E.bin neD (E.call (on1 lenD) (E.cons (E.var 3) E.nil)) (E.c (.int 3)))) (B.val (E.bin notInD (E.bin ixD (E.var 3) (E.c (.int 2))) (E.call tupD (E.cons (E.c (.str "good")) (E.cons (E.c (.str "broken")) E.nil))))))) [.sh T, .ow (.node .leaf) (.lst (dls ds)), .sh (.str (lnS (.one k n))), .sh (.lst [.str (dwS k), .str (nS n)]), s4] = .ok false := by
        simp only [B.or_eq, B.and_eq, B.val_eq, E.bin_eq, E.call_eq, E.cons_eq, E.nil_eq, E.var_eq, E.c_eq, vw_zero, vw_succ, Sl.vw_sh, R.of_some, R.bind_ok, on1_eq, l2, t2, i0, eq_dw]
        rfl
      rw [S.ite_eq, t]
      rfl)).trans ?_
    refine (seq_step (e' := [.sh T, .ow (.node .leaf) (.lst (dls ds)), .sh (.str (lnS (.one k n))), .sh (.lst [.str (dwS k), .str (nS n)]), .sh (dDe (.one k n))]) (by simp_all only [i0, i1, on] <;> rfl)).trans ?_
    refine (seq_step (e' := [.sh T, .ow (.node .leaf) (.lst (dls ds)), .sh (.str (lnS (.one k n))), .sh (.lst [.str (dwS k), .str (nS n)]), .sh (dDe (.one k n))]) (by
      have t : B.val (E.bin eqD (E.bin ixD (E.var 3) (E.c (.int 0))) (E.c (.str "back"))) [.sh T, .ow (.node .leaf) (.lst (dls ds)), .sh (.str (lnS (.one k n))), .sh (.lst [.str (dwS k), .str (nS n)]), .sh (dDe (.one k n))] = .ok false := by simp_all only [i0, eq_dw]
      have u : B.val (E.bin neD (E.call (on1 lenD) (E.cons (E.var 3) E.nil)) (E.c (.int 2))) [.sh T, .ow (.node .leaf) (.lst (dls ds)), .sh (.str (lnS (.one k n))), .sh (.lst [.str (dwS k), .str (nS n)]), .sh (dDe (.one k n))] = .ok false := by
        simp only [B.val_eq, E.bin_eq, E.call_eq, E.cons_eq, E.nil_eq, E.var_eq, E.c_eq, vw_zero, vw_succ, Sl.vw_sh, R.of_some, R.bind_ok, on1_eq, l2, n2]
      rw [S.ite_eq, t]
      simp only [R.out_ok, if_false, Bool.false_eq_true]
      refine (seq_step (e' := [.sh T, .ow (.node .leaf) (.lst (dls ds)), .sh (.str (lnS (.one k n))), .sh (.lst [.str (dwS k), .str (nS n)]), .sh (dDe (.one k n))]) ?_).trans rfl
      rw [S.ite_eq, u]
      rfl)).trans ?_
    refine (seq_step (e' := [.sh T, .ow (.node .leaf) (.lst (dls ds)), .sh (.str (lnS (.one k n))), .sh (.lst [.str (dwS k), .str (nS n)]), .sh (dDe (.one k n))]) (by simp_all only [idd])).trans ?_
    refine (seq_step (by simp_all only [ll] <;> rfl)).trans rfl
  | back n g =>
    have on := (num_ok (n := n) h.1 h.2).of
    have pu : D.pures [.str bkS, .str (nS n), .str (gdS g)] = true := rfl
    replace sp : splitD (.str (lnS (.back n g))) (.str " ") = .ok [.str bkS, .str (nS n), .str (gdS g)] := sp
    have l3 : lenD (.lst [.str bkS, .str (nS n), .str (gdS g)]) = .ok (.int 3) := rfl
    have i0 : ixD (.lst [.str bkS, .str (nS n), .str (gdS g)]) (.int 0) = .ok (.str bkS) := rfl
    have i1 : ixD (.lst [.str bkS, .str (nS n), .str (gdS g)]) (.int 1) = .ok (.str (nS n)) := rfl
    have i2 : ixD (.lst [.str bkS, .str (nS n), .str (gdS g)]) (.int 2) = .ok (.str (gdS g)) := rfl
    have n3 : neD (.int 3) (.int 3) = .ok (.bl false) := by rw [neD_int]; rfl
    have t3 : ltD (.int 3) (.int 2) = .ok (.bl false) := by rw [ltD_int]; rfl
    have ge := gd_eq g
    have gi := gd_in g
    have tp : tupD [.str "good", .str "broken"] = .ok (.tup [.str "good", .str "broken"]) := rfl
    have t1 : tupD [.bl g] = .ok (.tup [.bl g]) := rfl
    have ad : addD (.tup [.str bkS, .int n]) (.tup [.bl g]) = .ok (dDe (.back n g)) := rfl
    refine ⟨.sh (.lst [.str bkS, .str (nS n), .str (gdS g)]), .sh (dDe (.back n g)), ?_⟩
    rw [dls_snoc]
    unfold Mi.l1_read_deeds
    refine (seq_step (e' := [.sh T, .ow (.node .leaf) (.lst (dls ds)), .sh (.str (lnS (.back n g))), .sh (.lst [.str bkS, .str (nS n), .str (gdS g)]), s4]) (by simp_all only [sp, pu])).trans ?_
    refine (seq_step (e' := [.sh T, .ow (.node .leaf) (.lst (dls ds)), .sh (.str (lnS (.back n g))), .sh (.lst [.str bkS, .str (nS n), .str (gdS g)]), s4]) (by
      have t : B.or (B.val (E.bin ltD (E.call (on1 lenD) (E.cons (E.var 3) E.nil)) (E.c (.int 2)))) (B.and (B.val (E.bin eqD (E.bin ixD (E.var 3) (E.c (.int 0))) (E.c (.str "back")))) (B.or (B.val (E.bin neD (E.call (on1 lenD) (E.cons (E.var 3) E.nil)) (E.c (.int 3)))) (B.val (E.bin notInD (E.bin ixD (E.var 3) (E.c (.int 2))) (E.call tupD (E.cons (E.c (.str "good")) (E.cons (E.c (.str "broken")) E.nil))))))) [.sh T, .ow (.node .leaf) (.lst (dls ds)), .sh (.str (lnS (.back n g))), .sh (.lst [.str bkS, .str (nS n), .str (gdS g)]), s4] = .ok false := by
        simp only [B.or_eq, B.and_eq, B.val_eq, E.bin_eq, E.call_eq, E.cons_eq, E.nil_eq, E.var_eq, E.c_eq, vw_zero, vw_succ, Sl.vw_sh, R.of_some, R.bind_ok, on1_eq, l3, t3, i0, eq_bk, n3, i2, tp, gi]
        rfl
      rw [S.ite_eq, t]
      rfl)).trans ?_
    refine (seq_step (e' := [.sh T, .ow (.node .leaf) (.lst (dls ds)), .sh (.str (lnS (.back n g))), .sh (.lst [.str bkS, .str (nS n), .str (gdS g)]), .sh (.tup [.str bkS, .int n])]) (by simp_all only [i0, i1, on] <;> rfl)).trans ?_
    refine (seq_step (e' := [.sh T, .ow (.node .leaf) (.lst (dls ds)), .sh (.str (lnS (.back n g))), .sh (.lst [.str bkS, .str (nS n), .str (gdS g)]), .sh (dDe (.back n g))]) (by
      have t : B.val (E.bin eqD (E.bin ixD (E.var 3) (E.c (.int 0))) (E.c (.str "back"))) [.sh T, .ow (.node .leaf) (.lst (dls ds)), .sh (.str (lnS (.back n g))), .sh (.lst [.str bkS, .str (nS n), .str (gdS g)]), .sh (.tup [.str bkS, .int n])] = .ok true := by simp_all only [i0, eq_bk]
      rw [S.ite_eq, t]
      simp only [R.out_ok, if_true]
      refine (seq_step (e' := [.sh T, .ow (.node .leaf) (.lst (dls ds)), .sh (.str (lnS (.back n g))), .sh (.lst [.str bkS, .str (nS n), .str (gdS g)]), .sh (dDe (.back n g))]) ?_).trans rfl
      have z : E.bin addD (E.var 4) (E.call tupD (E.cons (E.bin eqD (E.bin ixD (E.var 3) (E.c (.int 2))) (E.c (.str "good"))) E.nil)) [.sh T, .ow (.node .leaf) (.lst (dls ds)), .sh (.str (lnS (.back n g))), .sh (.lst [.str bkS, .str (nS n), .str (gdS g)]), .sh (.tup [.str bkS, .int n])] = .ok (dDe (.back n g)) := by
        simp only [E.bin_eq, E.call_eq, E.cons_eq, E.nil_eq, E.var_eq, E.c_eq, vw_zero, vw_succ, Sl.vw_sh, R.of_some, R.bind_ok, i2, ge, t1, ad]
      rw [S.set_eq, Z.px_eq, z]
      rfl)).trans ?_
    refine (seq_step (e' := [.sh T, .ow (.node .leaf) (.lst (dls ds)), .sh (.str (lnS (.back n g))), .sh (.lst [.str bkS, .str (nS n), .str (gdS g)]), .sh (dDe (.back n g))]) (by simp_all only [idd])).trans ?_
    refine (seq_step (by simp_all only [ll] <;> rfl)).trans rfl
theorem rd_loop (T : D) : ∀ (ds pre : List De) (s2 s3 s4 : Sl) (ys : List D), (∀ d ∈ ds, d.Ok) → pre.length + ds.length ≤ 1000 → ∃ t2 t3 t4, loopM (.nm 2) Mi.l1_read_deeds (lns ds ++ ys) [.sh T, .ow (.node .leaf) (.lst (dls pre)), s2, s3, s4] = loopM (.nm 2) Mi.l1_read_deeds ys [.sh T, .ow (.node .leaf) (.lst (dls (pre ++ ds))), t2, t3, t4]
  | [], pre, s2, s3, s4, ys, _, _ => ⟨s2, s3, s4, by rw [List.append_nil]; rfl⟩
  | d :: ds, pre, s2, s3, s4, ys, h, hl => by
    rw [List.length_cons] at hl
    obtain ⟨t3, t4, st⟩ := rd_step T pre d s3 s4 (h d List.mem_cons_self) (by omega)
    obtain ⟨u2, u3, u4, z⟩ := rd_loop T ds (pre ++ [d]) (.sh (.str (lnS d))) t3 t4 ys (fun x hx => h x (List.mem_cons_of_mem _ hx)) (by rw [List.length_append]; simp; omega)
    rw [List.append_assoc] at z
    exact ⟨u2, u3, u4, (loop_cons (bindT_nm _ _) st).trans z⟩
theorem rd_items (x : Str) (ws : List D) (hx : ¬ x = "") (sp : splitD (.str x) (.str "\n") = .ok ws) (pu : D.pures ws = true) : I.items (Z.pf (Fl.ite (B.val (E.bin neD (E.var 0) (E.c (.str "")))) (Fl.split (E.var 0) (E.c (.str "\n"))) (Fl.lst E.nil))) [.sh (.str x), .ow (.node .leaf) (.lst (dls [])), .no, .no, .no] = .ok ws := by
  simp_all only [neD_str, decide_eq_false hx, sp, pu]
theorem nl1 : nlS.length = 1 := by decide +kernel
theorem lns_pure (ds : List De) : D.pures (lns ds) = true := by unfold lns; rw [D.pures_all]; simp
theorem read_deeds_eq {ds : List De} (h : ∀ d ∈ ds, d.Ok) (hl : ds.length ≤ 500) : Mi.read_deeds [.str (dtS ds)] = .ok (dls ds) := by
  have il : isStr (.str (dtS ds)) = .ok (.bl true) := rfl
  obtain ⟨t2, t3, t4, lp⟩ := rd_loop (.str (dtS ds)) ds [] .no .no .no [] h (by simp; omega)
  rw [List.append_nil, List.nil_append] at lp
  have it : I.items (Z.pf (Fl.ite (B.val (E.bin neD (E.var 0) (E.c (.str "")))) (Fl.split (E.var 0) (E.c (.str "\n"))) (Fl.lst E.nil))) [.sh (.str (dtS ds)), .ow (.node .leaf) (.lst (dls [])), .no, .no, .no] = .ok (lns ds) := by
    by_cases c : ds = []
    · subst c
      have p0 : dtS [] = "" := by decide +kernel
      rw [p0]
      simp_all only [neD_str]
      rfl
    · have sp := splitD_ok (a := dtS ds) (b := nlS) (by rw [nl1]; omega) (by have := dtS_len h; omega)
      rw [dtS_split h c] at sp
      exact rd_items _ _ (dtS_ne h c) sp (lns_pure ds)
  unfold Mi.read_deeds Mi.b_read_deeds
  refine (show Fn.F 1 4 _ _ = Fn.outF (.rt (.lst (dls ds))) from ?_).trans rfl
  rw [Fn.F_eq, Fn.run1]
  congr 1
  simp only [List.replicate]
  refine (seq_step (by simp_all only [il] <;> rfl)).trans ?_
  refine (seq_step (e' := [.sh (.str (dtS ds)), .ow (.node .leaf) (.lst (dls [])), .no, .no, .no]) (by rfl)).trans ?_
  refine (seq_step (e' := [.sh (.str (dtS ds)), .ow (.node .leaf) (.lst (dls ds)), t2, t3, t4]) (by
    rw [S.loop_eq, it]
    exact lp)).trans ?_
  rfl
theorem bad_deeds : (["ask", "ask 1 2", "back 1", "back 1 bad", "lend 1", "wait 01", "wait -1", "ask  1", "wait 1000"] : List Str).all (fun x => exB (Mi.read_deeds [.str x]) "BadText") = true := by decide +kernel
theorem no_lines {d : D} (h : isStr d = .ok (.bl false)) : Mi.read_deeds [d] = .ex "BadText" := by
  unfold Mi.read_deeds Mi.b_read_deeds
  simp_all only [h]
theorem spoil_lines {ds : List De} (h : ∀ d ∈ ds, d.Ok) (hl : ds.length ≤ 500) (c : ds ≠ []) : Mi.read_deeds [.str (dtS ds ++ "\n")] = .ex "BadText" := by
  have il : isStr (.str (dtS ds ++ "\n")) = .ok (.bl true) := rfl
  have pl := dtS_len h
  have ex : dtS ds ++ nlS = Txt.join nlS (ds.map lnS ++ [("" : Str)]) := by
    refine TL.ext_tl ?_
    rw [TL.join_eq, TL.tl_join, TL.tl_append, tl_nl, tl_dtS, List.map_append, List.map_map, List.map_cons, List.map_nil, tl_e]
    show _ = TL.joinL [10] ((ds.map fun d => TL.tl (lnS d)) ++ [[]])
    rw [joinL_snoc [10] [] _ (by simpa using c)]
    simp
  have spl : Txt.split (dtS ds ++ nlS) nlS = ds.map lnS ++ [("" : Str)] := by
    rw [ex]
    exact TL.split_join (s := 10) (S := []) tl_nl (by decide +kernel) (by simp) fun p hp => by
      rcases List.mem_append.mp hp with z | z
      · obtain ⟨d, hd, e⟩ := List.mem_map.mp z
        rw [← e]
        exact lnS_nl (h d hd)
      · rw [List.mem_singleton.mp z, tl_e]; simp
  have sp := splitD_ok (a := dtS ds ++ nlS) (b := nlS) (by rw [nl1]; omega) (by rw [len_add, nl1]; omega)
  rw [spl, List.map_append] at sp
  replace sp : splitD (.str (dtS ds ++ "\n")) (.str "\n") = .ok (lns ds ++ [.str ""]) := sp
  have it := rd_items (dtS ds ++ "\n") (lns ds ++ [.str ""]) (ne_of_tl (x := dtS ds ++ nlS) (by rw [TL.tl_append, tl_nl]; simp)) sp (by rw [D.pures_append, lns_pure]; rfl)
  obtain ⟨t2, t3, t4, lp⟩ := rd_loop (.str (dtS ds ++ "\n")) ds [] .no .no .no [.str ""] h (by simp; omega)
  rw [List.nil_append] at lp
  have bad : ∃ e, Mi.l1_read_deeds [.sh (.str (dtS ds ++ "\n")), .ow (.node .leaf) (.lst (dls ds)), .sh (.str ""), t3, t4] = .ex "BadText" e := by
    have se := splitD_ok (a := "") (b := sS) (by rw [ls1]; omega) (by decide +kernel)
    have e0 : Txt.split "" sS = [("" : Str)] := by decide +kernel
    rw [e0] at se
    replace se : splitD (.str "") (.str " ") = .ok [.str ""] := se
    have pu : D.pures [.str ""] = true := rfl
    have l1 : lenD (.lst [.str ""]) = .ok (.int 1) := rfl
    have t1 : ltD (.int 1) (.int 2) = .ok (.bl true) := by rw [ltD_int]; rfl
    refine ⟨[.sh (.str (dtS ds ++ "\n")), .ow (.node .leaf) (.lst (dls ds)), .sh (.str ""), .sh (.lst [.str ""]), t4], ?_⟩
    unfold Mi.l1_read_deeds
    refine (seq_step (e' := [.sh (.str (dtS ds ++ "\n")), .ow (.node .leaf) (.lst (dls ds)), .sh (.str ""), .sh (.lst [.str ""]), t4]) (by simp_all only [se, pu])).trans ?_
    refine seq_end ?_ (fun _ h => nomatch h)
    have t : B.or (B.val (E.bin ltD (E.call (on1 lenD) (E.cons (E.var 3) E.nil)) (E.c (.int 2)))) (B.and (B.val (E.bin eqD (E.bin ixD (E.var 3) (E.c (.int 0))) (E.c (.str "back")))) (B.or (B.val (E.bin neD (E.call (on1 lenD) (E.cons (E.var 3) E.nil)) (E.c (.int 3)))) (B.val (E.bin notInD (E.bin ixD (E.var 3) (E.c (.int 2))) (E.call tupD (E.cons (E.c (.str "good")) (E.cons (E.c (.str "broken")) E.nil))))))) [.sh (.str (dtS ds ++ "\n")), .ow (.node .leaf) (.lst (dls ds)), .sh (.str ""), .sh (.lst [.str ""]), t4] = .ok true := by
      simp only [B.or_eq, B.val_eq, E.bin_eq, E.call_eq, E.cons_eq, E.nil_eq, E.var_eq, E.c_eq, vw_zero, vw_succ, Sl.vw_sh, R.of_some, R.bind_ok, on1_eq, l1, t1]
      rfl
    rw [S.ite_eq, t]
    rfl
  obtain ⟨e, he⟩ := bad
  have le : loopM (.nm 2) Mi.l1_read_deeds [.str ""] [.sh (.str (dtS ds ++ "\n")), .ow (.node .leaf) (.lst (dls ds)), t2, t3, t4] = .ex "BadText" e := loop_ex (bindT_nm _ _) he
  unfold Mi.read_deeds Mi.b_read_deeds
  refine (show Fn.F 1 4 _ _ = Fn.outF (.ex "BadText" e) from ?_).trans rfl
  rw [Fn.F_eq, Fn.run1]
  congr 1
  simp only [List.replicate]
  refine (seq_step (by simp_all only [il] <;> rfl)).trans ?_
  refine (seq_step (e' := [.sh (.str (dtS ds ++ "\n")), .ow (.node .leaf) (.lst (dls [])), .no, .no, .no]) (by rfl)).trans ?_
  refine seq_end ?_ (fun _ h => nomatch h)
  rw [S.loop_eq, it]
  exact lp.trans le
end Lp

/-! # Plain law, part Y6: deeds drawn -/
namespace Lp
open PySem
def lE (ns : List Int) (ds : List De) (n k : Int) (s6 s7 s8 s9 : Sl) : En := [.sh (scr ns), .sh (.int 8), .sh (.int 30), .ow (.node .leaf) (.lst (dls ds)), .sh (.int n), .sh (.int k), s6, s7, s8, s9]
local macro_rules | `(tactic| simp_all only [$as:simpLemma,*]) => `(tactic| simp only [R.bind_ok, R.bind_ex, R.bind_no, R.of_some, R.of_none, asInts_map, Out.seq_nx, Out.seq_rt, Out.seq_bk, Out.seq_ct, Out.seq_ex, Out.seq_no, R.out_ok, R.out_ex, R.out_no, E.c_eq, E.var_eq, E.un_eq, E.bin_eq, E.nil_eq, E.cons_eq, E.call_eq, E.ite_eq, E.andV_eq, E.orV_eq, E.notV_eq, E.chain_eq, E.methL_eq, E.none_eq, E.part_eq, E.slice_eq, asPart_int, B.val_eq, B.tru_eq, B.and_eq, B.or_eq, B.not_eq, B.yes_eq, truD_bl, truD_int, truD_lst, truD_tup, vw_nil, vw_zero, vw_succ, Sl.vw_no, Sl.vw_sh, Sl.vw_ow, Fl.lst_eq, Fl.add_eq, Fl.rep_eq, Fl.slice_eq, Fl.rev_eq, Fl.list_eq, Fl.sort_eq, Fl.call_eq, Fl.comp_eq, okLst_eq, I.items_eq, I.zip_eq, I.enum_eq, I.range1_eq, I.range2_eq, itemsD_lst, itemsD_tup, itemsD_fix, zipD_eq, enumD_eq, Z.px_eq, Z.pf_eq, Z.var_zero, Z.var_succ, S.seq_eq, S.nil_eq, S.drop_eq, S.ret_eq, S.retF_eq, S.retO_eq, S.retN_eq, S.withL_zero, S.withL_succ, S.putL_eq, S.ite_eq, S.set_eq, S.own_eq, S.bind_eq, S.app_eq, S.seti_eq, S.setD_int, S.putM_some, S.raise_eq, S.frzA_eq, S.frz_eq, S.never_eq, S.brk_eq, S.cont_eq, S.loop_eq, S.while_eq, noOw_nil, noOw_cons, Sl.noOw_no, Sl.noOw_sh, Sl.noOw_ow, frz1_zero, frz1_succ, Sl.frz_no, Sl.frz_sh, Sl.frz_ow, bindT_nm, bindT_tp, bindTs_nil, bindTs_cons, setsE_nil, setsE_cons, wipeE_nil, wipeE_cons, R.noex_ok, Fn.X_eq, Fn.F_eq, Fn.run1, Fn.run2, Fn.run3, Fn.outX_nx, Fn.outX_rt, Fn.outX_ex, Fn.outF_rt, Fn.outF_ex, on1_eq, on2_eq, index1_eq, D.pure_int, D.pure_bl, D.pure_str, D.pure_non, D.pure_tup, D.pure_lst, D.pures_nil, D.pures_cons, D.pures_app, D.pures_ints, addD_int, addD_lst, addD_tup, addI_int, subD_int, negD_int, ltD_int, leD_int, gtD_int, geD_int, max2D_int, min2D_int, lenD_lst, lenD_tup, lenD_fix, tupleD_lst, ixD_lst, ixD_tup, ixD_fix, tupD_two, tupD_three, lstD_one, lstD_two, lstD_three, lstD_nil, onInts_ints, sort1_ints, add2_eq, eqD_int, neD_int, within_int, noObj_int, noObj_bl, noObj_non, noObj_str, noObj_tup, noObj_lst, is_within_int, is_within_non, is_within_bl, is_within_str, is_within_tup, is_within_lst, dA_pure, itemsD_dA, lenD_dA, slD_tup, slD_lst, rev1_lst, S.ownD_eq, S.withD_zero, S.withD_succ, S.dput_eq, tupD_nil, S.ext_eq, E.join_eq, Fl.split_eq, Fl.ite_eq, isS_str, S.tryX_eq, tupD_four, List.replicate, List.set_cons_succ, List.set_cons_zero, if_true, Bool.true_or, Bool.or_true, Bool.true_and, Bool.and_true, Bool.and_self, Bool.not_true, Bool.not_false, Bool.false_eq_true, if_false, Bool.or_false, Bool.false_or, Bool.false_and, Bool.and_false, List.length_map, List.length_nil, Nat.zero_le, List.append_nil, List.singleton_append, List.nil_append, and_self, true_and, and_true, false_and, and_false, decide_true, decide_false, $as:simpLemma,*])
theorem ld_step (ns : List Int) (ds : List De) (n k : Int) (s6 s7 s8 s9 : Sl) (hl : ds.length ≤ 100) (hn : 0 ≤ n) (hn2 : n ≤ 100) (hk : 0 ≤ k) :
    ∃ (d : De) (n' : Int) (t6 t7 t8 t9 : Sl), d.Ok ∧ n ≤ n' ∧ n' ≤ n + 1 ∧ Mi.l1_law_deeds (lE ns ds n k s6 s7 s8 s9) = .nx (lE ns (ds ++ [d]) n' k t6 t7 t8 t9) := by
  have hk6 := Int.emod_nonneg k (show (8 : Int) ≠ 0 by omega)
  obtain ⟨s, hs, hs0⟩ := seed_eq (cell ns (8 + 1 + k % 8).toNat + 29 * k) k
  have hc := cell_int ns (8 + 1 + k % 8) (by omega)
  have p0 := Int.emod_nonneg (s / 97) (show (12 : Int) ≠ 0 by omega)
  have p1 := Int.emod_lt_of_pos (s / 97) (show (0 : Int) < 12 by omega)
  have hp := pick_eq s 12 (by omega)
  obtain ⟨p, hpe⟩ : ∃ p, p = s / 97 % 12 := ⟨_, rfl⟩
  rw [← hpe] at hp p0 p1
  have ll : (dls ds).length < 16777216 := by unfold dls; rw [List.length_map]; omega
  have first : S.set 6 (Z.px (E.call Mi.law_seed (E.cons (E.bin addD (E.call Mi.law_cell (E.cons (E.var 0) (E.cons (E.bin addD (E.bin addD (E.var 1) (E.c (.int 1))) (E.bin modD (E.var 5) (E.c (.int 8)))) E.nil))) (E.bin mulD (E.c (.int 29)) (E.var 5))) (E.cons (E.var 5) E.nil)))) (lE ns ds n k s6 s7 s8 s9) = .nx (lE ns ds n k (.sh (.int s)) s7 s8 s9) := by
    unfold lE
    simp_all only [modD_int k 8 (by omega), hc, mulD_int 29 k (by omega), hs] <;> rfl
  have second : S.set 7 (Z.px (E.call Mi.law_pick (E.cons (E.var 6) (E.cons (E.c (.int 12)) E.nil)))) (lE ns ds n k (.sh (.int s)) s7 s8 s9) = .nx (lE ns ds n k (.sh (.int s)) (.sh (.int p)) s8 s9) := by
    unfold lE
    simp_all only [hp] <;> rfl
  have a0 := Int.emod_nonneg (s / 11) (show (3 : Int) ≠ 0 by omega)
  have a1 := Int.emod_lt_of_pos (s / 11) (show (0 : Int) < 3 by omega)
  have b0 := Int.emod_nonneg (s / 7) (show (10 : Int) ≠ 0 by omega)
  have b1 := Int.emod_lt_of_pos (s / 7) (show (0 : Int) < 10 by omega)
  have c0 := Int.emod_nonneg (s / 7) (show (n + 1) ≠ 0 by omega)
  have c1 := Int.emod_lt_of_pos (s / 7) (show (0 : Int) < n + 1 by omega)
  have d0 := Int.emod_nonneg (s / 7) (show (5 : Int) ≠ 0 by omega)
  have d1 := Int.emod_lt_of_pos (s / 7) (show (0 : Int) < 5 by omega)
  have f0 := Int.emod_nonneg (s / 7) (show (3 : Int) ≠ 0 by omega)
  have f1 := Int.emod_lt_of_pos (s / 7) (show (0 : Int) < 3 by omega)
  have m7 := divD_int s 7 (by omega)
  have m11 := divD_int s 11 (by omega)
  have m13 := divD_int s 13 (by omega)
  by_cases h4 : p < 4
  · obtain ⟨v, hv, hv'⟩ := ix3 (s / 7 % 10) 5 5 (s / 11 % 3) a0 a1
    refine ⟨.one 0 v, n + 1, .sh (.int s), .sh (.int p), s8, s9, ⟨by show 0 ≤ v; omega, by show v ≤ 999; omega⟩, by omega, by omega, ?_⟩
    have tp : tupD [.str "ask", .int v] = .ok (dDe (.one 0 v)) := rfl
    have pu := dDe_pure (.one 0 v)
    unfold Mi.l1_law_deeds
    refine (seq_step first).trans ?_
    refine (seq_step second).trans ?_
    refine (seq_step (e' := lE ns (ds ++ [.one 0 v]) (n + 1) k (.sh (.int s)) (.sh (.int p)) s8 s9) (by
      have t : B.val (E.bin ltD (E.var 7) (E.c (.int 4))) (lE ns ds n k (.sh (.int s)) (.sh (.int p)) s8 s9) = .ok true := by unfold lE; simp_all only [h4]
      rw [S.ite_eq, t]
      simp only [R.out_ok, if_true]
      refine (seq_step (e' := lE ns (ds ++ [.one 0 v]) n k (.sh (.int s)) (.sh (.int p)) s8 s9) (by
        unfold lE
        rw [dls_snoc]
        simp_all only [m7, m11, modD_int (s / 7) 10 (show (0 : Int) < 10 by omega), modD_int (s / 11) 3 (show (0 : Int) < 3 by omega), lstD_three, hv, tp, pu, ll] <;> rfl)).trans ?_
      refine (seq_step (by unfold lE; exact aug_at (d0 := .int n) (d := .int 1) (r := .int (n + 1)) rfl rfl rfl (D.pure_int _))).trans rfl)).trans rfl
  · by_cases h8 : p < 8
    · refine ⟨.back (s / 7 % (n + 1)) (decide (s / 11 % 4 > 0)), n, .sh (.int s), .sh (.int p), s8, s9, ⟨by show 0 ≤ s / 7 % (n + 1); omega, by show s / 7 % (n + 1) ≤ 999; omega⟩, by omega, by omega, ?_⟩
      have tp : tupD [.str "back", .int (s / 7 % (n + 1)), .bl (decide (0 < s / 11 % 4))] = .ok (dDe (.back (s / 7 % (n + 1)) (decide (s / 11 % 4 > 0)))) := rfl
      have pu := dDe_pure (.back (s / 7 % (n + 1)) (decide (s / 11 % 4 > 0)))
      have gt : gtD (.int (s / 11 % 4)) (.int 0) = .ok (.bl (decide (0 < s / 11 % 4))) := rfl
      unfold Mi.l1_law_deeds
      refine (seq_step first).trans ?_
      refine (seq_step second).trans ?_
      refine (seq_step (e' := lE ns (ds ++ [.back (s / 7 % (n + 1)) (decide (s / 11 % 4 > 0))]) n k (.sh (.int s)) (.sh (.int p)) s8 s9) (by
        have t : B.val (E.bin ltD (E.var 7) (E.c (.int 4))) (lE ns ds n k (.sh (.int s)) (.sh (.int p)) s8 s9) = .ok false := by unfold lE; simp_all only [h4]
        have t2 : B.val (E.bin ltD (E.var 7) (E.c (.int 8))) (lE ns ds n k (.sh (.int s)) (.sh (.int p)) s8 s9) = .ok true := by unfold lE; simp_all only [h8]
        rw [S.ite_eq, t]
        simp only [R.out_ok, if_false, Bool.false_eq_true]
        refine (seq_step (e' := lE ns (ds ++ [.back (s / 7 % (n + 1)) (decide (s / 11 % 4 > 0))]) n k (.sh (.int s)) (.sh (.int p)) s8 s9) ?_).trans rfl
        rw [S.ite_eq, t2]
        simp only [R.out_ok, if_true]
        refine (seq_step (by
          unfold lE
          rw [dls_snoc]
          simp_all only [m7, m11, modD_int (s / 7) (n + 1) (show (0 : Int) < n + 1 by omega), modD_int (s / 11) 4 (show (0 : Int) < 4 by omega), gt, tp, pu, ll] <;> rfl)).trans rfl)).trans rfl
    · obtain ⟨u, hu, hu0, hu1⟩ : ∃ u, ixD (.lst [.int 12, .int 99]) (.int (if s / 13 % 4 = 0 then 1 else 0)) = .ok (.int u) ∧ 0 < u ∧ u ≤ 99 := by
        by_cases c : s / 13 % 4 = 0
        · rw [if_pos c]; exact ⟨99, rfl, by omega, by omega⟩
        · rw [if_neg c]; exact ⟨12, rfl, by omega, by omega⟩
      have g0 := Int.emod_nonneg (s / 7) (show u ≠ 0 by omega)
      have g1 := Int.emod_lt_of_pos (s / 7) hu0
      have iB : intD (.bl (decide (s / 13 % 4 = 0))) = .ok (.int (if s / 13 % 4 = 0 then 1 else 0)) := by
        by_cases c : s / 13 % 4 = 0 <;> simp [c] <;> rfl
      obtain ⟨w, hw⟩ : ∃ w, w = 1 + s / 7 % u := ⟨_, rfl⟩
      have t1 : ∀ a : Int, tupD [.str "left", .int a] = .ok (dDe (.one 1 a)) := fun _ => rfl
      have t2 : ∀ a : Int, tupD [.str "spoil", .int a] = .ok (dDe (.one 2 a)) := fun _ => rfl
      have t3 : ∀ a : Int, tupD [.str "wait", .int a] = .ok (dDe (.one 3 a)) := fun _ => rfl
      have pp : ∀ (k : Nat) (a : Int), (dDe (.one k a)).pure = true := fun k a => dDe_pure _
      have l1 : ∀ x : D, lstD [x] = .ok (.lst [x]) := fun _ => rfl
      obtain ⟨d, hd, hd2⟩ : ∃ d : De, d.Ok ∧ ixD (.lst ([dDe (.one 1 (s / 7 % (n + 1))), dDe (.one 2 (s / 7 % 5)), dDe (.one 3 w)] ++ [dDe (.one 3 (1 + s / 7 % 3))])) (.int (p - 8)) = .ok (dDe d) := by
        have : p = 8 ∨ p = 9 ∨ p = 10 ∨ p = 11 := by omega
        rcases this with e | e | e | e <;> subst e
        · exact ⟨.one 1 (s / 7 % (n + 1)), ⟨by show 0 ≤ s / 7 % (n + 1); omega, by show s / 7 % (n + 1) ≤ 999; omega⟩, rfl⟩
        · exact ⟨.one 2 (s / 7 % 5), ⟨by show 0 ≤ s / 7 % 5; omega, by show s / 7 % 5 ≤ 999; omega⟩, rfl⟩
        · exact ⟨.one 3 w, ⟨by show 0 ≤ w; omega, by show w ≤ 999; omega⟩, rfl⟩
        · exact ⟨.one 3 (1 + s / 7 % 3), ⟨by show 0 ≤ 1 + s / 7 % 3; omega, by show 1 + s / 7 % 3 ≤ 999; omega⟩, rfl⟩
      have fa : Fl.add (E.var 9) (E.call lstD (E.cons (E.call tupD (E.cons (E.c (.str "wait")) (E.cons (E.bin addD (E.c (.int 1)) (E.bin modD (E.bin divD (E.var 6) (E.c (.int 7))) (E.c (.int 3)))) E.nil))) E.nil)) (lE ns ds n k (.sh (.int s)) (.sh (.int p)) (.sh (.int w)) (.sh (.lst [dDe (.one 1 (s / 7 % (n + 1))), dDe (.one 2 (s / 7 % 5)), dDe (.one 3 w)]))) = .ok ([dDe (.one 1 (s / 7 % (n + 1))), dDe (.one 2 (s / 7 % 5)), dDe (.one 3 w)] ++ [dDe (.one 3 (1 + s / 7 % 3))]) := by
        unfold lE
        simp_all only [m7, modD_int (s / 7) 3 (show (0 : Int) < 3 by omega), t3, l1]
        first | rfl | exact if_pos (by simp)
      have pu := dDe_pure d
      refine ⟨d, n, .sh (.int s), .sh (.int p), .sh (.int w), .sh (.lst [dDe (.one 1 (s / 7 % (n + 1))), dDe (.one 2 (s / 7 % 5)), dDe (.one 3 w)]), hd, by omega, by omega, ?_⟩
      unfold Mi.l1_law_deeds
      refine (seq_step first).trans ?_
      refine (seq_step second).trans ?_
      refine (seq_step (e' := lE ns (ds ++ [d]) n k (.sh (.int s)) (.sh (.int p)) (.sh (.int w)) (.sh (.lst [dDe (.one 1 (s / 7 % (n + 1))), dDe (.one 2 (s / 7 % 5)), dDe (.one 3 w)]))) (by
        have t : B.val (E.bin ltD (E.var 7) (E.c (.int 4))) (lE ns ds n k (.sh (.int s)) (.sh (.int p)) s8 s9) = .ok false := by unfold lE; simp_all only [h4]
        have t2' : B.val (E.bin ltD (E.var 7) (E.c (.int 8))) (lE ns ds n k (.sh (.int s)) (.sh (.int p)) s8 s9) = .ok false := by unfold lE; simp_all only [h8]
        rw [S.ite_eq, t]
        simp only [R.out_ok, if_false, Bool.false_eq_true]
        refine (seq_step (e' := lE ns (ds ++ [d]) n k (.sh (.int s)) (.sh (.int p)) (.sh (.int w)) (.sh (.lst [dDe (.one 1 (s / 7 % (n + 1))), dDe (.one 2 (s / 7 % 5)), dDe (.one 3 w)]))) ?_).trans rfl
        rw [S.ite_eq, t2']
        simp only [R.out_ok, if_false, Bool.false_eq_true]
        refine (seq_step (e' := lE ns ds n k (.sh (.int s)) (.sh (.int p)) (.sh (.int w)) s9) (by
          unfold lE
          simp_all only [m7, m13, modD_int (s / 13) 4 (show (0 : Int) < 4 by omega), iB, lstD_two, hu, modD_int (s / 7) u hu0, ← hw] <;> rfl)).trans ?_
        refine (seq_step (e' := lE ns ds n k (.sh (.int s)) (.sh (.int p)) (.sh (.int w)) (.sh (.lst [dDe (.one 1 (s / 7 % (n + 1))), dDe (.one 2 (s / 7 % 5)), dDe (.one 3 w)]))) (by
          unfold lE
          simp_all only [m7, modD_int (s / 7) (n + 1) (show (0 : Int) < n + 1 by omega), modD_int (s / 7) 5 (show (0 : Int) < 5 by omega), t1, t2, t3, pp, lstD_three] <;> rfl)).trans ?_
        refine (seq_step (e' := lE ns (ds ++ [d]) n k (.sh (.int s)) (.sh (.int p)) (.sh (.int w)) (.sh (.lst [dDe (.one 1 (s / 7 % (n + 1))), dDe (.one 2 (s / 7 % 5)), dDe (.one 3 w)]))) (by
          have z : E.bin ixD (E.call okLst (Fl.add (E.var 9) (E.call lstD (E.cons (E.call tupD (E.cons (E.c (.str "wait")) (E.cons (E.bin addD (E.c (.int 1)) (E.bin modD (E.bin divD (E.var 6) (E.c (.int 7))) (E.c (.int 3)))) E.nil))) E.nil)))) (E.bin subD (E.var 7) (E.c (.int 8))) (lE ns ds n k (.sh (.int s)) (.sh (.int p)) (.sh (.int w)) (.sh (.lst [dDe (.one 1 (s / 7 % (n + 1))), dDe (.one 2 (s / 7 % 5)), dDe (.one 3 w)]))) = .ok (dDe d) := by
            rw [E.bin_eq, E.call_eq, fa]
            unfold lE
            simp only [E.bin_eq, E.var_eq, E.c_eq, vw_zero, vw_succ, Sl.vw_sh, R.of_some, R.bind_ok, subD_int]
            exact hd2
          rw [S.app_eq, Z.px_eq, z]
          unfold lE
          rw [dls_snoc]
          simp_all only [pu, ll] <;> rfl)).trans rfl)).trans rfl
end Lp

/-! # Plain law, part Y7: deeds drawn, odd deeds -/
namespace Lp
open PySem
theorem ld_loop (ns : List Int) : ∀ (n : Nat) (lo : Int) (ds : List De) (c : Int) (s5 s6 s7 s8 s9 : Sl), 0 ≤ lo → ds.length + n ≤ 50 → 0 ≤ c → c + n ≤ 100 → (∀ d ∈ ds, d.Ok) →
    ∃ (es : List De) (t4 t5 t6 t7 t8 t9 : Sl), (∀ d ∈ es, d.Ok) ∧ es.length = ds.length + n ∧ loopM (.nm 5) Mi.l1_law_deeds (rangeL lo n) [.sh (scr ns), .sh (.int 8), .sh (.int 30), .ow (.node .leaf) (.lst (dls ds)), .sh (.int c), s5, s6, s7, s8, s9] =
      .nx [.sh (scr ns), .sh (.int 8), .sh (.int 30), .ow (.node .leaf) (.lst (dls es)), t4, t5, t6, t7, t8, t9]
  | 0, lo, ds, c, s5, s6, s7, s8, s9, _, _, _, _, o => ⟨ds, .sh (.int c), s5, s6, s7, s8, s9, o, rfl, rfl⟩
  | n + 1, lo, ds, c, s5, s6, s7, s8, s9, h0, hl, hc, hc2, o => by
    obtain ⟨d, c', t6, t7, t8, t9, hd, h1, h2, e1⟩ := ld_step ns ds c lo s6 s7 s8 s9 (by omega) hc (by omega) h0
    obtain ⟨es, u4, u5, u6, u7, u8, u9, o2, l2, e2⟩ := ld_loop ns n (lo + 1) (ds ++ [d]) c' (.sh (.int lo)) t6 t7 t8 t9 (by omega) (by rw [List.length_append, List.length_singleton]; omega) (by omega) (by omega) (fun x hx => by
      rcases List.mem_append.mp hx with z | z
      · exact o x z
      · rw [List.mem_singleton.mp z]; exact hd)
    refine ⟨es, u4, u5, u6, u7, u8, u9, o2, by rw [l2, List.length_append, List.length_singleton]; omega, ?_⟩
    rw [rangeL]
    exact (loop_cons (bindT_nm _ _) e1).trans e2
theorem law_deeds_eq (ns : List Int) : ∃ ds : List De, Mi.law_deeds [scr ns, .int 8, .int 30] = .ok (dls ds) ∧ (∀ d ∈ ds, d.Ok) ∧ ds.length ≤ 30 := by
  obtain ⟨r, hr, r0, r1⟩ := mix_eq (cell ns 8) 9949 (30 + 1) (by omega) (by omega) (by omega)
  obtain ⟨es, t4, t5, t6, t7, t8, t9, o, l, e⟩ := ld_loop ns r.toNat 0 [] 0 .no .no .no .no .no (by omega) (by simp; omega) (by omega) (by omega) (fun x hx => nomatch hx)
  refine ⟨es, ?_, o, by rw [l]; simp; omega⟩
  have hc : Mi.law_cell [scr ns, .int 8] = .ok (.int (cell ns 8)) := cell_lit ns 8
  have hg : I.rangeD1 [.int r] = .ok (rangeL 0 r.toNat) := if_pos (by omega)
  have a31 : addD (.int 30) (.int 1) = .ok (.int (30 + 1)) := rfl
  unfold Mi.law_deeds Mi.b_law_deeds
  refine (show Fn.F 3 7 _ _ = Fn.outF (.rt (.lst (dls es))) from ?_).trans rfl
  rw [Fn.F_eq, Fn.run3]
  congr 1
  simp only [List.replicate]
  refine (seq_step (e' := [.sh (scr ns), .sh (.int 8), .sh (.int 30), .ow (.node .leaf) (.lst (dls [])), .no, .no, .no, .no, .no, .no]) (by rfl)).trans ?_
  refine (seq_step (e' := [.sh (scr ns), .sh (.int 8), .sh (.int 30), .ow (.node .leaf) (.lst (dls [])), .sh (.int 0), .no, .no, .no, .no, .no]) (by rfl)).trans ?_
  refine (seq_step (e' := [.sh (scr ns), .sh (.int 8), .sh (.int 30), .ow (.node .leaf) (.lst (dls es)), t4, t5, t6, t7, t8, t9]) (by
    have it : I.range1 (E.cons (Z.px (E.call Mi.law_mix (E.cons (E.call Mi.law_cell (E.cons (E.var 0) (E.cons (E.var 1) E.nil))) (E.cons (E.c (.int 9949)) (E.cons (E.bin addD (E.var 2) (E.c (.int 1))) E.nil))))) E.nil) [.sh (scr ns), .sh (.int 8), .sh (.int 30), .ow (.node .leaf) (.lst (dls [])), .sh (.int 0), .no, .no, .no, .no, .no] = .ok (rangeL 0 r.toNat) := by
      simp only [I.range1_eq, E.cons_eq, E.nil_eq, Z.px_eq, E.call_eq, E.var_eq, E.c_eq, vw_zero, vw_succ, Sl.vw_sh, R.of_some, R.bind_ok, hc, E.bin_eq, a31, hr, D.pure_int, Bool.true_or, if_true, hg]
    rw [S.loop_eq, it]
    exact e)).trans ?_
  rfl
/-! ### odd deeds -/
def odds : List D := [.tup [.str "back", .int 1, .int 1], .tup [.str "wait", .int (-1)], .tup [.str "ask", .int 1000], .tup [.str "ask", .bl true], .tup [.str "ask"], .non, .tup [.str "ask", .str "1"]]
def badDeed (d : D) : Bool := match (B.or (B.not (B.tru (E.call Mi.is_deed (E.cons (E.var 1) E.nil)))) (B.not (B.tru (E.call Mi.is_plain (E.cons (E.var 1) E.nil))))) [.no, .sh d, .no, .no] with
  | .ok true => true
  | _ => false
theorem odds_bad : odds.all badDeed = true := by decide +kernel
theorem odds_pure : odds.all (·.pure) = true := by decide +kernel
local macro_rules | `(tactic| simp_all only [$as:simpLemma,*]) => `(tactic| simp only [R.bind_ok, R.bind_ex, R.bind_no, R.of_some, R.of_none, asInts_map, Out.seq_nx, Out.seq_rt, Out.seq_bk, Out.seq_ct, Out.seq_ex, Out.seq_no, R.out_ok, R.out_ex, R.out_no, E.c_eq, E.var_eq, E.un_eq, E.bin_eq, E.nil_eq, E.cons_eq, E.call_eq, E.ite_eq, E.andV_eq, E.orV_eq, E.notV_eq, E.chain_eq, E.methL_eq, E.none_eq, E.part_eq, E.slice_eq, asPart_int, B.val_eq, B.tru_eq, B.and_eq, B.or_eq, B.not_eq, B.yes_eq, truD_bl, truD_int, truD_lst, truD_tup, vw_nil, vw_zero, vw_succ, Sl.vw_no, Sl.vw_sh, Sl.vw_ow, Fl.lst_eq, Fl.add_eq, Fl.rep_eq, Fl.slice_eq, Fl.rev_eq, Fl.list_eq, Fl.sort_eq, Fl.call_eq, Fl.comp_eq, okLst_eq, I.items_eq, I.zip_eq, I.enum_eq, I.range1_eq, I.range2_eq, itemsD_lst, itemsD_tup, itemsD_fix, zipD_eq, enumD_eq, Z.px_eq, Z.pf_eq, Z.var_zero, Z.var_succ, S.seq_eq, S.nil_eq, S.drop_eq, S.ret_eq, S.retF_eq, S.retO_eq, S.retN_eq, S.withL_zero, S.withL_succ, S.putL_eq, S.ite_eq, S.set_eq, S.own_eq, S.bind_eq, S.app_eq, S.seti_eq, S.setD_int, S.putM_some, S.raise_eq, S.frzA_eq, S.frz_eq, S.never_eq, S.brk_eq, S.cont_eq, S.loop_eq, S.while_eq, noOw_nil, noOw_cons, Sl.noOw_no, Sl.noOw_sh, Sl.noOw_ow, frz1_zero, frz1_succ, Sl.frz_no, Sl.frz_sh, Sl.frz_ow, bindT_nm, bindT_tp, bindTs_nil, bindTs_cons, setsE_nil, setsE_cons, wipeE_nil, wipeE_cons, R.noex_ok, Fn.X_eq, Fn.F_eq, Fn.run1, Fn.run2, Fn.run3, Fn.outX_nx, Fn.outX_rt, Fn.outX_ex, Fn.outF_rt, Fn.outF_ex, on1_eq, on2_eq, index1_eq, D.pure_int, D.pure_bl, D.pure_str, D.pure_non, D.pure_tup, D.pure_lst, D.pures_nil, D.pures_cons, D.pures_app, D.pures_ints, addD_int, addD_lst, addD_tup, addI_int, subD_int, negD_int, ltD_int, leD_int, gtD_int, geD_int, max2D_int, min2D_int, lenD_lst, lenD_tup, lenD_fix, tupleD_lst, ixD_lst, ixD_tup, ixD_fix, tupD_two, tupD_three, lstD_one, lstD_two, lstD_three, lstD_nil, onInts_ints, sort1_ints, add2_eq, eqD_int, neD_int, within_int, noObj_int, noObj_bl, noObj_non, noObj_str, noObj_tup, noObj_lst, is_within_int, is_within_non, is_within_bl, is_within_str, is_within_tup, is_within_lst, dA_pure, itemsD_dA, lenD_dA, slD_tup, slD_lst, rev1_lst, S.ownD_eq, S.withD_zero, S.withD_succ, S.dput_eq, tupD_nil, S.ext_eq, E.join_eq, Fl.split_eq, Fl.ite_eq, isS_str, S.tryX_eq, tupD_four, List.replicate, List.set_cons_succ, List.set_cons_zero, if_true, Bool.true_or, Bool.or_true, Bool.true_and, Bool.and_true, Bool.and_self, Bool.not_true, Bool.not_false, Bool.false_eq_true, if_false, Bool.or_false, Bool.false_or, Bool.false_and, Bool.and_false, List.length_map, List.length_nil, Nat.zero_le, List.append_nil, List.singleton_append, List.nil_append, and_self, true_and, and_true, false_and, and_false, decide_true, decide_false, $as:simpLemma,*])
theorem odd_deed {ds : List De} {x : D} (h : ∀ d ∈ ds, d.Ok) (hl : ds.length ≤ 500) (hx : x ∈ odds) : Mi.deeds_text [.lst (dls ds ++ [x])] = .ex "BadDeed" := by
  have bx := List.all_eq_true.mp odds_bad x hx
  have px := List.all_eq_true.mp odds_pure x hx
  have e1 := lcM_map (t := .nm 1) (vs := [1]) (test := B.or (B.not (B.tru (E.call Mi.is_deed (E.cons (E.var 1) E.nil)))) (B.not (B.tru (E.call Mi.is_plain (E.cons (E.var 1) E.nil))))) (elt := E.var 1) (e := [.sh (.lst (dls ds ++ [x])), .no, .no, .no])
    (fun q : D × Bool => q.1) (fun q => q.1) (fun q => q.2) (ds.map (fun d => (dDe d, false)) ++ [(x, true)]) (fun q hq => ⟨[(1, q.1)], bindT_nm _ _, by
      rcases List.mem_append.mp hq with z | z
      · obtain ⟨d, hd, e⟩ := List.mem_map.mp z
        subst e
        have a := is_deed_ok d
        have b := is_plain_ok (h d hd)
        simp_all only [a, b]
      · rw [List.mem_singleton.mp z]
        unfold badDeed at bx
        have : (B.or (B.not (B.tru (E.call Mi.is_deed (E.cons (E.var 1) E.nil)))) (B.not (B.tru (E.call Mi.is_plain (E.cons (E.var 1) E.nil))))) [.no, .sh x, .no, .no] = .ok true := by
          revert bx
          split
          · intro _; assumption
          · intro h; exact absurd h (by simp)
        exact this, fun z => ⟨rfl, by
      rcases List.mem_append.mp hq with y | y
      · obtain ⟨d, hd, e⟩ := List.mem_map.mp y
        subst e
        exact dDe_pure d
      · rw [List.mem_singleton.mp y]; exact px⟩⟩)
  have m0 : (ds.map (fun d => (dDe d, false)) ++ [(x, true)]).map (fun q : D × Bool => q.1) = dls ds ++ [x] := by
    rw [List.map_append, List.map_map]
    rfl
  have f0 : ((ds.map (fun d => (dDe d, false)) ++ [(x, true)]).filter (fun q : D × Bool => q.2)) = [(x, true)] := by
    rw [List.filter_append]
    have : (ds.map (fun d => (dDe d, false))).filter (fun q : D × Bool => q.2) = [] := List.filter_eq_nil_iff.mpr fun q hq z => by
      obtain ⟨d, _, e⟩ := List.mem_map.mp hq
      subst e
      exact absurd z (by simp)
    rw [this]
    rfl
  rw [m0, f0] at e1
  unfold Mi.deeds_text Mi.b_deeds_text
  refine (fn1 (o := .ex "BadDeed" [.sh (.lst (dls ds ++ [x])), .no, .no, .no]) ?_).trans rfl
  simp only [List.replicate]
  refine seq_end ?_ (fun _ h => nomatch h)
  have il : isLst (.lst (dls ds ++ [x])) = .ok (.bl true) := rfl
  have xx : Fl.comp (I.items (E.var 0)) (.nm 1) [1] (B.or (B.not (B.tru (E.call Mi.is_deed (E.cons (E.var 1) E.nil)))) (B.not (B.tru (E.call Mi.is_plain (E.cons (E.var 1) E.nil))))) (E.var 1) [.sh (.lst (dls ds ++ [x])), .no, .no, .no] = .ok [x] := by
    rw [Fl.comp_eq, I.items_eq]
    simp_all only []
    rw [if_pos (by unfold dls; rw [List.length_append, List.length_map, List.length_singleton]; omega)]
    exact e1
  have t : B.or (B.not (B.tru (E.un isLst (E.var 0)))) (B.tru (E.call okLst (Fl.comp (I.items (E.var 0)) (.nm 1) [1] (B.or (B.not (B.tru (E.call Mi.is_deed (E.cons (E.var 1) E.nil)))) (B.not (B.tru (E.call Mi.is_plain (E.cons (E.var 1) E.nil))))) (E.var 1)))) [.sh (.lst (dls ds ++ [x])), .no, .no, .no] = .ok true := by
    rw [B.or_eq, B.not_eq, B.tru_eq, B.tru_eq, E.un_eq, E.call_eq, xx]
    simp_all only [il]
    rfl
  rw [S.ite_eq, t]
  rfl
end Lp

/-! # Law k24 -/
namespace Lp
open PySem
theorem word24 : Mi.law_word_k24 = Fn.X 2 1 (wordB (E.call Mi.law_called_k24 (E.cons (E.var 0) (E.cons (E.var 1) E.nil))) (E.call Mi.law_called_then_k24 (E.cons (E.var 0) (E.cons (E.var 1) E.nil)))) := rfl
local macro_rules | `(tactic| simp_all only [$as:simpLemma,*]) => `(tactic| simp only [R.bind_ok, R.bind_ex, R.bind_no, R.of_some, R.of_none, asInts_map, Out.seq_nx, Out.seq_rt, Out.seq_bk, Out.seq_ct, Out.seq_ex, Out.seq_no, R.out_ok, R.out_ex, R.out_no, E.c_eq, E.var_eq, E.un_eq, E.bin_eq, E.nil_eq, E.cons_eq, E.call_eq, E.ite_eq, E.andV_eq, E.orV_eq, E.notV_eq, E.chain_eq, E.methL_eq, E.none_eq, E.part_eq, E.slice_eq, asPart_int, B.val_eq, B.tru_eq, B.and_eq, B.or_eq, B.not_eq, B.yes_eq, truD_bl, truD_int, truD_lst, truD_tup, vw_nil, vw_zero, vw_succ, Sl.vw_no, Sl.vw_sh, Sl.vw_ow, Fl.lst_eq, Fl.add_eq, Fl.rep_eq, Fl.slice_eq, Fl.rev_eq, Fl.list_eq, Fl.sort_eq, Fl.call_eq, Fl.comp_eq, okLst_eq, I.items_eq, I.zip_eq, I.enum_eq, I.range1_eq, I.range2_eq, itemsD_lst, itemsD_tup, itemsD_fix, zipD_eq, enumD_eq, Z.px_eq, Z.pf_eq, Z.var_zero, Z.var_succ, S.seq_eq, S.nil_eq, S.drop_eq, S.ret_eq, S.retF_eq, S.retO_eq, S.retN_eq, S.withL_zero, S.withL_succ, S.putL_eq, S.ite_eq, S.set_eq, S.own_eq, S.bind_eq, S.app_eq, S.seti_eq, S.setD_int, S.putM_some, S.raise_eq, S.frzA_eq, S.frz_eq, S.never_eq, S.brk_eq, S.cont_eq, S.loop_eq, S.while_eq, noOw_nil, noOw_cons, Sl.noOw_no, Sl.noOw_sh, Sl.noOw_ow, frz1_zero, frz1_succ, Sl.frz_no, Sl.frz_sh, Sl.frz_ow, bindT_nm, bindT_tp, bindTs_nil, bindTs_cons, setsE_nil, setsE_cons, wipeE_nil, wipeE_cons, R.noex_ok, Fn.X_eq, Fn.F_eq, Fn.run1, Fn.run2, Fn.run3, Fn.outX_nx, Fn.outX_rt, Fn.outX_ex, Fn.outF_rt, Fn.outF_ex, on1_eq, on2_eq, index1_eq, D.pure_int, D.pure_bl, D.pure_str, D.pure_non, D.pure_tup, D.pure_lst, D.pures_nil, D.pures_cons, D.pures_app, D.pures_ints, addD_int, addD_lst, addD_tup, addI_int, subD_int, negD_int, ltD_int, leD_int, gtD_int, geD_int, max2D_int, min2D_int, lenD_lst, lenD_tup, lenD_fix, tupleD_lst, ixD_lst, ixD_tup, ixD_fix, tupD_two, tupD_three, lstD_one, lstD_two, lstD_three, lstD_nil, onInts_ints, sort1_ints, add2_eq, eqD_int, neD_int, within_int, noObj_int, noObj_bl, noObj_non, noObj_str, noObj_tup, noObj_lst, is_within_int, is_within_non, is_within_bl, is_within_str, is_within_tup, is_within_lst, dA_pure, itemsD_dA, lenD_dA, slD_tup, slD_lst, rev1_lst, S.ownD_eq, S.withD_zero, S.withD_succ, S.dput_eq, tupD_nil, S.ext_eq, E.join_eq, Fl.split_eq, Fl.ite_eq, isS_str, S.tryX_eq, tupD_four, List.replicate, List.set_cons_succ, List.set_cons_zero, if_true, Bool.true_or, Bool.or_true, Bool.true_and, Bool.and_true, Bool.and_self, Bool.not_true, Bool.not_false, Bool.false_eq_true, if_false, Bool.or_false, Bool.false_or, Bool.false_and, Bool.and_false, List.length_map, List.length_nil, Nat.zero_le, List.append_nil, List.singleton_append, List.nil_append, and_self, true_and, and_true, false_and, and_false, decide_true, decide_false, $as:simpLemma,*])
theorem then11 (x : D) : Mi.law_called_then_k24 [.int 11, .lst [x]] = Mi.read_plan [x] := by
  have i0 : ixD (.lst [x]) (.int 0) = .ok x := rfl
  unfold Mi.law_called_then_k24 Mi.b_law_called_then_k24
  cases h : Mi.read_plan [x] <;> (simp_all only [i0, h, show ¬ (11 : Int) < 10 by omega, show (11 : Int) < 12 by omega, show ¬ (11 : Int) = 10 by omega] <;> rfl)
theorem then12 (x : D) : Mi.law_called_then_k24 [.int 12, .lst [x]] = Mi.deeds_text [x] := by
  have i0 : ixD (.lst [x]) (.int 0) = .ok x := rfl
  unfold Mi.law_called_then_k24 Mi.b_law_called_then_k24
  cases h : Mi.deeds_text [x] <;> (simp_all only [i0, h, show ¬ (12 : Int) < 10 by omega, show ¬ (12 : Int) < 12 by omega] <;> rfl)
theorem then13 (x : D) : Mi.law_called_then_k24 [.int 13, .lst [x]] = (Mi.read_deeds [x]).bind okLst := by
  have i0 : ixD (.lst [x]) (.int 0) = .ok x := rfl
  unfold Mi.law_called_then_k24 Mi.b_law_called_then_k24
  cases h : Mi.read_deeds [x] <;> (simp_all only [i0, h, show ¬ (13 : Int) < 10 by omega, show ¬ (13 : Int) < 12 by omega, show ¬ (13 : Int) = 12 by omega] <;> rfl)
theorem w11 {x d : D} (h : Mi.read_plan [x] = .ok d) : Mi.law_word_k24 [.int 11, .lst [x]] = .ok (.str "") := by
  rw [word24]
  exact word_ok (d := d) (by
    rw [if_neg (by omega), E.call_eq]
    simp_all only [then11 x, h])
theorem w11x {x : D} (h : Mi.read_plan [x] = .ex "BadText") : Mi.law_word_k24 [.int 11, .lst [x]] = .ok (.str "text") := by
  rw [word24]
  exact word_ex (cl := "BadText") (by
    rw [if_neg (by omega), E.call_eq]
    simp_all only [then11 x, h]) (.inr (.inr (.inr (.inr ⟨rfl, rfl⟩))))
theorem w13 {x : D} {ds : List D} (h : Mi.read_deeds [x] = .ok ds) : Mi.law_word_k24 [.int 13, .lst [x]] = .ok (.str "") := by
  rw [word24]
  exact word_ok (d := .lst ds) (by
    rw [if_neg (by omega), E.call_eq]
    simp_all only [then13 x, h])
theorem w13x {x : D} (h : Mi.read_deeds [x] = .ex "BadText") : Mi.law_word_k24 [.int 13, .lst [x]] = .ok (.str "text") := by
  rw [word24]
  exact word_ex (cl := "BadText") (by
    rw [if_neg (by omega), E.call_eq]
    simp_all only [then13 x, h]) (.inr (.inr (.inr (.inr ⟨rfl, rfl⟩))))
theorem w12x {x : D} (h : Mi.deeds_text [x] = .ex "BadDeed") : Mi.law_word_k24 [.int 12, .lst [x]] = .ok (.str "deed") := by
  rw [word24]
  exact word_ex (cl := "BadDeed") (by
    rw [if_neg (by omega), E.call_eq]
    simp_all only [then12 x, h]) (.inr (.inr (.inr (.inl ⟨rfl, rfl⟩))))
def spP1 (p : Str) : List D := [.str (p ++ " "), .str (" " ++ p), .str "1+0", .str "01+1", .str "1+100", .str "5+1 4+1", .non, .str (p ++ "+1")]
def spP2 (p : Str) : List D := [.str "1 + 1", .str "1000+1", .str "+1", .lst [.str p]]
def spD1 : List D := [.str "ask", .str "ask 1 2", .str "back 1", .str "back 1 bad", .str "lend 1", .str "wait 01", .str "wait -1"]
def spD2 (t : Str) : List D := [.str (t ++ "\n"), .str "ask  1", .str "wait 1000", .non]
theorem spoil_plan (as : Asks) (v : validP as = true) (i : Int) (h0 : 0 ≤ i) (h1 : i < 12) : ∃ x, ixD (.lst (spP1 (ptS as) ++ spP2 (ptS as))) (.int i) = .ok x ∧ Mi.read_plan [x] = .ex "BadText" := by
  have : i = 0 ∨ i = 1 ∨ i = 2 ∨ i = 3 ∨ i = 4 ∨ i = 5 ∨ i = 6 ∨ i = 7 ∨ i = 8 ∨ i = 9 ∨ i = 10 ∨ i = 11 := by omega
  rcases this with e | e | e | e | e | e | e | e | e | e | e | e <;> subst e
  · exact ⟨.str (ptS as ++ " "), rfl, spoil_end as v⟩
  · exact ⟨.str (" " ++ ptS as), rfl, spoil_start as v⟩
  · exact ⟨.str "1+0", rfl, exB_eq (by decide +kernel)⟩
  · exact ⟨.str "01+1", rfl, exB_eq (by decide +kernel)⟩
  · exact ⟨.str "1+100", rfl, exB_eq (by decide +kernel)⟩
  · exact ⟨.str "5+1 4+1", rfl, exB_eq (by decide +kernel)⟩
  · exact ⟨.non, rfl, no_text rfl⟩
  · exact ⟨.str (ptS as ++ "+1"), rfl, spoil_more as v⟩
  · exact ⟨.str "1 + 1", rfl, exB_eq (by decide +kernel)⟩
  · exact ⟨.str "1000+1", rfl, exB_eq (by decide +kernel)⟩
  · exact ⟨.str "+1", rfl, exB_eq (by decide +kernel)⟩
  · exact ⟨.lst [.str (ptS as)], rfl, no_text rfl⟩
theorem dt_nil : dtS [] = "" := by decide +kernel
theorem pt_nil : ptS [] = "" := by decide +kernel
theorem spoil_deeds (ds : List De) (h : ∀ d ∈ ds, d.Ok) (hl : ds.length ≤ 500) (i : Int) (h0 : 0 ≤ i) (h1 : i < 11) (c : ¬ (i = 7 ∧ dtS ds = "")) : ∃ x, ixD (.lst (spD1 ++ spD2 (dtS ds))) (.int i) = .ok x ∧ Mi.read_deeds [x] = .ex "BadText" := by
  have : i = 0 ∨ i = 1 ∨ i = 2 ∨ i = 3 ∨ i = 4 ∨ i = 5 ∨ i = 6 ∨ i = 7 ∨ i = 8 ∨ i = 9 ∨ i = 10 := by omega
  rcases this with e | e | e | e | e | e | e | e | e | e | e <;> subst e
  · exact ⟨.str "ask", rfl, exB_eq (by decide +kernel)⟩
  · exact ⟨.str "ask 1 2", rfl, exB_eq (by decide +kernel)⟩
  · exact ⟨.str "back 1", rfl, exB_eq (by decide +kernel)⟩
  · exact ⟨.str "back 1 bad", rfl, exB_eq (by decide +kernel)⟩
  · exact ⟨.str "lend 1", rfl, exB_eq (by decide +kernel)⟩
  · exact ⟨.str "wait 01", rfl, exB_eq (by decide +kernel)⟩
  · exact ⟨.str "wait -1", rfl, exB_eq (by decide +kernel)⟩
  · exact ⟨.str (dtS ds ++ "\n"), rfl, spoil_lines h hl fun z => c ⟨rfl, by rw [z, dt_nil]⟩⟩
  · exact ⟨.str "ask  1", rfl, exB_eq (by decide +kernel)⟩
  · exact ⟨.str "wait 1000", rfl, exB_eq (by decide +kernel)⟩
  · exact ⟨.non, rfl, no_lines rfl⟩
theorem odd_at24 (i : Int) (h0 : 0 ≤ i) (h1 : i < 7) : ∃ x ∈ odds, ixD (.lst odds) (.int i) = .ok x := by
  refine ⟨odds[i.toNat]'(by show i.toNat < 7; omega), List.getElem_mem _, ?_⟩
  rw [ixD_lst, atI_int _ _ h0 (by show i < 7; omega), List.getElem?_eq_getElem (by show i.toNat < 7; omega)]
  rfl
theorem dls_dt (ds : List De) (n : Nat) : (D.lst (dls ds)).dt (n + 2) = true := by
  rw [D.dt]
  exact dts_mono fun d hd => by
    obtain ⟨a, _, e⟩ := List.mem_map.mp hd
    rw [← e]
    cases a <;> simp [dDe, D.dt, D.dts]
theorem str_dt (x : Str) : (D.str x).dt 8 = true := by simp [D.dt]
theorem k24_true (ns : List Int) : Mi.law_k24 [scr ns] = .ok (.bl true) := by
  have c7 : Mi.law_cell [scr ns, .int 7] = .ok (.int (cell ns 7)) := cell_eq ns 7
  have c17 : Mi.law_cell [scr ns, .int 17] = .ok (.int (cell ns 17)) := cell_eq ns 17
  have c18 : Mi.law_cell [scr ns, .int 18] = .ok (.int (cell ns 18)) := cell_eq ns 18
  obtain ⟨as, ha, o, l⟩ := asks_eq ns 0 20 (by omega)
  replace ha : Mi.law_asks [scr ns, .int 0, .int 20] = .ok (dA as) := ha
  have v : validP as = true := by unfold validP; simp [o]; omega
  obtain ⟨ds, hd, od, dl⟩ := law_deeds_eq ns
  have lpt := law_plan_text_eq as v
  have ppt := plan_text_eq as v
  have rp := read_plan_eq as v
  have word1 := w11 rp
  have ldt := law_deeds_text_eq od (by omega)
  have ddt := deeds_text_eq od (by omega)
  have rd := read_deeds_eq od (by omega)
  have word3 := w13 rd
  have q0 := Int.emod_nonneg (cell ns 7) (show (12 : Int) ≠ 0 by omega)
  have q1 := Int.emod_lt_of_pos (cell ns 7) (show (0 : Int) < 12 by omega)
  obtain ⟨x, hx, hxb⟩ := spoil_plan as v _ q0 q1
  have word2 := w11x hxb
  have pl := ptS_len o
  have tl := dtS_len od
  have n1 : neD (.str (ptS as)) (.str (ptS as)) = .ok (.bl false) := neD_self (str_dt _)
  have n2 : neD (.str "") (.str "") = .ok (.bl false) := neD_self (str_dt _)
  have n3 : neD (dA as) (dA as) = .ok (.bl false) := neD_self (dA_dt as 6)
  have n4 : neD (.str "text") (.str "text") = .ok (.bl false) := neD_self (str_dt _)
  have n5 : neD (.str (dtS ds)) (.str (dtS ds)) = .ok (.bl false) := neD_self (str_dt _)
  have n6 : neD (.lst (dls ds)) (.lst (dls ds)) = .ok (.bl false) := neD_self (dls_dt ds 6)
  have e1 : eqD (.str "deed") (.str "deed") = .ok (.bl true) := eqD_self (str_dt _)
  have z1 : (" " : Str).length = 1 := by decide +kernel
  have z2 : ("+1" : Str).length = 2 := by decide +kernel
  have z3 : ("\n" : Str).length = 1 := by decide +kernel
  have ad1 : addD (.str (ptS as)) (.str " ") = .ok (.str (ptS as ++ " ")) := str_add (by omega)
  have ad2 : addD (.str " ") (.str (ptS as)) = .ok (.str (" " ++ ptS as)) := str_add (by omega)
  have ad3 : addD (.str (ptS as)) (.str "+1") = .ok (.str (ptS as ++ "+1")) := str_add (by omega)
  have ad4 : addD (.str (dtS ds)) (.str "\n") = .ok (.str (dtS ds ++ "\n")) := str_add (by omega)
  have l1 : ∀ y : D, lstD [y] = .ok (.lst [y]) := fun _ => rfl
  have l4 : ∀ a b c d : D, lstD [a, b, c, d] = .ok (.lst [a, b, c, d]) := fun _ _ _ _ => rfl
  have ap : addD (.lst (spP1 (ptS as))) (.lst (spP2 (ptS as))) = .ok (.lst (spP1 (ptS as) ++ spP2 (ptS as))) := rfl
  have ap2 : addD (.lst spD1) (.lst (spD2 (dtS ds))) = .ok (.lst (spD1 ++ spD2 (dtS ds))) := rfl
  have pu1 : D.pures (spP1 (ptS as)) = true := rfl
  have pu3 : D.pures spD1 = true := rfl
  have pu5 : D.pures (dls ds) = true := by unfold dls; rw [D.pures_all, List.all_map, List.all_eq_true]; exact fun d _ => dDe_pure d
  have pu6 : D.pures odds = true := rfl
  have li : Fl.list1 [.lst (dls ds)] = .ok (dls ds) := rfl
  unfold Mi.law_k24 Mi.b_law_k24
  refine (fn1 (o := .rt (.bl true)) ?_).trans rfl
  simp only [List.replicate]
  refine (seq_step (e' := [.sh (scr ns), .sh (dA as), .no, .no, .no, .no, .no, .no]) (by simp_all only [ha, dA_pure] <;> rfl)).trans ?_
  refine (seq_step (e' := [.sh (scr ns), .sh (dA as), .sh (.str (ptS as)), .no, .no, .no, .no, .no]) (by simp_all only [lpt] <;> rfl)).trans ?_
  refine (seq_step (e' := [.sh (scr ns), .sh (dA as), .sh (.str (ptS as)), .no, .no, .no, .no, .no]) (by simp_all only [ppt, n1, l1, word1, n2, rp, n3] <;> rfl)).trans ?_
  refine (seq_step (e' := [.sh (scr ns), .sh (dA as), .sh (.str (ptS as)), .sh (.lst (spP1 (ptS as))), .no, .no, .no, .no]) (by
    have z : Fl.lst (E.cons (E.bin addD (E.var 2) (E.c (.str " "))) (E.cons (E.bin addD (E.c (.str " ")) (E.var 2)) (E.cons (E.c (.str "1+0")) (E.cons (E.c (.str "01+1")) (E.cons (E.c (.str "1+100")) (E.cons (E.c (.str "5+1 4+1")) (E.cons (E.c .non) (E.cons (E.bin addD (E.var 2) (E.c (.str "+1"))) E.nil)))))))) [.sh (scr ns), .sh (dA as), .sh (.str (ptS as)), .no, .no, .no, .no, .no] = .ok (spP1 (ptS as)) := by
      simp only [Fl.lst_eq, E.cons_eq, E.nil_eq, E.bin_eq, E.var_eq, E.c_eq, vw_zero, vw_succ, Sl.vw_sh, R.of_some, R.bind_ok, ad1, ad2, ad3]
      rfl
    rw [S.set_eq, Z.pf_eq, z]
    simp only [R.bind_ok, pu1, Bool.true_or, if_true, R.out_ok]
    rfl)).trans ?_
  refine (seq_step (e' := [.sh (scr ns), .sh (dA as), .sh (.str (ptS as)), .sh (.lst (spP1 (ptS as) ++ spP2 (ptS as))), .no, .no, .no, .no]) (by
    have z : E.bin addD (E.var 3) (E.call lstD (E.cons (E.c (.str "1 + 1")) (E.cons (E.c (.str "1000+1")) (E.cons (E.c (.str "+1")) (E.cons (E.call lstD (E.cons (E.var 2) E.nil)) E.nil))))) [.sh (scr ns), .sh (dA as), .sh (.str (ptS as)), .sh (.lst (spP1 (ptS as))), .no, .no, .no, .no] = .ok (.lst (spP1 (ptS as) ++ spP2 (ptS as))) := by
      simp only [E.bin_eq, E.call_eq, E.cons_eq, E.nil_eq, E.var_eq, E.c_eq, vw_zero, vw_succ, Sl.vw_sh, R.of_some, R.bind_ok, l1, l4]
      exact ap
    rw [S.set_eq, Z.px_eq, z]
    have nz : noOw [.sh (scr ns), .sh (dA as), .sh (.str (ptS as)), .sh (.lst (spP1 (ptS as))), .no, .no, .no, .no] = true := rfl
    simp only [R.bind_ok, nz, Bool.or_true, if_true, R.out_ok]
    rfl)).trans ?_
  refine (seq_step (e' := [.sh (scr ns), .sh (dA as), .sh (.str (ptS as)), .sh (.lst (spP1 (ptS as) ++ spP2 (ptS as))), .no, .no, .no, .no]) (by simp_all only [c7, modD_int _ 12 (show (0 : Int) < 12 by omega), hx, l1, word2, n4] <;> rfl)).trans ?_
  refine (seq_step (e' := [.sh (scr ns), .sh (dA as), .sh (.str (ptS as)), .sh (.lst (spP1 (ptS as) ++ spP2 (ptS as))), .sh (.lst (dls ds)), .no, .no, .no]) (by simp_all only [hd, pu5] <;> rfl)).trans ?_
  refine (seq_step (e' := [.sh (scr ns), .sh (dA as), .sh (.str (ptS as)), .sh (.lst (spP1 (ptS as) ++ spP2 (ptS as))), .sh (.lst (dls ds)), .sh (.str (dtS ds)), .no, .no]) (by simp_all only [ldt] <;> rfl)).trans ?_
  refine (seq_step (e' := [.sh (scr ns), .sh (dA as), .sh (.str (ptS as)), .sh (.lst (spP1 (ptS as) ++ spP2 (ptS as))), .sh (.lst (dls ds)), .sh (.str (dtS ds)), .no, .no]) (by simp_all only [li, ddt, n5, l1, word3, n2, rd, n6] <;> rfl)).trans ?_
  refine (seq_step (e' := [.sh (scr ns), .sh (dA as), .sh (.str (ptS as)), .sh (.lst spD1), .sh (.lst (dls ds)), .sh (.str (dtS ds)), .no, .no]) (by rfl)).trans ?_
  refine (seq_step (e' := [.sh (scr ns), .sh (dA as), .sh (.str (ptS as)), .sh (.lst (spD1 ++ spD2 (dtS ds))), .sh (.lst (dls ds)), .sh (.str (dtS ds)), .no, .no]) (by
    have z : E.bin addD (E.var 3) (E.call lstD (E.cons (E.bin addD (E.var 5) (E.c (.str "\n"))) (E.cons (E.c (.str "ask  1")) (E.cons (E.c (.str "wait 1000")) (E.cons (E.c .non) E.nil))))) [.sh (scr ns), .sh (dA as), .sh (.str (ptS as)), .sh (.lst spD1), .sh (.lst (dls ds)), .sh (.str (dtS ds)), .no, .no] = .ok (.lst (spD1 ++ spD2 (dtS ds))) := by
      simp only [E.bin_eq, E.call_eq, E.cons_eq, E.nil_eq, E.var_eq, E.c_eq, vw_zero, vw_succ, Sl.vw_sh, R.of_some, R.bind_ok, ad4, l4]
      exact ap2
    rw [S.set_eq, Z.px_eq, z]
    have nz : noOw [.sh (scr ns), .sh (dA as), .sh (.str (ptS as)), .sh (.lst spD1), .sh (.lst (dls ds)), .sh (.str (dtS ds)), .no, .no] = true := rfl
    simp only [R.bind_ok, nz, Bool.or_true, if_true, R.out_ok]
    rfl)).trans ?_
  have r0 := Int.emod_nonneg (cell ns 17) (show (11 : Int) ≠ 0 by omega)
  have r1 := Int.emod_lt_of_pos (cell ns 17) (show (0 : Int) < 11 by omega)
  obtain ⟨t, ht⟩ : ∃ t, t = cell ns 17 % 11 := ⟨_, rfl⟩
  refine (seq_step (e' := [.sh (scr ns), .sh (dA as), .sh (.str (ptS as)), .sh (.lst (spD1 ++ spD2 (dtS ds))), .sh (.lst (dls ds)), .sh (.str (dtS ds)), .sh (.int t), .no]) (by simp_all only [c17, modD_int _ 11 (show (0 : Int) < 11 by omega), ← ht] <;> rfl)).trans ?_
  by_cases c : t = 7 ∧ dtS ds = ""
  · have re := read_deeds_eq (ds := []) (fun d h => nomatch h) (by simp)
    rw [dt_nil] at re
    have pe := read_plan_eq [] rfl
    rw [pt_nil] at pe
    have tt : B.and (B.val (E.bin eqD (E.var 6) (E.c (.int 7)))) (B.val (E.bin eqD (E.var 5) (E.c (.str "")))) [.sh (scr ns), .sh (dA as), .sh (.str (ptS as)), .sh (.lst (spD1 ++ spD2 (dtS ds))), .sh (.lst (dls ds)), .sh (.str (dtS ds)), .sh (.int t), .no] = .ok true := by
      simp_all only [c.1, c.2, eqD_str]
    refine seq_end ?_ (fun _ h => nomatch h)
    rw [S.ite_eq, tt]
    simp only [R.out_ok, if_true]
    refine seq_end ?_ (fun _ h => nomatch h)
    have ee : eqD (.lst (dls [])) (.lst []) = .ok (.bl true) := eqD_self (d := .lst []) rfl
    have ee2 : eqD (dA []) (.tup []) = .ok (.bl true) := eqD_self (d := .tup []) rfl
    have ll : lstD [] = .ok (.lst []) := rfl
    have tu : tupD [] = .ok (.tup []) := rfl
    simp_all only [re, pe, ee, ee2, ll, tu]
  · have tt : B.and (B.val (E.bin eqD (E.var 6) (E.c (.int 7)))) (B.val (E.bin eqD (E.var 5) (E.c (.str "")))) [.sh (scr ns), .sh (dA as), .sh (.str (ptS as)), .sh (.lst (spD1 ++ spD2 (dtS ds))), .sh (.lst (dls ds)), .sh (.str (dtS ds)), .sh (.int t), .no] = .ok false := by
      by_cases c2 : t = 7
      · have c3 : ¬ dtS ds = "" := fun z => c ⟨c2, z⟩
        simp_all only [c2, c3, eqD_str, decide_eq_false c3]
      · simp_all only [c2]
    obtain ⟨y, hy, hyb⟩ := spoil_deeds ds od (by omega) t (by omega) (by omega) c
    have word4 := w13x hyb
    refine (seq_step (e' := [.sh (scr ns), .sh (dA as), .sh (.str (ptS as)), .sh (.lst (spD1 ++ spD2 (dtS ds))), .sh (.lst (dls ds)), .sh (.str (dtS ds)), .sh (.int t), .no]) (by rw [S.ite_eq, tt]; rfl)).trans ?_
    refine (seq_step (e' := [.sh (scr ns), .sh (dA as), .sh (.str (ptS as)), .sh (.lst (spD1 ++ spD2 (dtS ds))), .sh (.lst (dls ds)), .sh (.str (dtS ds)), .sh (.int t), .no]) (by simp_all only [hy, l1, word4, n4] <;> rfl)).trans ?_
    refine (seq_step (e' := [.sh (scr ns), .sh (dA as), .sh (.str (ptS as)), .sh (.lst (spD1 ++ spD2 (dtS ds))), .sh (.lst (dls ds)), .sh (.str (dtS ds)), .sh (.int t), .sh (.lst odds)]) (by rfl)).trans ?_
    have s0 := Int.emod_nonneg (cell ns 18) (show (7 : Int) ≠ 0 by omega)
    have s1 := Int.emod_lt_of_pos (cell ns 18) (show (0 : Int) < 7 by omega)
    obtain ⟨w, hw, hwx⟩ := odd_at24 _ s0 s1
    have word5 := w12x (odd_deed od (by omega) hw)
    have a2 : Fl.add2 (.lst (dls ds)) (.lst [w]) = .ok (dls ds ++ [w]) := by
      show (if (dls ds).length + [w].length ≤ _ then _ else _) = _
      exact if_pos (by unfold dls; simp; omega)
    refine seq_end ?_ (fun _ h => nomatch h)
    simp_all only [c18, modD_int _ 7 (show (0 : Int) < 7 by omega), hwx, l1, a2, word5, e1]
end Lp
theorem Mi.law_k24_true (ns : List Int) (h : ns.length ≤ 63) : Mi.law_k24 [.fix (ns.map Lp.D.int)] = .ok (.bl true) := Lp.k24_true ns

set_option maxHeartbeats 0
namespace Wk
open PySem PySem.Spec PyProof.Rows PySem.W PySem.Calls L2 Lp
def top (i : Nat) : Stmt := PySem.Challenge.pw_lendpool_k24_texts.main.body.getD i (.Pass ⟨0, 0, 0, 0⟩)
def mth (i j : Nat) : Stmt := match top i with
  | .ClassDef (body := b) .. => b.getD j (.Pass ⟨0, 0, 0, 0⟩)
  | _ => .Pass ⟨0, 0, 0, 0⟩
def d_law_mix : He.DefD := ⟨("_law_mix", none), "_law_mix", "_law_mix", defArgs (top 61), defBody (top 61), defScope (top 61), [], []⟩
def d_law_seed : He.DefD := ⟨("_law_seed", none), "_law_seed", "_law_seed", defArgs (top 62), defBody (top 62), defScope (top 62), [], []⟩
def d_law_cell : He.DefD := ⟨("_law_cell", none), "_law_cell", "_law_cell", defArgs (top 60), defBody (top 60), defScope (top 60), [], []⟩
def d_law_pick : He.DefD := ⟨("_law_pick", none), "_law_pick", "_law_pick", defArgs (top 63), defBody (top 63), defScope (top 63), [], []⟩
def d_law_asks : He.DefD := ⟨("_law_asks", none), "_law_asks", "_law_asks", defArgs (top 65), defBody (top 65), defScope (top 65), [], []⟩
def d_law_plan_text : He.DefD := ⟨("_law_plan_text", none), "_law_plan_text", "_law_plan_text", defArgs (top 66), defBody (top 66), defScope (top 66), [], []⟩
def d_law_deeds : He.DefD := ⟨("_law_deeds", none), "_law_deeds", "_law_deeds", defArgs (top 64), defBody (top 64), defScope (top 64), [], []⟩
def d_law_deeds_text : He.DefD := ⟨("_law_deeds_text", none), "_law_deeds_text", "_law_deeds_text", defArgs (top 67), defBody (top 67), defScope (top 67), [], []⟩
def d_law_called : He.DefD := ⟨("_law_called", none), "_law_called", "_law_called", defArgs (top 68), defBody (top 68), defScope (top 68), [], []⟩
def d_is_deed : He.DefD := ⟨("is_deed", none), "is_deed", "is_deed", defArgs (top 27), defBody (top 27), defScope (top 27), [], []⟩
def d_is_within : He.DefD := ⟨("is_within", none), "is_within", "is_within", defArgs (top 12), defBody (top 12), defScope (top 12), [], []⟩
def d_is_plain : He.DefD := ⟨("is_plain", none), "is_plain", "is_plain", defArgs (top 36), defBody (top 36), defScope (top 36), [], []⟩
def d_deeds_text : He.DefD := ⟨("deeds_text", none), "deeds_text", "deeds_text", defArgs (top 37), defBody (top 37), defScope (top 37), [], []⟩
def d_number_of : He.DefD := ⟨("number_of", none), "number_of", "number_of", defArgs (top 34), defBody (top 34), defScope (top 34), [], []⟩
def d_read_deeds : He.DefD := ⟨("read_deeds", none), "read_deeds", "read_deeds", defArgs (top 38), defBody (top 38), defScope (top 38), [], []⟩
def d_look_plan : He.DefD := ⟨("look_plan", none), "look_plan", "look_plan", defArgs (top 19), defBody (top 19), defScope (top 19), [], []⟩
def d_plan_text : He.DefD := ⟨("plan_text", none), "plan_text", "plan_text", defArgs (top 33), defBody (top 33), defScope (top 33), [], []⟩
def d_read_plan : He.DefD := ⟨("read_plan", none), "read_plan", "read_plan", defArgs (top 35), defBody (top 35), defScope (top 35), [], []⟩
def d_law_called_then : He.DefD := ⟨("_law_called_then", none), "_law_called_then", "_law_called_then", defArgs (top 69), defBody (top 69), defScope (top 69), [], []⟩
def d_law_word : He.DefD := ⟨("_law_word", none), "_law_word", "_law_word", defArgs (top 70), defBody (top 70), defScope (top 70), [], []⟩
def d_law : He.DefD := ⟨("law", none), "law", "law", defArgs (top 71), defBody (top 71), defScope (top 71), [], []⟩
def fn : List He.DefD := [d_law_mix, d_law_seed, d_law_cell, d_law_pick, d_law_asks, d_law_plan_text, d_law_deeds, d_law_deeds_text, d_law_called, d_is_deed, d_is_within, d_is_plain, d_deeds_text, d_number_of, d_read_deeds, d_look_plan, d_plan_text, d_read_plan, d_law_called_then, d_law_word, d_law]
def fa : List He.Fa := ([.glo "_law_mix", .glo "_law_seed", .free "len", .glo "_law_cell", .glo "_law_pick", .free "range", .free "min", .free "tuple", .glo "_law_asks", .free "enumerate", .free "int", .free "str", .glo "_law_plan_text", .glo "_law_deeds", .glo "_law_deeds_text", .glo "_law_called", .free "isinstance", .glo "SIZES", .glo "is_deed", .free "bool", .glo "is_within", .int "MOST_NUMBER" 999, .glo "is_plain", .free "list", .glo "BadDeed", .exc "BadDeed", .glo "deeds_text", .str "FIGURES" "0123456789", .glo "BadText", .exc "BadText"] : List He.Fa) ++ ([.glo "number_of", .glo "read_deeds", .int "MOST_ASKS" 40, .glo "BadPlan", .exc "BadPlan", .int "MOST_TIME" 999, .int "MOST_LONG" 99, .glo "look_plan", .glo "plan_text", .glo "PoolError", .exm "PoolError" "PoolError" true, .glo "BadSettings", .exm "BadSettings" "PoolError" true, .glo "BadNumber", .exm "BadNumber" "PoolError" true, .glo "BadThing", .exm "BadThing" "PoolError" true, .exm "BadPlan" "PoolError" true, .exm "BadDeed" "PoolError" true, .exm "BadText" "PoolError" true, .glo "Nothing", .exm "Nothing" "PoolError" true, .glo "read_plan", .glo "_law_called_then", .exm "PoolError" "BadText" false, .exm "BadSettings" "BadText" false, .exm "BadNumber" "BadText" false, .exm "BadThing" "BadText" false, .exm "BadPlan" "BadText" false, .exm "BadDeed" "BadText" false] : List He.Fa) ++ ([.exm "BadText" "BadText" true, .exm "Nothing" "BadText" false, .exm "PoolError" "BadDeed" false, .exm "BadSettings" "BadDeed" false, .exm "BadNumber" "BadDeed" false, .exm "BadThing" "BadDeed" false, .exm "BadPlan" "BadDeed" false, .exm "BadDeed" "BadDeed" true, .exm "BadText" "BadDeed" false, .exm "Nothing" "BadDeed" false, .exm "PoolError" "BadSettings" false, .exm "BadSettings" "BadSettings" true, .exm "BadNumber" "BadSettings" false, .exm "BadThing" "BadSettings" false, .exm "BadPlan" "BadSettings" false, .exm "BadDeed" "BadSettings" false, .exm "BadText" "BadSettings" false, .exm "Nothing" "BadSettings" false, .exm "PoolError" "BadPlan" false, .exm "BadSettings" "BadPlan" false, .exm "BadNumber" "BadPlan" false, .exm "BadThing" "BadPlan" false, .exm "BadPlan" "BadPlan" true, .exm "BadDeed" "BadPlan" false, .exm "BadText" "BadPlan" false, .exm "Nothing" "BadPlan" false, .exm "PoolError" "BadNumber" false, .exm "BadSettings" "BadNumber" false, .exm "BadNumber" "BadNumber" true, .exm "BadThing" "BadNumber" false] : List He.Fa) ++ ([.exm "BadPlan" "BadNumber" false, .exm "BadDeed" "BadNumber" false, .exm "BadText" "BadNumber" false, .exm "Nothing" "BadNumber" false, .glo "_law_word", .glo "law"] : List He.Fa)
def tb : List (PySem.Str × D) := []
def td : List TabI := [("SIZES", [("ask", 1), ("back", 2), ("left", 1), ("spoil", 1), ("wait", 1)])]
structure Tx (w : World) (K : PySem.W.Frag) (mg : PySem.Str → Option Value) : Prop where
  ex : ∃ h : Heap, K.In h ∧ h.Ns mainGlobals mg
  q : SaysQ td tb fa fn w K
section
variable {P : Program} {w : World} {K : PySem.W.Frag} {mg : PySem.Str → Option Value} {base : Heap}
theorem Tx.s (T : Tx w K mg) : SaysP tb fa fn K := T.q.p
theorem Tx.c (T : Tx w K mg) : He.SaysD fa fn K := T.s.d
theorem Tx.glo_law_mix (T : Tx w K mg) : mg "_law_mix" = some (.ref (He.ga K "_law_mix")) := by obtain ⟨h, X, G⟩ := T.ex; exact He.glo_ok X G (T.c.fact 0 (f := .glo "_law_mix") rfl)
theorem Tx.glo_law_seed (T : Tx w K mg) : mg "_law_seed" = some (.ref (He.ga K "_law_seed")) := by obtain ⟨h, X, G⟩ := T.ex; exact He.glo_ok X G (T.c.fact 1 (f := .glo "_law_seed") rfl)
theorem Tx.free_len (T : Tx w K mg) : mg "len" = none := by obtain ⟨h, X, G⟩ := T.ex; exact He.free_ok X G (T.c.fact 2 (f := .free "len") rfl)
theorem Tx.glo_law_cell (T : Tx w K mg) : mg "_law_cell" = some (.ref (He.ga K "_law_cell")) := by obtain ⟨h, X, G⟩ := T.ex; exact He.glo_ok X G (T.c.fact 3 (f := .glo "_law_cell") rfl)
theorem Tx.glo_law_pick (T : Tx w K mg) : mg "_law_pick" = some (.ref (He.ga K "_law_pick")) := by obtain ⟨h, X, G⟩ := T.ex; exact He.glo_ok X G (T.c.fact 4 (f := .glo "_law_pick") rfl)
theorem Tx.free_range (T : Tx w K mg) : mg "range" = none := by obtain ⟨h, X, G⟩ := T.ex; exact He.free_ok X G (T.c.fact 5 (f := .free "range") rfl)
theorem Tx.free_min (T : Tx w K mg) : mg "min" = none := by obtain ⟨h, X, G⟩ := T.ex; exact He.free_ok X G (T.c.fact 6 (f := .free "min") rfl)
theorem Tx.free_tuple (T : Tx w K mg) : mg "tuple" = none := by obtain ⟨h, X, G⟩ := T.ex; exact He.free_ok X G (T.c.fact 7 (f := .free "tuple") rfl)
theorem Tx.glo_law_asks (T : Tx w K mg) : mg "_law_asks" = some (.ref (He.ga K "_law_asks")) := by obtain ⟨h, X, G⟩ := T.ex; exact He.glo_ok X G (T.c.fact 8 (f := .glo "_law_asks") rfl)
theorem Tx.free_enumerate (T : Tx w K mg) : mg "enumerate" = none := by obtain ⟨h, X, G⟩ := T.ex; exact He.free_ok X G (T.c.fact 9 (f := .free "enumerate") rfl)
theorem Tx.free_int (T : Tx w K mg) : mg "int" = none := by obtain ⟨h, X, G⟩ := T.ex; exact He.free_ok X G (T.c.fact 10 (f := .free "int") rfl)
theorem Tx.free_str (T : Tx w K mg) : mg "str" = none := by obtain ⟨h, X, G⟩ := T.ex; exact He.free_ok X G (T.c.fact 11 (f := .free "str") rfl)
theorem Tx.glo_law_plan_text (T : Tx w K mg) : mg "_law_plan_text" = some (.ref (He.ga K "_law_plan_text")) := by obtain ⟨h, X, G⟩ := T.ex; exact He.glo_ok X G (T.c.fact 12 (f := .glo "_law_plan_text") rfl)
theorem Tx.glo_law_deeds (T : Tx w K mg) : mg "_law_deeds" = some (.ref (He.ga K "_law_deeds")) := by obtain ⟨h, X, G⟩ := T.ex; exact He.glo_ok X G (T.c.fact 13 (f := .glo "_law_deeds") rfl)
theorem Tx.glo_law_deeds_text (T : Tx w K mg) : mg "_law_deeds_text" = some (.ref (He.ga K "_law_deeds_text")) := by obtain ⟨h, X, G⟩ := T.ex; exact He.glo_ok X G (T.c.fact 14 (f := .glo "_law_deeds_text") rfl)
theorem Tx.glo_law_called (T : Tx w K mg) : mg "_law_called" = some (.ref (He.ga K "_law_called")) := by obtain ⟨h, X, G⟩ := T.ex; exact He.glo_ok X G (T.c.fact 15 (f := .glo "_law_called") rfl)
theorem Tx.free_isinstance (T : Tx w K mg) : mg "isinstance" = none := by obtain ⟨h, X, G⟩ := T.ex; exact He.free_ok X G (T.c.fact 16 (f := .free "isinstance") rfl)
theorem Tx.tab_SIZES (T : Tx w K mg) : TabAt K w (He.ga K "SIZES") [("ask", 1), ("back", 2), ("left", 1), ("spoil", 1), ("wait", 1)] := T.q.tab 0 rfl
theorem Tx.glo_SIZES (T : Tx w K mg) : mg "SIZES" = some (.ref (He.ga K "SIZES")) := by obtain ⟨h, X, G⟩ := T.ex; exact He.glo_ok X G (T.c.fact 17 (f := .glo "SIZES") rfl)
theorem Tx.glo_is_deed (T : Tx w K mg) : mg "is_deed" = some (.ref (He.ga K "is_deed")) := by obtain ⟨h, X, G⟩ := T.ex; exact He.glo_ok X G (T.c.fact 18 (f := .glo "is_deed") rfl)
theorem Tx.free_bool (T : Tx w K mg) : mg "bool" = none := by obtain ⟨h, X, G⟩ := T.ex; exact He.free_ok X G (T.c.fact 19 (f := .free "bool") rfl)
theorem Tx.glo_is_within (T : Tx w K mg) : mg "is_within" = some (.ref (He.ga K "is_within")) := by obtain ⟨h, X, G⟩ := T.ex; exact He.glo_ok X G (T.c.fact 20 (f := .glo "is_within") rfl)
theorem Tx.int_MOST_NUMBER (T : Tx w K mg) : ∃ t, mg "MOST_NUMBER" = some (.int 999 t) := by obtain ⟨h, X, G⟩ := T.ex; exact He.int_ok X G (T.c.fact 21 (f := .int "MOST_NUMBER" 999) rfl)
theorem Tx.glo_is_plain (T : Tx w K mg) : mg "is_plain" = some (.ref (He.ga K "is_plain")) := by obtain ⟨h, X, G⟩ := T.ex; exact He.glo_ok X G (T.c.fact 22 (f := .glo "is_plain") rfl)
theorem Tx.free_list (T : Tx w K mg) : mg "list" = none := by obtain ⟨h, X, G⟩ := T.ex; exact He.free_ok X G (T.c.fact 23 (f := .free "list") rfl)
theorem Tx.exc_BadDeed (T : Tx w K mg) : OwnEx K mg "BadDeed" := by obtain ⟨h, X, G⟩ := T.ex; exact ⟨_, He.glo_ok X G (T.c.fact 24 (f := .glo "BadDeed") rfl), He.exc_ok (T.c.fact 25 (f := .exc "BadDeed") rfl)⟩
theorem Tx.glo_deeds_text (T : Tx w K mg) : mg "deeds_text" = some (.ref (He.ga K "deeds_text")) := by obtain ⟨h, X, G⟩ := T.ex; exact He.glo_ok X G (T.c.fact 26 (f := .glo "deeds_text") rfl)
theorem Tx.str_FIGURES (T : Tx w K mg) : ∃ t, mg "FIGURES" = some (.str "0123456789" t) := by obtain ⟨h, X, G⟩ := T.ex; exact He.str_ok X G (T.c.fact 27 (f := .str "FIGURES" "0123456789") rfl)
theorem Tx.exc_BadText (T : Tx w K mg) : OwnEx K mg "BadText" := by obtain ⟨h, X, G⟩ := T.ex; exact ⟨_, He.glo_ok X G (T.c.fact 28 (f := .glo "BadText") rfl), He.exc_ok (T.c.fact 29 (f := .exc "BadText") rfl)⟩
theorem Tx.glo_number_of (T : Tx w K mg) : mg "number_of" = some (.ref (He.ga K "number_of")) := by obtain ⟨h, X, G⟩ := T.ex; exact He.glo_ok X G (T.c.fact 30 (f := .glo "number_of") rfl)
theorem Tx.glo_read_deeds (T : Tx w K mg) : mg "read_deeds" = some (.ref (He.ga K "read_deeds")) := by obtain ⟨h, X, G⟩ := T.ex; exact He.glo_ok X G (T.c.fact 31 (f := .glo "read_deeds") rfl)
theorem Tx.int_MOST_ASKS (T : Tx w K mg) : ∃ t, mg "MOST_ASKS" = some (.int 40 t) := by obtain ⟨h, X, G⟩ := T.ex; exact He.int_ok X G (T.c.fact 32 (f := .int "MOST_ASKS" 40) rfl)
theorem Tx.exc_BadPlan (T : Tx w K mg) : OwnEx K mg "BadPlan" := by obtain ⟨h, X, G⟩ := T.ex; exact ⟨_, He.glo_ok X G (T.c.fact 33 (f := .glo "BadPlan") rfl), He.exc_ok (T.c.fact 34 (f := .exc "BadPlan") rfl)⟩
theorem Tx.int_MOST_TIME (T : Tx w K mg) : ∃ t, mg "MOST_TIME" = some (.int 999 t) := by obtain ⟨h, X, G⟩ := T.ex; exact He.int_ok X G (T.c.fact 35 (f := .int "MOST_TIME" 999) rfl)
theorem Tx.int_MOST_LONG (T : Tx w K mg) : ∃ t, mg "MOST_LONG" = some (.int 99 t) := by obtain ⟨h, X, G⟩ := T.ex; exact He.int_ok X G (T.c.fact 36 (f := .int "MOST_LONG" 99) rfl)
theorem Tx.glo_look_plan (T : Tx w K mg) : mg "look_plan" = some (.ref (He.ga K "look_plan")) := by obtain ⟨h, X, G⟩ := T.ex; exact He.glo_ok X G (T.c.fact 37 (f := .glo "look_plan") rfl)
theorem Tx.glo_plan_text (T : Tx w K mg) : mg "plan_text" = some (.ref (He.ga K "plan_text")) := by obtain ⟨h, X, G⟩ := T.ex; exact He.glo_ok X G (T.c.fact 38 (f := .glo "plan_text") rfl)
theorem Tx.exm_PoolError (T : Tx w K mg) : ExTab K mg "PoolError" [("PoolError", true), ("BadSettings", true), ("BadNumber", true), ("BadThing", true), ("BadPlan", true), ("BadDeed", true), ("BadText", true), ("Nothing", true)] := by obtain ⟨h, X, G⟩ := T.ex; exact ⟨_, He.glo_ok X G (T.c.fact 39 (f := .glo "PoolError") rfl), (extab_cons (He.glo_ok X G (T.c.fact 39 (f := .glo "PoolError") rfl)) (He.exm_ok (T.c.fact 40 (f := .exm "PoolError" "PoolError" true) rfl)) (extab_cons (He.glo_ok X G (T.c.fact 41 (f := .glo "BadSettings") rfl)) (He.exm_ok (T.c.fact 42 (f := .exm "BadSettings" "PoolError" true) rfl)) (extab_cons (He.glo_ok X G (T.c.fact 43 (f := .glo "BadNumber") rfl)) (He.exm_ok (T.c.fact 44 (f := .exm "BadNumber" "PoolError" true) rfl)) (extab_cons (He.glo_ok X G (T.c.fact 45 (f := .glo "BadThing") rfl)) (He.exm_ok (T.c.fact 46 (f := .exm "BadThing" "PoolError" true) rfl)) (extab_cons (He.glo_ok X G (T.c.fact 33 (f := .glo "BadPlan") rfl)) (He.exm_ok (T.c.fact 47 (f := .exm "BadPlan" "PoolError" true) rfl)) (extab_cons (He.glo_ok X G (T.c.fact 24 (f := .glo "BadDeed") rfl)) (He.exm_ok (T.c.fact 48 (f := .exm "BadDeed" "PoolError" true) rfl)) (extab_cons (He.glo_ok X G (T.c.fact 28 (f := .glo "BadText") rfl)) (He.exm_ok (T.c.fact 49 (f := .exm "BadText" "PoolError" true) rfl)) (extab_cons (He.glo_ok X G (T.c.fact 50 (f := .glo "Nothing") rfl)) (He.exm_ok (T.c.fact 51 (f := .exm "Nothing" "PoolError" true) rfl)) extab_nil))))))))⟩
theorem Tx.glo_read_plan (T : Tx w K mg) : mg "read_plan" = some (.ref (He.ga K "read_plan")) := by obtain ⟨h, X, G⟩ := T.ex; exact He.glo_ok X G (T.c.fact 52 (f := .glo "read_plan") rfl)
theorem Tx.glo_law_called_then (T : Tx w K mg) : mg "_law_called_then" = some (.ref (He.ga K "_law_called_then")) := by obtain ⟨h, X, G⟩ := T.ex; exact He.glo_ok X G (T.c.fact 53 (f := .glo "_law_called_then") rfl)
theorem Tx.exm_BadText (T : Tx w K mg) : ExTab K mg "BadText" [("PoolError", false), ("BadSettings", false), ("BadNumber", false), ("BadThing", false), ("BadPlan", false), ("BadDeed", false), ("BadText", true), ("Nothing", false)] := by obtain ⟨h, X, G⟩ := T.ex; exact ⟨_, He.glo_ok X G (T.c.fact 28 (f := .glo "BadText") rfl), (extab_cons (He.glo_ok X G (T.c.fact 39 (f := .glo "PoolError") rfl)) (He.exm_ok (T.c.fact 54 (f := .exm "PoolError" "BadText" false) rfl)) (extab_cons (He.glo_ok X G (T.c.fact 41 (f := .glo "BadSettings") rfl)) (He.exm_ok (T.c.fact 55 (f := .exm "BadSettings" "BadText" false) rfl)) (extab_cons (He.glo_ok X G (T.c.fact 43 (f := .glo "BadNumber") rfl)) (He.exm_ok (T.c.fact 56 (f := .exm "BadNumber" "BadText" false) rfl)) (extab_cons (He.glo_ok X G (T.c.fact 45 (f := .glo "BadThing") rfl)) (He.exm_ok (T.c.fact 57 (f := .exm "BadThing" "BadText" false) rfl)) (extab_cons (He.glo_ok X G (T.c.fact 33 (f := .glo "BadPlan") rfl)) (He.exm_ok (T.c.fact 58 (f := .exm "BadPlan" "BadText" false) rfl)) (extab_cons (He.glo_ok X G (T.c.fact 24 (f := .glo "BadDeed") rfl)) (He.exm_ok (T.c.fact 59 (f := .exm "BadDeed" "BadText" false) rfl)) (extab_cons (He.glo_ok X G (T.c.fact 28 (f := .glo "BadText") rfl)) (He.exm_ok (T.c.fact 60 (f := .exm "BadText" "BadText" true) rfl)) (extab_cons (He.glo_ok X G (T.c.fact 50 (f := .glo "Nothing") rfl)) (He.exm_ok (T.c.fact 61 (f := .exm "Nothing" "BadText" false) rfl)) extab_nil))))))))⟩
theorem Tx.exm_BadDeed (T : Tx w K mg) : ExTab K mg "BadDeed" [("PoolError", false), ("BadSettings", false), ("BadNumber", false), ("BadThing", false), ("BadPlan", false), ("BadDeed", true), ("BadText", false), ("Nothing", false)] := by obtain ⟨h, X, G⟩ := T.ex; exact ⟨_, He.glo_ok X G (T.c.fact 24 (f := .glo "BadDeed") rfl), (extab_cons (He.glo_ok X G (T.c.fact 39 (f := .glo "PoolError") rfl)) (He.exm_ok (T.c.fact 62 (f := .exm "PoolError" "BadDeed" false) rfl)) (extab_cons (He.glo_ok X G (T.c.fact 41 (f := .glo "BadSettings") rfl)) (He.exm_ok (T.c.fact 63 (f := .exm "BadSettings" "BadDeed" false) rfl)) (extab_cons (He.glo_ok X G (T.c.fact 43 (f := .glo "BadNumber") rfl)) (He.exm_ok (T.c.fact 64 (f := .exm "BadNumber" "BadDeed" false) rfl)) (extab_cons (He.glo_ok X G (T.c.fact 45 (f := .glo "BadThing") rfl)) (He.exm_ok (T.c.fact 65 (f := .exm "BadThing" "BadDeed" false) rfl)) (extab_cons (He.glo_ok X G (T.c.fact 33 (f := .glo "BadPlan") rfl)) (He.exm_ok (T.c.fact 66 (f := .exm "BadPlan" "BadDeed" false) rfl)) (extab_cons (He.glo_ok X G (T.c.fact 24 (f := .glo "BadDeed") rfl)) (He.exm_ok (T.c.fact 67 (f := .exm "BadDeed" "BadDeed" true) rfl)) (extab_cons (He.glo_ok X G (T.c.fact 28 (f := .glo "BadText") rfl)) (He.exm_ok (T.c.fact 68 (f := .exm "BadText" "BadDeed" false) rfl)) (extab_cons (He.glo_ok X G (T.c.fact 50 (f := .glo "Nothing") rfl)) (He.exm_ok (T.c.fact 69 (f := .exm "Nothing" "BadDeed" false) rfl)) extab_nil))))))))⟩
theorem Tx.exm_BadSettings (T : Tx w K mg) : ExTab K mg "BadSettings" [("PoolError", false), ("BadSettings", true), ("BadNumber", false), ("BadThing", false), ("BadPlan", false), ("BadDeed", false), ("BadText", false), ("Nothing", false)] := by obtain ⟨h, X, G⟩ := T.ex; exact ⟨_, He.glo_ok X G (T.c.fact 41 (f := .glo "BadSettings") rfl), (extab_cons (He.glo_ok X G (T.c.fact 39 (f := .glo "PoolError") rfl)) (He.exm_ok (T.c.fact 70 (f := .exm "PoolError" "BadSettings" false) rfl)) (extab_cons (He.glo_ok X G (T.c.fact 41 (f := .glo "BadSettings") rfl)) (He.exm_ok (T.c.fact 71 (f := .exm "BadSettings" "BadSettings" true) rfl)) (extab_cons (He.glo_ok X G (T.c.fact 43 (f := .glo "BadNumber") rfl)) (He.exm_ok (T.c.fact 72 (f := .exm "BadNumber" "BadSettings" false) rfl)) (extab_cons (He.glo_ok X G (T.c.fact 45 (f := .glo "BadThing") rfl)) (He.exm_ok (T.c.fact 73 (f := .exm "BadThing" "BadSettings" false) rfl)) (extab_cons (He.glo_ok X G (T.c.fact 33 (f := .glo "BadPlan") rfl)) (He.exm_ok (T.c.fact 74 (f := .exm "BadPlan" "BadSettings" false) rfl)) (extab_cons (He.glo_ok X G (T.c.fact 24 (f := .glo "BadDeed") rfl)) (He.exm_ok (T.c.fact 75 (f := .exm "BadDeed" "BadSettings" false) rfl)) (extab_cons (He.glo_ok X G (T.c.fact 28 (f := .glo "BadText") rfl)) (He.exm_ok (T.c.fact 76 (f := .exm "BadText" "BadSettings" false) rfl)) (extab_cons (He.glo_ok X G (T.c.fact 50 (f := .glo "Nothing") rfl)) (He.exm_ok (T.c.fact 77 (f := .exm "Nothing" "BadSettings" false) rfl)) extab_nil))))))))⟩
theorem Tx.exm_BadPlan (T : Tx w K mg) : ExTab K mg "BadPlan" [("PoolError", false), ("BadSettings", false), ("BadNumber", false), ("BadThing", false), ("BadPlan", true), ("BadDeed", false), ("BadText", false), ("Nothing", false)] := by obtain ⟨h, X, G⟩ := T.ex; exact ⟨_, He.glo_ok X G (T.c.fact 33 (f := .glo "BadPlan") rfl), (extab_cons (He.glo_ok X G (T.c.fact 39 (f := .glo "PoolError") rfl)) (He.exm_ok (T.c.fact 78 (f := .exm "PoolError" "BadPlan" false) rfl)) (extab_cons (He.glo_ok X G (T.c.fact 41 (f := .glo "BadSettings") rfl)) (He.exm_ok (T.c.fact 79 (f := .exm "BadSettings" "BadPlan" false) rfl)) (extab_cons (He.glo_ok X G (T.c.fact 43 (f := .glo "BadNumber") rfl)) (He.exm_ok (T.c.fact 80 (f := .exm "BadNumber" "BadPlan" false) rfl)) (extab_cons (He.glo_ok X G (T.c.fact 45 (f := .glo "BadThing") rfl)) (He.exm_ok (T.c.fact 81 (f := .exm "BadThing" "BadPlan" false) rfl)) (extab_cons (He.glo_ok X G (T.c.fact 33 (f := .glo "BadPlan") rfl)) (He.exm_ok (T.c.fact 82 (f := .exm "BadPlan" "BadPlan" true) rfl)) (extab_cons (He.glo_ok X G (T.c.fact 24 (f := .glo "BadDeed") rfl)) (He.exm_ok (T.c.fact 83 (f := .exm "BadDeed" "BadPlan" false) rfl)) (extab_cons (He.glo_ok X G (T.c.fact 28 (f := .glo "BadText") rfl)) (He.exm_ok (T.c.fact 84 (f := .exm "BadText" "BadPlan" false) rfl)) (extab_cons (He.glo_ok X G (T.c.fact 50 (f := .glo "Nothing") rfl)) (He.exm_ok (T.c.fact 85 (f := .exm "Nothing" "BadPlan" false) rfl)) extab_nil))))))))⟩
theorem Tx.exm_BadNumber (T : Tx w K mg) : ExTab K mg "BadNumber" [("PoolError", false), ("BadSettings", false), ("BadNumber", true), ("BadThing", false), ("BadPlan", false), ("BadDeed", false), ("BadText", false), ("Nothing", false)] := by obtain ⟨h, X, G⟩ := T.ex; exact ⟨_, He.glo_ok X G (T.c.fact 43 (f := .glo "BadNumber") rfl), (extab_cons (He.glo_ok X G (T.c.fact 39 (f := .glo "PoolError") rfl)) (He.exm_ok (T.c.fact 86 (f := .exm "PoolError" "BadNumber" false) rfl)) (extab_cons (He.glo_ok X G (T.c.fact 41 (f := .glo "BadSettings") rfl)) (He.exm_ok (T.c.fact 87 (f := .exm "BadSettings" "BadNumber" false) rfl)) (extab_cons (He.glo_ok X G (T.c.fact 43 (f := .glo "BadNumber") rfl)) (He.exm_ok (T.c.fact 88 (f := .exm "BadNumber" "BadNumber" true) rfl)) (extab_cons (He.glo_ok X G (T.c.fact 45 (f := .glo "BadThing") rfl)) (He.exm_ok (T.c.fact 89 (f := .exm "BadThing" "BadNumber" false) rfl)) (extab_cons (He.glo_ok X G (T.c.fact 33 (f := .glo "BadPlan") rfl)) (He.exm_ok (T.c.fact 90 (f := .exm "BadPlan" "BadNumber" false) rfl)) (extab_cons (He.glo_ok X G (T.c.fact 24 (f := .glo "BadDeed") rfl)) (He.exm_ok (T.c.fact 91 (f := .exm "BadDeed" "BadNumber" false) rfl)) (extab_cons (He.glo_ok X G (T.c.fact 28 (f := .glo "BadText") rfl)) (He.exm_ok (T.c.fact 92 (f := .exm "BadText" "BadNumber" false) rfl)) (extab_cons (He.glo_ok X G (T.c.fact 50 (f := .glo "Nothing") rfl)) (He.exm_ok (T.c.fact 93 (f := .exm "Nothing" "BadNumber" false) rfl)) extab_nil))))))))⟩
theorem Tx.glo_law_word (T : Tx w K mg) : mg "_law_word" = some (.ref (He.ga K "_law_word")) := by obtain ⟨h, X, G⟩ := T.ex; exact He.glo_ok X G (T.c.fact 94 (f := .glo "_law_word") rfl)
theorem Tx.glo_law (T : Tx w K mg) : mg "law" = some (.ref (He.ga K "law")) := by obtain ⟨h, X, G⟩ := T.ex; exact He.glo_ok X G (T.c.fact 95 (f := .glo "law") rfl)

theorem sc_law_mix : FnScope ["_law_cell_here", "_law_prime", "_law_many"] ["_law_cell_here", "_law_prime", "_law_many"] (defScope (top 61)) := ⟨rfl, rfl, rfl, by decide +kernel, rfl, by decide +kernel, by decide +kernel⟩
theorem ok_law_mix (T : Tx w K mg) : Fk P w K mg base 1 "_law_mix" ["_law_cell_here", "_law_prime", "_law_many"] (spG (repX K) K mg 3 Mi.law_mix) := by
  obtain ⟨fd, F⟩ := T.c.def_ 0 (d := d_law_mix) rfl
  refine fkX (N := ["_law_cell_here", "_law_prime", "_law_many"]) (loc := 0) (m := Mi.b_law_mix) F T.glo_law_mix (F.bindsN fun _ _ _ _ _ _ us hl => match us, hl with | [_, _, _], _ => rfl) sc_law_mix rfl (fun cdv A outer s H E c hr hfl hpl tk po => ?_)
  exact (pms_cons (pm_ret hfl (px_bin od_mod (px_bin od_mod (px_bin od_pow (px_bin od_mod (px_bin od_mul (px_var 0) px_int) (px_var 1)) px_int) (px_var 1)) (px_var 2))) pms_nil)

theorem sc_law_seed : FnScope ["_law_seed_here", "_law_k"] ["_law_seed_here", "_law_k"] (defScope (top 62)) := ⟨rfl, rfl, rfl, by decide +kernel, rfl, by decide +kernel, by decide +kernel⟩
theorem ok_law_seed (T : Tx w K mg) : Fk P w K mg base 1 "_law_seed" ["_law_seed_here", "_law_k"] (spG (repX K) K mg 2 Mi.law_seed) := by
  obtain ⟨fd, F⟩ := T.c.def_ 1 (d := d_law_seed) rfl
  refine fkX (N := ["_law_seed_here", "_law_k"]) (loc := 0) (m := Mi.b_law_seed) F T.glo_law_seed (F.bindsN fun _ _ _ _ _ _ us hl => match us, hl with | [_, _], _ => rfl) sc_law_seed rfl (fun cdv A outer s H E c hr hfl hpl tk po => ?_)
  exact (pms_cons (pm_ret hfl (px_bin od_mod (px_bin od_pow (px_bin od_mod (px_bin od_add (px_bin od_add (px_bin od_mul (px_var 0) px_int) (px_bin od_mul px_int (px_var 1))) px_int) px_int) px_int) px_int)) pms_nil)

theorem sc_law_cell : FnScope ["_law_script", "_law_k"] ["_law_script", "_law_k"] (defScope (top 60)) := ⟨rfl, rfl, rfl, by decide +kernel, rfl, by decide +kernel, by decide +kernel⟩
theorem ok_law_cell (T : Tx w K mg) : Fk P w K mg base 1 "_law_cell" ["_law_script", "_law_k"] (spG (repX K) K mg 2 Mi.law_cell) := by
  obtain ⟨fd, F⟩ := T.c.def_ 2 (d := d_law_cell) rfl
  refine fkX (N := ["_law_script", "_law_k"]) (loc := 0) (m := Mi.b_law_cell) F T.glo_law_cell (F.bindsN fun _ _ _ _ _ _ us hl => match us, hl with | [_, _], _ => rfl) sc_law_cell rfl (fun cdv A outer s H E c hr hfl hpl tk po => ?_)
  exact (pms_cons (pm_if (pb_cmp od_lt (px_var 1) (px_callB cd_len rfl (T.free_len) (by decide +kernel) (pxs_cons (px_var 0) pxs_nil)) (nomark _)) (pms_cons (pm_ret hfl (px_ix (px_var 0) (px_var 1) fun _ _ => rfl)) pms_nil) pms_nil) (pms_cons (pm_ret hfl px_int) pms_nil))

theorem sc_law_pick : FnScope ["_law_seed_here", "_law_many"] ["_law_seed_here", "_law_many"] (defScope (top 63)) := ⟨rfl, rfl, rfl, by decide +kernel, rfl, by decide +kernel, by decide +kernel⟩
theorem ok_law_pick (T : Tx w K mg) : Fk P w K mg base 1 "_law_pick" ["_law_seed_here", "_law_many"] (spG (repX K) K mg 2 Mi.law_pick) := by
  obtain ⟨fd, F⟩ := T.c.def_ 3 (d := d_law_pick) rfl
  refine fkX (N := ["_law_seed_here", "_law_many"]) (loc := 0) (m := Mi.b_law_pick) F T.glo_law_pick (F.bindsN fun _ _ _ _ _ _ us hl => match us, hl with | [_, _], _ => rfl) sc_law_pick rfl (fun cdv A outer s H E c hr hfl hpl tk po => ?_)
  exact (pms_cons (pm_ret hfl (px_bin od_mod (px_bin od_div (px_var 0) px_int) (px_var 1))) pms_nil)

theorem sc_law_asks : FnScope ["_law_script", "_law_at", "_law_many", "_law_found", "_law_when", "_law_k", "_law_seed_here"] ["_law_script", "_law_at", "_law_many"] (defScope (top 65)) := ⟨rfl, rfl, rfl, by decide +kernel, rfl, by decide +kernel, by decide +kernel⟩
theorem ok_law_asks (T : Tx w K mg) : Fk P w K mg base 2 "_law_asks" ["_law_script", "_law_at", "_law_many"] (spG (repX K) K mg 3 Mi.law_asks) := by
  obtain ⟨fd, F⟩ := T.c.def_ 4 (d := d_law_asks) rfl
  refine fkX (N := ["_law_script", "_law_at", "_law_many", "_law_found", "_law_when", "_law_k", "_law_seed_here"]) (loc := 4) (m := Mi.b_law_asks) F T.glo_law_asks (F.bindsN fun _ _ _ _ _ _ us hl => match us, hl with | [_, _, _], _ => rfl) sc_law_asks rfl (fun cdv A outer s H E c hr hfl hpl tk po => ?_)
  exact (pms_cons (pm_own (asg_set (i := 3) sc_law_asks.nd (pf_lst pxs_nil))) (pms_cons (pm_setZ (asg_set (i := 4) sc_law_asks.nd (pz_px px_int))) (pms_cons (pm_for (t := (.nm 5)) po rfl (pj_range1 rfl (T.free_range) (pzs_cons (pz_px (px_own (ok_law_mix T) tk (hr.mono (by decide)) rfl (Fn.X_len _ _ _) (pxs_cons (px_own (ok_law_cell T) tk (hr.mono (by decide)) rfl (Fn.X_len _ _ _) (pxs_cons (px_var 0) (pxs_cons (px_var 1) pxs_nil))) (pxs_cons px_int (pxs_cons (px_bin od_add (px_var 2) px_int) pxs_nil))))) pzs_nil)) (pt_name (i := 5) sc_law_asks.nd) (fun _ => (pms_cons (pm_setZ (asg_set (i := 6) sc_law_asks.nd (pz_px (px_own (ok_law_seed T) tk (hr.mono (by decide)) rfl (Fn.X_len _ _ _) (pxs_cons (px_bin od_add (px_own (ok_law_cell T) tk (hr.mono (by decide)) rfl (Fn.X_len _ _ _) (pxs_cons (px_var 0) (pxs_cons (px_bin od_add (px_bin od_add (px_var 1) px_int) (px_bin od_mod (px_var 5) px_int)) pxs_nil))) (px_bin od_mul px_int (px_var 5))) (pxs_cons (px_var 5) pxs_nil)))))) (pms_cons (pm_setZ (asg_set (i := 4) sc_law_asks.nd (pz_px (px_callB (cd_min2 rfl) rfl (T.free_min) (by decide +kernel) (pxs_cons px_int (pxs_cons (px_bin od_add (px_var 4) (px_ix (px_lst (pxs_cons px_int (pxs_cons px_int (pxs_cons (px_bin od_mod (px_bin od_div (px_var 6) px_int) px_int) pxs_nil)))) (px_own (ok_law_pick T) tk (hr.mono (by decide)) rfl (Fn.X_len _ _ _) (pxs_cons (px_var 6) (pxs_cons px_int pxs_nil))) fun _ _ => rfl)) pxs_nil)))))) (pms_cons (pm_app (i := 3) (pz_px (px_tup (pxs_cons (px_var 4) (pxs_cons (px_bin od_add px_int (px_bin od_mod (px_bin od_div (px_var 6) px_int) (px_ix (px_lst (pxs_cons px_int (pxs_cons px_int pxs_nil))) (px_bin od_mod (px_bin od_div (px_var 6) px_int) px_int) fun _ _ => rfl))) pxs_nil))))) pms_nil))))) (pms_frz 3 (pms_cons (pm_ret hfl (px_callTy cd_tuple rfl (T.free_tuple) (by decide +kernel) (pxs_cons (px_var 3) pxs_nil))) pms_nil)))))

theorem sc_law_plan_text : FnScope ["_law_asks_here", "_law_found", "_law_at", "_law_when", "_law_long"] ["_law_asks_here"] (defScope (top 66)) := ⟨rfl, rfl, rfl, by decide +kernel, rfl, by decide +kernel, by decide +kernel⟩
theorem ok_law_plan_text (T : Tx w K mg) : Fk P w K mg base 1 "_law_plan_text" ["_law_asks_here"] (spG (repX K) K mg 1 Mi.law_plan_text) := by
  obtain ⟨fd, F⟩ := T.c.def_ 5 (d := d_law_plan_text) rfl
  refine fkX (N := ["_law_asks_here", "_law_found", "_law_at", "_law_when", "_law_long"]) (loc := 4) (m := Mi.b_law_plan_text) F T.glo_law_plan_text (F.bindsN fun _ _ _ _ _ _ us hl => match us, hl with | [_], _ => rfl) sc_law_plan_text rfl (fun cdv A outer s H E c hr hfl hpl tk po => ?_)
  exact (pms_cons (pm_setZ (asg_set (i := 1) sc_law_plan_text.nd (pz_px px_str))) (pms_cons (pm_for (t := (.tp [(.nm 2), (.tp [(.nm 3), (.nm 4)])])) po rfl (pj_enum rfl (T.free_enumerate) (pzs_cons (pz_var 0) pzs_nil)) (pt_tup rfl (pts_cons' (pt_name (i := 2) sc_law_plan_text.nd) (pts_cons' (pt_tup rfl (pts_cons' (pt_name (i := 3) sc_law_plan_text.nd) (pts_cons' (pt_name (i := 4) sc_law_plan_text.nd) pts_nil'))) pts_nil'))) (fun _ => (pms_cons (pm_setZ (asg_set (i := 1) sc_law_plan_text.nd (pz_px (px_bin od_add (px_bin od_add (px_bin od_add (px_bin od_add (px_var 1) (px_bin od_mulS px_str (px_callTy cd_int rfl (T.free_int) (by decide +kernel) (pxs_cons (px_cmp od_gt (px_var 2) px_int (nomark _)) pxs_nil)))) (px_callTy cd_str rfl (T.free_str) (by decide +kernel) (pxs_cons (px_var 3) pxs_nil))) px_str) (px_callTy cd_str rfl (T.free_str) (by decide +kernel) (pxs_cons (px_var 4) pxs_nil)))))) pms_nil))) (pms_cons (pm_ret hfl (px_var 1)) pms_nil)))

theorem sc_law_deeds : FnScope ["_law_script", "_law_at", "_law_many", "_law_found", "_law_asks_here", "_law_k", "_law_seed_here", "_law_pick_here", "_law_long", "_law_words"] ["_law_script", "_law_at", "_law_many"] (defScope (top 64)) := ⟨rfl, rfl, rfl, by decide +kernel, rfl, by decide +kernel, by decide +kernel⟩
theorem ok_law_deeds (T : Tx w K mg) : Fk P w K mg base 2 "_law_deeds" ["_law_script", "_law_at", "_law_many"] (spG (repF K) K mg 3 Mi.law_deeds) := by
  obtain ⟨fd, F⟩ := T.c.def_ 6 (d := d_law_deeds) rfl
  refine fkF (N := ["_law_script", "_law_at", "_law_many", "_law_found", "_law_asks_here", "_law_k", "_law_seed_here", "_law_pick_here", "_law_long", "_law_words"]) (loc := 7) (m := Mi.b_law_deeds) F T.glo_law_deeds (F.bindsN fun _ _ _ _ _ _ us hl => match us, hl with | [_, _, _], _ => rfl) sc_law_deeds rfl (fun cdv A outer s H E c hr hfl hpl tk po => ?_)
  exact (pms_cons (pm_own (asg_set (i := 3) sc_law_deeds.nd (pf_lst pxs_nil))) (pms_cons (pm_setZ (asg_set (i := 4) sc_law_deeds.nd (pz_px px_int))) (pms_cons (pm_for (t := (.nm 5)) po rfl (pj_range1 rfl (T.free_range) (pzs_cons (pz_px (px_own (ok_law_mix T) tk (hr.mono (by decide)) rfl (Fn.X_len _ _ _) (pxs_cons (px_own (ok_law_cell T) tk (hr.mono (by decide)) rfl (Fn.X_len _ _ _) (pxs_cons (px_var 0) (pxs_cons (px_var 1) pxs_nil))) (pxs_cons px_int (pxs_cons (px_bin od_add (px_var 2) px_int) pxs_nil))))) pzs_nil)) (pt_name (i := 5) sc_law_deeds.nd) (fun _ => (pms_cons (pm_setZ (asg_set (i := 6) sc_law_deeds.nd (pz_px (px_own (ok_law_seed T) tk (hr.mono (by decide)) rfl (Fn.X_len _ _ _) (pxs_cons (px_bin od_add (px_own (ok_law_cell T) tk (hr.mono (by decide)) rfl (Fn.X_len _ _ _) (pxs_cons (px_var 0) (pxs_cons (px_bin od_add (px_bin od_add (px_var 1) px_int) (px_bin od_mod (px_var 5) px_int)) pxs_nil))) (px_bin od_mul px_int (px_var 5))) (pxs_cons (px_var 5) pxs_nil)))))) (pms_cons (pm_setZ (asg_set (i := 7) sc_law_deeds.nd (pz_px (px_own (ok_law_pick T) tk (hr.mono (by decide)) rfl (Fn.X_len _ _ _) (pxs_cons (px_var 6) (pxs_cons px_int pxs_nil)))))) (pms_cons (pm_if (pb_cmp od_lt (px_var 7) px_int (nomark _)) (pms_cons (pm_app (i := 3) (pz_px (px_tup (pxs_cons px_str (pxs_cons (px_ix (px_lst (pxs_cons (px_bin od_mod (px_bin od_div (px_var 6) px_int) px_int) (pxs_cons px_int (pxs_cons px_int pxs_nil)))) (px_bin od_mod (px_bin od_div (px_var 6) px_int) px_int) fun _ _ => rfl) pxs_nil))))) (pms_cons (pm_aug sc_law_deeds.nd id_add px_int) pms_nil)) (pms_cons (pm_if (pb_cmp od_lt (px_var 7) px_int (nomark _)) (pms_cons (pm_app (i := 3) (pz_px (px_tup (pxs_cons px_str (pxs_cons (px_bin od_mod (px_bin od_div (px_var 6) px_int) (px_bin od_add (px_var 4) px_int)) (pxs_cons (px_cmp od_gt (px_bin od_mod (px_bin od_div (px_var 6) px_int) px_int) px_int (nomark _)) pxs_nil)))))) pms_nil) (pms_cons (pm_setZ (asg_set (i := 8) sc_law_deeds.nd (pz_px (px_bin od_add px_int (px_bin od_mod (px_bin od_div (px_var 6) px_int) (px_ix (px_lst (pxs_cons px_int (pxs_cons px_int pxs_nil))) (px_callTy cd_int rfl (T.free_int) (by decide +kernel) (pxs_cons (px_cmp (od_eq hr.units) (px_bin od_mod (px_bin od_div (px_var 6) px_int) px_int) px_int (nomark _)) pxs_nil)) fun _ _ => rfl)))))) (pms_cons (pm_setF (asg_set (i := 9) sc_law_deeds.nd (pf_lst (pxs_cons (px_tup (pxs_cons px_str (pxs_cons (px_bin od_mod (px_bin od_div (px_var 6) px_int) (px_bin od_add (px_var 4) px_int)) pxs_nil))) (pxs_cons (px_tup (pxs_cons px_str (pxs_cons (px_bin od_mod (px_bin od_div (px_var 6) px_int) px_int) pxs_nil))) (pxs_cons (px_tup (pxs_cons px_str (pxs_cons (px_var 8) pxs_nil))) pxs_nil)))))) (pms_cons (pm_app (i := 3) (pz_px (px_ix (px_of_pf (pf_add (px_var 9) (px_lst (pxs_cons (px_tup (pxs_cons px_str (pxs_cons (px_bin od_add px_int (px_bin od_mod (px_bin od_div (px_var 6) px_int) px_int)) pxs_nil))) pxs_nil)))) (px_bin od_sub (px_var 7) px_int) fun _ _ => rfl))) pms_nil)))) pms_nil)) pms_nil))))) (pms_cons (pm_retO 3 hfl hpl) pms_nil))))

theorem sc_law_deeds_text : FnScope ["_law_deeds_here", "_law_found", "_law_deed", "_law_line"] ["_law_deeds_here"] (defScope (top 67)) := ⟨rfl, rfl, rfl, by decide +kernel, rfl, by decide +kernel, by decide +kernel⟩
theorem ok_law_deeds_text (T : Tx w K mg) : Fk P w K mg base 1 "_law_deeds_text" ["_law_deeds_here"] (spG (repX K) K mg 1 Mi.law_deeds_text) := by
  obtain ⟨fd, F⟩ := T.c.def_ 7 (d := d_law_deeds_text) rfl
  refine fkX (N := ["_law_deeds_here", "_law_found", "_law_deed", "_law_line"]) (loc := 3) (m := Mi.b_law_deeds_text) F T.glo_law_deeds_text (F.bindsN fun _ _ _ _ _ _ us hl => match us, hl with | [_], _ => rfl) sc_law_deeds_text rfl (fun cdv A outer s H E c hr hfl hpl tk po => ?_)
  exact (pms_cons (pm_own (asg_set (i := 1) sc_law_deeds_text.nd (pf_lst pxs_nil))) (pms_cons (pm_for (t := (.nm 2)) po rfl (pj_seq (pz_var 0)) (pt_name (i := 2) sc_law_deeds_text.nd) (fun _ => (pms_cons (pm_setZ (asg_set (i := 3) sc_law_deeds_text.nd (pz_px (px_bin od_add (px_bin od_add (px_ix (px_var 2) px_int fun _ _ => rfl) px_str) (px_callTy cd_str rfl (T.free_str) (by decide +kernel) (pxs_cons (px_ix (px_var 2) px_int fun _ _ => rfl) pxs_nil)))))) (pms_cons (pm_app (i := 1) (pz_px (px_if (pb_cmp (od_eq hr.units) (px_ix (px_var 2) px_int fun _ _ => rfl) px_str (nomark _)) (px_bin od_add (px_var 3) (px_ix (px_lst (pxs_cons px_str (pxs_cons px_str pxs_nil))) (px_callTy cd_int rfl (T.free_int) (by decide +kernel) (pxs_cons (px_ix (px_var 2) px_int fun _ _ => rfl) pxs_nil)) fun _ _ => rfl)) (px_var 3)))) pms_nil)))) (pms_frz 1 (pms_cons (pm_ret hfl (px_join px_str (px_var 1))) pms_nil))))

theorem sc_law_called : FnScope ["_law_which", "_law_a"] ["_law_which", "_law_a"] (defScope (top 68)) := ⟨rfl, rfl, rfl, by decide +kernel, rfl, by decide +kernel, by decide +kernel⟩
theorem ok_law_called (T : Tx w K mg) : Fk P w K mg base 1 "_law_called" ["_law_which", "_law_a"] (spG (repX K) K mg 2 Mi.law_called_k24) := by
  obtain ⟨fd, F⟩ := T.c.def_ 8 (d := d_law_called) rfl
  refine fkX (N := ["_law_which", "_law_a"]) (loc := 0) (m := Mi.b_law_called_k24) F T.glo_law_called (F.bindsN fun _ _ _ _ _ _ us hl => match us, hl with | [_, _], _ => rfl) sc_law_called rfl (fun cdv A outer s H E c hr hfl hpl tk po => ?_)
  exact (pms_cons (pm_if (pb_cmp od_lt (px_var 0) px_int (nomark _)) (pms_cons (pm_if (pb_cmp (od_eq hr.units) (px_var 0) px_int (nomark _)) (pms_cons (pm_ret hfl px_never) pms_nil) pms_nil) (pms_cons (pm_ret hfl (px_if (pb_cmp (od_eq hr.units) (px_var 0) px_int (nomark _)) px_never px_never)) pms_nil)) pms_nil) (pms_cons (pm_if (pb_cmp od_lt (px_var 0) px_int (nomark _)) (pms_cons (pm_ret hfl (px_if (pb_cmp (od_eq hr.units) (px_var 0) px_int (nomark _)) px_never px_never)) pms_nil) pms_nil) (pms_cons (pm_ret hfl (px_if (pb_cmp (od_eq hr.units) (px_var 0) px_int (nomark _)) px_never px_never)) pms_nil)))

theorem sc_is_deed : FnScope ["thing"] ["thing"] (defScope (top 27)) := ⟨rfl, rfl, rfl, by decide +kernel, rfl, by decide +kernel, by decide +kernel⟩
theorem ok_is_deed (T : Tx w K mg) : Fk P w K mg base 1 "is_deed" ["thing"] (spG (repX K) K mg 1 Mi.is_deed) := by
  obtain ⟨fd, F⟩ := T.c.def_ 9 (d := d_is_deed) rfl
  refine fkX (N := ["thing"]) (loc := 0) (m := Mi.b_is_deed) F T.glo_is_deed (F.bindsN fun _ _ _ _ _ _ us hl => match us, hl with | [_], _ => rfl) sc_is_deed rfl (fun cdv A outer s H E c hr hfl hpl tk po => ?_)
  exact (pms_cons (pm_if (PBw.pb (pbw_or (pb_not (pb_tru (px_isi isg_tup rfl (T.free_isinstance) rfl (T.free_tuple) (by decide +kernel) (px_var 0)))) (pbw_or (pb_not (pb_tru (px_var 0))) (pbw_or1 (pb_not (pb_tru (px_isi isg_str rfl (T.free_isinstance) rfl (T.free_str) (by decide +kernel) (px_ix (px_var 0) px_int fun _ _ => rfl)))))))) (pms_cons (pm_ret hfl px_bl) pms_nil) pms_nil) (pms_cons (pm_ret hfl (px_and (px_inT (T.tab_SIZES) rfl (T.glo_SIZES) (px_ix (px_var 0) px_int fun _ _ => rfl)) (px_one (px_cmp (od_eq hr.units) (px_callB cd_len rfl (T.free_len) (by decide +kernel) (pxs_cons (px_var 0) pxs_nil)) (px_bin od_add (px_ixT (T.tab_SIZES) rfl (T.glo_SIZES) (px_ix (px_var 0) px_int fun _ _ => rfl) (by intro _ _; rfl)) px_int) (nomark _))))) pms_nil))

theorem sc_is_within : FnScope ["thing", "low", "high"] ["thing", "low", "high"] (defScope (top 12)) := ⟨rfl, rfl, rfl, by decide +kernel, rfl, by decide +kernel, by decide +kernel⟩
theorem ok_is_within (T : Tx w K mg) : Fk P w K mg base 1 "is_within" ["thing", "low", "high"] (spG (repX K) K mg 3 Mi.is_within) := by
  obtain ⟨fd, F⟩ := T.c.def_ 10 (d := d_is_within) rfl
  refine fkX (N := ["thing", "low", "high"]) (loc := 0) (m := Mi.b_is_within) F T.glo_is_within (F.bindsN fun _ _ _ _ _ _ us hl => match us, hl with | [_, _, _], _ => rfl) sc_is_within rfl (fun cdv A outer s H E c hr hfl hpl tk po => ?_)
  exact (pms_cons (pm_ret hfl (px_and (px_isi isg_int rfl (T.free_isinstance) rfl (T.free_int) (by decide +kernel) (px_var 0)) (px_and (px_not (px_isi isg_bool rfl (T.free_isinstance) rfl (T.free_bool) (by decide +kernel) (px_var 0))) (px_one (px_chain od_le od_le (px_var 1) (px_var 0) (px_var 2)))))) pms_nil)

theorem sc_is_plain : FnScope ["deed"] ["deed"] (defScope (top 36)) := ⟨rfl, rfl, rfl, by decide +kernel, rfl, by decide +kernel, by decide +kernel⟩
theorem ok_is_plain (T : Tx w K mg) : Fk P w K mg base 2 "is_plain" ["deed"] (spG (repX K) K mg 1 Mi.is_plain) := by
  obtain ⟨fd, F⟩ := T.c.def_ 11 (d := d_is_plain) rfl
  refine fkX (N := ["deed"]) (loc := 0) (m := Mi.b_is_plain) F T.glo_is_plain (F.bindsN fun _ _ _ _ _ _ us hl => match us, hl with | [_], _ => rfl) sc_is_plain rfl (fun cdv A outer s H E c hr hfl hpl tk po => ?_)
  exact (pms_cons (pm_if (PBw.pb (pbw_and (pb_cmp (od_eq hr.units) (px_ix (px_var 0) px_int fun _ _ => rfl) px_str (nomark _)) (pbw_and1 (pb_not (pb_tru (px_isi isg_bool rfl (T.free_isinstance) rfl (T.free_bool) (by decide +kernel) (px_ix (px_var 0) px_int fun _ _ => rfl))))))) (pms_cons (pm_ret hfl px_bl) pms_nil) pms_nil) (pms_cons (pm_ret hfl (px_own (ok_is_within T) tk (hr.mono (by decide)) rfl (Fn.X_len _ _ _) (pxs_cons (px_ix (px_var 0) px_int fun _ _ => rfl) (pxs_cons px_int (pxs_cons (px_globI rfl (T.int_MOST_NUMBER)) pxs_nil))))) pms_nil))

theorem sc_deeds_text : FnScope ["deeds", "deed", "lines", "line"] ["deeds"] (defScope (top 37)) := ⟨rfl, rfl, rfl, by decide +kernel, rfl, by decide +kernel, by decide +kernel⟩
theorem ok_deeds_text (T : Tx w K mg) : Fk P w K mg base 3 "deeds_text" ["deeds"] (spG (repX K) K mg 1 Mi.deeds_text) := by
  obtain ⟨fd, F⟩ := T.c.def_ 12 (d := d_deeds_text) rfl
  refine fkX (N := ["deeds", "deed", "lines", "line"]) (loc := 3) (m := Mi.b_deeds_text) F T.glo_deeds_text (F.bindsN fun _ _ _ _ _ _ us hl => match us, hl with | [_], _ => rfl) sc_deeds_text rfl (fun cdv A outer s H E c hr hfl hpl tk po => ?_)
  exact (pms_cons (pm_if (PBw.pb (pbw_or (pb_not (pb_tru (px_isi isg_lst rfl (T.free_isinstance) rfl (T.free_list) (by decide +kernel) (px_var 0)))) (pbw_or1 (pb_tru (px_of_pf (pf_lc (own := [("deed", 1)]) (t := (.nm 1)) rfl sc_deeds_text.nd (by decide) (pix_seq (px_var 0)) (blk_of (by kernel_rfl)) (fun _ _ _ _ _ => (pt_name (i := 1) sc_deeds_text.nd)) (fun _ _ _ _ _ => (pts_if (PBw.pb (pbw_or (pb_not (pb_tru (px_own (ok_is_deed T) takes0 (hr.mono (by decide)) rfl (Fn.X_len _ _ _) (pxs_cons (px_var 1) pxs_nil)))) (pbw_or1 (pb_not (pb_tru (px_own (ok_is_plain T) takes0 (hr.mono (by decide)) rfl (Fn.X_len _ _ _) (pxs_cons (px_var 1) pxs_nil))))))))) (fun _ _ _ _ _ => (px_var 1)))))))) (pms_cons (pm_raise rfl tk (T.exc_BadDeed) rfl) pms_nil) pms_nil) (pms_cons (pm_own (asg_set (i := 2) sc_deeds_text.nd (pf_lst pxs_nil))) (pms_cons (pm_for (t := (.nm 1)) po rfl (pj_seq (pz_var 0)) (pt_name (i := 1) sc_deeds_text.nd) (fun _ => (pms_cons (pm_setZ (asg_set (i := 3) sc_deeds_text.nd (pz_px (px_bin od_add (px_bin od_add (px_ix (px_var 1) px_int fun _ _ => rfl) px_str) (px_callTy cd_str rfl (T.free_str) (by decide +kernel) (pxs_cons (px_ix (px_var 1) px_int fun _ _ => rfl) pxs_nil)))))) (pms_cons (pm_if (pb_cmp (od_eq hr.units) (px_ix (px_var 1) px_int fun _ _ => rfl) px_str (nomark _)) (pms_cons (pm_aug sc_deeds_text.nd id_addS (px_if (pb_tru (px_ix (px_var 1) px_int fun _ _ => rfl)) px_str px_str)) pms_nil) pms_nil) (pms_cons (pm_app (i := 2) (pz_var 3)) pms_nil))))) (pms_frz 2 (pms_cons (pm_ret hfl (px_join px_str (px_var 2))) pms_nil)))))

theorem sc_number_of : FnScope ["word", "sign"] ["word"] (defScope (top 34)) := ⟨rfl, rfl, rfl, by decide +kernel, rfl, by decide +kernel, by decide +kernel⟩
theorem ok_number_of (T : Tx w K mg) : Fk P w K mg base 1 "number_of" ["word"] (spG (repX K) K mg 1 Mi.number_of) := by
  obtain ⟨fd, F⟩ := T.c.def_ 13 (d := d_number_of) rfl
  refine fkX (N := ["word", "sign"]) (loc := 1) (m := Mi.b_number_of) F T.glo_number_of (F.bindsN fun _ _ _ _ _ _ us hl => match us, hl with | [_], _ => rfl) sc_number_of rfl (fun cdv A outer s H E c hr hfl hpl tk po => ?_)
  exact (pms_cons (pm_if (PBw.pb (pbw_or (pb_not (pb_chain od_le od_le px_int (px_callB cd_len rfl (T.free_len) (by decide +kernel) (pxs_cons (px_var 0) pxs_nil)) px_int)) (pbw_or (pb_tru (px_of_pf (pf_lc (own := [("sign", 1)]) (t := (.nm 1)) rfl sc_number_of.nd (by decide) (pix_chars (px_var 0)) (blk_of (by kernel_rfl)) (fun _ _ _ _ _ => (pt_name (i := 1) sc_number_of.nd)) (fun _ _ _ _ _ => (pts_if (pb_cmp (od_notIn hr.units) (px_var 1) (px_globS rfl (T.str_FIGURES)) (by with_unfolding_all rfl)))) (fun _ _ _ _ _ => (px_var 1))))) (pbw_or1 (pb_cmp (od_ne hr.units) (px_callTy cd_str rfl (T.free_str) (by decide +kernel) (pxs_cons (px_callTy cd_int rfl (T.free_int) (by decide +kernel) (pxs_cons (px_var 0) pxs_nil)) pxs_nil)) (px_var 0) (nomark _)))))) (pms_cons (pm_raise rfl tk (T.exc_BadText) rfl) pms_nil) pms_nil) (pms_cons (pm_ret hfl (px_callTy cd_int rfl (T.free_int) (by decide +kernel) (pxs_cons (px_var 0) pxs_nil))) pms_nil))

theorem sc_read_deeds : FnScope ["text", "found", "line", "words", "deed"] ["text"] (defScope (top 38)) := ⟨rfl, rfl, rfl, by decide +kernel, rfl, by decide +kernel, by decide +kernel⟩
theorem ok_read_deeds (T : Tx w K mg) : Fk P w K mg base 2 "read_deeds" ["text"] (spG (repF K) K mg 1 Mi.read_deeds) := by
  obtain ⟨fd, F⟩ := T.c.def_ 14 (d := d_read_deeds) rfl
  refine fkF (N := ["text", "found", "line", "words", "deed"]) (loc := 4) (m := Mi.b_read_deeds) F T.glo_read_deeds (F.bindsN fun _ _ _ _ _ _ us hl => match us, hl with | [_], _ => rfl) sc_read_deeds rfl (fun cdv A outer s H E c hr hfl hpl tk po => ?_)
  exact (pms_cons (pm_if (pb_not (pb_tru (px_isi isg_str rfl (T.free_isinstance) rfl (T.free_str) (by decide +kernel) (px_var 0)))) (pms_cons (pm_raise rfl tk (T.exc_BadText) rfl) pms_nil) pms_nil) (pms_cons (pm_own (asg_set (i := 1) sc_read_deeds.nd (pf_lst pxs_nil))) (pms_cons (pm_for (t := (.nm 2)) po rfl (pj_seq (pz_pf (pf_if (pb_cmp (od_ne hr.units) (px_var 0) px_str (nomark _)) (pf_split (px_var 0) px_str) (pf_lst pxs_nil)))) (pt_name (i := 2) sc_read_deeds.nd) (fun _ => (pms_cons (pm_setF (asg_set (i := 3) sc_read_deeds.nd (pf_split (px_var 2) px_str))) (pms_cons (pm_if (PBw.pb (pbw_or (pb_cmp od_lt (px_callB cd_len rfl (T.free_len) (by decide +kernel) (pxs_cons (px_var 3) pxs_nil)) px_int (nomark _)) (pbw_or1 (PBw.pb (pbw_and (pb_cmp (od_eq hr.units) (px_ix (px_var 3) px_int fun _ _ => rfl) px_str (nomark _)) (pbw_and1 (PBw.pb (pbw_or (pb_cmp (od_ne hr.units) (px_callB cd_len rfl (T.free_len) (by decide +kernel) (pxs_cons (px_var 3) pxs_nil)) px_int (nomark _)) (pbw_or1 (pb_cmp (od_notIn hr.units) (px_ix (px_var 3) px_int fun _ _ => rfl) (px_tup (pxs_cons px_str (pxs_cons px_str pxs_nil))) (by with_unfolding_all rfl))))))))))) (pms_cons (pm_raise rfl tk (T.exc_BadText) rfl) pms_nil) pms_nil) (pms_cons (pm_setZ (asg_set (i := 4) sc_read_deeds.nd (pz_px (px_tup (pxs_cons (px_ix (px_var 3) px_int fun _ _ => rfl) (pxs_cons (px_own (ok_number_of T) tk (hr.mono (by decide)) rfl (Fn.X_len _ _ _) (pxs_cons (px_ix (px_var 3) px_int fun _ _ => rfl) pxs_nil)) pxs_nil)))))) (pms_cons (pm_if (pb_cmp (od_eq hr.units) (px_ix (px_var 3) px_int fun _ _ => rfl) px_str (nomark _)) (pms_cons (pm_setZ (asg_set (i := 4) sc_read_deeds.nd (pz_px (px_bin od_add (px_var 4) (px_tup (pxs_cons (px_cmp (od_eq hr.units) (px_ix (px_var 3) px_int fun _ _ => rfl) px_str (nomark _)) pxs_nil)))))) pms_nil) (pms_cons (pm_if (pb_cmp (od_ne hr.units) (px_callB cd_len rfl (T.free_len) (by decide +kernel) (pxs_cons (px_var 3) pxs_nil)) px_int (nomark _)) (pms_cons (pm_raise rfl tk (T.exc_BadText) rfl) pms_nil) pms_nil) pms_nil)) (pms_cons (pm_if (pb_not (pb_tru (px_own (ok_is_deed T) tk (hr.mono (by decide)) rfl (Fn.X_len _ _ _) (pxs_cons (px_var 4) pxs_nil)))) (pms_cons (pm_raise rfl tk (T.exc_BadText) rfl) pms_nil) pms_nil) (pms_cons (pm_app (i := 1) (pz_var 4)) pms_nil)))))))) (pms_cons (pm_retO 1 hfl hpl) pms_nil))))

theorem sc_look_plan : FnScope ["asks", "last", "one"] ["asks"] (defScope (top 19)) := ⟨rfl, rfl, rfl, by decide +kernel, rfl, by decide +kernel, by decide +kernel⟩
theorem ok_look_plan (T : Tx w K mg) : Fk P w K mg base 2 "look_plan" ["asks"] (spG (repX K) K mg 1 Mi.look_plan) := by
  obtain ⟨fd, F⟩ := T.c.def_ 15 (d := d_look_plan) rfl
  refine fkX (N := ["asks", "last", "one"]) (loc := 2) (m := Mi.b_look_plan) F T.glo_look_plan (F.bindsN fun _ _ _ _ _ _ us hl => match us, hl with | [_], _ => rfl) sc_look_plan rfl (fun cdv A outer s H E c hr hfl hpl tk po => ?_)
  exact (pms_cons (pm_if (PBw.pb (pbw_or (pb_not (pb_tru (px_isi isg_tup rfl (T.free_isinstance) rfl (T.free_tuple) (by decide +kernel) (px_var 0)))) (pbw_or1 (pb_cmp od_gt (px_callB cd_len rfl (T.free_len) (by decide +kernel) (pxs_cons (px_var 0) pxs_nil)) (px_globI rfl (T.int_MOST_ASKS)) (nomark _))))) (pms_cons (pm_raise rfl tk (T.exc_BadPlan) rfl) pms_nil) pms_nil) (pms_cons (pm_setZ (asg_set (i := 1) sc_look_plan.nd (pz_px px_int))) (pms_cons (pm_for (t := (.nm 2)) po rfl (pj_seq (pz_var 0)) (pt_name (i := 2) sc_look_plan.nd) (fun _ => (pms_cons (pm_if (PBw.pb (pbw_or (pb_not (pb_tru (px_isi isg_tup rfl (T.free_isinstance) rfl (T.free_tuple) (by decide +kernel) (px_var 2)))) (pbw_or (pb_cmp (od_ne hr.units) (px_callB cd_len rfl (T.free_len) (by decide +kernel) (pxs_cons (px_var 2) pxs_nil)) px_int (nomark _)) (pbw_or1 (pb_not (pb_tru (px_own (ok_is_within T) tk (hr.mono (by decide)) rfl (Fn.X_len _ _ _) (pxs_cons (px_ix (px_var 2) px_int fun _ _ => rfl) (pxs_cons (px_var 1) (pxs_cons (px_globI rfl (T.int_MOST_TIME)) pxs_nil)))))))))) (pms_cons (pm_raise rfl tk (T.exc_BadPlan) rfl) pms_nil) pms_nil) (pms_cons (pm_if (pb_not (pb_tru (px_own (ok_is_within T) tk (hr.mono (by decide)) rfl (Fn.X_len _ _ _) (pxs_cons (px_ix (px_var 2) px_int fun _ _ => rfl) (pxs_cons px_int (pxs_cons (px_globI rfl (T.int_MOST_LONG)) pxs_nil)))))) (pms_cons (pm_raise rfl tk (T.exc_BadPlan) rfl) pms_nil) pms_nil) (pms_cons (pm_setZ (asg_set (i := 1) sc_look_plan.nd (pz_px (px_ix (px_var 2) px_int fun _ _ => rfl)))) pms_nil))))) pms_nil)))

theorem nx_is_within : ∀ ds cl, Mi.is_within ds ≠ .ex cl := nx_ret (nx_and (nx_un nxg_isInt (nx_var 0)) (nx_and (nx_not (nx_un nxg_isBool (nx_var 0))) (nx_chain nxg_le nxg_le (nx_var 1) (nx_var 0) (nx_var 2))))
theorem okN_look_plan (T : Tx w K mg) : FkN P w K mg base 2 "look_plan" ["asks"] (spG (repX K) K mg 1 Mi.look_plan) := by
  obtain ⟨fd, F⟩ := T.c.def_ 15 (d := d_look_plan) rfl
  refine fkN (N := ["asks", "last", "one"]) (loc := 2) (m := Mi.b_look_plan) F T.glo_look_plan (F.bindsN fun _ _ _ _ _ _ us hl => match us, hl with | [_], _ => rfl) sc_look_plan rfl (fun cdv A outer s H E c hr hfl hpl tk po => ?_)
  exact (pms_cons (pm_if (PBw.pb (pbw_or (pb_not (pb_tru (px_isi isg_tup rfl (T.free_isinstance) rfl (T.free_tuple) (by decide +kernel) (px_var 0)))) (pbw_or1 (pb_cmp od_gt (px_callB cd_len rfl (T.free_len) (by decide +kernel) (pxs_cons (px_var 0) pxs_nil)) (px_globI rfl (T.int_MOST_ASKS)) (nomark _))))) (pms_cons (pm_raiseN rfl tk (T.exc_BadPlan) rfl) pms_nil) pms_nil) (pms_cons (pm_setZ (asg_set (i := 1) sc_look_plan.nd (pz_px px_int))) (pms_cons (pm_for (t := (.nm 2)) po rfl (pj_seq (pz_var 0)) (pt_name (i := 2) sc_look_plan.nd) (fun _ => (pms_cons (pm_if (PBw.pb (pbw_or (pb_not (pb_tru (px_isi isg_tup rfl (T.free_isinstance) rfl (T.free_tuple) (by decide +kernel) (px_var 2)))) (pbw_or (pb_cmp (od_ne hr.units) (px_callB cd_len rfl (T.free_len) (by decide +kernel) (pxs_cons (px_var 2) pxs_nil)) px_int (nomark _)) (pbw_or1 (pb_not (pb_tru (px_ownC (ok_is_within T) (hr.mono (by decide)) rfl (Fn.X_len _ _ _) nx_is_within (pxs_cons (px_ix (px_var 2) px_int fun _ _ => rfl) (pxs_cons (px_var 1) (pxs_cons (px_globI rfl (T.int_MOST_TIME)) pxs_nil)))))))))) (pms_cons (pm_raiseN rfl tk (T.exc_BadPlan) rfl) pms_nil) pms_nil) (pms_cons (pm_if (pb_not (pb_tru (px_ownC (ok_is_within T) (hr.mono (by decide)) rfl (Fn.X_len _ _ _) nx_is_within (pxs_cons (px_ix (px_var 2) px_int fun _ _ => rfl) (pxs_cons px_int (pxs_cons (px_globI rfl (T.int_MOST_LONG)) pxs_nil)))))) (pms_cons (pm_raiseN rfl tk (T.exc_BadPlan) rfl) pms_nil) pms_nil) (pms_cons (pm_setZ (asg_set (i := 1) sc_look_plan.nd (pz_px (px_ix (px_var 2) px_int fun _ _ => rfl)))) pms_nil))))) pms_nil)))

theorem sc_plan_text : FnScope ["asks", "when", "long"] ["asks"] (defScope (top 33)) := ⟨rfl, rfl, rfl, by decide +kernel, rfl, by decide +kernel, by decide +kernel⟩
theorem ok_plan_text (T : Tx w K mg) : Fk P w K mg base 3 "plan_text" ["asks"] (spG (repX K) K mg 1 Mi.plan_text) := by
  obtain ⟨fd, F⟩ := T.c.def_ 16 (d := d_plan_text) rfl
  refine fkX (N := ["asks", "when", "long"]) (loc := 2) (m := Mi.b_plan_text) F T.glo_plan_text (F.bindsN fun _ _ _ _ _ _ us hl => match us, hl with | [_], _ => rfl) sc_plan_text rfl (fun cdv A outer s H E c hr hfl hpl tk po => ?_)
  exact (pms_cons (pm_drop (px_own (ok_look_plan T) tk (hr.mono (by decide)) rfl (Fn.X_len _ _ _) (pxs_cons (px_var 0) pxs_nil))) (pms_cons (pm_ret hfl (px_join px_str (px_of_pf (pf_lc (own := [("when", 1), ("long", 2)]) (t := (.tp [(.nm 1), (.nm 2)])) rfl sc_plan_text.nd (by decide) (pix_seq (px_var 0)) (blk_of (by kernel_rfl)) (fun _ _ _ _ _ => (pt_tup rfl (pts_cons' (pt_name (i := 1) sc_plan_text.nd) (pts_cons' (pt_name (i := 2) sc_plan_text.nd) pts_nil')))) (fun _ _ _ _ _ => pts_no) (fun _ _ _ _ _ => (px_bin od_add (px_bin od_add (px_callTy cd_str rfl (T.free_str) (by decide +kernel) (pxs_cons (px_var 1) pxs_nil)) px_str) (px_callTy cd_str rfl (T.free_str) (by decide +kernel) (pxs_cons (px_var 2) pxs_nil)))))))) pms_nil))

theorem sc_read_plan : FnScope ["text", "found", "word", "parts"] ["text"] (defScope (top 35)) := ⟨rfl, rfl, rfl, by decide +kernel, rfl, by decide +kernel, by decide +kernel⟩
theorem ok_read_plan (T : Tx w K mg) : Fk P w K mg base 3 "read_plan" ["text"] (spG (repX K) K mg 1 Mi.read_plan) := by
  obtain ⟨fd, F⟩ := T.c.def_ 17 (d := d_read_plan) rfl
  refine fkX (N := ["text", "found", "word", "parts"]) (loc := 3) (m := Mi.b_read_plan) F T.glo_read_plan (F.bindsN fun _ _ _ _ _ _ us hl => match us, hl with | [_], _ => rfl) sc_read_plan rfl (fun cdv A outer s H E c hr hfl hpl tk po => ?_)
  exact (pms_cons (pm_if (pb_not (pb_tru (px_isi isg_str rfl (T.free_isinstance) rfl (T.free_str) (by decide +kernel) (px_var 0)))) (pms_cons (pm_raise rfl tk (T.exc_BadText) rfl) pms_nil) pms_nil) (pms_cons (pm_own (asg_set (i := 1) sc_read_plan.nd (pf_lst pxs_nil))) (pms_cons (pm_for (t := (.nm 2)) po rfl (pj_seq (pz_pf (pf_if (pb_cmp (od_ne hr.units) (px_var 0) px_str (nomark _)) (pf_split (px_var 0) px_str) (pf_lst pxs_nil)))) (pt_name (i := 2) sc_read_plan.nd) (fun _ => (pms_cons (pm_setF (asg_set (i := 3) sc_read_plan.nd (pf_split (px_var 2) px_str))) (pms_cons (pm_if (pb_cmp (od_ne hr.units) (px_callB cd_len rfl (T.free_len) (by decide +kernel) (pxs_cons (px_var 3) pxs_nil)) px_int (nomark _)) (pms_cons (pm_raise rfl tk (T.exc_BadText) rfl) pms_nil) pms_nil) (pms_cons (pm_app (i := 1) (pz_px (px_tup (pxs_cons (px_own (ok_number_of T) tk (hr.mono (by decide)) rfl (Fn.X_len _ _ _) (pxs_cons (px_ix (px_var 3) px_int fun _ _ => rfl) pxs_nil)) (pxs_cons (px_own (ok_number_of T) tk (hr.mono (by decide)) rfl (Fn.X_len _ _ _) (pxs_cons (px_ix (px_var 3) px_int fun _ _ => rfl) pxs_nil)) pxs_nil))))) pms_nil))))) (pms_frz 1 (pms_cons (pm_tryX rfl rfl (L2H.passesAt_of rfl) tk (T.exm_PoolError) rfl (T.exc_BadText) rfl (fun _ _ _ tk po => (pms_cons (pm_drop (px_ownN (okN_look_plan T) tk (hr.mono (by decide)) rfl (Fn.X_len _ _ _) (pxs_cons (px_callTy cd_tuple rfl (T.free_tuple) (by decide +kernel) (pxs_cons (px_var 1) pxs_nil)) pxs_nil))) pms_nil))) (pms_cons (pm_ret hfl (px_callTy cd_tuple rfl (T.free_tuple) (by decide +kernel) (pxs_cons (px_var 1) pxs_nil))) pms_nil))))))

theorem sc_law_called_then : FnScope ["_law_which", "_law_a"] ["_law_which", "_law_a"] (defScope (top 69)) := ⟨rfl, rfl, rfl, by decide +kernel, rfl, by decide +kernel, by decide +kernel⟩
theorem ok_law_called_then (T : Tx w K mg) : Fk P w K mg base 4 "_law_called_then" ["_law_which", "_law_a"] (spG (repX K) K mg 2 Mi.law_called_then_k24) := by
  obtain ⟨fd, F⟩ := T.c.def_ 18 (d := d_law_called_then) rfl
  refine fkX (N := ["_law_which", "_law_a"]) (loc := 0) (m := Mi.b_law_called_then_k24) F T.glo_law_called_then (F.bindsN fun _ _ _ _ _ _ us hl => match us, hl with | [_, _], _ => rfl) sc_law_called_then rfl (fun cdv A outer s H E c hr hfl hpl tk po => ?_)
  exact (pms_cons (pm_if (pb_cmp od_lt (px_var 0) px_int (nomark _)) (pms_cons (pm_if (pb_cmp (od_eq hr.units) (px_var 0) px_int (nomark _)) (pms_cons (pm_ret hfl px_never) pms_nil) pms_nil) (pms_cons (pm_ret hfl (px_if (pb_cmp (od_eq hr.units) (px_var 0) px_int (nomark _)) px_never px_never)) pms_nil)) pms_nil) (pms_cons (pm_if (pb_cmp od_lt (px_var 0) px_int (nomark _)) (pms_cons (pm_ret hfl (px_if (pb_cmp (od_eq hr.units) (px_var 0) px_int (nomark _)) (px_own (ok_plan_text T) tk (hr.mono (by decide)) rfl (Fn.X_len _ _ _) (pxs_cons (px_ix (px_var 1) px_int fun _ _ => rfl) pxs_nil)) (px_own (ok_read_plan T) tk (hr.mono (by decide)) rfl (Fn.X_len _ _ _) (pxs_cons (px_ix (px_var 1) px_int fun _ _ => rfl) pxs_nil)))) pms_nil) pms_nil) (pms_cons (pm_ret hfl (px_if (pb_cmp (od_eq hr.units) (px_var 0) px_int (nomark _)) (px_own (ok_deeds_text T) tk (hr.mono (by decide)) rfl (Fn.X_len _ _ _) (pxs_cons (px_ix (px_var 1) px_int fun _ _ => rfl) pxs_nil)) (px_of_pf (pf_own (ok_read_deeds T) tk (hr.mono (by decide)) rfl (Fn.F_len _ _ _) (pxs_cons (px_ix (px_var 1) px_int fun _ _ => rfl) pxs_nil))))) pms_nil)))

theorem sc_law_word : FnScope ["_law_which", "_law_a", "_law_caught"] ["_law_which", "_law_a"] (defScope (top 70)) := ⟨rfl, rfl, rfl, by decide +kernel, rfl, by decide +kernel, by decide +kernel⟩
theorem ok_law_word (T : Tx w K mg) : Fk P w K mg base 5 "_law_word" ["_law_which", "_law_a"] (spG (repX K) K mg 2 Mi.law_word_k24) := by
  obtain ⟨fd, F⟩ := T.c.def_ 19 (d := d_law_word) rfl
  refine fkX (N := ["_law_which", "_law_a", "_law_caught"]) (loc := 1) (m := Mi.b_law_word_k24) F T.glo_law_word (F.bindsN fun _ _ _ _ _ _ us hl => match us, hl with | [_, _], _ => rfl) sc_law_word rfl (fun cdv A outer s H E c hr hfl hpl tk po => ?_)
  exact (pms_cons (pm_setZ (asg_set (i := 2) sc_law_word.nd (pz_px px_str))) (pms_cons (pm_try rfl rfl tk (fun _ _ _ tk po => (pms_cons (pm_if (pb_cmp od_lt (px_var 0) px_int (nomark _)) (pms_cons (pm_drop (px_own (ok_law_called T) tk (hr.mono (by decide)) rfl (Fn.X_len _ _ _) (pxs_cons (px_var 0) (pxs_cons (px_var 1) pxs_nil)))) pms_nil) (pms_cons (pm_drop (px_own (ok_law_called_then T) tk (hr.mono (by decide)) rfl (Fn.X_len _ _ _) (pxs_cons (px_var 0) (pxs_cons (px_var 1) pxs_nil)))) pms_nil)) pms_nil)) (hr_cons (T.exm_BadNumber) rfl (fun _ _ => (pms_cons (pm_setZ (asg_set (i := 2) sc_law_word.nd (pz_px px_str))) pms_nil)) (hr_cons (T.exm_BadPlan) rfl (fun _ _ => (pms_cons (pm_setZ (asg_set (i := 2) sc_law_word.nd (pz_px px_str))) pms_nil)) (hr_cons (T.exm_BadSettings) rfl (fun _ _ => (pms_cons (pm_setZ (asg_set (i := 2) sc_law_word.nd (pz_px px_str))) pms_nil)) (hr_cons (T.exm_BadDeed) rfl (fun _ _ => (pms_cons (pm_setZ (asg_set (i := 2) sc_law_word.nd (pz_px px_str))) pms_nil)) (hr_cons (T.exm_BadText) rfl (fun _ _ => (pms_cons (pm_setZ (asg_set (i := 2) sc_law_word.nd (pz_px px_str))) pms_nil)) hr_nil)))))) (pms_cons (pm_ret hfl (px_var 2)) pms_nil)))

theorem sc_law : FnScope ["_law_script", "_law_asks_here", "_law_text", "_law_spoils", "_law_deeds_here", "_law_lines", "_law_at", "_law_odd"] ["_law_script"] (defScope (top 71)) := ⟨rfl, rfl, rfl, by decide +kernel, rfl, by decide +kernel, by decide +kernel⟩
theorem ok_law (T : Tx w K mg) : ∃ fd, (∀ (s : Shared) (u : Value), BindsTo s fd ⟨[u], []⟩ [("_law_script", u)]) ∧ ∀ base : Heap, FnOk P w K mg base (L2.CX P w) 6 (He.fAd K ("law", none)) fd ["_law_script"] (spG (repX K) K mg 1 Mi.law_k24) := by
  obtain ⟨fd, F⟩ := T.c.def_ 20 (d := d_law) rfl
  have b := FunD.bindsA (ps := ["_law_script"]) F fun _ _ _ _ _ _ us hl => match us, hl with | [_], _ => rfl
  refine ⟨fd, fun s v => b s [v] rfl, fun base => ?_⟩
  refine fnX' (N := ["_law_script", "_law_asks_here", "_law_text", "_law_spoils", "_law_deeds_here", "_law_lines", "_law_at", "_law_odd"]) (loc := 7) (m := Mi.b_law_k24) F sc_law rfl (fun cdv A outer s H E c hr hfl hpl tk po => ?_)
  exact (pms_cons (pm_setZ (asg_set (i := 1) sc_law.nd (pz_px (px_own (ok_law_asks T) tk (hr.mono (by decide)) rfl (Fn.X_len _ _ _) (pxs_cons (px_var 0) (pxs_cons px_int (pxs_cons px_int pxs_nil))))))) (pms_cons (pm_setZ (asg_set (i := 2) sc_law.nd (pz_px (px_own (ok_law_plan_text T) tk (hr.mono (by decide)) rfl (Fn.X_len _ _ _) (pxs_cons (px_var 1) pxs_nil))))) (pms_cons (pm_if (PBw.pb (pbw_or (pb_cmp (od_ne hr.units) (px_own (ok_plan_text T) tk (hr.mono (by decide)) rfl (Fn.X_len _ _ _) (pxs_cons (px_var 1) pxs_nil)) (px_var 2) (nomark _)) (pbw_or (pb_cmp (od_ne hr.units) (px_own (ok_law_word T) tk (hr.mono (by decide)) rfl (Fn.X_len _ _ _) (pxs_cons px_int (pxs_cons (px_lst (pxs_cons (px_var 2) pxs_nil)) pxs_nil))) px_str (nomark _)) (pbw_or1 (pb_cmp (od_ne hr.units) (px_own (ok_read_plan T) tk (hr.mono (by decide)) rfl (Fn.X_len _ _ _) (pxs_cons (px_var 2) pxs_nil)) (px_var 1) (nomark _)))))) (pms_cons (pm_ret hfl px_bl) pms_nil) pms_nil) (pms_cons (pm_setF (asg_set (i := 3) sc_law.nd (pf_lst (pxs_cons (px_bin od_add (px_var 2) px_str) (pxs_cons (px_bin od_add px_str (px_var 2)) (pxs_cons px_str (pxs_cons px_str (pxs_cons px_str (pxs_cons px_str (pxs_cons px_non (pxs_cons (px_bin od_add (px_var 2) px_str) pxs_nil))))))))))) (pms_cons (pm_setZ (asg_set (i := 3) sc_law.nd (pz_px (px_bin od_add (px_var 3) (px_lst (pxs_cons px_str (pxs_cons px_str (pxs_cons px_str (pxs_cons (px_lst (pxs_cons (px_var 2) pxs_nil)) pxs_nil))))))))) (pms_cons (pm_if (pb_cmp (od_ne hr.units) (px_own (ok_law_word T) tk (hr.mono (by decide)) rfl (Fn.X_len _ _ _) (pxs_cons px_int (pxs_cons (px_lst (pxs_cons (px_ix (px_var 3) (px_bin od_mod (px_own (ok_law_cell T) tk (hr.mono (by decide)) rfl (Fn.X_len _ _ _) (pxs_cons (px_var 0) (pxs_cons px_int pxs_nil))) px_int) fun _ _ => rfl) pxs_nil)) pxs_nil))) px_str (nomark _)) (pms_cons (pm_ret hfl px_bl) pms_nil) pms_nil) (pms_cons (pm_setF (asg_set (i := 4) sc_law.nd (pf_own (ok_law_deeds T) tk (hr.mono (by decide)) rfl (Fn.F_len _ _ _) (pxs_cons (px_var 0) (pxs_cons px_int (pxs_cons px_int pxs_nil)))))) (pms_cons (pm_setZ (asg_set (i := 5) sc_law.nd (pz_px (px_own (ok_law_deeds_text T) tk (hr.mono (by decide)) rfl (Fn.X_len _ _ _) (pxs_cons (px_var 4) pxs_nil))))) (pms_cons (pm_if (PBw.pb (pbw_or (pb_cmp (od_ne hr.units) (px_own (ok_deeds_text T) tk (hr.mono (by decide)) rfl (Fn.X_len _ _ _) (pxs_cons (px_of_pf (pf_list rfl (T.free_list) (pxs_cons (px_var 4) pxs_nil))) pxs_nil)) (px_var 5) (nomark _)) (pbw_or (pb_cmp (od_ne hr.units) (px_own (ok_law_word T) tk (hr.mono (by decide)) rfl (Fn.X_len _ _ _) (pxs_cons px_int (pxs_cons (px_lst (pxs_cons (px_var 5) pxs_nil)) pxs_nil))) px_str (nomark _)) (pbw_or1 (pb_cmp (od_ne hr.units) (px_of_pf (pf_own (ok_read_deeds T) tk (hr.mono (by decide)) rfl (Fn.F_len _ _ _) (pxs_cons (px_var 5) pxs_nil))) (px_var 4) (nomark _)))))) (pms_cons (pm_ret hfl px_bl) pms_nil) pms_nil) (pms_cons (pm_setF (asg_set (i := 3) sc_law.nd (pf_lst (pxs_cons px_str (pxs_cons px_str (pxs_cons px_str (pxs_cons px_str (pxs_cons px_str (pxs_cons px_str (pxs_cons px_str pxs_nil)))))))))) (pms_cons (pm_setZ (asg_set (i := 3) sc_law.nd (pz_px (px_bin od_add (px_var 3) (px_lst (pxs_cons (px_bin od_add (px_var 5) px_str) (pxs_cons px_str (pxs_cons px_str (pxs_cons px_non pxs_nil))))))))) (pms_cons (pm_setZ (asg_set (i := 6) sc_law.nd (pz_px (px_bin od_mod (px_own (ok_law_cell T) tk (hr.mono (by decide)) rfl (Fn.X_len _ _ _) (pxs_cons (px_var 0) (pxs_cons px_int pxs_nil))) px_int)))) (pms_cons (pm_if (PBw.pb (pbw_and (pb_cmp (od_eq hr.units) (px_var 6) px_int (nomark _)) (pbw_and1 (pb_cmp (od_eq hr.units) (px_var 5) px_str (nomark _))))) (pms_cons (pm_ret hfl (px_and (px_cmp (od_eq hr.units) (px_of_pf (pf_own (ok_read_deeds T) tk (hr.mono (by decide)) rfl (Fn.F_len _ _ _) (pxs_cons px_str pxs_nil))) (px_lst pxs_nil) (nomark _)) (px_one (px_cmp (od_eq hr.units) (px_own (ok_read_plan T) tk (hr.mono (by decide)) rfl (Fn.X_len _ _ _) (pxs_cons px_str pxs_nil)) (px_tup pxs_nil) (nomark _))))) pms_nil) pms_nil) (pms_cons (pm_if (pb_cmp (od_ne hr.units) (px_own (ok_law_word T) tk (hr.mono (by decide)) rfl (Fn.X_len _ _ _) (pxs_cons px_int (pxs_cons (px_lst (pxs_cons (px_ix (px_var 3) (px_var 6) fun _ _ => rfl) pxs_nil)) pxs_nil))) px_str (nomark _)) (pms_cons (pm_ret hfl px_bl) pms_nil) pms_nil) (pms_cons (pm_setF (asg_set (i := 7) sc_law.nd (pf_lst (pxs_cons (px_tup (pxs_cons px_str (pxs_cons px_int (pxs_cons px_int pxs_nil)))) (pxs_cons (px_tup (pxs_cons px_str (pxs_cons (px_neg px_int) pxs_nil))) (pxs_cons (px_tup (pxs_cons px_str (pxs_cons px_int pxs_nil))) (pxs_cons (px_tup (pxs_cons px_str (pxs_cons px_bl pxs_nil))) (pxs_cons (px_tup (pxs_cons px_str pxs_nil)) (pxs_cons px_non (pxs_cons (px_tup (pxs_cons px_str (pxs_cons px_str pxs_nil))) pxs_nil)))))))))) (pms_cons (pm_ret hfl (px_cmp (od_eq hr.units) (px_own (ok_law_word T) tk (hr.mono (by decide)) rfl (Fn.X_len _ _ _) (pxs_cons px_int (pxs_cons (px_lst (pxs_cons (px_of_pf (pf_add (px_var 4) (px_lst (pxs_cons (px_ix (px_var 7) (px_bin od_mod (px_own (ok_law_cell T) tk (hr.mono (by decide)) rfl (Fn.X_len _ _ _) (pxs_cons (px_var 0) (pxs_cons px_int pxs_nil))) px_int) fun _ _ => rfl) pxs_nil)))) pxs_nil)) pxs_nil))) px_str (nomark _))) pms_nil))))))))))))))))

end
end Wk

namespace Wk
open PySem PySem.Spec PyProof.Rows PySem.W PySem.Calls L2 Lp
abbrev R : PySem.W.OpenRow := PySem.W.OpenLaw.row PySem.Challenge.rw_lendpool_k24_texts
abbrev hk : PySem.W.Hook := hookQ 5 td tb fa fn
def ob (s : PySem.W.SharedT) : AlQ := obsQG 5 td tb fa fn (HandSHeadRun.getT s)
theorem ob_eq (s : PySem.W.SharedT) : ob s = hk.obs s.abs := obsQG_eq (HandSHeadRun.getT_eq s)
def names : List PySem.Str := (["_wall", "__name__", "PoolError", "BadSettings", "BadNumber", "BadThing", "BadPlan", "BadDeed", "BadText", "Nothing", "BOUNDS", "is_within", "look_number", "checked", "MOST_ASKS", "MOST_TIME", "MOST_LONG", "look_plan", "begins_of", "begins", "MOST_RANK", "Pool", "SIZES", "is_deed", "saved", "woken", "FIGURES", "MOST_NUMBER", "plan_text", "number_of"] : List PySem.Str) ++ (["read_plan", "is_plain", "deeds_text", "read_deeds", "spans_of", "loads", "free_times", "plan_later", "plan_joined", "plan_without", "plan_cut", "Record", "RULES", "look_rule", "next_one", "served_of", "served_by", "wait_of", "whole_wait", "best_rule", "_law_cell", "_law_mix", "_law_seed", "_law_pick", "_law_deeds", "_law_asks", "_law_plan_text", "_law_deeds_text", "_law_called", "_law_called_then"] : List PySem.Str) ++ (["_law_word"] : List PySem.Str)
abbrev RR (w : World) : Prop := HandSHeadRun.RunEq R (PySem.W.view R.prog [71]) hk ob 6000 names w
theorem runF (w : World) : RR (w.withFollow "special-get-raises" false) := by
  intro os
  kernel_rfl
theorem runT (w : World) : RR (w.withFollow "special-get-raises" true) := by
  intro os
  kernel_rfl
theorem run (w : World) : RR w := PySem.W.byRow2 "special-get-raises" (P := fun w => RR w) runF runT w
end Wk
open PySem PySem.W PySem.Calls PyProof.Rows
theorem PySem.Challenge.cw_lendpool_k24_texts_holds : PySem.Challenge.rw_lendpool_k24_texts.Holds := by
  w_on; o_law
  refine HandSHeadRun.head_any (r := OpenLaw.row PySem.Challenge.rw_lendpool_k24_texts) (q := view (OpenLaw.row PySem.Challenge.rw_lendpool_k24_texts).prog [71]) (H := Wk.hk) (ob := Wk.ob) (M := 6000) (loose := Wk.names) (d := HandSHeadRun.topDef (OpenLaw.row PySem.Challenge.rw_lendpool_k24_texts).prog 71) (kwd := []) Wk.ob_eq
    (by kernel_rfl) (fun s => by kernel_rfl) Wk.run (by kernel_rfl) (by kernel_rfl) (by kernel_rfl) (by rfl) (by first | assumption | decide +kernel) (by decide +kernel) ⟨rfl, rfl, rfl, rfl, rfl, by decide +kernel⟩ ?hw ?hc
  case hw => w_witness2
  case hc =>
    refine L2.walk_ofE (l := PySem.Challenge.rw_lendpool_k24_texts) (n := 63) (k := 6) (x := "_law_script") (CX := L2.CX0) rfl (by decide) (by kernel_rfl) ⟨rfl, by decide, by decide⟩ ?F (fun _ _ _ _ z => z)
    intro w mg fa h Y G hmg0
    obtain ⟨K, KX, c⟩ := Y
    have hmg : mg ("law" : PySem.Str) = some (.ref fa) := by
      have e : (HandSHeadRun.topDef (OpenLaw.row PySem.Challenge.rw_lendpool_k24_texts).prog 71).name = ("law" : PySem.Str) := by kernel_rfl
      rw [← e]
      exact hmg0
    have T : Wk.Tx w K mg := ⟨⟨h, KX, G⟩, c⟩
    have e := hmg.symm.trans T.glo_law
    cases e
    obtain ⟨fd, hb, hF⟩ := Wk.ok_law (P := (PySem.Challenge.rw_lendpool_k24_texts).prog) (w := w) T
    exact ⟨K, fd, fun vs H Q _ => Lp.spG (Lp.repX K) K mg 1 Mi.law_k24 vs H Q fun _ _ _ => False, KX, hb, fun H a ns hl _ hS => Lp.law_sp (Mi.law_k24_true ns hl) hS, fun base _ _ => Lp.fn_calm (hF base)⟩


