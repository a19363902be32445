import PyProof.Rows.All
import Wide.All
import OpenK.AllK
import Wide.FinOn
import HandS.ForMost
import HandS.Exc
import HandS.ExcOwn
import HandS.TryOnly
import HandS.CallSlots
import HandS.WordsExc
import HandS.Defaults
import HandS.Property
import HandS.TupAny
import HandS.TupLe
import HandS.Style
import HandS.Deep
import HandS.IsInst
import HandS.Conv
import HandS.WideBits
import HandS.More
import KE.KSortedM
import HandS.SortKw
import KE.DataMinMax
import KE.SortData
import HandS.Star
import HandS.Strs
import HandS.Head0
import HandS.Head1
import HandS.Head2
import HandS.HeadEnd
import HandS.HeadHook1
import HandS.HeadHook2
import PySem.Challenge.RW_switchrounds_k71_joined_and_yet_without
set_option Elab.async false
set_option linter.all false
set_option maxRecDepth 100000
/-! VL1: values without the heap (D), how they lie in the abstract heap (Rep), slots of a frame (Slot), the state predicate OkT and its laws. -/
namespace VL
open PySem PySem.Spec PyProof.Rows L2

inductive D where
  | non | bl (b : Bool) | int (i : Int) | str (x : Str) | tup (xs : List D) | lst (xs : List D)
  | dic (ks : List Key) (vs : List D) | dit (ks : List (List Key)) (vs : List D) | scr (ns : List Int) | kt (xs : List D) | ft (xs : List D) | obj (c : Str) (ns : List Str) (vs : List D)
  deriving Inhabited

/-- a tuple of the module's own top -/
def KTup (K : PySem.W.Frag) (a : Addr) (xs : List V) : Prop :=
  ∃ (o : Obj) (its : Array Value) (n : Nat), K.lookup a = some o ∧ o.cls = .type "tuple" ∧ o.data = .seq its n ∧ its.size ≤ sizeLine ∧ Vals xs its.toList

def keyD : Key → D
  | .inl i => .int i
  | .inr x => .str x
/-- a dict's object: its keys, its values -/
def DicO (ks : List Key) (vs : List V) (o : HO) : Prop := (ks.length = vs.length ∧ ks.Nodup) ∧ o = .dK (ks.zip vs)
def DitO (ks : List (List Key)) (vs : List V) (o : HO) : Prop := (ks.length = vs.length ∧ ks.Nodup) ∧ o = .dT (ks.zip vs)
/-- a list that is known to the object (the script), or of the module's own top -/
def KLst (K : PySem.W.Frag) (H : Hp) (A : List Addr) (a : Addr) (xs : List V) : Prop :=
  (a ∉ A ∧ Rd H a (.lst xs)) ∨ ∃ (o : Obj) (its : Array Value) (n : Nat), K.lookup a = some o ∧ o.cls = .type "list" ∧ o.dict = none ∧ o.data = .seq its n ∧ its.size ≤ sizeLine ∧ Vals xs its.toList
theorem KLst.sq {K : PySem.W.Frag} {H : Hp} {A : List Addr} {a : Addr} {xs : List V} (h : KLst K H A a xs) : SqL K H a xs := by
  rcases h with ⟨_, h⟩ | h
  · exact .inl h
  · exact .inr h

section
variable (K : PySem.W.Frag) (ca : Str → Addr) (H : Hp) (A : List Addr)
mutual
/-- v stands for d; nothing that it reaches lies in A -/
def Rep : D → V → Prop
  | .non, v => v = .non
  | .bl b, v => v = .bl b
  | .int i, v => v = .int i
  | .str x, v => v = .str x
  | .tup ds, v => ∃ a vs, v = .ref a ∧ a ∉ A ∧ H a = some (.tup vs) ∧ Reps ds vs
  | .kt ds, v => ∃ a vs, v = .ref a ∧ KTup K a vs ∧ Reps ds vs
  | .ft ds, v => ∃ a vs o, v = .ref a ∧ a ∉ A ∧ H a = some (.frz o (.tup vs)) ∧ (o.cls = .type "tuple" ∧ o.dict = none) ∧ Reps ds vs
  | .lst ds, v => ∃ a vs, v = .ref a ∧ a ∉ A ∧ H a = some (.lst vs) ∧ Reps ds vs
  | .scr ns, v => ∃ a, v = .ref a ∧ KLst K H A a (ns.map V.int)
  | .dic ks ds, v => ∃ a o vs, v = .ref a ∧ a ∉ A ∧ H a = some o ∧ DicO ks vs o ∧ Reps ds vs
  | .dit ks ds, v => ∃ a o vs, v = .ref a ∧ a ∉ A ∧ H a = some o ∧ DitO ks vs o ∧ Reps ds vs
  | .obj c ns ds, v => ∃ a dx vs, v = .ref a ∧ a ∉ A ∧ H a = some (.ins (ca c) dx (ns.zip vs)) ∧ ns.length = ds.length ∧ Reps ds vs
def Reps : List D → List V → Prop
  | [], vs => vs = []
  | d :: ds, vs => ∃ v r, vs = v :: r ∧ Rep d v ∧ Reps ds r
end
/-- what stands at the root of an object of its own -/
def Cont : D → HO → Prop
  | .lst ds, o => ∃ vs, o = .lst vs ∧ Reps K ca H A ds vs
  | .dic ks ds, o => ∃ vs, DicO ks vs o ∧ Reps K ca H A ds vs
  | .dit ks ds, o => ∃ vs, DitO ks vs o ∧ Reps K ca H A ds vs
  | .obj c ns ds, o => ∃ dx vs, o = .ins (ca c) dx (ns.zip vs) ∧ ns.length = ds.length ∧ Reps K ca H A ds vs
  | _, _ => False
/-- read where it stands: the root may be an object of one's own -/
def Peek (d : D) (v : V) : Prop := Rep K ca H A d v ∨ ∃ a u, v = .ref a ∧ H a = some u ∧ Cont K ca H A d u
def Peeks : List D → List V → Prop
  | [], vs => vs = []
  | d :: ds, vs => ∃ v r, vs = v :: r ∧ Peek K ca H A d v ∧ Peeks ds r
end

section
variable {K : PySem.W.Frag} {ca : Str → Addr} {H H' : Hp} {A A' : List Addr}
theorem Rd.mono {a : Addr} {u : HO} (k : ∀ o, H a = some o → H' a = some o) (h : Rd H a u) : Rd H' a u := by
  rcases h with h | ⟨o, h⟩
  · exact .inl (k _ h)
  · exact .inr ⟨o, k _ h⟩
theorem Rd.ne {a b : Addr} {u : HO} (h : Rd H a u) (n : H b = none) : a ≠ b := by
  rintro rfl
  rcases h with h | ⟨o, h⟩ <;> rw [n] at h <;> cases h
mutual
theorem Rep.mono2 (k : ∀ b o, b ∉ A → H b = some o → H' b = some o) (s : ∀ b o, b ∉ A → H b = some o → b ∉ A') : ∀ (d : D) (v : V), Rep K ca H A d v → Rep K ca H' A' d v
  | .non, _, h => h
  | .bl _, _, h => h
  | .int _, _, h => h
  | .str _, _, h => h
  | .tup ds, _, h => by
    obtain ⟨a, vs, e, n, r, q⟩ := h
    exact ⟨a, vs, e, s a _ n r, k a _ n r, Reps.mono2 k s ds vs q⟩
  | .kt ds, _, h => by
    obtain ⟨a, vs, e, r, q⟩ := h
    exact ⟨a, vs, e, r, Reps.mono2 k s ds vs q⟩
  | .ft ds, _, h => by
    obtain ⟨a, vs, o, e, n, r, x, q⟩ := h
    exact ⟨a, vs, o, e, s a _ n r, k a _ n r, x, Reps.mono2 k s ds vs q⟩
  | .lst ds, _, h => by
    obtain ⟨a, vs, e, n, r, q⟩ := h
    exact ⟨a, vs, e, s a _ n r, k a _ n r, Reps.mono2 k s ds vs q⟩
  | .scr ns, _, h => by
    obtain ⟨a, e, q⟩ := h
    refine ⟨a, e, ?_⟩
    rcases q with ⟨n, r⟩ | q
    · refine .inl ⟨?_, Rd.mono (fun o x => k a o n x) r⟩
      rcases r with r | ⟨_, r⟩ <;> exact s a _ n r
    · exact .inr q
  | .dic ks ds, _, h => by
    obtain ⟨a, o, vs, e, n, r, x, q⟩ := h
    exact ⟨a, o, vs, e, s a o n r, k a o n r, x, Reps.mono2 k s ds vs q⟩
  | .dit ks ds, _, h => by
    obtain ⟨a, o, vs, e, n, r, x, q⟩ := h
    exact ⟨a, o, vs, e, s a o n r, k a o n r, x, Reps.mono2 k s ds vs q⟩
  | .obj c ns ds, _, h => by
    obtain ⟨a, dx, vs, e, n, r, x, q⟩ := h
    exact ⟨a, dx, vs, e, s a _ n r, k a _ n r, x, Reps.mono2 k s ds vs q⟩
theorem Reps.mono2 (k : ∀ b o, b ∉ A → H b = some o → H' b = some o) (s : ∀ b o, b ∉ A → H b = some o → b ∉ A') : ∀ (ds : List D) (vs : List V), Reps K ca H A ds vs → Reps K ca H' A' ds vs
  | [], _, h => h
  | d :: ds, _, h => by
    obtain ⟨v, r, e, h1, h2⟩ := h
    exact ⟨v, r, e, Rep.mono2 k s d v h1, Reps.mono2 k s ds r h2⟩
end
theorem Cont.mono2 (k : ∀ b o, b ∉ A → H b = some o → H' b = some o) (s : ∀ b o, b ∉ A → H b = some o → b ∉ A') {d : D} {o : HO} (h : Cont K ca H A d o) : Cont K ca H' A' d o := by
  cases d with
  | lst ds => obtain ⟨vs, e, q⟩ := h; exact ⟨vs, e, Reps.mono2 k s ds vs q⟩
  | dic ks ds => obtain ⟨vs, e, q⟩ := h; exact ⟨vs, e, Reps.mono2 k s ds vs q⟩
  | dit ks ds => obtain ⟨vs, e, q⟩ := h; exact ⟨vs, e, Reps.mono2 k s ds vs q⟩
  | obj c ns ds => obtain ⟨dx, vs, e, x, q⟩ := h; exact ⟨dx, vs, e, x, Reps.mono2 k s ds vs q⟩
  | _ => exact h.elim
theorem Reps.length : ∀ {ds : List D} {vs : List V}, Reps K ca H A ds vs → vs.length = ds.length
  | [], _, h => by cases (show _ = _ from h); rfl
  | d :: ds, _, h => by
    obtain ⟨v, r, e, _, h2⟩ := h
    subst e
    simp [Reps.length h2]
theorem Reps.get : ∀ {ds : List D} {vs : List V} {i : Nat} {d : D}, Reps K ca H A ds vs → ds[i]? = some d → ∃ v, vs[i]? = some v ∧ Rep K ca H A d v
  | [], _, _, _, _, e => by simp at e
  | d :: ds, _, 0, _, h, e => by
    obtain ⟨v, r, rfl, h1, _⟩ := h
    simp at e; subst e
    exact ⟨v, by simp, h1⟩
  | d :: ds, _, i + 1, _, h, e => by
    obtain ⟨v, r, rfl, _, h2⟩ := h
    obtain ⟨w, e1, e2⟩ := Reps.get (i := i) h2 (by simpa using e)
    exact ⟨w, by simpa using e1, e2⟩
theorem Reps.getV : ∀ {ds : List D} {vs : List V} {i : Nat} {v : V}, Reps K ca H A ds vs → vs[i]? = some v → ∃ d, ds[i]? = some d ∧ Rep K ca H A d v
  | [], _, _, _, h, e => by cases (show _ = _ from h); simp at e
  | d :: ds, _, 0, _, h, e => by
    obtain ⟨v, r, rfl, h1, _⟩ := h
    simp at e; subst e
    exact ⟨d, by simp, h1⟩
  | d :: ds, _, i + 1, _, h, e => by
    obtain ⟨v, r, rfl, _, h2⟩ := h
    obtain ⟨w, e1, e2⟩ := Reps.getV (i := i) h2 (by simpa using e)
    exact ⟨w, by simpa using e1, e2⟩
theorem Reps.append : ∀ {ds es : List D} {vs ws : List V}, Reps K ca H A ds vs → Reps K ca H A es ws → Reps K ca H A (ds ++ es) (vs ++ ws)
  | [], _, _, _, h, q => by cases (show _ = _ from h); exact q
  | d :: ds, _, _, _, h, q => by
    obtain ⟨v, r, rfl, h1, h2⟩ := h
    exact ⟨v, r ++ _, rfl, h1, Reps.append h2 q⟩
theorem Reps.take : ∀ {ds : List D} {vs : List V} (n : Nat), Reps K ca H A ds vs → Reps K ca H A (ds.take n) (vs.take n)
  | [], _, n, h => by cases (show _ = _ from h); simp [Reps]
  | d :: ds, _, 0, h => by simp [Reps]
  | d :: ds, _, n + 1, h => by
    obtain ⟨v, r, rfl, h1, h2⟩ := h
    exact ⟨v, r.take n, rfl, h1, Reps.take n h2⟩
theorem Reps.drop : ∀ {ds : List D} {vs : List V} (n : Nat), Reps K ca H A ds vs → Reps K ca H A (ds.drop n) (vs.drop n)
  | [], _, n, h => by cases (show _ = _ from h); simp [Reps]
  | d :: ds, _, 0, h => by simpa using h
  | d :: ds, _, n + 1, h => by
    obtain ⟨v, r, rfl, h1, h2⟩ := h
    simpa using Reps.drop n h2
theorem Reps.set : ∀ {ds : List D} {vs : List V} (i : Nat) {d : D} {v : V}, Reps K ca H A ds vs → Rep K ca H A d v → Reps K ca H A (ds.set i d) (vs.set i v)
  | [], _, i, _, _, h, _ => by cases (show _ = _ from h); simp [Reps]
  | d :: ds, _, 0, _, _, h, q => by
    obtain ⟨v, r, rfl, _, h2⟩ := h
    exact ⟨_, r, rfl, q, h2⟩
  | d :: ds, _, i + 1, _, _, h, q => by
    obtain ⟨v, r, rfl, h1, h2⟩ := h
    exact ⟨v, _, rfl, h1, Reps.set i h2 q⟩
theorem Reps.eraseIdx : ∀ {ds : List D} {vs : List V} (i : Nat), Reps K ca H A ds vs → Reps K ca H A (ds.eraseIdx i) (vs.eraseIdx i)
  | [], _, i, h => by cases (show _ = _ from h); simp [Reps]
  | d :: ds, _, 0, h => by
    obtain ⟨v, r, rfl, _, h2⟩ := h
    exact h2
  | d :: ds, _, i + 1, h => by
    obtain ⟨v, r, rfl, h1, h2⟩ := h
    exact ⟨v, _, rfl, h1, Reps.eraseIdx i h2⟩
theorem Reps.all {ds : List D} {vs : List V} (h : vs.length = ds.length) (q : ∀ (i : Nat) (d : D) (v : V), ds[i]? = some d → vs[i]? = some v → Rep K ca H A d v) : Reps K ca H A ds vs := by
  induction ds generalizing vs with
  | nil => cases vs with
    | nil => exact rfl
    | cons v r => cases h
  | cons d ds ih => cases vs with
    | nil => cases h
    | cons v r => exact ⟨v, r, rfl, q 0 d v rfl rfl, ih (by simpa using h) fun i d' v' e1 e2 => q (i + 1) d' v' (by simpa using e1) (by simpa using e2)⟩
theorem Reps.reverse {ds : List D} {vs : List V} (h : Reps K ca H A ds vs) : Reps K ca H A ds.reverse vs.reverse := by
  induction ds generalizing vs with
  | nil => cases (show _ = _ from h); exact rfl
  | cons d ds ih =>
    obtain ⟨v, r, rfl, h1, h2⟩ := h
    rw [List.reverse_cons, List.reverse_cons]
    exact (ih h2).append ⟨v, [], rfl, h1, rfl⟩
theorem Peek.of {d : D} {v : V} (h : Rep K ca H A d v) : Peek K ca H A d v := .inl h
theorem Peek.atom {d : D} {v : V} (h : Peek K ca H A d v) : (∀ b, d = .bl b → v = .bl b) ∧ (∀ i, d = .int i → v = .int i) ∧ (∀ x, d = .str x → v = .str x) ∧ (d = .non → v = .non) := by
  rcases h with h | ⟨a, u, e, h1, h2⟩
  · exact ⟨fun b e => by subst e; exact h, fun b e => by subst e; exact h, fun b e => by subst e; exact h, fun e => by subst e; exact h⟩
  · exact ⟨fun b e => by subst e; exact h2.elim, fun b e => by subst e; exact h2.elim, fun b e => by subst e; exact h2.elim, fun e => by subst e; exact h2.elim⟩
theorem Peek.int {i : Int} {v : V} (h : Peek K ca H A (.int i) v) : v = .int i := h.atom.2.1 i rfl
theorem Peek.bl {i : Bool} {v : V} (h : Peek K ca H A (.bl i) v) : v = .bl i := h.atom.1 i rfl
theorem Peek.str {i : Str} {v : V} (h : Peek K ca H A (.str i) v) : v = .str i := h.atom.2.2.1 i rfl
theorem Peek.non {v : V} (h : Peek K ca H A .non v) : v = .non := h.atom.2.2.2 rfl
theorem Peek.lst {ds : List D} {v : V} (h : Peek K ca H A (.lst ds) v) : ∃ a vs, v = .ref a ∧ H a = some (.lst vs) ∧ Reps K ca H A ds vs := by
  rcases h with ⟨a, vs, e, n, r, q⟩ | ⟨a, u, e, h1, vs, rfl, q⟩
  · exact ⟨a, vs, e, r, q⟩
  · exact ⟨a, vs, e, h1, q⟩
theorem Peek.scr {ns : List Int} {v : V} (h : Peek K ca H A (.scr ns) v) : ∃ a, v = .ref a ∧ SqL K H a (ns.map V.int) := by
  rcases h with ⟨a, e, q⟩ | ⟨a, u, e, h1, h2⟩
  · exact ⟨a, e, q.sq⟩
  · exact h2.elim
theorem Peek.tup {ds : List D} {v : V} (h : Peek K ca H A (.tup ds) v) : ∃ a vs, v = .ref a ∧ H a = some (.tup vs) ∧ Reps K ca H A ds vs := by
  rcases h with ⟨a, vs, e, n, r, q⟩ | ⟨a, u, e, h1, h2⟩
  · exact ⟨a, vs, e, r, q⟩
  · exact h2.elim
theorem Peek.kt {ds : List D} {v : V} (h : Peek K ca H A (.kt ds) v) : ∃ a vs, v = .ref a ∧ KTup K a vs ∧ Reps K ca H A ds vs := by
  rcases h with ⟨a, vs, e, r, q⟩ | ⟨a, u, e, h1, h2⟩
  · exact ⟨a, vs, e, r, q⟩
  · exact h2.elim
theorem Peek.ft {ds : List D} {v : V} (h : Peek K ca H A (.ft ds) v) : ∃ a vs o, v = .ref a ∧ H a = some (.frz o (.tup vs)) ∧ (o.cls = .type "tuple" ∧ o.dict = none) ∧ Reps K ca H A ds vs := by
  rcases h with ⟨a, vs, o, e, n, r, q⟩ | ⟨a, u, e, h1, h2⟩
  · exact ⟨a, vs, o, e, r, q⟩
  · exact h2.elim
theorem Peek.dic {ks : List Key} {ds : List D} {v : V} (h : Peek K ca H A (.dic ks ds) v) : ∃ a vs, v = .ref a ∧ H a = some (.dK (ks.zip vs)) ∧ (ks.length = vs.length ∧ ks.Nodup) ∧ Reps K ca H A ds vs := by
  rcases h with ⟨a, o, vs, e, n, r, ⟨x, rfl⟩, q⟩ | ⟨a, u, e, h1, vs, ⟨x, rfl⟩, q⟩
  · exact ⟨a, vs, e, r, x, q⟩
  · exact ⟨a, vs, e, h1, x, q⟩
theorem Peek.dit {ks : List (List Key)} {ds : List D} {v : V} (h : Peek K ca H A (.dit ks ds) v) : ∃ a vs, v = .ref a ∧ H a = some (.dT (ks.zip vs)) ∧ (ks.length = vs.length ∧ ks.Nodup) ∧ Reps K ca H A ds vs := by
  rcases h with ⟨a, o, vs, e, n, r, ⟨x, rfl⟩, q⟩ | ⟨a, u, e, h1, vs, ⟨x, rfl⟩, q⟩
  · exact ⟨a, vs, e, r, x, q⟩
  · exact ⟨a, vs, e, h1, x, q⟩
theorem Peek.obj {c : Str} {ns : List Str} {ds : List D} {v : V} (h : Peek K ca H A (.obj c ns ds) v) : ∃ a dx vs, v = .ref a ∧ H a = some (.ins (ca c) dx (ns.zip vs)) ∧ ns.length = ds.length ∧ Reps K ca H A ds vs := by
  rcases h with ⟨a, o, vs, e, n, r, x, q⟩ | ⟨a, u, e, h1, dx, vs, rfl, x, q⟩
  · exact ⟨a, o, vs, e, r, x, q⟩
  · exact ⟨a, dx, vs, e, h1, x, q⟩
end

/-! ### slots -/
inductive Slot | un | sh (d : D) | ow (d : D) | br (d : D)
  deriving Inhabited
abbrev Env := List Slot
def Slot.d? : Slot → Option D
  | .un => none
  | .sh d => some d
  | .ow d => some d
  | .br d => some d
/-- a def's entry: the heap, what its caller holds, its parameters by reference (slot, address) -/
structure Ctx where
  H0 : Hp
  A0 : List Addr
  B : List (Nat × Addr)
def Ctx.bs (c : Ctx) : List Addr := c.B.map (·.2)
section
variable (K : PySem.W.Frag) (ca : Str → Addr) (c : Ctx) (A : List Addr) (H : Hp)
def SlotOk : Slot → Option V → Prop
  | .un, _ => True
  | .sh d, o => ∃ v, o = some v ∧ Rep K ca H A d v
  | .ow d, o => ∃ a u, o = some (.ref a) ∧ a ∈ A ∧ c.H0 a = none ∧ H a = some u ∧ Cont K ca H A d u
  | .br d, o => ∃ a u, o = some (.ref a) ∧ a ∈ A ∧ a ∈ c.bs ∧ H a = some u ∧ Cont K ca H A d u
def ownA : Slot × Option V → Option Addr
  | (.ow _, some (.ref a)) => some a
  | (.br _, some (.ref a)) => some a
  | _ => none
abbrev Ls := List (Slot × Option V)
structure Ok1 (l : Ls) : Prop where
  slots : ∀ p ∈ l, SlotOk K ca c A H p.1 p.2
  nodup : (l.filterMap ownA).Nodup
  sub : ∀ a ∈ c.A0, a ∈ A
  bsub : ∀ a ∈ c.bs, a ∈ c.A0
  old : ∀ a ∈ c.A0, c.H0 a ≠ none
  live : ∀ a ∈ A, H a ≠ none
  frame : ∀ b o, c.H0 b = some o → b ∉ c.bs → H b = some o
/-- the state: slots ρ as σ holds them, temporaries ts -/
def OkT (ρ : Env) (σ : L2.St) (ts : Ls) (H : Hp) : Prop :=
  ρ.length = σ.length ∧ (∀ p ∈ c.B, σ[p.1]? = some (some (.ref p.2)) ∧ ∃ d, ρ[p.1]? = some (.br d)) ∧ ∃ A, Ok1 K ca c A H (ts ++ ρ.zip σ)
end
section
variable {K : PySem.W.Frag} {ca : Str → Addr} {c : Ctx} {A A' : List Addr} {H H' : Hp} {l l' : Ls} {ρ : Env} {σ : L2.St} {ts ts' : Ls}
theorem SlotOk.own_mem {s : Slot} {o : Option V} {a : Addr} (h : SlotOk K ca c A H s o) (e : ownA (s, o) = some a) : a ∈ A := by
  cases s with
  | ow d => obtain ⟨b, u, rfl, h1, _⟩ := h; cases e; exact h1
  | br d => obtain ⟨b, u, rfl, h1, _⟩ := h; cases e; exact h1
  | un => cases o <;> cases e
  | sh d => cases o <;> cases e
/-- the heap changes where nobody of the list looks; A may grow by fresh addresses or lose what nobody owns -/
theorem SlotOk.mono {s : Slot} {o : Option V} (h : SlotOk K ca c A H s o) (k : ∀ b u, b ∉ A → H b = some u → H' b = some u) (s1 : ∀ b u, b ∉ A → H b = some u → b ∉ A')
    (ko : ∀ a, ownA (s, o) = some a → a ∈ A' ∧ H' a = H a) : SlotOk K ca c A' H' s o := by
  cases s with
  | un => trivial
  | sh d => obtain ⟨v, e, r⟩ := h; exact ⟨v, e, Rep.mono2 k s1 d v r⟩
  | ow d =>
    obtain ⟨a, u, rfl, h1, h2, h3, h4⟩ := h
    obtain ⟨q1, q2⟩ := ko a rfl
    exact ⟨a, u, rfl, q1, h2, q2.trans h3, h4.mono2 k s1⟩
  | br d =>
    obtain ⟨a, u, rfl, h1, h2, h3, h4⟩ := h
    obtain ⟨q1, q2⟩ := ko a rfl
    exact ⟨a, u, rfl, q1, h2, q2.trans h3, h4.mono2 k s1⟩
theorem Ok1.sublist (h : Ok1 K ca c A H l) (s : l'.Sublist l) : Ok1 K ca c A H l' :=
  ⟨fun p hp => h.slots p (s.subset hp), h.nodup.sublist (s.filterMap _), h.sub, h.bsub, h.old, h.live, h.frame⟩
theorem Ok1.perm (h : Ok1 K ca c A H l) (s : l.Perm l') : Ok1 K ca c A H l' :=
  ⟨fun p hp => h.slots p (s.mem_iff.mpr hp), (s.filterMap _).nodup_iff.mp h.nodup, h.sub, h.bsub, h.old, h.live, h.frame⟩
theorem OkT.ts_sublist (h : OkT K ca c ρ σ ts H) (s : ts'.Sublist ts) : OkT K ca c ρ σ ts' H := by
  obtain ⟨h1, h2, A, h3⟩ := h
  exact ⟨h1, h2, A, h3.sublist (s.append (List.Sublist.refl _))⟩
theorem OkT.ts_perm (h : OkT K ca c ρ σ ts H) (s : ts.Perm ts') : OkT K ca c ρ σ ts' H := by
  obtain ⟨h1, h2, A, h3⟩ := h
  exact ⟨h1, h2, A, h3.perm (s.append (List.Perm.refl _))⟩
theorem OkT.pop {p : Slot × Option V} (h : OkT K ca c ρ σ (p :: ts) H) : OkT K ca c ρ σ ts H := h.ts_sublist (List.sublist_cons_self _ _)
theorem OkT.nil (h : OkT K ca c ρ σ ts H) : OkT K ca c ρ σ [] H := h.ts_sublist (List.nil_sublist _)

/-- what a primitive makes: nothing new, or one new object -/
def Grow (K : PySem.W.Frag) (ca : Str → Addr) (A : List Addr) (H H' : Hp) (s : Slot) (v : V) : Prop :=
  (H' = H ∧ ∃ d, s = .sh d ∧ Rep K ca H A d v) ∨
  (∃ p u, H p = none ∧ H' = upd H p u ∧ v = .ref p ∧ ((∃ d, s = .ow d ∧ Cont K ca H A d u) ∨ (∃ ds vs, s = .sh (.tup ds) ∧ u = .tup vs ∧ Reps K ca H A ds vs) ∨
    (∃ ds vs o, s = .sh (.ft ds) ∧ u = .frz o (.tup vs) ∧ (o.cls = .type "tuple" ∧ o.dict = none) ∧ Reps K ca H A ds vs)))
theorem upd_keep {p : Addr} {u : HO} (n : H p = none) : ∀ b o, H b = some o → upd H p u b = some o := fun b o e => by
  rw [upd_ne (ne_of_none e n)]; exact e
theorem Ok1.grow {s : Slot} {v : V} (h : Ok1 K ca c A H l) (g : Grow K ca A H H' s v) : ∃ A', Ok1 K ca c A' H' ((s, some v) :: l) := by
  rcases g with ⟨rfl, d, rfl, r⟩ | ⟨p, u, n, rfl, rfl, g⟩
  · refine ⟨A, ⟨fun q hq => ?_, ?_, h.sub, h.bsub, h.old, h.live, h.frame⟩⟩
    · rcases List.mem_cons.mp hq with rfl | hq
      · exact ⟨v, rfl, r⟩
      · exact h.slots q hq
    · rw [List.filterMap_cons]; exact h.nodup
  · have pA : p ∉ A := fun z => h.live p z n
    have p0 : c.H0 p = none := by
      cases e : c.H0 p with
      | none => rfl
      | some o =>
        by_cases hb : p ∈ c.bs
        · exact absurd (h.sub p (h.bsub p hb)) pA
        · rw [h.frame p o e hb] at n; cases n
    have k : ∀ b o, b ∉ A → H b = some o → upd H p u b = some o := fun b o _ e => upd_keep n b o e
    have sm : ∀ b o, b ∉ A → H b = some o → b ∉ p :: A := fun b o hb e z => by
      rcases List.mem_cons.mp z with z | z
      · rw [z, n] at e; cases e
      · exact hb z
    have ko : ∀ q ∈ l, ∀ a, ownA (q.1, q.2) = some a → a ∈ p :: A ∧ upd H p u a = H a := fun q hq a e => by
      have ha := (h.slots q hq).own_mem e
      exact ⟨List.mem_cons_of_mem _ ha, upd_ne fun z : a = p => pA (z ▸ ha)⟩
    have nd : p ∉ l.filterMap ownA := fun z => by
      obtain ⟨q, hq, e⟩ := List.mem_filterMap.mp z
      exact pA ((h.slots q hq).own_mem e)
    have lv : ∀ a ∈ p :: A, upd H p u a ≠ none := fun a ha => by
      rcases List.mem_cons.mp ha with rfl | ha
      · rw [upd_same]; exact fun z => nomatch z
      · rw [upd_ne fun z : a = p => pA (z ▸ ha)]; exact h.live a ha
    have fr : ∀ b o, c.H0 b = some o → b ∉ c.bs → upd H p u b = some o := fun b o e hb => upd_keep n b o (h.frame b o e hb)
    rcases g with ⟨d, rfl, r⟩ | ⟨ds, vs, rfl, rfl, r⟩ | ⟨ds, vs, o, rfl, rfl, hx, r⟩
    · refine ⟨p :: A, ⟨fun q hq => ?_, ?_, fun a ha => List.mem_cons_of_mem _ (h.sub a ha), h.bsub, h.old, lv, fr⟩⟩
      · rcases List.mem_cons.mp hq with rfl | hq
        · exact ⟨p, u, rfl, List.mem_cons_self, p0, upd_same, r.mono2 k sm⟩
        · exact (h.slots q hq).mono k sm (ko q hq)
      · rw [List.filterMap_cons]
        exact List.nodup_cons.mpr ⟨nd, h.nodup⟩
    · refine ⟨A, ⟨fun q hq => ?_, ?_, h.sub, h.bsub, h.old, fun a ha => lv a (List.mem_cons_of_mem _ ha), fr⟩⟩
      · rcases List.mem_cons.mp hq with rfl | hq
        · exact ⟨.ref p, rfl, p, vs, rfl, pA, upd_same, Reps.mono2 k (fun b o hb _ => hb) ds vs r⟩
        · exact (h.slots q hq).mono k (fun b o hb _ => hb) fun a e => ⟨(h.slots q hq).own_mem e, (ko q hq a e).2⟩
      · rw [List.filterMap_cons]; exact h.nodup
    · refine ⟨A, ⟨fun q hq => ?_, ?_, h.sub, h.bsub, h.old, fun a ha => lv a (List.mem_cons_of_mem _ ha), fr⟩⟩
      · rcases List.mem_cons.mp hq with rfl | hq
        · exact ⟨.ref p, rfl, p, vs, o, rfl, pA, upd_same, hx, Reps.mono2 k (fun b o hb _ => hb) ds vs r⟩
        · exact (h.slots q hq).mono k (fun b o hb _ => hb) fun a e => ⟨(h.slots q hq).own_mem e, (ko q hq a e).2⟩
      · rw [List.filterMap_cons]; exact h.nodup
theorem OkT.grow {s : Slot} {v : V} (h : OkT K ca c ρ σ ts H) (g : ∀ A, Ok1 K ca c A H (ts ++ ρ.zip σ) → Grow K ca A H H' s v) : OkT K ca c ρ σ ((s, some v) :: ts) H' := by
  obtain ⟨h1, h2, A, h3⟩ := h
  exact ⟨h1, h2, h3.grow (g A h3)⟩
/-- an own temporary is handed on: it is frozen from now on -/
def Slot.frz : Slot → Slot
  | .ow d => .sh d
  | s => s
theorem Cont.rep {d : D} {u : HO} {a : Addr} (h : Cont K ca H A d u) (ha : H a = some u) (s : ∀ b o, b ∉ A → H b = some o → b ∉ A') (n : a ∉ A') : Rep K ca H A' d (.ref a) := by
  cases d with
  | lst ds => obtain ⟨vs, rfl, q⟩ := h; exact ⟨a, vs, rfl, n, ha, Reps.mono2 (fun _ _ _ z => z) s ds vs q⟩
  | dic ks ds => obtain ⟨vs, x, q⟩ := h; exact ⟨a, u, vs, rfl, n, ha, x, Reps.mono2 (fun _ _ _ z => z) s ds vs q⟩
  | dit ks ds => obtain ⟨vs, x, q⟩ := h; exact ⟨a, u, vs, rfl, n, ha, x, Reps.mono2 (fun _ _ _ z => z) s ds vs q⟩
  | obj cc ns ds => obtain ⟨dx, vs, rfl, x, q⟩ := h; exact ⟨a, dx, vs, rfl, n, ha, x, Reps.mono2 (fun _ _ _ z => z) s ds vs q⟩
  | _ => exact h.elim
theorem Ok1.frz {s : Slot} {o : Option V} (h : Ok1 K ca c A H ((s, o) :: l)) : ∃ A', Ok1 K ca c A' H ((s.frz, o) :: l) := by
  cases s with
  | un => exact ⟨A, h⟩
  | sh d => exact ⟨A, h⟩
  | br d => exact ⟨A, h⟩
  | ow d =>
    obtain ⟨a, u, rfl, h1, h2, h3, h4⟩ := h.slots _ List.mem_cons_self
    have nd := h.nodup
    rw [List.filterMap_cons] at nd
    have nd' : (a :: l.filterMap ownA).Nodup := nd
    obtain ⟨na, nl⟩ := List.nodup_cons.mp nd'
    have sm : ∀ b o, b ∉ A → H b = some o → b ∉ A.filter (· ≠ a) := fun b _ hb _ z => hb (List.mem_filter.mp z).1
    refine ⟨A.filter (· ≠ a), ⟨fun q hq => ?_, ?_, fun b hb => List.mem_filter.mpr ⟨h.sub b hb, ?_⟩, h.bsub, h.old, fun b hb => h.live b (List.mem_filter.mp hb).1, h.frame⟩⟩
    · rcases List.mem_cons.mp hq with rfl | hq
      · exact ⟨.ref a, rfl, h4.rep h3 sm fun z => by simpa using (List.mem_filter.mp z).2⟩
      · refine (h.slots q (List.mem_cons_of_mem _ hq)).mono (fun _ _ _ z => z) sm fun b e => ⟨List.mem_filter.mpr ⟨(h.slots q (List.mem_cons_of_mem _ hq)).own_mem e, ?_⟩, rfl⟩
        have : b ≠ a := fun z => na (z ▸ List.mem_filterMap.mpr ⟨q, hq, e⟩)
        simpa using this
    · rw [List.filterMap_cons]; exact nl
    · have : b ≠ a := fun z => h.old b hb (z ▸ h2)
      simpa using this
theorem OkT.frz {s : Slot} {o : Option V} (h : OkT K ca c ρ σ ((s, o) :: ts) H) : OkT K ca c ρ σ ((s.frz, o) :: ts) H := by
  obtain ⟨h1, h2, A, h3⟩ := h
  exact ⟨h1, h2, h3.frz⟩
end
end VL
set_option Elab.async false
set_option linter.all false
set_option maxRecDepth 100000
/-! VL2: the value-level runs (Res, M), what it means that a reading keeps to one (Snd ..), the frame's slots, operands. -/
namespace VL
open PySem PySem.Spec PyProof.Rows L2
abbrev St' := L2.St

/-! ### runs -/
inductive Exn | own (c : Str) (ns : List Str) (ds : List D) | blt (T : String)
inductive Res (α : Type) | ok (a : α) (ρ : Env) | exc (x : Exn) (ρ : Env) | bad
abbrev M (α : Type) := Env → Res α
@[reducible] def ret {α : Type} (a : α) : M α := fun ρ => .ok a ρ
def bnd {α β : Type} (m : M α) (f : α → M β) : M β := fun ρ => match m ρ with
  | .ok a ρ' => f a ρ'
  | .exc x ρ' => .exc x ρ'
  | .bad => .bad
def lift {α : Type} (o : Option α) : M α := fun ρ => match o with
  | some a => .ok a ρ
  | none => .bad
inductive Fl | next | brk | cont | ret (s : Slot)
inductive Opnd | var (i : Nat) | tmp (s : Slot)
def look (ρ : Env) : Opnd → Option D
  | .var i => (ρ[i]?).bind Slot.d?
  | .tmp s => s.d?
def looks (ρ : Env) : List Opnd → Option (List D)
  | [] => some []
  | o :: os => match look ρ o with
    | some d => match looks ρ os with
      | some ds => some (d :: ds)
      | none => none
    | none => none
def OpM (σ : St') : Opnd → V → Prop
  | .var i, v => σ[i]? = some (some v)
  | .tmp _, _ => True
def OpMs (σ : St') : List Opnd → List V → Prop
  | [], vs => vs = []
  | o :: os, vs => ∃ v r, vs = v :: r ∧ OpM σ o v ∧ OpMs σ os r
def otmp : Opnd → V → Ls
  | .var _, _ => []
  | .tmp s, v => [(s, some v)]
def tmps : List Opnd → List V → Ls
  | o :: os, v :: vs => otmp o v ++ tmps os vs
  | _, _ => []

section
variable (K : PySem.W.Frag) (ca : Str → Addr)
def ExcOk (H : Hp) : Exn → Value → Option Addr → Prop
  | .own c ns ds, cl, oa => cl = .ref (ca c) ∧ ∃ d vs, oa = some d ∧ H d = some (.xd (ns.zip vs)) ∧ ns.length = ds.length ∧ Reps K ca H [] ds vs
  | .blt T, cl, _ => cl = .type T
def PostX (c : Ctx) (W : WX) (σ : St') (x : Exn) (ρ : Env) : Prop := ∀ cl oa H', OkT K ca c ρ σ [] H' → ExcOk K ca H' x cl oa → W cl oa σ H'
def PostE (c : Ctx) (W : WX) (σ : St') (ts : Ls) (Q : VK) : Res Slot → Prop
  | .ok s ρ' => ∀ v H', OkT K ca c ρ' σ ((s, some v) :: ts) H' → Q v H'
  | .exc x ρ' => PostX K ca c W σ x ρ'
  | .bad => False
def PostO (c : Ctx) (W : WX) (σ : St') (ts : Ls) (Q : VK) : Res Opnd → Prop
  | .ok o ρ' => ∀ v H', OpM σ o v → OkT K ca c ρ' σ (otmp o v ++ ts) H' → Q v H'
  | .exc x ρ' => PostX K ca c W σ x ρ'
  | .bad => False
def PostA (c : Ctx) (W : WX) (σ : St') (ts : Ls) (Q : List V → Hp → Prop) : Res (List Opnd) → Prop
  | .ok os ρ' => ∀ vs H', OpMs σ os vs → OkT K ca c ρ' σ (tmps os vs ++ ts) H' → Q vs H'
  | .exc x ρ' => PostX K ca c W σ x ρ'
  | .bad => False
def PostT (c : Ctx) (W : WX) (σ : St') (ts : Ls) (Q : Bool → Hp → Prop) : Res Bool → Prop
  | .ok b ρ' => ∀ H', OkT K ca c ρ' σ ts H' → Q b H'
  | .exc x ρ' => PostX K ca c W σ x ρ'
  | .bad => False
/-- but for the slots gs the same values -/
def Agr (gs : List Nat) (σ σ' : St') : Prop := σ'.length = σ.length ∧ ∀ j, j ∉ gs → σ'[j]? = σ[j]?
def PostG (c : Ctx) (gs : List Nat) (σ : St') (ts : Ls) (Q : St' → Hp → Prop) : Res Unit → Prop
  | .ok _ ρ' => ∀ σ' H', OkT K ca c ρ' σ' ts H' → Agr gs σ σ' → Q σ' H'
  | _ => False
def PostS (c : Ctx) (W : WX) (ts : Ls) (N : Ends) : Res Fl → Prop
  | .ok .next ρ' => ∀ σ' H', OkT K ca c ρ' σ' ts H' → N.nx σ' H'
  | .ok .brk ρ' => ∀ σ' H', OkT K ca c ρ' σ' ts H' → N.bk σ' H'
  | .ok .cont ρ' => ∀ σ' H', OkT K ca c ρ' σ' ts H' → N.ct σ' H'
  | .ok (.ret s) ρ' => ∀ v σ' H', OkT K ca c ρ' σ' ((s, some v) :: ts) H' → N.rt v H'
  | .exc x ρ' => ∀ σ', PostX K ca c W σ' x ρ'
  | .bad => False
/-- what a walked thing yields: the items ds; p: the temporary that keeps it -/
def Src (J : It) (p : Slot × Option V) (ds : List D) : Prop := ∀ (c : Ctx) (A : List Addr) (H : Hp) (l : Ls), Ok1 K ca c A H (p :: l) →
  (∀ i, i < ds.length → J.go i H ∧ ∀ x H', J.yld i H x H' → ∃ d, ds[i]? = some d ∧ Grow K ca A H H' (.sh d) x) ∧ J.stop ds.length H
def PostI (c : Ctx) (W : WX) (σ : St') (ts : Ls) (R : It → Hp → Prop) : Res (List D) → Prop
  | .ok ds ρ' => ∀ J p H', Src K ca J p ds → OkT K ca c ρ' σ (p :: ts) H' → R J H'
  | .exc x ρ' => PostX K ca c W σ x ρ'
  | .bad => False
variable (W : WX)
structure Snd (t : TE) (m : M Slot) : Prop where
  run : ∀ (c : Ctx) (ρ : Env) (σ : St') (ts : Ls) (H : Hp) (Q : VK), OkT K ca c ρ σ ts H → PostE K ca c W σ ts Q (m ρ) → t σ H Q
structure SndO (t : TE) (m : M Opnd) : Prop where
  run : ∀ (c : Ctx) (ρ : Env) (σ : St') (ts : Ls) (H : Hp) (Q : VK), OkT K ca c ρ σ ts H → PostO K ca c W σ ts Q (m ρ) → t σ H Q
structure SndA (t : TA) (m : M (List Opnd)) : Prop where
  run : ∀ (c : Ctx) (ρ : Env) (σ : St') (ts : Ls) (H : Hp) (Q : List V → Hp → Prop), OkT K ca c ρ σ ts H → PostA K ca c W σ ts Q (m ρ) → t σ H Q
structure SndT (t : TT) (m : M Bool) : Prop where
  run : ∀ (c : Ctx) (ρ : Env) (σ : St') (ts : Ls) (H : Hp) (Q : Bool → Hp → Prop), OkT K ca c ρ σ ts H → PostT K ca c W σ ts Q (m ρ) → t σ H Q
structure SndG (gs : List Nat) (t : TG) (f : Slot → M Unit) : Prop where
  run : ∀ (c : Ctx) (ρ : Env) (σ : St') (ts : Ls) (H : Hp) (s : Slot) (v : V) (Q : St' → Hp → Prop), OkT K ca c ρ σ ((s, some v) :: ts) H → PostG K ca c gs σ ts Q (f s ρ) → t v σ H Q
structure SndGs (gs : List Nat) (t : TGs) (f : List D → M Unit) : Prop where
  run : ∀ (c : Ctx) (ρ : Env) (σ : St') (ts : Ls) (H : Hp) (ds : List D) (vs : List V) (Q : St' → Hp → Prop), vs.length = ds.length → OkT K ca c ρ σ ((ds.map Slot.sh).zip (vs.map some) ++ ts) H → PostG K ca c gs σ ts Q (f ds ρ) → t vs σ H Q
structure SndI (t : TI) (m : M (List D)) : Prop where
  run : ∀ (c : Ctx) (ρ : Env) (σ : St') (ts : Ls) (H : Hp) (R : It → Hp → Prop), OkT K ca c ρ σ ts H → PostI K ca c W σ ts R (m ρ) → t σ H R
structure SndS (t : TS) (m : M Fl) : Prop where
  run : ∀ (c : Ctx) (ρ : Env) (σ : St') (ts : Ls) (H : Hp) (N : Ends), OkT K ca c ρ σ ts H → PostS K ca c W ts N (m ρ) → t N σ H
end

/-! ### the slot i in the middle -/
theorem zip_set {α β : Type} : ∀ (xs : List α) (ys : List β) (i : Nat) (x : α) (y : β), (xs.set i x).zip (ys.set i y) = (xs.zip ys).set i (x, y)
  | [], _, _, _, _ => by simp
  | x :: xs, [], i, _, _ => by cases i <;> simp
  | x :: xs, y :: ys, 0, _, _ => rfl
  | x :: xs, y :: ys, i + 1, a, b => by
    show (x, y) :: (xs.set i a).zip (ys.set i b) = (x, y) :: (xs.zip ys).set i (a, b)
    rw [zip_set]
theorem zip_setL {α β : Type} : ∀ (xs : List α) (ys : List β) (i : Nat) (x : α) (y : β), ys[i]? = some y → (xs.set i x).zip ys = (xs.zip ys).set i (x, y)
  | [], _, _, _, _, _ => by simp
  | x :: xs, [], i, _, _, h => by simp at h
  | x :: xs, y :: ys, 0, _, _, h => by
    cases (show some y = some _ from h)
    rfl
  | x :: xs, y :: ys, i + 1, a, b, h => by
    show (x, y) :: (xs.set i a).zip ys = (x, y) :: (xs.zip ys).set i (a, b)
    rw [zip_setL xs ys i a b (by simpa using h)]
theorem zip_get {α β : Type} {xs : List α} {ys : List β} {i : Nat} {x : α} {y : β} (h1 : xs[i]? = some x) (h2 : ys[i]? = some y) : (xs.zip ys)[i]? = some (x, y) := by
  rw [List.getElem?_zip_eq_some]
  exact ⟨h1, h2⟩
theorem perm_of_get {α : Type} : ∀ {l : List α} {i : Nat} {x : α}, l[i]? = some x → l.Perm (x :: l.eraseIdx i)
  | [], _, _, h => by simp at h
  | y :: l, 0, x, h => by
    cases (show some y = some x from h)
    exact List.Perm.refl _
  | y :: l, i + 1, x, h => by
    exact ((perm_of_get (l := l) (i := i) (by simpa using h)).cons y).trans (List.Perm.swap _ _ _)
theorem perm_of_set {α : Type} : ∀ {l : List α} {i : Nat} {x : α}, i < l.length → (l.set i x).Perm (x :: l.eraseIdx i)
  | [], _, _, h => by simp at h
  | y :: l, 0, x, h => List.Perm.refl _
  | y :: l, i + 1, x, h => ((perm_of_set (l := l) (i := i) (by simpa using h)).cons y).trans (List.Perm.swap _ _ _)
section
variable {K : PySem.W.Frag} {ca : Str → Addr} {c : Ctx} {A : List Addr} {H H' : Hp} {l : Ls} {ρ : Env} {σ : St'} {ts : Ls} {i : Nat} {s s' : Slot} {o : Option V}
/-- all but slot i -/
def rst (ρ : Env) (σ : St') (ts : Ls) (i : Nat) : Ls := ts ++ (ρ.zip σ).eraseIdx i
theorem st_get (e : ρ.length = σ.length) (h : ρ[i]? = some s) : ∃ o, σ[i]? = some o := by
  have hi : i < ρ.length := (List.getElem?_eq_some_iff.mp h).1
  exact ⟨σ[i], List.getElem?_eq_getElem (by omega)⟩
theorem focus (h1 : ρ[i]? = some s) (h2 : σ[i]? = some o) : (ts ++ ρ.zip σ).Perm ((s, o) :: rst ρ σ ts i) :=
  ((perm_of_get (zip_get h1 h2)).append_left ts).trans List.perm_middle
theorem unfocus (h1 : ρ[i]? = some s) (h2 : σ[i]? = some o) : (ts ++ (ρ.set i s').zip σ).Perm ((s', o) :: rst ρ σ ts i) := by
  rw [zip_setL ρ σ i s' o h2]
  have hl : i < (ρ.zip σ).length := (List.getElem?_eq_some_iff.mp (zip_get h1 h2)).1
  exact ((perm_of_set hl).append_left ts).trans List.perm_middle
theorem unfocus2 {v : Option V} (h1 : ρ[i]? = some s) (h2 : σ[i]? = some o) : (ts ++ (ρ.set i s').zip (σ.set i v)).Perm ((s', v) :: rst ρ σ ts i) := by
  rw [zip_set]
  have hl : i < (ρ.zip σ).length := (List.getElem?_eq_some_iff.mp (zip_get h1 h2)).1
  exact ((perm_of_set hl).append_left ts).trans List.perm_middle
theorem OkT.at (h : OkT K ca c ρ σ ts H) (e : ρ[i]? = some s) : ∃ o A, σ[i]? = some o ∧ Ok1 K ca c A H ((s, o) :: rst ρ σ ts i) := by
  obtain ⟨h1, h2, A, h3⟩ := h
  obtain ⟨o, eo⟩ := st_get h1 e
  exact ⟨o, A, eo, h3.perm (focus e eo)⟩
def isBr : Slot → Bool
  | .br _ => true
  | _ => false
theorem OkT.back (h : OkT K ca c ρ σ ts H) (e : ρ[i]? = some s) (eo : σ[i]? = some o) (x : ∃ A, Ok1 K ca c A H' ((s', o) :: rst ρ σ ts i)) (hb : isBr s = true → isBr s' = true) : OkT K ca c (ρ.set i s') σ ts H' := by
  obtain ⟨h1, h2, _⟩ := h
  obtain ⟨A, x⟩ := x
  refine ⟨by simpa using h1, fun p hp => ?_, A, x.perm (unfocus e eo).symm⟩
  obtain ⟨q1, d, q2⟩ := h2 p hp
  refine ⟨q1, ?_⟩
  by_cases hi : p.1 = i
  · subst hi
    rw [e] at q2; cases q2
    have hl : p.1 < ρ.length := (List.getElem?_eq_some_iff.mp e).1
    rw [List.getElem?_set_self hl]
    cases s' with
    | br d' => exact ⟨d', rfl⟩
    | un => exact absurd (hb rfl) Bool.false_ne_true
    | sh d' => exact absurd (hb rfl) Bool.false_ne_true
    | ow d' => exact absurd (hb rfl) Bool.false_ne_true
  · exact ⟨d, by rw [List.getElem?_set_ne (Ne.symm hi)]; exact q2⟩
/-- slot i gets a temporary -/
theorem OkT.store {v : V} (h : OkT K ca c ρ σ ((s', some v) :: ts) H) (e : ρ[i]? = some s) (hb : isBr s = false) (hb' : isBr s' = false) : OkT K ca c (ρ.set i s') (σ.set i (some v)) ts H := by
  obtain ⟨h1, h2, A, h3⟩ := h
  obtain ⟨o, eo⟩ := st_get h1 e
  refine ⟨by simpa using h1, fun p hp => ?_, A, ?_⟩
  · obtain ⟨q1, d, q2⟩ := h2 p hp
    have hi : p.1 ≠ i := fun z => by
      rw [z, e] at q2
      cases q2
      cases hb
    exact ⟨by rw [List.getElem?_set_ne (Ne.symm hi)]; exact q1, d, by rw [List.getElem?_set_ne (Ne.symm hi)]; exact q2⟩
  · have h4 : Ok1 K ca c A H ((s', some v) :: (s, o) :: rst ρ σ ts i) := h3.perm ((focus e eo).cons _)
    exact (h4.sublist ((List.sublist_cons_self _ _).cons₂ _)).perm (unfocus2 e eo).symm
theorem SlotOk.d (h : SlotOk K ca c A H s (some v)) : ∀ {d : D}, s.d? = some d → Peek K ca H A d v := fun {d} e => by
  cases s with
  | un => cases e
  | sh d' => cases e; obtain ⟨w, e1, r⟩ := h; cases e1; exact .inl r
  | ow d' => cases e; obtain ⟨a, u, e1, _, _, h1, h2⟩ := h; cases e1; exact .inr ⟨a, u, rfl, h1, h2⟩
  | br d' => cases e; obtain ⟨a, u, e1, _, _, h1, h2⟩ := h; cases e1; exact .inr ⟨a, u, rfl, h1, h2⟩
theorem SlotOk.some (h : SlotOk K ca c A H s o) {d : D} (e : s.d? = some d) : ∃ v, o = some v := by
  cases s with
  | un => cases e
  | sh d' => obtain ⟨w, e1, r⟩ := h; exact ⟨w, e1⟩
  | ow d' => obtain ⟨a, u, e1, _⟩ := h; exact ⟨_, e1⟩
  | br d' => obtain ⟨a, u, e1, _⟩ := h; exact ⟨_, e1⟩
/-- slot i is filled: σ holds a value there -/
theorem OkT.val (h : OkT K ca c ρ σ ts H) {d : D} (e : (ρ[i]?).bind Slot.d? = some d) : ∃ v, σ[i]? = some (some v) := by
  cases e1 : ρ[i]? with
  | none => rw [e1] at e; cases e
  | some s =>
    rw [e1] at e
    obtain ⟨o, A, eo, x⟩ := h.at e1
    obtain ⟨v, rfl⟩ := (x.slots _ List.mem_cons_self).some (show s.d? = some d from e)
    exact ⟨v, eo⟩
theorem OkT.peekVar {A : List Addr} (x : Ok1 K ca c A H (ts ++ ρ.zip σ)) {d : D} {v : V} (e : (ρ[i]?).bind Slot.d? = some d) (ev : σ[i]? = some (some v)) : Peek K ca H A d v := by
  cases e1 : ρ[i]? with
  | none => rw [e1] at e; cases e
  | some s =>
    rw [e1] at e
    have hm : (s, some v) ∈ ts ++ ρ.zip σ := List.mem_append_right _ (List.mem_of_getElem? (zip_get e1 ev))
    exact (x.slots _ hm).d (show s.d? = some d from e)
theorem peeks_of {A : List Addr} : ∀ {os : List Opnd} {vs : List V} {ds : List D} {l : Ls}, Ok1 K ca c A H l → (∀ p ∈ tmps os vs, p ∈ l) → (∀ p ∈ ρ.zip σ, p ∈ l) → OpMs σ os vs → looks ρ os = some ds → Peeks K ca H A ds vs
  | [], _, _, _, _, _, _, h, e => by
    cases (show some [] = _ from e)
    cases (show _ = _ from h)
    rfl
  | o :: os, _, _, l, x, ht, hz, h, e => by
    obtain ⟨v, r, rfl, h1, h2⟩ := h
    unfold looks at e
    cases e1 : look ρ o with
    | none => rw [e1] at e; cases e
    | some d =>
      cases e2 : looks ρ os with
      | none => rw [e1, e2] at e; cases e
      | some ds =>
        rw [e1, e2] at e
        cases e
        refine ⟨v, r, rfl, ?_, peeks_of x (fun p hp => ht p (List.mem_append_right _ hp)) hz h2 e2⟩
        cases o with
        | var i =>
          have e1' : (ρ[i]?).bind Slot.d? = some d := e1
          cases e3 : ρ[i]? with
          | none => rw [e3] at e1'; cases e1'
          | some s =>
            rw [e3] at e1'
            exact (x.slots _ (hz _ (List.mem_of_getElem? (zip_get e3 h1)))).d (show s.d? = some d from e1')
        | tmp s => exact (x.slots _ (ht (s, some v) (List.mem_append_left _ List.mem_cons_self))).d (show s.d? = some d from e1)
end

/-! ### primitives -/
def mPrim (f : List D → Option Slot) (os : List Opnd) : M Slot := fun ρ => match looks ρ os with
  | some ds => match f ds with
    | some s => .ok s ρ
    | none => .bad
  | none => .bad
def PrimR (K : PySem.W.Frag) (ca : Str → Addr) (r : List V → Hp → VK → Prop) (f : List D → Option Slot) : Prop :=
  ∀ (A : List Addr) (H : Hp) (vs : List V) (ds : List D) (s : Slot) (Q : VK), Peeks K ca H A ds vs → f ds = some s → (∀ v H', Grow K ca A H H' s v → Q v H') → r vs H Q
section
variable {K : PySem.W.Frag} {ca : Str → Addr} {c : Ctx} {H H' : Hp} {l : Ls} {ρ : Env} {σ : St'} {ts : Ls} {W : WX}
theorem prim_go {r : List V → Hp → VK → Prop} {f : List D → Option Slot} (hp : PrimR K ca r f) {os : List Opnd} {vs : List V} {Q : VK} (ok : OkT K ca c ρ σ (tmps os vs ++ ts) H) (om : OpMs σ os vs) (h : PostE K ca c W σ ts Q (mPrim f os ρ)) : r vs H Q := by
  unfold mPrim at h
  cases e1 : looks ρ os with
  | none => rw [e1] at h; exact h.elim
  | some ds =>
    rw [e1] at h
    dsimp only at h
    cases e2 : f ds with
    | none => rw [e2] at h; exact h.elim
    | some s =>
      rw [e2] at h
      obtain ⟨h1, h2, A, x⟩ := ok
      refine hp A H vs ds s Q (peeks_of x (fun p q => List.mem_append_left _ (List.mem_append_left _ q)) (fun p q => List.mem_append_right _ q) om e1) e2 fun v H' g => h v H' ?_
      have x' : Ok1 K ca c A H (ts ++ ρ.zip σ) := by
        rw [List.append_assoc] at x
        exact x.sublist (List.sublist_append_right _ _)
      exact ⟨h1, h2, x'.grow g⟩
theorem snd_call {r : List V → Hp → VK → Prop} {f : List D → Option Slot} (hp : PrimR K ca r f) {t : TA} {m : M (List Opnd)} (ha : SndA K ca W t m) : Snd K ca W (tCB r t) (bnd m (mPrim f)) := by
  refine ⟨fun c ρ σ ts H Q ok h => ?_⟩
  refine ha.run c ρ σ ts H _ ok ?_
  unfold bnd at h
  cases e : m ρ with
  | ok os ρ' => rw [e] at h; exact fun vs H' om ok' => prim_go hp ok' om h
  | exc x ρ' => rw [e] at h; exact h
  | bad => rw [e] at h; exact h.elim
theorem snd_op {r : R2} {f : List D → Option Slot} (hp : PrimR K ca (fun vs H Q => ∃ x y, vs = [x, y] ∧ r x y H Q) f) {ta tb : TE} {ma mb : M Opnd} (ha : SndO K ca W ta ma) (hb : SndO K ca W tb mb) :
    Snd K ca W (tOp r ta tb) (bnd ma fun a => bnd mb fun b => mPrim f [a, b]) := by
  refine ⟨fun c ρ σ ts H Q ok h => ?_⟩
  refine ha.run c ρ σ ts H _ ok ?_
  unfold bnd at h
  cases e : ma ρ with
  | exc x ρ' => rw [e] at h; exact h
  | bad => rw [e] at h; exact h.elim
  | ok a ρ1 =>
    rw [e] at h
    intro x H1 om1 ok1
    refine hb.run c ρ1 σ _ H1 _ ok1 ?_
    dsimp only at h
    cases e2 : mb ρ1 with
    | exc x ρ' => rw [e2] at h; exact h
    | bad => rw [e2] at h; exact h.elim
    | ok b ρ2 =>
      rw [e2] at h
      intro y H2 om2 ok2
      have ok3 : OkT K ca c ρ2 σ (tmps [a, b] [x, y] ++ ts) H2 := by
        refine ok2.ts_perm ?_
        show (otmp b y ++ (otmp a x ++ ts)).Perm ((otmp a x ++ (otmp b y ++ [])) ++ ts)
        rw [List.append_nil, ← List.append_assoc]
        exact List.perm_append_comm.append_right ts
      obtain ⟨x', y', e3, q⟩ := prim_go hp ok3 ⟨x, [y], rfl, om1, y, [], rfl, om2, rfl⟩ h
      cases e3
      exact q
theorem snd_un {r : V → Hp → VK → Prop} {f : List D → Option Slot} (hp : PrimR K ca (fun vs H Q => ∃ x, vs = [x] ∧ r x H Q) f) {ta : TE} {ma : M Opnd} (ha : SndO K ca W ta ma) :
    Snd K ca W (tUn r ta) (bnd ma fun a => mPrim f [a]) := by
  refine ⟨fun c ρ σ ts H Q ok h => ?_⟩
  refine ha.run c ρ σ ts H _ ok ?_
  unfold bnd at h
  cases e : ma ρ with
  | exc x ρ' => rw [e] at h; exact h
  | bad => rw [e] at h; exact h.elim
  | ok a ρ1 =>
    rw [e] at h
    intro x H1 om1 ok1
    have ok3 : OkT K ca c ρ1 σ (tmps [a] [x] ++ ts) H1 := by
      show OkT K ca c ρ1 σ ((otmp a x ++ []) ++ ts) H1
      rw [List.append_nil]
      exact ok1
    obtain ⟨x', e3, q⟩ := prim_go hp ok3 ⟨x, [], rfl, om1, rfl⟩ h
    cases e3
    exact q

/-! ### operands, arguments -/
theorem sndO_var {i : Nat} : SndO K ca W (tVar i) (fun ρ => match (ρ[i]?).bind Slot.d? with | some _ => .ok (.var i) ρ | none => .bad) := by
  refine ⟨fun c ρ σ ts H Q ok h => ?_⟩
  cases e : (ρ[i]?).bind Slot.d? with
  | none => rw [e] at h; exact h.elim
  | some d =>
    rw [e] at h
    obtain ⟨v, ev⟩ := ok.val e
    exact ⟨v, ev, h v H ev ok⟩
theorem sndO_exp {t : TE} {m : M Slot} (he : Snd K ca W t m) : SndO K ca W t (bnd m fun s => ret (.tmp s)) := by
  refine ⟨fun c ρ σ ts H Q ok h => ?_⟩
  refine he.run c ρ σ ts H Q ok ?_
  unfold bnd at h
  cases e : m ρ with
  | exc x ρ' => rw [e] at h; exact h
  | bad => rw [e] at h; exact h.elim
  | ok s ρ1 => rw [e] at h; exact fun v H' ok' => h v H' trivial ok'
theorem sndA_nil : SndA K ca W tNil (ret []) := ⟨fun c ρ σ ts H Q ok h => h [] H rfl ok⟩
theorem sndA_cons {te : TE} {ta : TA} {m : M Opnd} {ms : M (List Opnd)} (he : SndO K ca W te m) (ha : SndA K ca W ta ms) : SndA K ca W (tCons te ta) (bnd m fun o => bnd ms fun os => ret (o :: os)) := by
  refine ⟨fun c ρ σ ts H Q ok h => ?_⟩
  refine he.run c ρ σ ts H _ ok ?_
  unfold bnd at h
  cases e : m ρ with
  | exc x ρ' => rw [e] at h; exact h
  | bad => rw [e] at h; exact h.elim
  | ok o ρ1 =>
    rw [e] at h
    intro x H1 om1 ok1
    refine ha.run c ρ1 σ _ H1 _ ok1 ?_
    dsimp only at h
    cases e2 : ms ρ1 with
    | exc x ρ' => rw [e2] at h; exact h
    | bad => rw [e2] at h; exact h.elim
    | ok os ρ2 =>
      rw [e2] at h
      intro xs H2 om2 ok2
      refine h (x :: xs) H2 ⟨x, xs, rfl, om1, om2⟩ (ok2.ts_perm ?_)
      show (tmps os xs ++ (otmp o x ++ ts)).Perm ((otmp o x ++ tmps os xs) ++ ts)
      rw [← List.append_assoc]
      exact List.perm_append_comm.append_right ts

/-! ### taking: what is handed on is frozen -/
def take : Opnd → M D
  | .tmp s => fun ρ => match s with
    | .sh d => .ok d ρ
    | .ow d => .ok d ρ
    | _ => .bad
  | .var i => fun ρ => match ρ[i]? with
    | some (.sh d) => .ok d ρ
    | some (.ow d) => .ok d (ρ.set i (.sh d))
    | _ => .bad
def takes : List Opnd → M (List D)
  | [] => ret []
  | o :: os => bnd (take o) fun d => bnd (takes os) fun ds => ret (d :: ds)
def shs (ds : List D) (vs : List V) : Ls := (ds.map Slot.sh).zip (vs.map some)
theorem frz_sh {s : Slot} {d : D} (e : s.d? = some d) (hb : isBr s = false) : s.frz = .sh d := by
  cases s with
  | un => cases e
  | sh d' => cases e; rfl
  | ow d' => cases e; rfl
  | br d' => cases hb
theorem rep_dup {A : List Addr} {d : D} {v : V} (x : Ok1 K ca c A H l) (r : Rep K ca H A d v) : Ok1 K ca c A H ((.sh d, some v) :: l) := by
  refine ⟨fun q hq => ?_, ?_, x.sub, x.bsub, x.old, x.live, x.frame⟩
  · rcases List.mem_cons.mp hq with rfl | hq
    · exact ⟨v, rfl, r⟩
    · exact x.slots q hq
  · rw [List.filterMap_cons]; exact x.nodup
theorem br_frz {s : Slot} {v : V} {A : List Addr} {d : D} (x : Ok1 K ca c A H ((s, some v) :: l)) (e : s.d? = some d) (nb : isBr s = false) : ∃ A', Ok1 K ca c A' H ((.sh d, some v) :: l) := by
  obtain ⟨A', y⟩ := x.frz
  rw [frz_sh e nb] at y
  exact ⟨A', y⟩
theorem take_ok {o : Opnd} {v : V} {d : D} {ρ' : Env} (ok : OkT K ca c ρ σ (otmp o v ++ ts) H) (om : OpM σ o v) (h : take o ρ = .ok d ρ') : OkT K ca c ρ' σ ((.sh d, some v) :: ts) H := by
  cases o with
  | tmp s =>
    have y : OkT K ca c ρ σ ((s, some v) :: ts) H := ok
    cases s with
    | un => cases h
    | br d1 => cases h
    | sh d1 => cases h; exact y
    | ow d1 => cases h; exact y.frz
  | var i =>
    have ok : OkT K ca c ρ σ ts H := ok
    have om : σ[i]? = some (some v) := om
    have h' : (match ρ[i]? with | some (.sh d) => Res.ok d ρ | some (.ow d) => Res.ok d (ρ.set i (.sh d)) | _ => Res.bad) = .ok d ρ' := h
    cases e : ρ[i]? with
    | none => rw [e] at h'; cases h'
    | some s =>
      rw [e] at h'
      cases s with
      | un => cases h'
      | br d1 => cases h'
      | sh d1 =>
        cases h'
        obtain ⟨h1, h2, A, x⟩ := ok
        have hm : (Slot.sh d, some v) ∈ ts ++ ρ.zip σ := List.mem_append_right _ (List.mem_of_getElem? (zip_get e om))
        obtain ⟨w, ew, r⟩ := x.slots _ hm
        cases ew
        exact ⟨h1, h2, A, rep_dup x r⟩
      | ow d1 =>
        cases h'
        have ok' : OkT K ca c (ρ.set i (.sh d)) σ ts H := by
          obtain ⟨o', A, eo, x⟩ := ok.at e
          cases (eo.symm.trans om)
          exact ok.back e om (br_frz x rfl rfl) (fun z => by cases z)
        obtain ⟨h1, h2, A, x⟩ := ok'
        have hi : i < ρ.length := (List.getElem?_eq_some_iff.mp e).1
        have hm : (Slot.sh d, some v) ∈ ts ++ (ρ.set i (.sh d)).zip σ := List.mem_append_right _ (List.mem_of_getElem? (zip_get (List.getElem?_set_self hi) om))
        obtain ⟨w, ew, r⟩ := x.slots _ hm
        cases ew
        exact ⟨h1, h2, A, rep_dup x r⟩
end
end VL
set_option Elab.async false
set_option linter.all false
set_option maxRecDepth 100000
/-! VL3: displays, methods, tests, statements, loops, comprehensions at value level. -/
namespace VL
open PySem PySem.Spec PyProof.Rows L2
def lim : Nat := 1000000
theorem lim_lt : lim < sizeLine := by rw [sizeLine_eq]; decide
section
variable {K : PySem.W.Frag} {ca : Str → Addr} {c : Ctx} {A : List Addr} {H H' : Hp} {l : Ls} {ρ : Env} {σ : St'} {ts : Ls} {W : WX}

/-! ### taking several -/
theorem shs_cons (d : D) (ds : List D) (v : V) (vs : List V) : shs (d :: ds) (v :: vs) = (.sh d, some v) :: shs ds vs := rfl
theorem takes_ok : ∀ {os : List Opnd} {vs : List V} {ds : List D} {ρ ρ' : Env} {ts : Ls}, OkT K ca c ρ σ (tmps os vs ++ ts) H → OpMs σ os vs → takes os ρ = .ok ds ρ' → vs.length = ds.length ∧ OkT K ca c ρ' σ (shs ds vs ++ ts) H
  | [], _, _, _, _, _, ok, om, h => by
    cases (show _ = _ from om)
    cases h
    exact ⟨rfl, ok⟩
  | o :: os, _, ds, ρ, ρ', ts, ok, om, h => by
    obtain ⟨v, r, rfl, h1, h2⟩ := om
    unfold takes bnd at h
    cases e : take o ρ with
    | exc x ρ1 => rw [e] at h; cases h
    | bad => rw [e] at h; cases h
    | ok d ρ1 =>
      rw [e] at h
      dsimp only at h
      cases e2 : takes os ρ1 with
      | exc x ρ2 => rw [e2] at h; cases h
      | bad => rw [e2] at h; cases h
      | ok ds1 ρ2 =>
        rw [e2] at h
        cases h
        have ok1 : OkT K ca c ρ σ (otmp o v ++ (tmps os r ++ ts)) H := by
          rw [← List.append_assoc]; exact ok
        have ok2 := take_ok ok1 h1 e
        have ok3 : OkT K ca c ρ1 σ (tmps os r ++ ((.sh d, some v) :: ts)) H := ok2.ts_perm List.perm_middle.symm
        obtain ⟨hl, ok4⟩ := takes_ok ok3 h2 e2
        refine ⟨by simp [hl], ?_⟩
        rw [shs_cons]
        exact ok4.ts_perm List.perm_middle
theorem reps_shs {A : List Addr} : ∀ {ds : List D} {vs : List V} {l : Ls}, vs.length = ds.length → Ok1 K ca c A H l → (∀ p ∈ shs ds vs, p ∈ l) → Reps K ca H A ds vs
  | [], [], _, _, _, _ => rfl
  | [], _ :: _, _, e, _, _ => by cases e
  | _ :: _, [], _, e, _, _ => by cases e
  | d :: ds, v :: vs, l, e, x, h => by
    refine ⟨v, vs, rfl, ?_, reps_shs (by simpa using e) x fun p hp => h p (List.mem_cons_of_mem _ hp)⟩
    obtain ⟨w, e1, r⟩ := x.slots _ (h (.sh d, some v) List.mem_cons_self)
    cases e1
    exact r
theorem takes_noexc : ∀ {os : List Opnd} {ρ ρ' : Env} {x : Exn}, takes os ρ ≠ .exc x ρ'
  | [], _, _, _, z => by cases z
  | o :: os, ρ, ρ', x, z => by
    unfold takes bnd at z
    cases e3 : take o ρ with
    | bad => rw [e3] at z; cases z
    | exc y ρ3 =>
      cases o with
      | tmp s => cases s <;> cases e3
      | var i =>
        unfold take at e3
        dsimp only at e3
        split at e3 <;> cases e3
    | ok d ρ3 =>
      rw [e3] at z
      dsimp only at z
      cases e4 : takes os ρ3 with
      | bad => rw [e4] at z; cases z
      | ok ds ρ4 => rw [e4] at z; cases z
      | exc y ρ4 => exact takes_noexc e4
def chk (b : Bool) {α : Type} (m : M α) : M α := if b then m else fun _ => .bad
def mTake (m : M (List Opnd)) (k : List D → M Slot) : M Slot := bnd m fun os => bnd (takes os) k
theorem snd_takeσ {t : TA} {ms : M (List Opnd)} (ha : SndA K ca W t ms) {k : List D → M Slot} {r : St' → List V → Hp → VK → Prop}
    (hk : ∀ (c : Ctx) (ρ : Env) (σ : St') (ts : Ls) (H : Hp) (Q : VK) (ds : List D) (vs : List V), vs.length = ds.length → OkT K ca c ρ σ (shs ds vs ++ ts) H → PostE K ca c W σ ts Q (k ds ρ) → r σ vs H Q) :
    Snd K ca W (fun σ H Q => t σ H fun vs H1 => r σ vs H1 Q) (mTake ms k) := by
  refine ⟨fun c ρ σ ts H Q ok h => ?_⟩
  refine ha.run c ρ σ ts H _ ok ?_
  unfold mTake bnd at h
  cases e : ms ρ with
  | exc x ρ' => rw [e] at h; exact h
  | bad => rw [e] at h; exact h.elim
  | ok os ρ1 =>
    rw [e] at h
    dsimp only at h
    intro vs H1 om ok1
    cases e2 : takes os ρ1 with
    | bad => rw [e2] at h; exact h.elim
    | exc x ρ' => exact absurd e2 takes_noexc
    | ok ds ρ2 =>
      rw [e2] at h
      obtain ⟨hl, ok2⟩ := takes_ok ok1 om e2
      exact hk c ρ2 σ ts H1 Q ds vs hl ok2 h

theorem snd_take {t : TA} {ms : M (List Opnd)} (ha : SndA K ca W t ms) {k : List D → M Slot} {r : List V → Hp → VK → Prop}
    (hk : ∀ (c : Ctx) (ρ : Env) (σ : St') (ts : Ls) (H : Hp) (Q : VK) (ds : List D) (vs : List V), vs.length = ds.length → OkT K ca c ρ σ (shs ds vs ++ ts) H → PostE K ca c W σ ts Q (k ds ρ) → r vs H Q) :
    Snd K ca W (tCB r t) (mTake ms k) := snd_takeσ (r := fun _ => r) ha hk

/-! ### displays -/
theorem drop_shs {ds : List D} {vs : List V} (ok : OkT K ca c ρ σ (shs ds vs ++ ts) H) : OkT K ca c ρ σ ts H := ok.ts_sublist (List.sublist_append_right _ _)
theorem grow_shs {ds : List D} {vs : List V} {s : Slot} {v : V} (hl : vs.length = ds.length) (ok : OkT K ca c ρ σ (shs ds vs ++ ts) H) (g : ∀ A, Reps K ca H A ds vs → Grow K ca A H H' s v) : OkT K ca c ρ σ ((s, some v) :: ts) H' := by
  obtain ⟨h1, h2, A, x⟩ := ok
  have x' : Ok1 K ca c A H (ts ++ ρ.zip σ) := by
    rw [List.append_assoc] at x
    exact x.sublist (List.sublist_append_right _ _)
  exact ⟨h1, h2, x'.grow (g A (reps_shs hl x fun p hp => List.mem_append_left _ (List.mem_append_left _ hp)))⟩
def kTup (ds : List D) : M Slot := chk (decide (ds.length ≤ lim)) (ret (.sh (.tup ds)))
def kLst (ds : List D) : M Slot := chk (decide (ds.length ≤ lim)) (ret (.ow (.lst ds)))
theorem snd_tup {t : TA} {ms : M (List Opnd)} (ha : SndA K ca W t ms) : Snd K ca W (tTup t) (mTake ms kTup) := by
  refine snd_take (r := fun xs H1 Q => xs.length ≤ sizeLine ∧ ∀ p, H1 p = none → Q (.ref p) (upd H1 p (.tup xs))) ha fun c ρ σ ts H Q ds vs hl ok h => ?_
  unfold kTup chk at h
  by_cases hd : ds.length ≤ lim
  · rw [decide_eq_true hd, if_pos rfl] at h
    refine ⟨by have := lim_lt; omega, fun p np => h _ _ (grow_shs hl ok fun A r => .inr ⟨p, _, np, rfl, rfl, .inr (.inl ⟨ds, vs, rfl, rfl, r⟩)⟩)⟩
  · rw [decide_eq_false hd] at h; exact h.elim
theorem snd_lst {t : TA} {ms : M (List Opnd)} (ha : SndA K ca W t ms) : Snd K ca W (tLst t) (mTake ms kLst) := by
  refine snd_take (r := fun xs H1 Q => xs.length ≤ sizeLine ∧ ∀ p, H1 p = none → Q (.ref p) (upd H1 p (.lst xs))) ha fun c ρ σ ts H Q ds vs hl ok h => ?_
  unfold kLst chk at h
  by_cases hd : ds.length ≤ lim
  · rw [decide_eq_true hd, if_pos rfl] at h
    refine ⟨by have := lim_lt; omega, fun p np => h _ _ (grow_shs hl ok fun A r => .inr ⟨p, _, np, rfl, rfl, .inl ⟨_, rfl, vs, rfl, r⟩⟩)⟩
  · rw [decide_eq_false hd] at h; exact h.elim

/-! ### constants, names -/
theorem snd_c {v : V} {d : D} (h : ∀ H A, Rep K ca H A d v) : Snd K ca W (tC v) (ret (.sh d)) :=
  ⟨fun c ρ σ ts H Q ok q => q v H (ok.grow fun A _ => .inl ⟨rfl, d, rfl, h H A⟩)⟩
def mVar (i : Nat) : M Slot := bnd (take (.var i)) fun d => ret (.sh d)
def mMove (i : Nat) : M Slot := fun ρ => match ρ[i]? with
  | some (.sh d) => .ok (.sh d) ρ
  | some (.ow d) => .ok (.ow d) (ρ.set i .un)
  | _ => .bad
theorem slotv (ok : OkT K ca c ρ σ ts H) {i : Nat} {s : Slot} {d : D} (e : ρ[i]? = some s) (ed : s.d? = some d) : ∃ v, σ[i]? = some (some v) := ok.val (by rw [e]; exact ed)
theorem snd_var {i : Nat} : Snd K ca W (tVar i) (mVar i) := by
  refine ⟨fun c ρ σ ts H Q ok h => ?_⟩
  unfold mVar bnd at h
  cases e : take (.var i) ρ with
  | exc x ρ' => unfold take at e; dsimp only at e; split at e <;> cases e
  | bad => rw [e] at h; exact h.elim
  | ok d ρ1 =>
    rw [e] at h
    have hv : ∃ v, σ[i]? = some (some v) := by
      unfold take at e
      dsimp only at e
      split at e
      · rename_i d' e'; exact slotv ok e' rfl
      · rename_i d' e'; exact slotv ok e' rfl
      · cases e
    obtain ⟨v, ev⟩ := hv
    exact ⟨v, ev, h v H (take_ok (o := .var i) ok ev e)⟩
theorem snd_move {i : Nat} : Snd K ca W (tVar i) (mMove i) := by
  refine ⟨fun c ρ σ ts H Q ok h => ?_⟩
  unfold mMove at h
  cases e : ρ[i]? with
  | none => rw [e] at h; exact h.elim
  | some s =>
    rw [e] at h
    cases s with
    | un => exact h.elim
    | br d => exact h.elim
    | sh d =>
      obtain ⟨v, ev⟩ := slotv ok e (d := d) rfl
      refine ⟨v, ev, h v H (take_ok (o := .var i) ok ev ?_)⟩
      show (match ρ[i]? with | some (.sh d) => Res.ok d ρ | some (.ow d) => Res.ok d (ρ.set i (.sh d)) | _ => Res.bad) = _
      rw [e]
    | ow d =>
      obtain ⟨v, ev⟩ := slotv ok e (d := d) rfl
      refine ⟨v, ev, h v H ?_⟩
      obtain ⟨o, A, eo, x⟩ := ok.at e
      cases (eo.symm.trans ev)
      obtain ⟨h1, h2, _⟩ := ok
      refine ⟨by simpa using h1, fun p hp => ?_, A, ?_⟩
      · obtain ⟨q1, d', q2⟩ := h2 p hp
        have hi : p.1 ≠ i := fun z => by rw [z, e] at q2; cases q2
        exact ⟨q1, d', by rw [List.getElem?_set_ne (Ne.symm hi)]; exact q2⟩
      · have y : Ok1 K ca c A H ((.un, some v) :: (.ow d, some v) :: rst ρ σ ts i) := by
          refine ⟨fun q hq => ?_, ?_, x.sub, x.bsub, x.old, x.live, x.frame⟩
          · rcases List.mem_cons.mp hq with rfl | hq
            · trivial
            · exact x.slots q hq
          · rw [List.filterMap_cons]; exact x.nodup
        have y2 : Ok1 K ca c A H ((.ow d, some v) :: (ts ++ (ρ.set i .un).zip σ)) := (y.perm (List.Perm.swap _ _ _)).perm ((unfocus (ts := ts) (s' := Slot.un) e ev).symm.cons _)
        exact y2

/-! ### methods: the receiver is looked at, the arguments are taken -/
def tyD (T : String) : D → Bool
  | .lst _ => T == "list"
  | .dic _ _ => T == "dict"
  | .dit _ _ => T == "dict"
  | .str _ => T == "str"
  | .int _ => T == "int"
  | _ => false
theorem tyV_of {T : String} {d : D} {v : V} (p : Peek K ca H A d v) (h : tyD T d = true) : tyV K T v H := by
  cases d with
  | lst ds =>
    obtain ⟨a, vs, rfl, r, _⟩ := p.lst
    exact .inl ⟨eq_of_beq h, vs, .inl (.inl r)⟩
  | dic ks ds =>
    obtain ⟨a, vs, rfl, e, _⟩ := p.dic
    exact .inr (.inr (.inl ⟨eq_of_beq h, .inl ⟨_, e⟩⟩))
  | dit ks ds =>
    obtain ⟨a, vs, rfl, e, _⟩ := p.dit
    exact .inr (.inr (.inl ⟨eq_of_beq h, .inr ⟨_, e⟩⟩))
  | str x => rw [p.str]; exact eq_of_beq h
  | int i => rw [p.int]; exact eq_of_beq h
  | _ => cases h
def PrimM (K : PySem.W.Frag) (ca : Str → Addr) (r : V → List V → Hp → VK → Prop) (f : D → List D → Option Slot) : Prop :=
  ∀ (A : List Addr) (H : Hp) (v : V) (vs : List V) (d : D) (ds : List D) (s : Slot) (Q : VK), Peek K ca H A d v → Reps K ca H A ds vs → f d ds = some s → (∀ w H', Grow K ca A H H' s w → Q w H') → r v vs H Q
/-- the operand o behind the arguments -/
def mOn (f : D → List D → Option Slot) (o : Opnd) (ds : List D) : M Slot := fun ρ => match look ρ o with
  | some d => match f d ds with
    | some s => .ok s ρ
    | none => .bad
  | none => .bad
def mTy (T : String) (o : Opnd) {α : Type} (m : M α) : M α := fun ρ => match look ρ o with
  | some d => if tyD T d then m ρ else .bad
  | none => .bad
theorem peek_look {o : Opnd} {v : V} {d : D} {A : List Addr} {l : Ls} (x : Ok1 K ca c A H l) (ht : ∀ p ∈ otmp o v, p ∈ l) (hz : ∀ p ∈ ρ.zip σ, p ∈ l) (om : OpM σ o v) (e : look ρ o = some d) : Peek K ca H A d v := by
  have h := peeks_of (os := [o]) (vs := [v]) (ds := [d]) x (fun p hp => ht p (by
    have hp' : p ∈ otmp o v ++ [] := hp
    simpa using hp')) hz ⟨v, [], rfl, om, rfl⟩ (by unfold looks; rw [e]; rfl)
  obtain ⟨w, r, e1, h1, _⟩ := h
  cases e1
  exact h1
theorem snd_meth {T : String} {r : V → List V → Hp → VK → Prop} {f : D → List D → Option Slot} (hp : PrimM K ca r f) {to : TE} {t : TA} {mo : M Opnd} {ms : M (List Opnd)} (ho : SndO K ca W to mo) (ha : SndA K ca W t ms) :
    Snd K ca W (tBM K T r to t) (bnd mo fun o => mTy T o (bnd ms fun os => bnd (takes os) fun ds => mOn f o ds)) := by
  refine ⟨fun c ρ σ ts H Q ok h => ?_⟩
  refine ho.run c ρ σ ts H _ ok ?_
  unfold bnd at h
  cases e : mo ρ with
  | exc x ρ' => rw [e] at h; exact h
  | bad => rw [e] at h; exact h.elim
  | ok o ρ1 =>
    rw [e] at h
    dsimp only at h
    unfold mTy at h
    cases e1 : look ρ1 o with
    | none => rw [e1] at h; exact h.elim
    | some d =>
      rw [e1] at h
      dsimp only at h
      by_cases ht : tyD T d = true
      · rw [if_pos ht] at h
        intro v H1 om ok1
        refine ⟨?_, ?_⟩
        · obtain ⟨_, _, A, x⟩ := ok1
          exact tyV_of (peek_look x (fun p q => List.mem_append_left _ (List.mem_append_left _ q)) (fun p q => List.mem_append_right _ q) om e1) ht
        · refine ha.run c ρ1 σ _ H1 _ ok1 ?_
          cases e2 : ms ρ1 with
          | exc x ρ' => rw [e2] at h; exact h
          | bad => rw [e2] at h; exact h.elim
          | ok os ρ2 =>
            rw [e2] at h
            dsimp only at h
            intro vs H2 om2 ok2
            cases e3 : takes os ρ2 with
            | exc x ρ' => exact absurd e3 takes_noexc
            | bad => rw [e3] at h; exact h.elim
            | ok ds ρ3 =>
              rw [e3] at h
              dsimp only at h
              obtain ⟨hl, h1, h2, A, x⟩ := takes_ok ok2 om2 e3
              unfold mOn at h
              cases e4 : look ρ3 o with
              | none => rw [e4] at h; exact h.elim
              | some d3 =>
                rw [e4] at h
                dsimp only at h
                cases e5 : f d3 ds with
                | none => rw [e5] at h; exact h.elim
                | some s =>
                  rw [e5] at h
                  have pk := peek_look x (fun p q => List.mem_append_left _ (List.mem_append_right _ (List.mem_append_left _ q))) (fun p q => List.mem_append_right _ q) om e4
                  have rs := reps_shs hl x fun p q => List.mem_append_left _ (List.mem_append_left _ q)
                  refine hp A H2 v vs d3 ds s Q pk rs e5 fun w H' g => h w H' ?_
                  have x' : Ok1 K ca c A H2 (ts ++ ρ3.zip σ) := by
                    refine x.sublist ?_
                    exact ((List.sublist_append_right _ _).trans (List.sublist_append_right _ _)).append (List.Sublist.refl _)
                  exact ⟨h1, h2, x'.grow g⟩
      · rw [if_neg ht] at h; exact h.elim

/-! ### methods that change the receiver, a slot's own object -/
def MutR (K : PySem.W.Frag) (ca : Str → Addr) (r : V → List V → Hp → VK → Prop) (f : D → List D → Option (D × D)) : Prop :=
  ∀ (A : List Addr) (H : Hp) (a : Addr) (u : HO) (vs : List V) (d : D) (ds : List D) (d' res : D) (Q : VK), H a = some u → Cont K ca H A d u → Reps K ca H A ds vs → f d ds = some (d', res) →
    (∀ v u', Cont K ca H A d' u' → Rep K ca H A res v → Q v (upd H a u')) → r (.ref a) vs H Q
def mUpd (i : Nat) (f : D → Option (D × D)) : M Slot := fun ρ => match ρ[i]? with
  | some (.ow d) => match f d with
    | some (d', res) => .ok (.sh res) (ρ.set i (.ow d'))
    | none => .bad
  | some (.br d) => match f d with
    | some (d', res) => .ok (.sh res) (ρ.set i (.br d'))
    | none => .bad
  | _ => .bad
def isOwn : Slot → Bool
  | .ow _ => true
  | .br _ => true
  | _ => false
theorem own_of {s : Slot} {v : V} (h : isOwn s = true) (x : SlotOk K ca c A H s (some v)) : ∃ a u d, v = .ref a ∧ s.d? = some d ∧ a ∈ A ∧ H a = some u ∧ Cont K ca H A d u ∧ ownA (s, some v) = some a := by
  cases s with
  | un => cases h
  | sh d => cases h
  | ow d => obtain ⟨a, u, e, h1, _, h2, h3⟩ := x; cases e; exact ⟨a, u, d, rfl, rfl, h1, h2, h3, rfl⟩
  | br d => obtain ⟨a, u, e, h1, _, h2, h3⟩ := x; cases e; exact ⟨a, u, d, rfl, rfl, h1, h2, h3, rfl⟩
/-- the object at the head is written -/
theorem Ok1.put {s s' : Slot} {a : Addr} {u : HO} {d' : D} (x : Ok1 K ca c A H ((s, some (.ref a)) :: l)) (h : isOwn s = true) (hs : (∃ d, s = .ow d ∧ s' = .ow d') ∨ (∃ d, s = .br d ∧ s' = .br d')) (hc : Cont K ca H A d' u) : Ok1 K ca c A (upd H a u) ((s', some (.ref a)) :: l) := by
  obtain ⟨a', u', d, e, ed, hA, h1, h2, e1⟩ := own_of h (x.slots _ List.mem_cons_self)
  cases e
  have k : ∀ b o, b ∉ A → H b = some o → upd H a u b = some o := fun b o hb e => by
    rw [upd_ne fun z : b = a => hb (z ▸ hA)]; exact e
  have nd := x.nodup
  rw [List.filterMap_cons, e1] at nd
  obtain ⟨na, nl⟩ := List.nodup_cons.mp (show (a :: l.filterMap ownA).Nodup from nd)
  refine ⟨fun q hq => ?_, ?_, x.sub, x.bsub, x.old, fun b hb => ?_, fun b o e hb => ?_⟩
  · rcases List.mem_cons.mp hq with rfl | hq
    · have hc' : Cont K ca (upd H a u) A d' u := hc.mono2 k fun _ _ z _ => z
      have q := x.slots _ List.mem_cons_self
      rcases hs with ⟨d0, rfl, rfl⟩ | ⟨d0, rfl, rfl⟩
      · obtain ⟨b, w, e, q1, q2, _⟩ := q
        cases e
        exact ⟨a, u, rfl, q1, q2, upd_same, hc'⟩
      · obtain ⟨b, w, e, q1, q2, _⟩ := q
        cases e
        exact ⟨a, u, rfl, q1, q2, upd_same, hc'⟩
    · refine (x.slots q (List.mem_cons_of_mem _ hq)).mono k (fun _ _ z _ => z) fun b e => ⟨(x.slots q (List.mem_cons_of_mem _ hq)).own_mem e, upd_ne fun z : b = a => na (z ▸ List.mem_filterMap.mpr ⟨q, hq, e⟩)⟩
  · rcases hs with ⟨d0, rfl, rfl⟩ | ⟨d0, rfl, rfl⟩
    · exact x.nodup
    · exact x.nodup
  · by_cases z : b = a
    · rw [z, upd_same]; exact fun y => nomatch y
    · rw [upd_ne z]; exact x.live b hb
  · have z : b ≠ a := fun z => by
      subst z
      have q := x.slots _ List.mem_cons_self
      rcases hs with ⟨d0, rfl, rfl⟩ | ⟨d0, rfl, rfl⟩
      · obtain ⟨b', w, e', q1, q2, _⟩ := q
        cases e'
        rw [e] at q2; cases q2
      · obtain ⟨b', w, e', q1, q2, _⟩ := q
        cases e'
        exact hb q2
    rw [upd_ne z]
    exact x.frame b o e hb
/-- a slot's own object is written -/
theorem upd_slot {i : Nat} {v : V} {vs : List V} {ds : List D} {Q : VK} {r : V → List V → Hp → VK → Prop} {f : D → List D → Option (D × D)} (hm : MutR K ca r f) (hl : vs.length = ds.length)
    (ok : OkT K ca c ρ σ (shs ds vs ++ ts) H) (ev : σ[i]? = some (some v)) (h : PostE K ca c W σ ts Q (mUpd i (fun d => f d ds) ρ)) : r v vs H Q := by
  unfold mUpd at h
  cases e : ρ[i]? with
  | none => rw [e] at h; exact h.elim
  | some s =>
    rw [e] at h
    have go : ∀ (d d' res : D) (s' : Slot), ((s = .ow d ∧ s' = .ow d') ∨ (s = .br d ∧ s' = .br d')) → f d ds = some (d', res) → PostE K ca c W σ ts Q (.ok (.sh res) (ρ.set i s')) → r v vs H Q := fun d d' res s' hs ef hp => by
      have hw : isOwn s = true := by rcases hs with ⟨rfl, _⟩ | ⟨rfl, _⟩ <;> rfl
      obtain ⟨o, A, eo, x⟩ := ok.at e
      cases (eo.symm.trans ev)
      obtain ⟨a, u, d0, rfl, ed, hA, h1, h2, e1⟩ := own_of hw (x.slots _ List.mem_cons_self)
      have ed' : d0 = d := by
        rcases hs with ⟨rfl, _⟩ | ⟨rfl, _⟩ <;> cases ed <;> rfl
      subst ed'
      have rs : Reps K ca H A ds vs := reps_shs hl x fun p q => List.mem_cons_of_mem _ (List.mem_append_left _ (List.mem_append_left _ q))
      refine hm A H a u vs d0 ds d' res Q h1 h2 rs ef fun w u' hc hr => hp w _ ?_
      have hs' : (∃ d, s = .ow d ∧ s' = .ow d') ∨ (∃ d, s = .br d ∧ s' = .br d') := by
        rcases hs with ⟨q1, q2⟩ | ⟨q1, q2⟩
        · exact .inl ⟨_, q1, q2⟩
        · exact .inr ⟨_, q1, q2⟩
      have y := x.put hw hs' hc
      have r2 : Rep K ca (upd H a u') A res w := Rep.mono2 (fun b o hb e => by rw [upd_ne fun z : b = a => hb (z ▸ hA)]; exact e) (fun _ _ z _ => z) _ _ hr
      have ok3 : OkT K ca c (ρ.set i s') σ (shs ds vs ++ ts) (upd H a u') := ok.back e ev ⟨A, y⟩ fun z => by
        rcases hs with ⟨rfl, rfl⟩ | ⟨rfl, rfl⟩
        · cases z
        · rfl
      have y2 := rep_dup y r2
      have y3 : Ok1 K ca c A (upd H a u') ((.sh res, some w) :: ((shs ds vs ++ ts) ++ (ρ.set i s').zip σ)) := y2.perm ((unfocus (ts := shs ds vs ++ ts) (s' := s') e ev).symm.cons _)
      obtain ⟨q1, q2, _⟩ := ok3
      refine ⟨q1, q2, A, y3.sublist ?_⟩
      refine List.Sublist.cons₂ _ ?_
      exact (List.sublist_append_right _ _).append (List.Sublist.refl _)
    cases s with
    | un => exact h.elim
    | sh d => exact h.elim
    | ow d =>
      dsimp only at h
      cases ef : f d ds with
      | none => rw [ef] at h; exact h.elim
      | some q =>
        obtain ⟨d', res⟩ := q
        rw [ef] at h
        exact go d d' res _ (.inl ⟨rfl, rfl⟩) ef h
    | br d =>
      dsimp only at h
      cases ef : f d ds with
      | none => rw [ef] at h; exact h.elim
      | some q =>
        obtain ⟨d', res⟩ := q
        rw [ef] at h
        exact go d d' res _ (.inr ⟨rfl, rfl⟩) ef h
theorem snd_mut {T : String} {i : Nat} {r : V → List V → Hp → VK → Prop} {f : D → List D → Option (D × D)} (hm : MutR K ca r f) {t : TA} {ms : M (List Opnd)} (ha : SndA K ca W t ms) :
    Snd K ca W (tBM K T r (tVar i) t) (mTy T (.var i) (bnd ms fun os => bnd (takes os) fun ds => mUpd i fun d => f d ds)) := by
  refine ⟨fun c ρ σ ts H Q ok h => ?_⟩
  unfold mTy at h
  cases e1 : look ρ (.var i) with
  | none => rw [e1] at h; exact h.elim
  | some d =>
    rw [e1] at h
    dsimp only at h
    by_cases ht : tyD T d = true
    · rw [if_pos ht] at h
      obtain ⟨v, ev⟩ := ok.val e1
      refine ⟨v, ev, ?_, ?_⟩
      · obtain ⟨_, _, A, x⟩ := ok
        exact tyV_of (OkT.peekVar x e1 ev) ht
      · refine ha.run c ρ σ ts H _ ok ?_
        unfold bnd at h
        cases e2 : ms ρ with
        | exc x ρ' => rw [e2] at h; exact h
        | bad => rw [e2] at h; exact h.elim
        | ok os ρ2 =>
          rw [e2] at h
          dsimp only at h
          intro vs H2 om2 ok2
          cases e3 : takes os ρ2 with
          | exc x ρ' => exact absurd e3 takes_noexc
          | bad => rw [e3] at h; exact h.elim
          | ok ds ρ3 =>
            rw [e3] at h
            obtain ⟨hl, ok3⟩ := takes_ok ok2 om2 e3
            exact upd_slot hm hl ok3 ev h
    · rw [if_neg ht] at h; exact h.elim
end
end VL
set_option Elab.async false
set_option linter.all false
set_option maxRecDepth 100000
/-! VL4: tests, targets, statements, what is walked, loops, comprehensions. -/
namespace VL
open PySem PySem.Spec PyProof.Rows L2
section
variable {K : PySem.W.Frag} {ca : Str → Addr} {c : Ctx} {A : List Addr} {H H' : Hp} {l : Ls} {ρ : Env} {σ : St'} {ts : Ls} {W : WX}

/-! ### tests -/
def asB : Slot → M Bool
  | .sh (.bl b) => ret b
  | _ => fun _ => .bad
theorem head_sh {d : D} {v : V} (ok : OkT K ca c ρ σ ((.sh d, some v) :: ts) H) : ∃ A, Rep K ca H A d v := by
  obtain ⟨_, _, A, x⟩ := ok
  obtain ⟨w, e, r⟩ := x.slots _ (List.mem_append_left _ List.mem_cons_self)
  cases e
  exact ⟨A, r⟩
theorem sndT_val {t : TE} {m : M Slot} (h : Snd K ca W t m) : SndT K ca W (tB t) (bnd m asB) := by
  refine ⟨fun c ρ σ ts H Q ok q => ?_⟩
  refine h.run c ρ σ ts H _ ok ?_
  unfold bnd at q
  cases e : m ρ with
  | exc x ρ' => rw [e] at q; exact q
  | bad => rw [e] at q; exact q.elim
  | ok s ρ1 =>
    rw [e] at q
    dsimp only at q
    intro v H1 ok1
    cases s with
    | un => exact q.elim
    | ow d => exact q.elim
    | br d => exact q.elim
    | sh d =>
      cases d with
      | bl b =>
        obtain ⟨A, r⟩ := head_sh ok1
        exact ⟨b, r, q H1 ok1.pop⟩
      | _ => exact q.elim
def truD : D → Option Bool
  | .non => some false
  | .bl b => some b
  | .int i => some (i != 0)
  | .str x => if x.length ≤ lim then some ((x.length : Int) != 0) else none
  | .lst ds => some (!ds.isEmpty)
  | .tup ds => some (!ds.isEmpty)
  | .kt ds => some (!ds.isEmpty)
  | .ft ds => some (!ds.isEmpty)
  | .dic ks _ => some (!ks.isEmpty)
  | _ => none
theorem tru_of {d : D} {v : V} {b : Bool} (p : Peek K ca H A d v) (h : truD d = some b) : TruV K v H b := by
  cases d with
  | non => rw [p.non]; cases h; exact rfl
  | bl c => rw [p.bl]; cases h; exact rfl
  | int i => rw [p.int]; cases h; exact rfl
  | str x =>
    rw [p.str]
    have h : (if x.length ≤ lim then some ((x.length : Int) != 0) else none) = some b := h
    by_cases hx : x.length ≤ lim
    · rw [if_pos hx] at h
      cases h
      have := lim_lt
      exact ⟨by omega, rfl⟩
    · rw [if_neg hx] at h; cases h
  | lst ds =>
    obtain ⟨a, vs, rfl, r, q⟩ := p.lst
    cases h
    refine .inl ⟨vs, .inl (.inl r), ?_⟩
    have := q.length
    cases ds <;> cases vs <;> simp_all
  | tup ds =>
    obtain ⟨a, vs, rfl, r, q⟩ := p.tup
    cases h
    refine .inr (.inl ⟨vs, .inl (.inl r), ?_⟩)
    have := q.length
    cases ds <;> cases vs <;> simp_all
  | kt ds =>
    obtain ⟨a, vs, rfl, r, q⟩ := p.kt
    cases h
    refine .inr (.inl ⟨vs, .inr r, ?_⟩)
    have := q.length
    cases ds <;> cases vs <;> simp_all
  | ft ds =>
    obtain ⟨a, vs, o, rfl, r, _, q⟩ := p.ft
    cases h
    refine .inr (.inl ⟨vs, .inl (.inr ⟨o, r⟩), ?_⟩)
    have := q.length
    cases ds <;> cases vs <;> simp_all
  | dic ks ds =>
    obtain ⟨a, vs, rfl, r, x, q⟩ := p.dic
    cases h
    refine .inr (.inr ⟨_, r, ?_⟩)
    have x := x.1
    cases ks <;> cases vs <;> simp_all
  | _ => cases h
def mTru (o : Opnd) : M Bool := fun ρ => match look ρ o with
  | some d => match truD d with
    | some b => .ok b ρ
    | none => .bad
  | none => .bad
theorem sndT_truth {ta : TE} {mo : M Opnd} (h : SndO K ca W ta mo) : SndT K ca W (fun σ H Q => ta σ H fun x H' => ∃ k, TruV K x H' k ∧ Q k H') (bnd mo mTru) := by
  refine ⟨fun c ρ σ ts H Q ok q => ?_⟩
  refine h.run c ρ σ ts H _ ok ?_
  unfold bnd at q
  cases e : mo ρ with
  | exc x ρ' => rw [e] at q; exact q
  | bad => rw [e] at q; exact q.elim
  | ok o ρ1 =>
    rw [e] at q
    dsimp only at q
    unfold mTru at q
    intro v H1 om ok1
    cases e1 : look ρ1 o with
    | none => rw [e1] at q; exact q.elim
    | some d =>
      rw [e1] at q
      dsimp only at q
      cases e2 : truD d with
      | none => rw [e2] at q; exact q.elim
      | some b =>
        rw [e2] at q
        have ok2 : OkT K ca c ρ1 σ ts H1 := ok1.ts_sublist (List.sublist_append_right _ _)
        obtain ⟨_, _, A, x⟩ := ok1
        exact ⟨b, tru_of (peek_look x (fun p q => List.mem_append_left _ (List.mem_append_left _ q)) (fun p q => List.mem_append_right _ q) om e1) e2, q H1 ok2⟩
def mAnd (a b : M Bool) : M Bool := bnd a fun x => if x then b else ret false
def mOr (a b : M Bool) : M Bool := bnd a fun x => if x then ret true else b
def mNot (a : M Bool) : M Bool := bnd a fun x => ret (!x)
theorem sndT_and {t u : TT} {a b : M Bool} (h1 : SndT K ca W t a) (h2 : SndT K ca W u b) : SndT K ca W (tAnd t u) (mAnd a b) := by
  refine ⟨fun c ρ σ ts H Q ok q => ?_⟩
  refine h1.run c ρ σ ts H _ ok ?_
  unfold mAnd bnd at q
  cases e : a ρ with
  | exc x ρ' => rw [e] at q; exact q
  | bad => rw [e] at q; exact q.elim
  | ok x ρ1 =>
    rw [e] at q
    intro H1 ok1
    cases x with
    | true => rw [if_pos rfl]; exact h2.run c ρ1 σ ts H1 Q ok1 q
    | false => rw [if_neg Bool.false_ne_true]; exact q H1 ok1
theorem sndT_or {t u : TT} {a b : M Bool} (h1 : SndT K ca W t a) (h2 : SndT K ca W u b) : SndT K ca W (tOr t u) (mOr a b) := by
  refine ⟨fun c ρ σ ts H Q ok q => ?_⟩
  refine h1.run c ρ σ ts H _ ok ?_
  unfold mOr bnd at q
  cases e : a ρ with
  | exc x ρ' => rw [e] at q; exact q
  | bad => rw [e] at q; exact q.elim
  | ok x ρ1 =>
    rw [e] at q
    intro H1 ok1
    cases x with
    | true => rw [if_pos rfl]; exact q H1 ok1
    | false => rw [if_neg Bool.false_ne_true]; exact h2.run c ρ1 σ ts H1 Q ok1 q
theorem sndT_not {t : TT} {a : M Bool} (h1 : SndT K ca W t a) : SndT K ca W (tNot t) (mNot a) := by
  refine ⟨fun c ρ σ ts H Q ok q => ?_⟩
  refine h1.run c ρ σ ts H _ ok ?_
  unfold mNot bnd at q
  cases e : a ρ with
  | exc x ρ' => rw [e] at q; exact q
  | bad => rw [e] at q; exact q.elim
  | ok x ρ1 => rw [e] at q; exact fun H1 ok1 => q H1 ok1
/-- a bool's value by a test -/
def mIf (a : M Bool) (b d : M Slot) : M Slot := bnd a fun x => if x then b else d
theorem snd_if {t : TT} {u v : TE} {a : M Bool} {b d : M Slot} (h1 : SndT K ca W t a) (h2 : Snd K ca W u b) (h3 : Snd K ca W v d) : Snd K ca W (tIf t u v) (mIf a b d) := by
  refine ⟨fun c ρ σ ts H Q ok q => ?_⟩
  refine h1.run c ρ σ ts H _ ok ?_
  unfold mIf bnd at q
  cases e : a ρ with
  | exc x ρ' => rw [e] at q; exact q
  | bad => rw [e] at q; exact q.elim
  | ok x ρ1 =>
    rw [e] at q
    intro H1 ok1
    cases x with
    | true => rw [if_pos rfl]; exact h2.run c ρ1 σ ts H1 Q ok1 q
    | false => rw [if_neg Bool.false_ne_true]; exact h3.run c ρ1 σ ts H1 Q ok1 q
def mAndV (a b : M Slot) : M Slot := bnd a fun s => bnd (asB s) fun x => if x then b else ret (.sh (.bl false))
def mOrV (a b : M Slot) : M Slot := bnd a fun s => bnd (asB s) fun x => if x then ret (.sh (.bl true)) else b
def mNotV (a : M Slot) : M Slot := bnd a fun s => bnd (asB s) fun x => ret (.sh (.bl !x))
theorem rep_bl {b : Bool} : ∀ H A, Rep K ca H A (.bl b) (.bl b) := fun _ _ => rfl
theorem push_bl {b : Bool} (ok : OkT K ca c ρ σ ts H) : OkT K ca c ρ σ ((.sh (.bl b), some (.bl b)) :: ts) H := ok.grow fun A _ => .inl ⟨rfl, _, rfl, rfl⟩
theorem snd_andV {t u : TE} {a b : M Slot} (h1 : Snd K ca W t a) (h2 : Snd K ca W u b) : Snd K ca W (tAndV t u) (mAndV a b) := by
  refine ⟨fun c ρ σ ts H Q ok q => ?_⟩
  refine h1.run c ρ σ ts H _ ok ?_
  unfold mAndV bnd at q
  cases e : a ρ with
  | exc x ρ' => rw [e] at q; exact q
  | bad => rw [e] at q; exact q.elim
  | ok s ρ1 =>
    rw [e] at q
    dsimp only at q
    intro v H1 ok1
    cases s with
    | un => exact q.elim
    | ow d => exact q.elim
    | br d => exact q.elim
    | sh d =>
      cases d with
      | bl x =>
        obtain ⟨A, r⟩ := head_sh ok1
        refine ⟨x, r, ?_⟩
        cases x with
        | true => rw [if_pos rfl]; exact h2.run c ρ1 σ ts H1 Q ok1.pop q
        | false => rw [if_neg Bool.false_ne_true]; exact q _ H1 (push_bl ok1.pop)
      | _ => exact q.elim
theorem snd_orV {t u : TE} {a b : M Slot} (h1 : Snd K ca W t a) (h2 : Snd K ca W u b) : Snd K ca W (tOrV t u) (mOrV a b) := by
  refine ⟨fun c ρ σ ts H Q ok q => ?_⟩
  refine h1.run c ρ σ ts H _ ok ?_
  unfold mOrV bnd at q
  cases e : a ρ with
  | exc x ρ' => rw [e] at q; exact q
  | bad => rw [e] at q; exact q.elim
  | ok s ρ1 =>
    rw [e] at q
    dsimp only at q
    intro v H1 ok1
    cases s with
    | un => exact q.elim
    | ow d => exact q.elim
    | br d => exact q.elim
    | sh d =>
      cases d with
      | bl x =>
        obtain ⟨A, r⟩ := head_sh ok1
        refine ⟨x, r, ?_⟩
        cases x with
        | true => rw [if_pos rfl]; exact q _ H1 (push_bl ok1.pop)
        | false => rw [if_neg Bool.false_ne_true]; exact h2.run c ρ1 σ ts H1 Q ok1.pop q
      | _ => exact q.elim
theorem snd_notV {t : TE} {a : M Slot} (h1 : Snd K ca W t a) : Snd K ca W (tNotV t) (mNotV a) := by
  refine ⟨fun c ρ σ ts H Q ok q => ?_⟩
  refine h1.run c ρ σ ts H _ ok ?_
  unfold mNotV bnd at q
  cases e : a ρ with
  | exc x ρ' => rw [e] at q; exact q
  | bad => rw [e] at q; exact q.elim
  | ok s ρ1 =>
    rw [e] at q
    dsimp only at q
    intro v H1 ok1
    cases s with
    | un => exact q.elim
    | ow d => exact q.elim
    | br d => exact q.elim
    | sh d =>
      cases d with
      | bl x =>
        obtain ⟨A, r⟩ := head_sh ok1
        exact ⟨x, r, q _ H1 (push_bl ok1.pop)⟩
      | _ => exact q.elim

/-! ### targets -/
def setS (i : Nat) (s : Slot) : M Unit := fun ρ => match ρ[i]? with
  | some (.br _) => .bad
  | none => .bad
  | some _ => match s with
    | .sh d => .ok () (ρ.set i (.sh d))
    | .ow d => .ok () (ρ.set i (.ow d))
    | _ => .bad
theorem agr_set (i : Nat) (v : Option V) : Agr [i] σ (σ.set i v) := ⟨by simp, fun j hj => List.getElem?_set_ne fun z => hj (by simp [z])⟩
theorem sndG_name {i : Nat} : SndG K ca [i] (gName i) (setS i) := by
  refine ⟨fun c ρ σ ts H s v Q ok h => ?_⟩
  unfold setS at h
  cases e : ρ[i]? with
  | none => rw [e] at h; exact h.elim
  | some s0 =>
    rw [e] at h
    cases s0 with
    | br d => exact h.elim
    | _ =>
      cases s with
      | un => exact h.elim
      | br d => exact h.elim
      | sh d => exact h _ _ (ok.store e rfl rfl) (agr_set i _)
      | ow d => exact h _ _ (ok.store e rfl rfl) (agr_set i _)
theorem Agr.trans {gs hs : List Nat} {σ σ1 σ2 : St'} (a : Agr gs σ σ1) (b : Agr hs σ1 σ2) : Agr (gs ++ hs) σ σ2 := ⟨b.1.trans a.1, fun j hj => by
  rw [List.mem_append, not_or] at hj
  exact (b.2 j hj.2).trans (a.2 j hj.1)⟩
theorem sndGs_nil : SndGs K ca [] gNil (fun ds => match ds with | [] => ret () | _ => fun _ => .bad) := by
  refine ⟨fun c ρ σ ts H ds vs Q hl ok h => ?_⟩
  cases ds with
  | nil => cases vs with
    | nil => exact ⟨rfl, h σ H ok ⟨rfl, fun _ _ => rfl⟩⟩
    | cons v r => cases hl
  | cons d r => exact h.elim
theorem sndGs_cons {gs hs : List Nat} {t : TG} {u : TGs} {f : Slot → M Unit} {g : List D → M Unit} (h1 : SndG K ca gs t f) (h2 : SndGs K ca hs u g) :
    SndGs K ca (gs ++ hs) (gCons t u) (fun ds => match ds with | d :: r => bnd (f (.sh d)) fun _ => g r | [] => fun _ => .bad) := by
  refine ⟨fun c ρ σ ts H ds vs Q hl ok h => ?_⟩
  cases ds with
  | nil => exact h.elim
  | cons d ds => cases vs with
    | nil => cases hl
    | cons v vs =>
      refine ⟨v, vs, rfl, ?_⟩
      dsimp only at h
      unfold bnd at h
      cases e : f (.sh d) ρ with
      | exc x ρ' => rw [e] at h; exact h.elim
      | bad => rw [e] at h; exact h.elim
      | ok z ρ1 =>
        rw [e] at h
        refine h1.run c ρ σ (shs ds vs ++ ts) H (.sh d) v _ ok ?_
        rw [e]
        intro σ1 H1 ok1 a1
        refine h2.run c ρ1 σ1 ts H1 ds vs Q (by simpa using hl) ok1 ?_
        dsimp only at h
        cases e2 : g ds ρ1 with
        | exc x ρ' => rw [e2] at h; exact h.elim
        | bad => rw [e2] at h; exact h.elim
        | ok z2 ρ2 =>
          rw [e2] at h
          exact fun σ2 H2 ok2 a2 => h σ2 H2 ok2 (a1.trans a2)
/-- (a, b, ..) = a list or a tuple of that length -/
def gSeq (K : PySem.W.Frag) (n : Nat) (t : TGs) : TG := fun v σ H Q => gTup K n t v σ H Q ∨ gLst K n t v σ H Q
def unpk (n : Nat) (f : List D → M Unit) (s : Slot) : M Unit := match s.frz with
  | .sh (.tup ds) => chk (decide (ds.length = n)) (f ds)
  | .sh (.lst ds) => chk (decide (ds.length = n)) (f ds)
  | _ => fun _ => .bad
theorem push_reps {A : List Addr} : ∀ {ds : List D} {vs : List V} {l : Ls}, Ok1 K ca c A H l → Reps K ca H A ds vs → Ok1 K ca c A H (shs ds vs ++ l)
  | [], _, _, x, r => by cases (show _ = _ from r); exact x
  | d :: ds, _, _, x, r => by
    obtain ⟨v, r, rfl, h1, h2⟩ := r
    exact rep_dup (push_reps x h2) h1
theorem sndG_seq {gs : List Nat} {n : Nat} {t : TGs} {f : List D → M Unit} (h1 : SndGs K ca gs t f) : SndG K ca gs (gSeq K n t) (unpk n f) := by
  refine ⟨fun c ρ σ ts H s v Q ok h => ?_⟩
  unfold unpk at h
  have ok := ok.frz
  revert h ok
  generalize s.frz = s
  intro h ok
  cases s with
  | un => exact h.elim
  | ow d => exact h.elim
  | br d => exact h.elim
  | sh d =>
    have go : ∀ ds : List D, (∀ A, Rep K ca H A d v → ∃ vs, (∀ n, vs.length = n → ∀ q, t vs σ H q → gSeq K n t v σ H q) ∧ Reps K ca H A ds vs) → PostG K ca c gs σ ts Q (chk (decide (ds.length = n)) (f ds) ρ) → gSeq K n t v σ H Q := fun ds hr h => by
      unfold chk at h
      by_cases hn : ds.length = n
      · rw [decide_eq_true hn, if_pos rfl] at h
        obtain ⟨q1, q2, A, x⟩ := ok
        obtain ⟨w, e, r⟩ := x.slots _ (List.mem_append_left _ List.mem_cons_self)
        cases e
        obtain ⟨vs, k, rs⟩ := hr A r
        refine k n (by rw [rs.length]; exact hn) Q (h1.run c ρ σ ts H ds vs Q rs.length ⟨q1, q2, A, ?_⟩ h)
        have x' : Ok1 K ca c A H (ts ++ ρ.zip σ) := x.sublist (List.sublist_cons_self _ _)
        show Ok1 K ca c A H ((shs ds vs ++ ts) ++ ρ.zip σ)
        rw [List.append_assoc]
        exact push_reps x' rs
      · rw [decide_eq_false hn] at h; exact h.elim
    cases d with
    | tup ds =>
      refine go ds (fun A r => ?_) h
      obtain ⟨a, vs, rfl, q, rs⟩ := (Peek.of r).tup
      exact ⟨vs, fun n hn q2 z => .inl ⟨a, vs, rfl, .inl (.inl q), hn, z⟩, rs⟩
    | lst ds =>
      refine go ds (fun A r => ?_) h
      obtain ⟨a, vs, rfl, q, rs⟩ := (Peek.of r).lst
      exact ⟨vs, fun n hn q2 z => .inr ⟨a, vs, rfl, .inl (.inl q), hn, z⟩, rs⟩
    | _ => exact h.elim
/-- o[i] = v for a slot's own object -/
def SetR (K : PySem.W.Frag) (ca : Str → Addr) (t : TSet) (f : D → D → D → Option D) : Prop :=
  ∀ (A : List Addr) (H : Hp) (a : Addr) (u : HO) (iv v : V) (d di dv d' : D) (Q : Hp → Prop), H a = some u → Cont K ca H A d u → Rep K ca H A di iv → Rep K ca H A dv v → f d di dv = some d' →
    (∀ u', Cont K ca H A d' u' → Q (upd H a u')) → t (.ref a) iv v H Q
def subF (f : D → D → D → Option D) (d : D) : List D → Option (D × D)
  | [dv, di] => (f d di dv).map fun d' => (d', D.non)
  | _ => none
def setSub (i : Nat) (mi : M Opnd) (f : D → D → D → Option D) (s : Slot) : M Unit := fun ρ => match (ρ[i]?).bind Slot.d? with
  | some _ => bnd mi (fun oi => bnd (takes [.tmp s, oi]) fun ds => bnd (mUpd i fun d => subF f d ds) fun _ => ret ()) ρ
  | none => .bad
theorem mut_sub {t : TSet} {f : D → D → D → Option D} (hf : SetR K ca t f) : MutR K ca (fun x vs H Q => ∃ iv v, vs = [v, iv] ∧ t x iv v H fun H' => Q .non H') (subF f) := by
  intro A H a u vs d ds d' res Q h1 h2 rs e k
  match ds, e, rs with
  | [], e, _ => cases e
  | [_], e, _ => cases e
  | _ :: _ :: _ :: _, e, _ => cases e
  | [dv, di], e, rs =>
    obtain ⟨v, r, rfl, r1, iv, r', rfl, r2, e3⟩ := rs
    cases (show _ = _ from e3)
    have e' : (f d di dv).map (fun d' => (d', D.non)) = some (d', res) := e
    cases ef : f d di dv with
    | none => rw [ef] at e'; cases e'
    | some z =>
      rw [ef] at e'
      cases e'
      exact ⟨iv, v, rfl, hf A H a u iv v d di dv _ _ h1 h2 r2 r1 ef fun u' hc => k .non u' hc rfl⟩
theorem sndG_sub {i : Nat} {ti : TE} {t : TSet} {f : D → D → D → Option D} {mi : M Opnd} (hf : SetR K ca t f) (hi : SndO K ca (fun _ _ _ _ => False) ti mi) : SndG K ca [] (gSub (tVar i) ti t) (setSub i mi f) := by
  refine ⟨fun c ρ σ ts H s v Q ok h => ?_⟩
  unfold setSub at h
  cases e0 : (ρ[i]?).bind Slot.d? with
  | none => rw [e0] at h; exact h.elim
  | some d0 =>
    rw [e0] at h
    obtain ⟨w, ew⟩ := ok.val e0
    dsimp only at h
    unfold bnd at h
    cases e : mi ρ with
    | exc x ρ' => rw [e] at h; exact h.elim
    | bad => rw [e] at h; exact h.elim
    | ok oi ρ1 =>
      rw [e] at h
      dsimp only at h
      cases e2 : takes [.tmp s, oi] ρ1 with
      | exc x ρ' => rw [e2] at h; exact h.elim
      | bad => rw [e2] at h; exact h.elim
      | ok ds ρ2 =>
        rw [e2] at h
        dsimp only at h
        refine ⟨w, ew, hi.run c ρ σ _ H _ ok ?_⟩
        rw [e]
        intro iv H1 om1 ok1
        have ok2 : OkT K ca c ρ1 σ (tmps [.tmp s, oi] [v, iv] ++ ts) H1 := by
          refine ok1.ts_perm ?_
          show (otmp oi iv ++ ((s, some v) :: ts)).Perm (((s, some v) :: (otmp oi iv ++ [])) ++ ts)
          rw [List.append_nil]
          exact List.perm_middle
        obtain ⟨hl, ok3⟩ := takes_ok ok2 ⟨v, [iv], rfl, trivial, iv, [], rfl, om1, rfl⟩ e2
        obtain ⟨iv', v', e4, q⟩ := upd_slot (W := fun _ _ _ _ => False) (Q := fun _ H' => Q σ H') (mut_sub hf) hl ok3 ew (by
          cases e3 : mUpd i (fun d => subF f d ds) ρ2 with
          | exc x ρ' => rw [e3] at h; exact h.elim
          | bad => rw [e3] at h; exact h.elim
          | ok s3 ρ3 =>
            rw [e3] at h
            exact fun v H' ok' => h σ H' ok'.pop ⟨rfl, fun _ _ => rfl⟩)
        cases e4
        exact q

/-! ### statements -/
def thn' (a b : M Fl) : M Fl := bnd a fun f => match f with
  | .next => b
  | f => ret f
theorem sndS_nil : SndS K ca W tNext (ret .next) := ⟨fun c ρ σ ts H N ok h => h σ H ok⟩
theorem sndS_seq {t u : TS} {a b : M Fl} (h1 : SndS K ca W t a) (h2 : SndS K ca W u b) : SndS K ca W (tSeq t u) (thn' a b) := by
  refine ⟨fun c ρ σ ts H N ok q => ?_⟩
  refine h1.run c ρ σ ts H _ ok ?_
  unfold thn' bnd at q
  cases e : a ρ with
  | exc x ρ' => rw [e] at q; exact q
  | bad => rw [e] at q; exact q.elim
  | ok f ρ1 =>
    rw [e] at q
    dsimp only at q
    cases f with
    | next => exact fun σ1 H1 ok1 => h2.run c ρ1 σ1 ts H1 N ok1 q
    | brk => exact q
    | cont => exact q
    | ret s => exact q
def sIf (a : M Bool) (x y : M Fl) : M Fl := bnd a fun b => if b then x else y
theorem sndS_if {t : TT} {u v : TS} {a : M Bool} {x y : M Fl} (h1 : SndT K ca W t a) (h2 : SndS K ca W u x) (h3 : SndS K ca W v y) : SndS K ca W (tIfS t u v) (sIf a x y) := by
  refine ⟨fun c ρ σ ts H N ok q => ?_⟩
  refine h1.run c ρ σ ts H _ ok ?_
  unfold sIf bnd at q
  cases e : a ρ with
  | exc z ρ' => rw [e] at q; exact q σ
  | bad => rw [e] at q; exact q.elim
  | ok b ρ1 =>
    rw [e] at q
    intro H1 ok1
    cases b with
    | true => rw [if_pos rfl]; exact h2.run c ρ1 σ ts H1 N ok1 q
    | false => rw [if_neg Bool.false_ne_true]; exact h3.run c ρ1 σ ts H1 N ok1 q
def sRet (m : M Slot) : M Fl := bnd m fun s => ret (.ret s)
theorem sndS_ret {t : TE} {m : M Slot} (h1 : Snd K ca W t m) : SndS K ca W (tRet t) (sRet m) := by
  refine ⟨fun c ρ σ ts H N ok q => ?_⟩
  refine h1.run c ρ σ ts H _ ok ?_
  unfold sRet bnd at q
  cases e : m ρ with
  | exc z ρ' => rw [e] at q; exact q σ
  | bad => rw [e] at q; exact q.elim
  | ok s ρ1 => rw [e] at q; exact fun v H1 ok1 => q v σ H1 ok1
theorem sndS_retN : SndS K ca W tRetN (ret (.ret (.sh .non))) := ⟨fun c ρ σ ts H N ok q => q .non σ H (ok.grow fun A _ => .inl ⟨rfl, _, rfl, rfl⟩)⟩
def sDrop (m : M Slot) : M Fl := bnd m fun _ => ret .next
theorem sndS_drop {t : TE} {m : M Slot} (h1 : Snd K ca W t m) : SndS K ca W (tDrop t) (sDrop m) := by
  refine ⟨fun c ρ σ ts H N ok q => ?_⟩
  refine h1.run c ρ σ ts H _ ok ?_
  unfold sDrop bnd at q
  cases e : m ρ with
  | exc z ρ' => rw [e] at q; exact q σ
  | bad => rw [e] at q; exact q.elim
  | ok s ρ1 => rw [e] at q; exact fun v H1 ok1 => q σ H1 ok1.pop
def okO (m : M Unit) : M Fl := fun ρ => match m ρ with
  | .ok _ ρ' => .ok .next ρ'
  | _ => .bad
def sAsg (m : M Slot) (f : Slot → M Unit) : M Fl := bnd m fun s => okO (f s)
theorem sndS_asg {gs : List Nat} {t : TE} {g : TG} {m : M Slot} {f : Slot → M Unit} (h1 : Snd K ca W t m) (h2 : SndG K ca gs g f) : SndS K ca W (tAsg t g) (sAsg m f) := by
  refine ⟨fun c ρ σ ts H N ok q => ?_⟩
  refine h1.run c ρ σ ts H _ ok ?_
  unfold sAsg bnd okO at q
  cases e : m ρ with
  | exc z ρ' => rw [e] at q; exact q σ
  | bad => rw [e] at q; exact q.elim
  | ok s ρ1 =>
    rw [e] at q
    dsimp only at q
    intro v H1 ok1
    refine h2.run c ρ1 σ ts H1 s v _ ok1 ?_
    cases e2 : f s ρ1 with
    | exc z ρ' => rw [e2] at q; exact q.elim
    | bad => rw [e2] at q; exact q.elim
    | ok z ρ2 => rw [e2] at q; exact fun σ2 H2 ok2 _ => q σ2 H2 ok2
/-- name op= e -/
def PrimIp (K : PySem.W.Frag) (ca : Str → Addr) (ti : TIp) (f : List D → Option Slot) : Prop := PrimR K ca (fun vs H Q => ∃ x y, vs = [x, y] ∧ ti x y H Q) f
def sAug (i : Nat) (me : M Opnd) (f : List D → Option Slot) : M Fl := fun ρ => match (ρ[i]?).bind Slot.d? with
  | some _ => bnd me (fun o => bnd (mPrim f [.var i, o]) fun s => okO (setS i s)) ρ
  | none => .bad
theorem sndS_aug {i : Nat} {te : TE} {ti : TIp} {me : M Opnd} {f : List D → Option Slot} (hf : PrimIp K ca ti f) (he : SndO K ca W te me) : SndS K ca W (tAug i te ti) (sAug i me f) := by
  refine ⟨fun c ρ σ ts H N ok q => ?_⟩
  unfold sAug at q
  cases e0 : (ρ[i]?).bind Slot.d? with
  | none => rw [e0] at q; exact q.elim
  | some d0 =>
    rw [e0] at q
    obtain ⟨w, ew⟩ := ok.val e0
    refine ⟨w, ew, he.run c ρ σ ts H _ ok ?_⟩
    dsimp only at q
    unfold bnd at q
    cases e : me ρ with
    | exc z ρ' => rw [e] at q; exact q σ
    | bad => rw [e] at q; exact q.elim
    | ok o ρ1 =>
      rw [e] at q
      dsimp only at q
      intro y H1 om ok1
      have ok2 : OkT K ca c ρ1 σ (tmps [.var i, o] [w, y] ++ ts) H1 := by
        show OkT K ca c ρ1 σ (([] ++ (otmp o y ++ [])) ++ ts) H1
        rw [List.append_nil, List.nil_append]
        exact ok1
      obtain ⟨x', y', e3, q3⟩ := prim_go (W := W) (Q := fun z H2 => N.nx (σ.set i (some z)) H2) hf ok2 ⟨w, [y], rfl, ew, y, [], rfl, om, rfl⟩ (by
        cases e4 : mPrim f [.var i, o] ρ1 with
        | exc z ρ' =>
          exfalso
          unfold mPrim at e4
          split at e4
          · split at e4 <;> cases e4
          · cases e4
        | bad => rw [e4] at q; exact q.elim
        | ok s ρ2 =>
          rw [e4] at q
          intro v H2 ok3
          refine sndG_name.run c ρ2 σ ts H2 s v _ ok3 ?_
          dsimp only at q
          unfold okO at q
          cases e5 : setS i s ρ2 with
          | exc z ρ' => rw [e5] at q; exact q.elim
          | bad => rw [e5] at q; exact q.elim
          | ok z ρ3 => rw [e5] at q; exact fun σ2 H2 ok2 _ => q σ2 H2 ok2)
      cases e3
      exact q3

/-! ### while -/
def sWhile (a : M Bool) (x : M Fl) : Nat → M Fl
  | 0 => fun _ => .bad
  | n + 1 => bnd a fun b => if b then bnd x fun f => match f with
    | .next => sWhile a x n
    | .cont => sWhile a x n
    | .brk => ret .next
    | .ret s => ret (.ret s)
    else ret .next
theorem sndS_while {t : TT} {u : TS} {a : M Bool} {x : M Fl} (n : Nat) (h1 : SndT K ca W t a) (h2 : SndS K ca W u x) : SndS K ca W (tWhile t u) (sWhile a x n) := by
  refine ⟨fun c ρ σ ts H N ok q => ?_⟩
  refine ⟨fun m σ H => ∃ ρ, OkT K ca c ρ σ ts H ∧ PostS K ca c W ts N (sWhile a x m ρ), ⟨n, ρ, ok, q⟩, ?_⟩
  rintro m σ H ⟨ρ, ok, q⟩
  cases m with
  | zero => exact q.elim
  | succ m =>
    refine h1.run c ρ σ ts H _ ok ?_
    have q : PostS K ca c W ts N (bnd a (fun b => if b then bnd x fun f => match f with
      | .next => sWhile a x m
      | .cont => sWhile a x m
      | .brk => ret .next
      | .ret s => ret (.ret s)
      else ret .next) ρ) := q
    unfold bnd at q
    cases e : a ρ with
    | exc z ρ' => rw [e] at q; exact q σ
    | bad => rw [e] at q; exact q.elim
    | ok b ρ1 =>
      rw [e] at q
      dsimp only at q
      intro H1 ok1
      cases b with
      | false => rw [if_neg Bool.false_ne_true]; rw [if_neg Bool.false_ne_true] at q; exact q σ H1 ok1
      | true =>
        rw [if_pos rfl]
        rw [if_pos rfl] at q
        refine ⟨fun σ' H' => ∃ ρ, OkT K ca c ρ σ' ts H' ∧ PostS K ca c W ts N (sWhile a x m ρ), fun σ' H' h => ⟨m, Nat.lt_succ_self m, h⟩, ?_⟩
        refine h2.run c ρ1 σ ts H1 _ ok1 ?_
        cases e2 : x ρ1 with
        | exc z ρ' => rw [e2] at q; exact q
        | bad => rw [e2] at q; exact q.elim
        | ok f ρ2 =>
          rw [e2] at q
          cases f with
          | next => exact fun σ2 H2 ok2 => ⟨ρ2, ok2, q⟩
          | cont => exact fun σ2 H2 ok2 => ⟨ρ2, ok2, q⟩
          | brk => exact q
          | ret s => exact q

/-! ### for -/
def sLoop (g : Slot → M Unit) (x : M Fl) : List D → M Fl
  | [] => ret .next
  | d :: ds => bnd (okO (g (.sh d))) fun _ => bnd x fun f => match f with
    | .next => sLoop g x ds
    | .cont => sLoop g x ds
    | .brk => ret .next
    | .ret s => ret (.ret s)
def sFor (mi : M (List D)) (g : Slot → M Unit) (x : M Fl) : M Fl := bnd mi fun ds => sLoop g x ds
theorem PostX.imp {W W' : WX} {x : Exn} (h : PostX K ca c W σ x ρ) (k : ∀ a b d e, W a b d e → W' a b d e) : PostX K ca c W' σ x ρ := fun cl oa H' ok ex => k _ _ _ _ (h cl oa H' ok ex)
theorem grow_tmp {p : Slot × Option V} {d : D} {x : V} (ok : OkT K ca c ρ σ (p :: ts) H) (g : ∀ A, Ok1 K ca c A H (p :: (ts ++ ρ.zip σ)) → Grow K ca A H H' (.sh d) x) : OkT K ca c ρ σ ((.sh d, some x) :: p :: ts) H' := ok.grow g
theorem src_go {J : It} {p : Slot × Option V} {ds : List D} (s : Src K ca J p ds) (ok : OkT K ca c ρ σ (p :: ts) H) :
    (∀ i, i < ds.length → J.go i H ∧ ∀ x H', J.yld i H x H' → ∃ d, ds[i]? = some d ∧ OkT K ca c ρ σ ((.sh d, some x) :: p :: ts) H') ∧ J.stop ds.length H := by
  obtain ⟨h1, h2, A, y⟩ := ok
  obtain ⟨g, st⟩ := s c A H (ts ++ ρ.zip σ) y
  refine ⟨fun i hi => ?_, st⟩
  obtain ⟨g1, g2⟩ := g i hi
  refine ⟨g1, fun x H' hy => ?_⟩
  obtain ⟨d, ed, gr⟩ := g2 x H' hy
  exact ⟨d, ed, h1, h2, y.grow gr⟩
theorem PostS.weak {p : Slot × Option V} {N : Ends} {r : Res Fl} (h : PostS K ca c W ts N r) : PostS K ca c W (p :: ts) N r := by
  cases r with
  | bad => exact h
  | exc x ρ' => exact h
  | ok f ρ' => cases f with
    | next => exact fun σ' H' ok => h σ' H' ok.pop
    | brk => exact fun σ' H' ok => h σ' H' ok.pop
    | cont => exact fun σ' H' ok => h σ' H' ok.pop
    | ret s => exact fun v σ' H' ok => h v σ' H' (ok.ts_sublist ((List.sublist_cons_self _ _).cons₂ _))
theorem sndS_for {gs : List Nat} {wi : TI} {g : TG} {u : TS} {mi : M (List D)} {f : Slot → M Unit} {x : M Fl} (h1 : SndI K ca W wi mi) (h2 : SndG K ca gs g f) (h3 : SndS K ca W u x) : SndS K ca W (tFor wi g u) (sFor mi f x) := by
  refine ⟨fun c ρ σ ts H N ok q => ?_⟩
  refine h1.run c ρ σ ts H _ ok ?_
  unfold sFor bnd at q
  cases e : mi ρ with
  | exc z ρ' => rw [e] at q; exact q σ
  | bad => rw [e] at q; exact q.elim
  | ok ds ρ1 =>
    rw [e] at q
    dsimp only at q
    intro J p H1 src ok1
    refine ⟨fun i m σ H => m = ds.length - i ∧ i ≤ ds.length ∧ ∃ ρ, OkT K ca c ρ σ (p :: ts) H ∧ PostS K ca c W (p :: ts) N (sLoop f x (ds.drop i) ρ), ⟨ds.length, by simp, Nat.zero_le _, ρ1, ok1, PostS.weak q⟩, ?_⟩
    rintro i m σ H ⟨rfl, hi, ρ, ok, q⟩
    obtain ⟨g1, g2⟩ := src_go src ok
    by_cases hlt : i < ds.length
    · obtain ⟨go, yl⟩ := g1 i hlt
      refine .inr ⟨go, fun σ' H' => ∃ ρ, OkT K ca c ρ σ' (p :: ts) H' ∧ PostS K ca c W (p :: ts) N (sLoop f x (ds.drop (i + 1)) ρ), fun σ' H' h => ⟨ds.length - (i + 1), by omega, rfl, hlt, h⟩, fun xv H' hy => ?_⟩
      obtain ⟨d, ed, ok2⟩ := yl xv H' hy
      have e3 : ds.drop i = d :: ds.drop (i + 1) := by
        rw [List.drop_eq_getElem_cons hlt]
        rw [List.getElem?_eq_getElem hlt] at ed
        cases ed
        rfl
      rw [e3] at q
      have q : PostS K ca c W (p :: ts) N (bnd (okO (f (.sh d))) (fun _ => bnd x fun fl => match fl with
        | .next => sLoop f x (ds.drop (i + 1))
        | .cont => sLoop f x (ds.drop (i + 1))
        | .brk => ret .next
        | .ret s => ret (.ret s)) ρ) := q
      refine h2.run c ρ σ (p :: ts) H' (.sh d) xv _ ok2 ?_
      unfold bnd okO at q
      cases e4 : f (.sh d) ρ with
      | exc z ρ' => rw [e4] at q; exact q.elim
      | bad => rw [e4] at q; exact q.elim
      | ok z ρ2 =>
        rw [e4] at q
        dsimp only at q
        intro σ2 H2 ok3 _
        refine h3.run c ρ2 σ2 (p :: ts) H2 _ ok3 ?_
        cases e5 : x ρ2 with
        | exc z ρ' => rw [e5] at q; exact q
        | bad => rw [e5] at q; exact q.elim
        | ok fl ρ3 =>
          rw [e5] at q
          cases fl with
          | next => exact fun σ2 H2 ok2 => ⟨ρ3, ok2, q⟩
          | cont => exact fun σ2 H2 ok2 => ⟨ρ3, ok2, q⟩
          | brk => exact q
          | ret s => exact q
    · have e3 : i = ds.length := by omega
      subst e3
      rw [List.drop_length] at q
      exact .inl ⟨g2, q σ H ok⟩
end
end VL
set_option Elab.async false
set_option linter.all false
set_option maxRecDepth 100000
/-! VL5: what is walked; comprehensions. -/
namespace VL
open PySem PySem.Spec PyProof.Rows L2
section
variable {K : PySem.W.Frag} {ca : Str → Addr} {c : Ctx} {A : List Addr} {H H' : Hp} {l : Ls} {ρ : Env} {σ : St'} {ts : Ls} {W : WX}
/-! ### what is walked -/
def iSeq (K : PySem.W.Frag) (tl : TE) : TI := fun σ H R => tl σ H fun x H1 => ∃ a, x = .ref a ∧ (((∃ xs, SqL K H1 a xs) ∧ R (Itl K a) H1) ∨ ((∃ xs, SqT K H1 a xs) ∧ R (Itt K a) H1))
theorem pi_seq {X : Cx} {tg l : Expr} {tl : TE} (hl : PE X l tl) : PI X tg l (iSeq X.K tl) := by
  refine ⟨fun pins s σ H R I h => ?_⟩
  refine thn (hl.run pins s σ H _ I h) fun v s1 ⟨x, H1, I1, r1, q1⟩ => ?_
  obtain ⟨a, e, q⟩ := q1
  subst e
  cases r1
  rcases q with ⟨⟨xs, hq⟩, q⟩ | ⟨⟨xs, hq⟩, q⟩
  · obtain ⟨its, rv, p, hz⟩ := I1.list hq
    refine wpAny_pyIter_list p.isList ?_
    refine ⟨s1.heap.objs.size, [s1.heap.objs.size], _, _, H1, rfl, I1.kept (t' := s1.toks) fun b o e => Heap.get?_push_of_some _ e, turn_list a _, ⟨_, Heap.get?_push_size _ rfl, rfl, rfl⟩, fun b hb => ?_, q⟩
    have e : b = s1.heap.objs.size := by simpa using hb
    subst e
    exact I1.fpOk (Nat.le_refl _) (I1.hok.fresh (Nat.le_refl _))
  · obtain ⟨its, rv, p, hz⟩ := I1.tuple hq
    refine wpAny_pyIter_tuple (show s1.heap.IsTuple a its.toArray from p) ?_
    refine ⟨s1.heap.objs.size, [s1.heap.objs.size], _, _, H1, rfl, I1.kept (t' := s1.toks) fun b o e => Heap.get?_push_of_some _ e, turn_tuple a _, ⟨_, Heap.get?_push_size _ rfl, rfl, rfl⟩, fun b hb => ?_, q⟩
    have e : b = s1.heap.objs.size := by simpa using hb
    subst e
    exact I1.fpOk (Nat.le_refl _) (I1.hok.fresh (Nat.le_refl _))
def items : D → M (List D)
  | .lst ds => ret ds
  | .tup ds => ret ds
  | .kt ds => ret ds
  | .ft ds => ret ds
  | _ => fun _ => .bad
def mSeq (m : M Slot) : M (List D) := bnd m fun s => bnd (take (.tmp s)) items
theorem sndI_seq {t : TE} {m : M Slot} (h : Snd K ca W t m) : SndI K ca W (iSeq K t) (mSeq m) := by
  refine ⟨fun c ρ σ ts H R ok q => ?_⟩
  refine h.run c ρ σ ts H _ ok ?_
  unfold mSeq bnd at q
  cases e : m ρ with
  | exc x ρ' => rw [e] at q; exact q
  | bad => rw [e] at q; exact q.elim
  | ok s ρ1 =>
    rw [e] at q
    dsimp only at q
    intro v H1 ok1
    cases e2 : take (.tmp s) ρ1 with
    | exc x ρ' => cases s <;> cases e2
    | bad => rw [e2] at q; exact q.elim
    | ok d ρ2 =>
      rw [e2] at q
      dsimp only at q
      have ok2 := take_ok (o := .tmp s) (v := v) ok1 trivial e2
      obtain ⟨A0, r0⟩ := head_sh ok2
      cases d with
      | lst ds =>
        obtain ⟨a, vs, rfl, n, rd, rs⟩ := r0
        refine ⟨a, rfl, .inl ⟨⟨vs, .inl (.inl rd)⟩, q _ _ H1 (fun c A H l x => ?_) ok2⟩⟩
        obtain ⟨w, e1, r⟩ := x.slots _ List.mem_cons_self
        cases e1
        obtain ⟨a', vs', e1, _, rd, rs⟩ := r
        cases e1
        refine ⟨fun i hi => ?_, ⟨vs', .inl (.inl rd), Nat.le_of_eq rs.length⟩⟩
        obtain ⟨w, hw, rw'⟩ := rs.get (List.getElem?_eq_getElem hi)
        refine ⟨⟨vs', w, .inl (.inl rd), hw⟩, fun x H' hy => ?_⟩
        obtain ⟨rfl, hy⟩ := hy
        have := hy vs' (.inl (.inl rd))
        rw [hw] at this
        cases this
        exact ⟨_, List.getElem?_eq_getElem hi, .inl ⟨rfl, _, rfl, rw'⟩⟩
      | tup ds =>
        obtain ⟨a, vs, rfl, n, rd, rs⟩ := r0
        have rd : SqT K H1 a vs := SqT.of rd
        refine ⟨a, rfl, .inr ⟨⟨vs, rd⟩, q _ _ H1 (fun c A H l x => ?_) ok2⟩⟩
        obtain ⟨w, e1, r⟩ := x.slots _ List.mem_cons_self
        cases e1
        obtain ⟨a', vs', e1, n, rd, rs⟩ := r
        cases e1
        have rd : SqT K H a vs' := SqT.of rd
        refine ⟨fun i hi => ?_, ⟨vs', rd, Nat.le_of_eq rs.length⟩⟩
        obtain ⟨w, hw, rw'⟩ := rs.get (List.getElem?_eq_getElem hi)
        refine ⟨⟨vs', w, rd, hw⟩, fun x H' hy => ?_⟩
        obtain ⟨rfl, hy⟩ := hy
        have := hy vs' rd
        rw [hw] at this
        cases this
        exact ⟨_, List.getElem?_eq_getElem hi, .inl ⟨rfl, _, rfl, rw'⟩⟩
      | kt ds =>
        obtain ⟨a, vs, rfl, rd, rs⟩ := r0
        have rd : SqT K H1 a vs := .inr rd
        refine ⟨a, rfl, .inr ⟨⟨vs, rd⟩, q _ _ H1 (fun c A H l x => ?_) ok2⟩⟩
        obtain ⟨w, e1, r⟩ := x.slots _ List.mem_cons_self
        cases e1
        obtain ⟨a', vs', e1, rd, rs⟩ := r
        cases e1
        have rd : SqT K H a vs' := .inr rd
        refine ⟨fun i hi => ?_, ⟨vs', rd, Nat.le_of_eq rs.length⟩⟩
        obtain ⟨w, hw, rw'⟩ := rs.get (List.getElem?_eq_getElem hi)
        refine ⟨⟨vs', w, rd, hw⟩, fun x H' hy => ?_⟩
        obtain ⟨rfl, hy⟩ := hy
        have := hy vs' rd
        rw [hw] at this
        cases this
        exact ⟨_, List.getElem?_eq_getElem hi, .inl ⟨rfl, _, rfl, rw'⟩⟩
      | ft ds =>
        obtain ⟨a, vs, o, rfl, _, rd, _, rs⟩ := r0
        have rd : SqT K H1 a vs := .inl (.inr ⟨o, rd⟩)
        refine ⟨a, rfl, .inr ⟨⟨vs, rd⟩, q _ _ H1 (fun c A H l x => ?_) ok2⟩⟩
        obtain ⟨w, e1, r⟩ := x.slots _ List.mem_cons_self
        cases e1
        obtain ⟨a', vs', o', e1, _, rd, _, rs⟩ := r
        cases e1
        have rd : SqT K H a vs' := .inl (.inr ⟨o', rd⟩)
        refine ⟨fun i hi => ?_, ⟨vs', rd, Nat.le_of_eq rs.length⟩⟩
        obtain ⟨w, hw, rw'⟩ := rs.get (List.getElem?_eq_getElem hi)
        refine ⟨⟨vs', w, rd, hw⟩, fun x H' hy => ?_⟩
        obtain ⟨rfl, hy⟩ := hy
        have := hy vs' rd
        rw [hw] at this
        cases this
        exact ⟨_, List.getElem?_eq_getElem hi, .inl ⟨rfl, _, rfl, rw'⟩⟩
      | _ => exact q.elim
def rng (lo : Int) (n : Nat) : List D := (List.range n).map fun i => .int (lo + (i : Nat))
theorem rng_len {lo : Int} {n : Nat} : (rng lo n).length = n := by simp [rng]
theorem rng_get {lo : Int} {n i : Nat} (h : i < n) : (rng lo n)[i]? = some (.int (lo + i)) := by simp [rng, h]
theorem src_rng {lo : Int} {n : Nat} : Src K ca (Itr lo n) (.un, none) (rng lo n) := fun c A H l x => ⟨fun i hi => by
    rw [rng_len] at hi
    refine ⟨hi, fun x H' hy => ?_⟩
    obtain ⟨rfl, rfl⟩ := hy
    exact ⟨_, rng_get hi, .inl ⟨rfl, _, rfl, rfl⟩⟩, by rw [rng_len]; exact Nat.le_refl _⟩
theorem push_un (ok : OkT K ca c ρ σ ts H) : OkT K ca c ρ σ ((.un, none) :: ts) H := by
  obtain ⟨h1, h2, A, x⟩ := ok
  refine ⟨h1, h2, A, ⟨fun q hq => ?_, ?_, x.sub, x.bsub, x.old, x.live, x.frame⟩⟩
  · rcases List.mem_cons.mp hq with rfl | hq
    · trivial
    · exact x.slots q hq
  · show (List.filterMap ownA ((Slot.un, (none : Option V)) :: (ts ++ ρ.zip σ))).Nodup
    rw [List.filterMap_cons]; exact x.nodup
def small (i : Int) : Bool := Nat.ble i.natAbs 4611686018427387903
theorem small_of {i : Int} (h : small i = true) : -(2 ^ 62) ≤ i ∧ i < 2 ^ 62 := by
  have h1 := Nat.le_of_ble_eq_true h
  constructor <;> omega
theorem small_le {i : Int} (h : i.natAbs ≤ 4611686018427387903) : small i = true := Nat.ble_eq_true_of_le h
def rng1 : List D → M (List D)
  | [.int j] => chk (small j) (ret (rng 0 j.toNat))
  | _ => fun _ => .bad
def rng2 : List D → M (List D)
  | [.int i, .int j] => chk (small i && small j) (ret (rng i (j - i).toNat))
  | _ => fun _ => .bad
def mArgs (m : M (List Opnd)) (k : List D → M (List D)) : M (List D) := bnd m fun os => fun ρ => match looks ρ os with
  | some ds => k ds ρ
  | none => .bad
theorem pk1 {d : D} {vs : List V} (h : Peeks K ca H A [d] vs) : ∃ v, vs = [v] ∧ Peek K ca H A d v := by
  obtain ⟨v, r, rfl, h1, h2⟩ := h
  cases (show _ = _ from h2)
  exact ⟨v, rfl, h1⟩
theorem pk2 {d e : D} {vs : List V} (h : Peeks K ca H A [d, e] vs) : ∃ v w, vs = [v, w] ∧ Peek K ca H A d v ∧ Peek K ca H A e w := by
  obtain ⟨v, r, rfl, h1, h2⟩ := h
  obtain ⟨w, rfl, h3⟩ := pk1 h2
  exact ⟨v, w, rfl, h1, h3⟩
theorem pk3 {d e f : D} {vs : List V} (h : Peeks K ca H A [d, e, f] vs) : ∃ v w z, vs = [v, w, z] ∧ Peek K ca H A d v ∧ Peek K ca H A e w ∧ Peek K ca H A f z := by
  obtain ⟨v, r, rfl, h1, h2⟩ := h
  obtain ⟨w, z, rfl, h3, h4⟩ := pk2 h2
  exact ⟨v, w, z, rfl, h1, h3, h4⟩
theorem sndI_args {t : TA} {ms : M (List Opnd)} {k : List D → M (List D)} {wi : TI} (h : SndA K ca W t ms)
    (hw : ∀ σ H R, (t σ H fun vs H1 => ∀ (ds : List D) A, Peeks K ca H1 A ds vs → (∀ (ρ : Env) c ts, OkT K ca c ρ σ ts H1 → PostI K ca c W σ ts R (k ds ρ) → wi σ H R)) → True) : True := trivial
theorem args_go {t : TA} {ms : M (List Opnd)} {k : List D → M (List D)} (h : SndA K ca W t ms) {c : Ctx} {R : It → Hp → Prop} {Q : List V → Hp → Prop} (ok : OkT K ca c ρ σ ts H) (q : PostI K ca c W σ ts R (mArgs ms k ρ))
    (go : ∀ vs H1 ds A ρ1, Peeks K ca H1 A ds vs → OkT K ca c ρ1 σ ts H1 → PostI K ca c W σ ts R (k ds ρ1) → Q vs H1) : t σ H Q := by
  refine h.run c ρ σ ts H _ ok ?_
  unfold mArgs bnd at q
  cases e : ms ρ with
  | exc x ρ' => rw [e] at q; exact q
  | bad => rw [e] at q; exact q.elim
  | ok os ρ1 =>
    rw [e] at q
    dsimp only at q
    intro vs H1 om ok1
    cases e1 : looks ρ1 os with
    | none => rw [e1] at q; exact q.elim
    | some ds =>
      rw [e1] at q
      have ok2 : OkT K ca c ρ1 σ ts H1 := ok1.ts_sublist (List.sublist_append_right _ _)
      obtain ⟨_, _, A, x⟩ := ok1
      exact go vs H1 ds A ρ1 (peeks_of x (fun p q => List.mem_append_left _ (List.mem_append_left _ q)) (fun p q => List.mem_append_right _ q) om e1) ok2 q
theorem sndI_rng1 {t : TA} {ms : M (List Opnd)} (h : SndA K ca W t ms) : SndI K ca W (iRng1 t) (mArgs ms rng1) := by
  refine ⟨fun c ρ σ ts H R ok q => ?_⟩
  refine args_go h ok q fun vs H1 ds A ρ1 pk ok1 q => ?_
  match ds, q, pk with
  | [], q, _ => exact q.elim
  | x :: _ :: _, q, _ => cases x <;> exact q.elim
  | [d], q, pk =>
    obtain ⟨v, rfl, pv⟩ := pk1 pk
    cases d with
    | int j =>
      have q : PostI K ca c W σ ts R (chk (small j) (ret (rng 0 j.toNat)) ρ1) := q
      unfold chk at q
      by_cases hs : small j = true
      · rw [if_pos hs] at q
        obtain ⟨s1, s2⟩ := small_of hs
        exact ⟨j, by rw [pv.int], s1, s2, q _ _ H1 src_rng (push_un ok1)⟩
      · rw [if_neg hs] at q; exact q.elim
    | _ => exact q.elim
theorem sndI_rng2 {t : TA} {ms : M (List Opnd)} (h : SndA K ca W t ms) : SndI K ca W (iRng2 t) (mArgs ms rng2) := by
  refine ⟨fun c ρ σ ts H R ok q => ?_⟩
  refine args_go h ok q fun vs H1 ds A ρ1 pk ok1 q => ?_
  unfold rng2 at q
  split at q
  · rename_i i j
    obtain ⟨v, w, rfl, pv, pw⟩ := pk2 pk
    unfold chk at q
    by_cases hs : (small i && small j) = true
    · rw [if_pos hs] at q
      rw [Bool.and_eq_true] at hs
      obtain ⟨s1, s2⟩ := small_of hs.1
      obtain ⟨s3, s4⟩ := small_of hs.2
      exact ⟨i, j, by rw [pv.int, pw.int], ⟨s1, s2, s3, s4⟩, q _ _ H1 src_rng (push_un ok1)⟩
    · rw [if_neg hs] at q; exact q.elim
  · exact q.elim

/-! ### a block's own slots, put aside -/
def hideS (ρ : Env) : List Nat → Env
  | [] => ρ
  | i :: r => (hideS ρ r).set i .un
def unhideS (ρ0 : Env) : List Nat → Env → Env
  | [], ρ => ρ
  | i :: r, ρ => unhideS ρ0 r (ρ.set i (ρ0.getD i .un))
def saved (ρ : Env) (σ : St') : List Nat → Ls
  | [] => []
  | i :: r => (ρ.getD i .un, (σ[i]?).getD none) :: saved ρ σ r
def free (ρ : Env) : List Nat → Bool
  | [] => true
  | i :: r => (match ρ[i]? with
    | some (.br _) => false
    | none => false
    | some _ => true) && (!r.contains i && free ρ r)
theorem hideS_out {vs : List Nat} {i : Nat} (h : i ∉ vs) : (hideS ρ vs)[i]? = ρ[i]? := by
  induction vs with
  | nil => rfl
  | cons j r ih =>
    have h1 : i ≠ j := fun z => h (z ▸ List.mem_cons_self)
    have h2 : i ∉ r := fun z => h (List.mem_cons_of_mem _ z)
    unfold hideS
    rw [List.getElem?_set_ne (Ne.symm h1)]
    exact ih h2
theorem free_cons {i : Nat} {r : List Nat} (h : free ρ (i :: r) = true) : (∃ s, ρ[i]? = some s ∧ isBr s = false) ∧ i ∉ r ∧ free ρ r = true := by
  unfold free at h
  rw [Bool.and_eq_true, Bool.and_eq_true] at h
  obtain ⟨h1, h2, h3⟩ := h
  refine ⟨?_, by simpa using h2, h3⟩
  cases e : ρ[i]? with
  | none => rw [e] at h1; cases h1
  | some s =>
    rw [e] at h1
    cases s with
    | br d => cases h1
    | un => exact ⟨_, rfl, rfl⟩
    | sh d => exact ⟨_, rfl, rfl⟩
    | ow d => exact ⟨_, rfl, rfl⟩
/-- slot i goes to the temporaries -/
theorem OkT.hide1 {i : Nat} {s : Slot} {o : Option V} (ok : OkT K ca c ρ σ ts H) (e : ρ[i]? = some s) (eo : σ[i]? = some o) (hb : isBr s = false) : OkT K ca c (ρ.set i .un) (σ.set i none) ((s, o) :: ts) H := by
  obtain ⟨h1, h2, A, x⟩ := ok
  refine ⟨by simpa using h1, fun p hp => ?_, A, ?_⟩
  · obtain ⟨q1, d, q2⟩ := h2 p hp
    have hi : p.1 ≠ i := fun z => by
      rw [z, e] at q2
      cases q2
      cases hb
    exact ⟨by rw [List.getElem?_set_ne (Ne.symm hi)]; exact q1, d, by rw [List.getElem?_set_ne (Ne.symm hi)]; exact q2⟩
  · have y : Ok1 K ca c A H ((.un, none) :: (s, o) :: rst ρ σ ts i) := by
      have x' := x.perm (focus e eo)
      refine ⟨fun q hq => ?_, ?_, x.sub, x.bsub, x.old, x.live, x.frame⟩
      · rcases List.mem_cons.mp hq with rfl | hq
        · trivial
        · exact x'.slots q hq
      · show (List.filterMap ownA ((Slot.un, (none : Option V)) :: (s, o) :: rst ρ σ ts i)).Nodup
        rw [List.filterMap_cons]; exact x'.nodup
    exact (y.perm (List.Perm.swap _ _ _)).perm ((unfocus2 (ts := ts) (s' := Slot.un) (v := none) e eo).symm.cons _)
/-- .. and back -/
theorem OkT.show1 {i : Nat} {s s0 : Slot} {o o0 : Option V} (ok : OkT K ca c ρ σ ((s, o) :: ts) H) (e : ρ[i]? = some s0) (eo : σ[i]? = some o0) (hb0 : isBr s0 = false) : OkT K ca c (ρ.set i s) (σ.set i o) ts H := by
  obtain ⟨h1, h2, A, x⟩ := ok
  refine ⟨by simpa using h1, fun p hp => ?_, A, ?_⟩
  · obtain ⟨q1, d, q2⟩ := h2 p hp
    have hi : p.1 ≠ i := fun z => by
      rw [z, e] at q2
      cases q2
      cases hb0
    exact ⟨by rw [List.getElem?_set_ne (Ne.symm hi)]; exact q1, d, by rw [List.getElem?_set_ne (Ne.symm hi)]; exact q2⟩
  · have h4 : Ok1 K ca c A H ((s, o) :: (s0, o0) :: rst ρ σ ts i) := x.perm ((focus e eo).cons _)
    exact (h4.sublist ((List.sublist_cons_self _ _).cons₂ _)).perm (unfocus2 e eo).symm
theorem getD_of {i : Nat} {s : Slot} (e : ρ[i]? = some s) : ρ.getD i .un = s := by
  rw [List.getD_eq_getElem?_getD, e]; rfl
theorem hide_ok : ∀ {vs : List Nat}, free ρ vs = true → OkT K ca c ρ σ ts H → OkT K ca c (hideS ρ vs) (wipe σ vs) (saved ρ σ vs ++ ts) H
  | [], _, ok => ok
  | i :: r, h, ok => by
    obtain ⟨⟨s, e, hb⟩, hi, h'⟩ := free_cons h
    have ih := hide_ok h' ok
    obtain ⟨o, eo⟩ := st_get ok.1 e
    have q := ih.hide1 (i := i) ((hideS_out hi).trans e) ((wipe_out hi).trans eo) hb
    have e2 : saved ρ σ (i :: r) = (s, o) :: saved ρ σ r := by
      show (ρ.getD i .un, (σ[i]?).getD none) :: _ = _
      rw [getD_of e, eo]
      rfl
    rw [e2]
    exact q
theorem set_get {α : Type} {l : List α} {i : Nat} {x : α} (h : l[i]? = some x) : l.set i x = l := by
  obtain ⟨hi, rfl⟩ := List.getElem?_eq_some_iff.mp h
  exact List.set_getElem_self hi
theorem unhide_ok {ρ0 : Env} : ∀ {vs : List Nat} {ρ : Env}, free ρ0 vs = true → free ρ vs = true → σ.length = ρ0.length → OkT K ca c ρ (wipe σ vs) (saved ρ0 σ vs ++ ts) H → OkT K ca c (unhideS ρ0 vs ρ) σ ts H
  | [], _, _, _, _, ok => ok
  | i :: r, ρ, h0, h, hl, ok => by
    obtain ⟨⟨s0, e0, hb0⟩, hi, h0'⟩ := free_cons h0
    obtain ⟨⟨s, e, hb⟩, hi2, h'⟩ := free_cons h
    clear hi2
    obtain ⟨o, eo⟩ := st_get hl.symm e0
    have e2 : saved ρ0 σ (i :: r) = (s0, o) :: saved ρ0 σ r := by
      show (ρ0.getD i .un, (σ[i]?).getD none) :: _ = _
      rw [getD_of e0, eo]
      rfl
    rw [e2] at ok
    have hw : (wipe σ r)[i]? = some o := (wipe_out hi).trans eo
    have hil : i < (wipe σ r).length := (List.getElem?_eq_some_iff.mp hw).1
    have q := OkT.show1 (i := i) (o0 := none) (ts := saved ρ0 σ r ++ ts) ok e (by
      show ((wipe σ r).set i none)[i]? = _
      rw [List.getElem?_set_self hil]) hb
    have e3 : (wipe σ (i :: r)).set i o = wipe σ r := by
      show ((wipe σ r).set i none).set i o = _
      rw [List.set_set, set_get hw]
    rw [e3] at q
    unfold unhideS
    rw [getD_of e0]
    refine unhide_ok h0' ?_ hl q
    clear q e3 hw hil e2 ok
    revert h' hi
    clear h0 h0' h
    induction r with
    | nil => intro _ _; rfl
    | cons j r ih =>
      intro hi hf
      obtain ⟨⟨s1, e1, hb1⟩, hj, hf'⟩ := free_cons hf
      have hij : i ≠ j := fun z => hi (z ▸ List.mem_cons_self)
      have q := ih (fun z => hi (List.mem_cons_of_mem _ z)) hf'
      unfold free
      rw [List.getElem?_set_ne hij, e1, q]
      have hc : r.contains j = false := by simpa using hj
      rw [hc]
      cases s1 with
      | br d => cases hb1
      | _ => rfl
theorem wipe_in {j : Nat} : ∀ {vs : List Nat}, j ∈ vs → j < σ.length → (wipe σ vs)[j]? = some none
  | [], h, _ => by cases h
  | v :: vs, h, hl => by
    unfold wipe
    by_cases e : v = j
    · subst e
      rw [List.getElem?_set_self (by rw [wipe_length]; exact hl)]
    · rw [List.getElem?_set_ne e]
      exact wipe_in ((List.mem_cons.mp h).resolve_left fun z => e z.symm) hl
theorem wipe_agr {gs vs : List Nat} {σ2 : St'} (a : Agr gs (wipe σ vs) σ2) (hg : ∀ j ∈ gs, j ∈ vs) : wipe σ2 vs = wipe σ vs := by
  obtain ⟨h1, h2⟩ := a
  rw [wipe_length] at h1
  refine List.ext_getElem? fun j => ?_
  by_cases hj : j ∈ vs
  · by_cases hl : j < σ.length
    · rw [wipe_in hj hl, wipe_in hj (by omega)]
    · rw [List.getElem?_eq_none (by rw [wipe_length]; omega), List.getElem?_eq_none (by rw [wipe_length]; omega)]
  · rw [wipe_out hj, h2 j fun z => hj (hg j z), wipe_out hj]

/-! ### the turns of a comprehension -/
def hideM (vs : List Nat) {α : Type} (m : M α) : M α := fun ρ => if free ρ vs then m (hideS ρ vs) else .bad
def lcLoop (vs : List Nat) (g : Slot → M Unit) (mt : M Bool) (me : M Slot) : List D → List D → M (List D)
  | [], acc => ret acc
  | d :: ds, acc => bnd (g (.sh d)) fun _ => bnd mt fun b => if b then bnd me fun s => bnd (take (.tmp s)) fun e => chk (decide (acc.length < lim)) (hideM vs (lcLoop vs g mt me ds (acc ++ [e])))
    else hideM vs (lcLoop vs g mt me ds acc)
abbrev W0 : WX := fun _ _ _ _ => False
/-- the list at D is made longer -/
theorem acc_put {acc : List D} {D' : Addr} {e : D} {y : V} (ok : OkT K ca c ρ σ ((.sh e, some y) :: (.ow (.lst acc), some (.ref D')) :: ts) H) :
    ∃ vs, H D' = some (.lst vs) ∧ vs.length = acc.length ∧ OkT K ca c ρ σ ((.ow (.lst (acc ++ [e])), some (.ref D')) :: ts) (upd H D' (.lst (vs ++ [y]))) := by
  obtain ⟨h1, h2, A, x⟩ := ok
  obtain ⟨w, ew, r⟩ := x.slots _ List.mem_cons_self
  cases ew
  have x2 : Ok1 K ca c A H ((.ow (.lst acc), some (.ref D')) :: (ts ++ ρ.zip σ)) := x.sublist (List.sublist_cons_self _ _)
  obtain ⟨a, u, ea, _, _, ho, vs, rfl, rs⟩ := x2.slots _ List.mem_cons_self
  cases ea
  refine ⟨vs, ho, rs.length, h1, h2, A, x2.put (d' := .lst (acc ++ [e])) rfl (.inl ⟨_, rfl, rfl⟩) ⟨_, rfl, rs.append ⟨y, [], rfl, r, rfl⟩⟩⟩
theorem lc_turns {gs vs : List Nat} {g : TG} {tt : TT} {te : TE} {f : Slot → M Unit} {mt : M Bool} {me : M Slot} (hgs : ∀ j ∈ gs, j ∈ vs) (h2 : SndG K ca gs g f) (h3 : SndT K ca W0 tt mt) (h4 : Snd K ca W0 te me)
    {J : It} {p : Slot × Option V} {ds acc0 acc' : List D} {ρ0 ρ' : Env} {D' : Addr} {Kont : Hp → Prop} (src : Src K ca J p ds)
    (ok : OkT K ca c ρ0 (wipe σ vs) (p :: (.ow (.lst acc0), some (.ref D')) :: ts) H) (run : lcLoop vs f mt me ds acc0 ρ0 = .ok acc' ρ')
    (kont : ∀ H', OkT K ca c ρ' (wipe σ vs) (p :: (.ow (.lst acc'), some (.ref D')) :: ts) H' → Kont H') :
    ∃ W : Nat → Nat → Hp → Prop, (∃ m, W 0 m H) ∧ ∀ i m H, W i m H → (J.stop i H ∧ Kont H) ∨ (J.go i H ∧ ∃ Nx : Hp → Prop, (∀ H', Nx H' → ∃ m', m' < m ∧ W (i + 1) m' H') ∧ ∀ x H', J.yld i H x H' →
      g x (wipe σ vs) H' fun σ2 H2 => wipe σ2 vs = wipe σ vs ∧ tt σ2 H2 fun b H3 => if b = true then te σ2 H3 fun y H4 => ∃ acc, H4 D' = some (.lst acc) ∧ acc.length < sizeLine ∧ Nx (upd H4 D' (.lst (acc ++ [y]))) else Nx H3) := by
  refine ⟨fun i m H => m = ds.length - i ∧ i ≤ ds.length ∧ ∃ ρ acc, OkT K ca c ρ (wipe σ vs) (p :: (.ow (.lst acc), some (.ref D')) :: ts) H ∧ lcLoop vs f mt me (ds.drop i) acc ρ = .ok acc' ρ', ⟨ds.length, by simp, Nat.zero_le _, ρ0, acc0, ok, run⟩, ?_⟩
  rintro i m H ⟨rfl, hi, ρ, acc, ok, q⟩
  obtain ⟨g1, g2⟩ := src_go src ok
  by_cases hlt : i < ds.length
  · obtain ⟨go, yl⟩ := g1 i hlt
    refine .inr ⟨go, fun H' => ∃ ρ acc, OkT K ca c ρ (wipe σ vs) (p :: (.ow (.lst acc), some (.ref D')) :: ts) H' ∧ lcLoop vs f mt me (ds.drop (i + 1)) acc ρ = .ok acc' ρ', fun H' h => ⟨ds.length - (i + 1), by omega, rfl, hlt, h⟩, fun xv H' hy => ?_⟩
    obtain ⟨d, ed, ok2⟩ := yl xv H' hy
    have e3 : ds.drop i = d :: ds.drop (i + 1) := by
      rw [List.drop_eq_getElem_cons hlt]
      rw [List.getElem?_eq_getElem hlt] at ed
      cases ed
      rfl
    rw [e3] at q
    have q : bnd (f (.sh d)) (fun _ => bnd mt fun b => if b then bnd me fun s => bnd (take (.tmp s)) fun e => chk (decide (acc.length < lim)) (hideM vs (lcLoop vs f mt me (ds.drop (i + 1)) (acc ++ [e])))
      else hideM vs (lcLoop vs f mt me (ds.drop (i + 1)) acc)) ρ = .ok acc' ρ' := q
    refine h2.run c ρ (wipe σ vs) (p :: (.ow (.lst acc), some (.ref D')) :: ts) H' (.sh d) xv _ ok2 ?_
    unfold bnd at q
    cases e4 : f (.sh d) ρ with
    | exc z ρ' => rw [e4] at q; cases q
    | bad => rw [e4] at q; cases q
    | ok z ρ2 =>
      rw [e4] at q
      dsimp only at q
      intro σ2 H2 ok3 ag
      have ew := wipe_agr ag hgs
      have back : ∀ {ρ3 : Env} {H3 : Hp} {acc1 : List D}, OkT K ca c ρ3 σ2 (p :: (.ow (.lst acc1), some (.ref D')) :: ts) H3 → hideM vs (lcLoop vs f mt me (ds.drop (i + 1)) acc1) ρ3 = .ok acc' ρ' →
          ∃ ρ acc, OkT K ca c ρ (wipe σ vs) (p :: (.ow (.lst acc), some (.ref D')) :: ts) H3 ∧ lcLoop vs f mt me (ds.drop (i + 1)) acc ρ = .ok acc' ρ' := fun {ρ3 H3 acc1} ok4 q4 => by
        unfold hideM at q4
        by_cases hf : free ρ3 vs = true
        · rw [if_pos hf] at q4
          have ok5 := hide_ok hf ok4
          rw [ew] at ok5
          exact ⟨_, acc1, ok5.ts_sublist (List.sublist_append_right _ _), q4⟩
        · rw [if_neg hf] at q4; cases q4
      refine ⟨ew, h3.run c ρ2 σ2 _ H2 _ ok3 ?_⟩
      cases e5 : mt ρ2 with
      | exc z ρ' => rw [e5] at q; cases q
      | bad => rw [e5] at q; cases q
      | ok b ρ3 =>
        rw [e5] at q
        dsimp only at q
        intro H3 ok4
        cases b with
        | false =>
          rw [if_neg Bool.false_ne_true] at q ⊢
          exact back ok4 q
        | true =>
          rw [if_pos rfl] at q ⊢
          refine h4.run c ρ3 σ2 _ H3 _ ok4 ?_
          cases e6 : me ρ3 with
          | exc z ρ' => rw [e6] at q; cases q
          | bad => rw [e6] at q; cases q
          | ok s ρ4 =>
            rw [e6] at q
            dsimp only at q
            intro y H4 ok5
            cases e7 : take (.tmp s) ρ4 with
            | exc z ρ' => cases s <;> cases e7
            | bad => rw [e7] at q; cases q
            | ok e ρ5 =>
              rw [e7] at q
              dsimp only at q
              unfold chk at q
              by_cases hz : acc.length < lim
              · rw [decide_eq_true hz, if_pos rfl] at q
                have ok6 := take_ok (o := .tmp s) (v := y) ok5 trivial e7
                have ok7 : OkT K ca c ρ5 σ2 ((.sh e, some y) :: (.ow (.lst acc), some (.ref D')) :: p :: ts) H4 := ok6.ts_perm (List.Perm.cons _ (List.Perm.swap _ _ _))
                obtain ⟨vs', hv, hl, ok8⟩ := acc_put ok7
                refine ⟨vs', hv, by have := lim_lt; omega, back (ok8.ts_perm (List.Perm.swap _ _ _)) q⟩
              · rw [decide_eq_false hz] at q; cases q
  · have e3 : i = ds.length := by omega
    subst e3
    rw [List.drop_length] at q
    cases q
    exact .inl ⟨g2, kont H ok⟩
def mLc (vs : List Nat) (mi : M (List D)) (g : Slot → M Unit) (mt : M Bool) (me : M Slot) : M Slot := bnd mi fun ds => fun ρ => if free ρ vs then match lcLoop vs g mt me ds [] (hideS ρ vs) with
    | .ok acc ρ' => if free ρ' vs then .ok (.ow (.lst acc)) (unhideS ρ vs ρ') else .bad
    | _ => .bad
  else .bad
theorem push_new {D' : Addr} (ok : OkT K ca c ρ σ ts H) (n : H D' = none) : OkT K ca c ρ σ ((.ow (.lst []), some (.ref D')) :: ts) (upd H D' (.lst [])) := ok.grow fun A _ => .inr ⟨D', _, n, rfl, rfl, .inl ⟨_, rfl, [], rfl, rfl⟩⟩
theorem snd_lc {gs vs : List Nat} {wi : TI} {g : TG} {tt : TT} {te : TE} {mi : M (List D)} {f : Slot → M Unit} {mt : M Bool} {me : M Slot} (hgs : ∀ j ∈ gs, j ∈ vs) (h1 : SndI K ca W wi mi) (h2 : SndG K ca gs g f) (h3 : SndT K ca W0 tt mt) (h4 : Snd K ca W0 te me) :
    Snd K ca W (tLc wi g tt te vs) (mLc vs mi f mt me) := by
  refine ⟨fun c ρ σ ts H Q ok q => ?_⟩
  refine h1.run c ρ σ ts H _ ok ?_
  unfold mLc bnd at q
  cases e : mi ρ with
  | exc x ρ' => rw [e] at q; exact q
  | bad => rw [e] at q; exact q.elim
  | ok ds ρ1 =>
    rw [e] at q
    dsimp only at q
    intro J p H1 src ok1 D' nD
    by_cases hf : free ρ1 vs = true
    · rw [if_pos hf] at q
      cases e2 : lcLoop vs f mt me ds [] (hideS ρ1 vs) with
      | exc x ρ' => rw [e2] at q; exact q.elim
      | bad => rw [e2] at q; exact q.elim
      | ok acc ρ2 =>
        rw [e2] at q
        dsimp only at q
        by_cases hf2 : free ρ2 vs = true
        · rw [if_pos hf2] at q
          have ok2 := hide_ok hf (push_new ok1 nD)
          have ok3 : OkT K ca c (hideS ρ1 vs) (wipe σ vs) (p :: (.ow (.lst []), some (.ref D')) :: (saved ρ1 σ vs ++ ts)) (upd H1 D' (.lst [])) := by
            refine ok2.ts_perm ?_
            exact (List.perm_middle.trans (List.perm_middle.cons _)).trans (List.Perm.swap _ _ _)
          refine lc_turns hgs h2 h3 h4 src ok3 e2 fun H' ok4 => q _ H' ?_
          have hl : σ.length = ρ1.length := ok1.1.symm
          have ok5 : OkT K ca c ρ2 (wipe σ vs) (saved ρ1 σ vs ++ ((.ow (.lst acc), some (.ref D')) :: ts)) H' := by
            refine (ok4.pop).ts_perm ?_
            exact List.perm_middle.symm
          exact unhide_ok hf hf2 hl ok5
        · rw [if_neg hf2] at q; exact q.elim
    · rw [if_neg hf] at q; exact q.elim
end
end VL
set_option Elab.async false
set_option linter.all false
set_option maxRecDepth 100000
/-! VL6: a def's promise at value level, calls, methods, instances made, fields. -/
namespace VL
open PySem PySem.Spec PyProof.Rows L2
inductive FR | ok (s : Slot) (d : D) | exc (x : Exn) (d : D) | bad
section
variable (K : PySem.W.Frag) (ca : Str → Addr)
def Kept (ra : Option Addr) (H H' : Hp) : Prop := ∀ b o, H b = some o → ra ≠ some b → H' b = some o
def RetOk (A : List Addr) (H H' : Hp) : Slot → V → Prop
  | .sh d, v => Rep K ca H' A d v
  | .ow d, v => ∃ p u, v = .ref p ∧ H p = none ∧ H' p = some u ∧ Cont K ca H' (p :: A) d u
  | _, _ => False
def RefOk (A : List Addr) (H' : Hp) (ra : Option Addr) (d : D) : Prop := ∀ a, ra = some a → ∃ u, H' a = some u ∧ Cont K ca H' A d u
/-- what is held besides, behind a return -/
def extA (s : Slot) (v : V) (A : List Addr) : List Addr := match s, v with
  | .ow _, .ref p => p :: A
  | _, _ => A
def PostF (A : List Addr) (H : Hp) (ra : Option Addr) (Q : VK) (E : XK) : FR → Prop
  | .ok s d => ∀ v H', Kept ra H H' → RefOk K ca (extA s v A) H' ra d → RetOk K ca A H H' s v → Q v H'
  | .exc x d => ∀ cl oa H', Kept ra H H' → RefOk K ca A H' ra d → ExcOk K ca H' x cl oa → E cl oa H'
  | .bad => False
/-- the promise: rf: the first parameter is an object that the def may change -/
def spV (rf : Bool) (F : List D → FR) : Sp := fun vs H Q E => ∃ A, (∀ a ∈ A, H a ≠ none) ∧
  match rf with
  | false => ∃ ds, Reps K ca H A ds vs ∧ PostF K ca A H none Q E (F ds)
  | true => ∃ a u d ds vr, vs = .ref a :: vr ∧ a ∈ A ∧ H a = some u ∧ Cont K ca H A d u ∧ Reps K ca H A ds vr ∧ PostF K ca A H (some a) Q E (F (d :: ds))
end

/-! ### a body's run -/
def entry (rf : Bool) (N : Nat) (ds : List D) : Env := (match rf, ds with
  | true, d :: r => .br d :: r.map .sh
  | _, ds => ds.map .sh) ++ List.replicate (N - ds.length) .un
def finR (rf : Bool) (ρ : Env) (k : D → FR) : FR := match rf with
  | false => k .non
  | true => match ρ[(0 : Nat)]? with
    | some (.br d) => k d
    | _ => .bad
def fin (rf : Bool) (s : Slot) (ρ : Env) : FR := match s with
  | .sh d => finR rf ρ fun e => .ok (.sh d) e
  | .ow d => finR rf ρ fun e => .ok (.ow d) e
  | _ => .bad
def runF (np N : Nat) (rf : Bool) (m : M Fl) (ds : List D) : FR := if ds.length = np then match m (entry rf N ds) with
    | .ok (.ret s) ρ => fin rf s ρ
    | .ok .next ρ => fin rf (.sh .non) ρ
    | .ok _ _ => .bad
    | .exc x ρ => finR rf ρ fun e => .exc x e
    | .bad => .bad
  else .bad
section
variable {K : PySem.W.Frag} {ca : Str → Addr} {c : Ctx} {A A' : List Addr} {H H' : Hp} {l : Ls} {ρ : Env} {σ : St'} {ts : Ls} {W : WX}
theorem entry_zip (ds : List D) (vs : List V) (h : vs.length = ds.length) (n : Nat) (p : Slot × Option V) (hp : p ∈ (ds.map Slot.sh ++ List.replicate n Slot.un).zip (vs.map some ++ List.replicate n none)) : p ∈ shs ds vs ∨ p = (.un, none) := by
  rw [List.zip_append (by simp [h])] at hp
  rcases List.mem_append.mp hp with hp | hp
  · exact .inl hp
  · refine .inr ?_
    rw [List.zip_replicate] at hp
    exact (List.mem_replicate.mp hp).2
theorem shs_slots {A : List Addr} : ∀ {ds : List D} {vs : List V}, Reps K ca H A ds vs → ∀ p ∈ shs ds vs, ∃ d v, p = (.sh d, some v) ∧ Rep K ca H A d v
  | [], _, r, p, hp => by cases (show _ = _ from r); cases hp
  | d :: ds, _, r, p, hp => by
    obtain ⟨v, r, rfl, h1, h2⟩ := r
    rcases List.mem_cons.mp hp with rfl | hp
    · exact ⟨d, v, rfl, h1⟩
    · exact shs_slots h2 p hp
theorem own_none {l : Ls} (h : ∀ p ∈ l, (∃ d v, p = (Slot.sh d, some v)) ∨ p = (.un, none)) : l.filterMap ownA = [] := by
  refine List.filterMap_eq_nil_iff.mpr fun p hp => ?_
  rcases h p hp with ⟨d, v, rfl⟩ | rfl <;> rfl
/-- the state at the entry, no parameter by reference -/
theorem entry_f {A : List Addr} {ds : List D} {vs : List V} {N : List Str} (lv : ∀ a ∈ A, H a ≠ none) (r : Reps K ca H A ds vs) (hn : ds.length ≤ N.length) : OkT K ca ⟨H, A, []⟩ (entry false N.length ds) (L2.start N vs) [] H := by
  have hl := r.length
  have e1 : entry false N.length ds = ds.map .sh ++ List.replicate (N.length - ds.length) .un := rfl
  have e2 : L2.start N vs = vs.map some ++ List.replicate (N.length - ds.length) none := by unfold L2.start; rw [hl]
  rw [e1, e2]
  refine ⟨by simp [hl], fun p hp => (by cases hp), A, ?_⟩
  have hz : ∀ p ∈ [] ++ (ds.map Slot.sh ++ List.replicate (N.length - ds.length) Slot.un).zip (vs.map some ++ List.replicate (N.length - ds.length) none), p ∈ shs ds vs ∨ p = (.un, none) := fun p hp => entry_zip ds vs hl _ p hp
  refine ⟨fun p hp => ?_, ?_, fun a h => h, fun a h => (by cases h), lv, lv, fun b o e _ => e⟩
  · rcases hz p hp with q | rfl
    · obtain ⟨d, v, rfl, rr⟩ := shs_slots r p q
      exact ⟨v, rfl, rr⟩
    · trivial
  · rw [own_none fun p hp => ?_]
    · exact List.nodup_nil
    · rcases hz p hp with q | rfl
      · obtain ⟨d, v, rfl, _⟩ := shs_slots r p q
        exact .inl ⟨d, v, rfl⟩
      · exact .inr rfl
theorem entry_t {A : List Addr} {a : Addr} {u : HO} {d : D} {ds : List D} {vs : List V} {N : List Str} (lv : ∀ a ∈ A, H a ≠ none) (ha : a ∈ A) (hu : H a = some u) (hc : Cont K ca H A d u) (r : Reps K ca H A ds vs) (hn : ds.length + 1 ≤ N.length) :
    OkT K ca ⟨H, A, [(0, a)]⟩ (entry true N.length (d :: ds)) (L2.start N (.ref a :: vs)) [] H := by
  have hl := r.length
  have e1 : entry true N.length (d :: ds) = .br d :: (ds.map .sh ++ List.replicate (N.length - (ds.length + 1)) Slot.un) := rfl
  have e2 : L2.start N (V.ref a :: vs) = some (.ref a) :: (vs.map some ++ List.replicate (N.length - (ds.length + 1)) none) := by
    unfold L2.start
    rw [List.length_cons, hl]
    rfl
  rw [e1, e2]
  refine ⟨by simp [hl], fun p hp => ?_, A, ?_⟩
  · have e : p = (0, a) := by simpa using hp
    subst e
    exact ⟨rfl, d, rfl⟩
  · have hz : ∀ p ∈ [] ++ (Slot.br d :: (ds.map Slot.sh ++ List.replicate (N.length - (ds.length + 1)) Slot.un)).zip (some (V.ref a) :: (vs.map some ++ List.replicate (N.length - (ds.length + 1)) none)), p = (.br d, some (.ref a)) ∨ p ∈ (ds.map Slot.sh ++ List.replicate (N.length - (ds.length + 1)) Slot.un).zip (vs.map some ++ List.replicate (N.length - (ds.length + 1)) none) := fun p hp => by
      have hp' : p ∈ (Slot.br d, some (V.ref a)) :: (ds.map Slot.sh ++ List.replicate (N.length - (ds.length + 1)) Slot.un).zip (vs.map some ++ List.replicate (N.length - (ds.length + 1)) none) := hp
      exact List.mem_cons.mp hp'
    refine ⟨fun p hp => ?_, ?_, fun a h => h, fun b h => ?_, lv, lv, fun b o e _ => e⟩
    · rcases hz p hp with rfl | hp
      · exact ⟨a, u, rfl, ha, by show a ∈ [a]; simp, hu, hc⟩
      · rcases entry_zip ds vs hl _ p hp with q | rfl
        · obtain ⟨d, v, rfl, rr⟩ := shs_slots r p q
          exact ⟨v, rfl, rr⟩
        · trivial
    · show (List.filterMap ownA ((Slot.br d, some (V.ref a)) :: (ds.map Slot.sh ++ List.replicate (N.length - (ds.length + 1)) Slot.un).zip (vs.map some ++ List.replicate (N.length - (ds.length + 1)) none))).Nodup
      rw [List.filterMap_cons]
      show (a :: _).Nodup
      rw [own_none fun p hp => ?_]
      · simp
      · rcases entry_zip ds vs hl _ p hp with q | rfl
        · obtain ⟨d, v, rfl, _⟩ := shs_slots r p q
          exact .inl ⟨d, v, rfl⟩
        · exact .inr rfl
    · have e : b = a := by
        have : b ∈ [a] := h
        simpa using this
      subst e
      exact ha
theorem ret_ok {A : List Addr} {c : Ctx} {s : Slot} {v : V} (ok : OkT K ca c ρ σ [(s, some v)] H') (hs : (∃ d, s = .sh d) ∨ ∃ d, s = .ow d) : RetOk K ca c.A0 c.H0 H' s v := by
  obtain ⟨_, _, A, x⟩ := ok
  have sm : ∀ b o, b ∉ A → H' b = some o → b ∉ c.A0 := fun b _ hb _ z => hb (x.sub b z)
  rcases hs with ⟨d, rfl⟩ | ⟨d, rfl⟩
  · obtain ⟨w, e, r⟩ := x.slots _ (List.mem_append_left _ List.mem_cons_self)
    cases e
    exact Rep.mono2 (fun _ _ _ z => z) sm _ _ r
  · obtain ⟨p, u, e, h1, h2, h3, h4⟩ := x.slots _ (List.mem_append_left _ List.mem_cons_self)
    cases e
    refine ⟨p, u, rfl, h2, h3, h4.mono2 (fun _ _ _ z => z) fun b o hb e z => ?_⟩
    rcases List.mem_cons.mp z with z | z
    · exact hb (z ▸ h1)
    · exact sm b o hb e z
theorem kept_ok {c : Ctx} {ra : Option Addr} (ok : OkT K ca c ρ σ ts H') (h : ∀ b, ra ≠ some b → b ∉ c.bs) : Kept ra c.H0 H' := by
  obtain ⟨_, _, A, x⟩ := ok
  exact fun b o e n => x.frame b o e (h b n)
theorem ref_ok {H : Hp} {A : List Addr} {a : Addr} {d : D} {s : Slot} {v : V} (ok : OkT K ca ⟨H, A, [(0, a)]⟩ ρ σ [(s, some v)] H') (e : ρ[(0 : Nat)]? = some (.br d)) : RefOk K ca (extA s v A) H' (some a) d := by
  obtain ⟨h1, h2, A', x⟩ := ok
  obtain ⟨q1, _⟩ := h2 (0, a) (by simp)
  intro b eb
  cases eb
  have hm : (Slot.br d, some (V.ref a)) ∈ [(s, some v)] ++ ρ.zip σ := List.mem_append_right _ (List.mem_of_getElem? (zip_get e q1))
  obtain ⟨b, u, e1, _, _, h3, h4⟩ := x.slots _ hm
  cases e1
  refine ⟨u, h3, h4.mono2 (fun _ _ _ z => z) fun b _ hb _ z => ?_⟩
  unfold extA at z
  split at z
  · rename_i d0 p
    rcases List.mem_cons.mp z with z | z
    · obtain ⟨p', u', e', q, _⟩ := x.slots _ (List.mem_append_left _ List.mem_cons_self)
      cases e'
      exact hb (z ▸ q)
    · exact hb (x.sub b z)
  · exact hb (x.sub b z)
theorem ref_okN {H : Hp} {A : List Addr} {a : Addr} {d : D} (ok : OkT K ca ⟨H, A, [(0, a)]⟩ ρ σ ts H') (e : ρ[(0 : Nat)]? = some (.br d)) : RefOk K ca A H' (some a) d := by
  obtain ⟨h1, h2, A', x⟩ := ok
  obtain ⟨q1, _⟩ := h2 (0, a) (by simp)
  intro b eb
  cases eb
  have hm : (Slot.br d, some (V.ref a)) ∈ ts ++ ρ.zip σ := List.mem_append_right _ (List.mem_of_getElem? (zip_get e q1))
  obtain ⟨b, u, e1, _, _, h3, h4⟩ := x.slots _ hm
  cases e1
  exact ⟨u, h3, h4.mono2 (fun _ _ _ z => z) fun b _ hb _ z => hb (x.sub b z)⟩
/-- a def's body keeps to m: the reading at the entry -/
theorem body_ok {t : TS} {m : M Fl} {rf : Bool} {np : Nat} {N : List Str} {vs : List V} {Q : VK} {E : XK} (hb : SndS K ca (fun cl d _ H => E cl d H) t m) (hn : np ≤ N.length) (h : spV K ca rf (runF np N.length rf m) vs H Q E) :
    t { nx := fun _ H' => Q .non H', rt := Q } (L2.start N vs) H := by
  obtain ⟨A, lv, h⟩ := h
  cases rf with
  | false =>
    obtain ⟨ds, r, h⟩ := h
    unfold runF at h
    by_cases hd : ds.length = np
    · rw [if_pos hd] at h
      refine hb.run ⟨H, A, []⟩ (entry false N.length ds) (L2.start N vs) [] H _ (entry_f lv r (by omega)) ?_
      have kp : ∀ {ρ : Env} {σ : St'} {ts : Ls} {H' : Hp}, OkT K ca ⟨H, A, []⟩ ρ σ ts H' → Kept none H H' := fun ok => kept_ok ok fun b _ z => by cases z
      cases e : m (entry false N.length ds) with
      | bad => rw [e] at h; exact h.elim
      | exc x ρ' =>
        rw [e] at h
        exact fun σ' cl oa H' ok ex => h cl oa H' (kp ok) (fun a z => by cases z) ex
      | ok f ρ' =>
        rw [e] at h
        cases f with
        | next => exact fun σ' H' ok => h .non H' (kp ok) (fun a z => by cases z) rfl
        | brk => exact h.elim
        | cont => exact h.elim
        | ret s =>
          cases s with
          | un => exact h.elim
          | br d => exact h.elim
          | sh d => exact fun v σ' H' ok => h v H' (kp ok) (fun a z => by cases z) (ret_ok (A := A) ok (.inl ⟨d, rfl⟩))
          | ow d => exact fun v σ' H' ok => h v H' (kp ok) (fun a z => by cases z) (ret_ok (A := A) ok (.inr ⟨d, rfl⟩))
    · rw [if_neg hd] at h; exact h.elim
  | true =>
    obtain ⟨a, u, d, ds, vr, rfl, ha, hu, hc, r, h⟩ := h
    unfold runF at h
    by_cases hd : (d :: ds).length = np
    · rw [if_pos hd] at h
      refine hb.run ⟨H, A, [(0, a)]⟩ (entry true N.length (d :: ds)) (L2.start N (.ref a :: vr)) [] H _ (entry_t lv ha hu hc r (by rw [List.length_cons] at hd; omega)) ?_
      have kp : ∀ {ρ : Env} {σ : St'} {ts : Ls} {H' : Hp}, OkT K ca ⟨H, A, [(0, a)]⟩ ρ σ ts H' → Kept (some a) H H' := fun ok => kept_ok ok fun b n z => by
        have : b ∈ [a] := z
        exact n (by rw [List.mem_singleton.mp this])
      cases e : m (entry true N.length (d :: ds)) with
      | bad => rw [e] at h; exact h.elim
      | exc x ρ' =>
        rw [e] at h
        dsimp only at h
        unfold finR at h
        dsimp only at h
        split at h
        · rename_i d' e2
          exact fun σ' cl oa H' ok ex => h cl oa H' (kp ok) (ref_okN ok e2) ex
        · exact h.elim
      | ok f ρ' =>
        rw [e] at h
        cases f with
        | brk => exact h.elim
        | cont => exact h.elim
        | next =>
          dsimp only at h
          unfold fin finR at h
          dsimp only at h
          split at h
          · rename_i d' e2
            exact fun σ' H' ok => h .non H' (kp ok) (ref_okN ok e2) rfl
          · exact h.elim
        | ret s =>
          dsimp only at h
          unfold fin finR at h
          cases s with
          | un => exact h.elim
          | br d => exact h.elim
          | sh d =>
            dsimp only at h
            split at h
            · rename_i d' e2
              exact fun v σ' H' ok => h v H' (kp ok) (ref_ok ok e2) (ret_ok (A := A) ok (.inl ⟨d, rfl⟩))
            · exact h.elim
          | ow d =>
            dsimp only at h
            split at h
            · rename_i d' e2
              exact fun v σ' H' ok => h v H' (kp ok) (ref_ok ok e2) (ret_ok (A := A) ok (.inr ⟨d, rfl⟩))
            · exact h.elim
    · rw [if_neg hd] at h; exact h.elim
theorem PostF.nb {ra : Option Addr} {Q : VK} {E : XK} {r : FR} (h : PostF K ca A H ra Q E r) : r ≠ .bad := fun z => by rw [z] at h; exact h
theorem spV_len {rf : Bool} {np N : Nat} {m : M Fl} {vs : List V} {Q : VK} {E : XK} (h : spV K ca rf (runF np N rf m) vs H Q E) : vs.length = np := by
  obtain ⟨A, lv, h⟩ := h
  cases rf with
  | false =>
    obtain ⟨ds, r, h⟩ := h
    have nb := h.nb
    rw [r.length]
    unfold runF at nb
    by_cases hd : ds.length = np
    · exact hd
    · rw [if_neg hd] at nb; exact (nb rfl).elim
  | true =>
    obtain ⟨a, u, d, ds, vr, rfl, ha, hu, hc, r, h⟩ := h
    have nb := h.nb
    rw [List.length_cons, r.length]
    unfold runF at nb
    by_cases hd : (d :: ds).length = np
    · exact hd
    · rw [if_neg hd] at nb; exact (nb rfl).elim
end

/-! ### the rule for a def -/
section
variable {P : Program} {w : World} {K : PySem.W.Frag} {mg : Str → Option Value} {base : Heap} {ca : Str → Addr} {x qual : Str} {params : Arguments} {body : List Stmt} {scope : Scope} {dvs : List V} {kws : List (Str × V)} {f : Addr} {fd : FuncData}
theorem fnV_of {N ps : List Str} {k : Nat} {rf : Bool} {m : M Fl} (F : FunD K x qual params body scope dvs kws f fd) (S : FnScope N ps scope)
    (hbody : ∀ (cdv : Value) (A : Around) (outer : List PySem.Env) (s : Shared) (H : Hp) (E : XK), Room k (A.deeper (envOfC qual scope s.heap.objs.size f cdv)) →
      Takes (cxOf (L2.CX P w) P w K mg base N qual scope f cdv A outer s H E) (fun cl d _ H => E cl d H) →
      ∃ t, PSs (cxOf (L2.CX P w) P w K mg base N qual scope f cdv A outer s H E) body t ∧ SndS K ca (fun cl d _ H => E cl d H) t m) :
    FnOk P w K mg base (L2.CX P w) (k + 1) f fd ps (spV K ca rf (runF ps.length N.length rf m)) := by
  have hn : ps.length ≤ N.length := by
    have := congrArg List.length S.pre
    rw [List.length_take] at this
    omega
  refine F.ok S (fun vs H Q E h => spV_len h) fun cdv A outer s H vs Q E hr h => ?_
  obtain ⟨t, ht, hs⟩ := hbody cdv A outer s H E hr (takes_of rfl rfl rfl rfl)
  exact ⟨t, ht, body_ok hs hn h⟩
end
end VL
set_option Elab.async false
set_option linter.all false
set_option maxRecDepth 100000
/-! VL7: calls of defs, instances made, methods, fields. -/
namespace VL
open PySem PySem.Spec PyProof.Rows L2
section
variable {K : PySem.W.Frag} {ca : Str → Addr} {c : Ctx} {A A' : List Addr} {H H' : Hp} {l : Ls} {ρ : Env} {σ : St'} {ts : Ls} {W : WX}
theorem Ok1.next {ra : Option Addr} (x : Ok1 K ca c A H l) (kp : Kept ra H H') (hA : ∀ a ∈ A, a ∈ A') (hN : ∀ a ∈ A', a ∈ A ∨ H a = none) (lv : ∀ a ∈ A', H' a ≠ none)
    (hra : ∀ a, ra = some a → a ∈ A ∧ a ∉ l.filterMap ownA ∧ (c.H0 a = none ∨ a ∈ c.bs)) : Ok1 K ca c A' H' l := by
  refine ⟨fun q hq => ?_, x.nodup, fun a ha => hA a (x.sub a ha), x.bsub, x.old, lv, fun b o e hb => ?_⟩
  · refine (x.slots q hq).mono (fun b u hb e => kp b u e fun z => hb (hra b z).1) (fun b u hb e z => ?_) fun a e => ?_
    · rcases hN b z with z | z
      · exact hb z
      · rw [z] at e; cases e
    · have ha := (x.slots q hq).own_mem e
      refine ⟨hA a ha, ?_⟩
      cases e2 : H a with
      | none => exact absurd e2 (x.live a ha)
      | some u => exact kp a u e2 fun z => (hra a z).2.1 (List.mem_filterMap.mpr ⟨q, hq, e⟩)
  · refine kp b o (x.frame b o e hb) fun z => ?_
    rcases (hra b z).2.2 with q | q
    · rw [e] at q; cases q
    · exact hb q
theorem Ok1.consO {s : Slot} {o : Option V} (x : Ok1 K ca c A H l) (h : SlotOk K ca c A H s o) (n : ∀ a, ownA (s, o) = some a → a ∉ l.filterMap ownA) : Ok1 K ca c A H ((s, o) :: l) := by
  refine ⟨fun q hq => ?_, ?_, x.sub, x.bsub, x.old, x.live, x.frame⟩
  · rcases List.mem_cons.mp hq with rfl | hq
    · exact h
    · exact x.slots q hq
  · rw [List.filterMap_cons]
    cases e : ownA (s, o) with
    | none => exact x.nodup
    | some a => exact List.nodup_cons.mpr ⟨n a e, x.nodup⟩
theorem fresh_in {p : Addr} (x : Ok1 K ca c A H l) (n : H p = none) : p ∉ A ∧ c.H0 p = none := by
  have pA : p ∉ A := fun z => x.live p z n
  refine ⟨pA, ?_⟩
  cases e : c.H0 p with
  | none => rfl
  | some o =>
    by_cases hb : p ∈ c.bs
    · exact absurd (x.sub p (x.bsub p hb)) pA
    · rw [x.frame p o e hb] at n; cases n
theorem own_in (x : Ok1 K ca c A H l) {a : Addr} (h : a ∈ l.filterMap ownA) : a ∈ A := by
  obtain ⟨q, hq, e⟩ := List.mem_filterMap.mp h
  exact (x.slots q hq).own_mem e
/-- what a call hands back goes to the temporaries -/
theorem Ok1.ret {ra : Option Addr} {s : Slot} {v : V} (x : Ok1 K ca c A H l) (kp : Kept ra H H') (lv : ∀ a ∈ A, H' a ≠ none) (hra : ∀ a, ra = some a → a ∈ A ∧ a ∉ l.filterMap ownA ∧ (c.H0 a = none ∨ a ∈ c.bs)) (r : RetOk K ca A H H' s v) :
    (∀ b ∈ A, b ∈ extA s v A) ∧ Ok1 K ca c (extA s v A) H' ((s, some v) :: l) ∧ (∀ a, ownA (s, some v) = some a → H a = none) := by
  cases s with
  | un => exact r.elim
  | br d => exact r.elim
  | sh d => exact ⟨fun _ h => h, (x.next kp (fun _ h => h) (fun _ h => .inl h) lv hra).consO ⟨v, rfl, r⟩ fun a e => (by cases e), fun a e => by cases e⟩
  | ow d =>
    obtain ⟨p, u, rfl, n, hu, hc⟩ := r
    obtain ⟨pA, p0⟩ := fresh_in x n
    have y : Ok1 K ca c (p :: A) H' l := x.next kp (fun a h => List.mem_cons_of_mem _ h) (fun a h => by
      rcases List.mem_cons.mp h with rfl | h
      · exact .inr n
      · exact .inl h) (fun a h => by
      rcases List.mem_cons.mp h with rfl | h
      · rw [hu]; exact fun z => nomatch z
      · exact lv a h) hra
    refine ⟨fun b h => List.mem_cons_of_mem _ h, y.consO ⟨p, u, rfl, List.mem_cons_self, p0, hu, hc⟩ fun a e => ?_, fun a e => ?_⟩
    · cases e
      exact fun z => pA (own_in x z)
    · cases e
      exact n
theorem kept_live (x : Ok1 K ca c A H l) {ra : Option Addr} (kp : Kept ra H H') (h : ∀ a, ra = some a → H' a ≠ none) : ∀ a ∈ A, H' a ≠ none := fun a ha => by
  by_cases z : ra = some a
  · exact h a z
  · cases e : H a with
    | none => exact absurd e (x.live a ha)
    | some u => rw [kp a u e z]; exact fun z => nomatch z

/-! ### calls -/
def aft (r : FR) (k : D → Env → Env) : M Slot := fun ρ => match r with
  | .ok s d => .ok s (k d ρ)
  | .exc x d => .exc x (k d ρ)
  | .bad => .bad
def mCallT (F : List D → FR) (dd : List D) (i : Nat) (ds : List D) : M Slot := fun ρ => match ρ[i]? with
  | some (.ow d) => aft (F (d :: (ds ++ dd))) (fun d' ρ => ρ.set i (.ow d')) ρ
  | some (.br d) => aft (F (d :: (ds ++ dd))) (fun d' ρ => ρ.set i (.br d')) ρ
  | _ => .bad
def mCall (rf : Bool) (F : List D → FR) (dd : List D) (os : List Opnd) : M Slot := match rf with
  | false => bnd (takes os) fun ds => aft (F (ds ++ dd)) fun _ ρ => ρ
  | true => match os with
    | .var i :: os => bnd (takes os) fun ds => mCallT F dd i ds
    | _ => fun _ => .bad
theorem callT_go {F : List D → FR} {dd ds : List D} {i : Nat} {v : V} {vs : List V} {dv : List V} {Q : VK} (hd : ∀ H A, Reps K ca H A dd dv) (hl : vs.length = ds.length) (ok : OkT K ca c ρ σ (shs ds vs ++ ts) H) (ev : σ[i]? = some (some v))
    (h : PostE K ca c W σ ts Q (mCallT F dd i ds ρ)) : spV K ca true F (v :: (vs ++ dv)) H Q (WE W σ) := by
  unfold mCallT at h
  cases e : ρ[i]? with
  | none => rw [e] at h; exact h.elim
  | some s =>
    rw [e] at h
    have go : ∀ (d : D) (k : D → Slot), s.d? = some d → isOwn s = true → (∀ d', ∃ d0, (s = .ow d0 ∧ k d' = .ow d') ∨ (s = .br d0 ∧ k d' = .br d')) → PostE K ca c W σ ts Q (aft (F (d :: (ds ++ dd))) (fun d' ρ => ρ.set i (k d')) ρ) → spV K ca true F (v :: (vs ++ dv)) H Q (WE W σ) := fun d k ed hw hk hp => by
      obtain ⟨o, A, eo, x⟩ := ok.at e
      cases (eo.symm.trans ev)
      obtain ⟨a, u, d0, rfl, ed0, hA, h1, h2, e1⟩ := own_of hw (x.slots _ List.mem_cons_self)
      cases (ed0.symm.trans ed)
      have rs : Reps K ca H A ds vs := reps_shs hl x fun p q => List.mem_cons_of_mem _ (List.mem_append_left _ (List.mem_append_left _ q))
      refine ⟨A, x.live, a, u, d, ds ++ dd, vs ++ dv, rfl, hA, h1, h2, rs.append (hd H A), ?_⟩
      have nd := x.nodup
      rw [List.filterMap_cons, e1] at nd
      obtain ⟨na, nl⟩ := List.nodup_cons.mp (show (a :: (rst ρ σ (shs ds vs ++ ts) i).filterMap ownA).Nodup from nd)
      have hx : c.H0 a = none ∨ a ∈ c.bs := by
        have q := x.slots _ List.mem_cons_self
        obtain ⟨d0, q2⟩ := hk d
        rcases q2 with ⟨rfl, _⟩ | ⟨rfl, _⟩
        · obtain ⟨b, w, e', q1, q2, _⟩ := q
          cases e'
          exact .inl q2
        · obtain ⟨b, w, e', q1, q2, _⟩ := q
          cases e'
          exact .inr q2
      have xr : Ok1 K ca c A H (rst ρ σ (shs ds vs ++ ts) i) := x.sublist (List.sublist_cons_self _ _)
      have hra : ∀ b, some a = some b → b ∈ A ∧ b ∉ (rst ρ σ (shs ds vs ++ ts) i).filterMap ownA ∧ (c.H0 b = none ∨ b ∈ c.bs) := fun b z => by cases z; exact ⟨hA, na, hx⟩
      have own2 : ∀ {H' : Hp} {d' : D} {A' : List Addr}, (∀ b ∈ A, b ∈ A') → (∃ u, H' a = some u ∧ Cont K ca H' A' d' u) → SlotOk K ca c A' H' (k d') (some (.ref a)) := fun {H' d' A'} sA ⟨u', hu', hc'⟩ => by
        obtain ⟨d0, q2⟩ := hk d'
        rcases q2 with ⟨rfl, ek⟩ | ⟨rfl, ek⟩
        · rw [ek]
          obtain ⟨b, w, e', q1, q2, _⟩ := x.slots _ List.mem_cons_self
          cases e'
          exact ⟨a, u', rfl, sA a hA, q2, hu', hc'⟩
        · rw [ek]
          obtain ⟨b, w, e', q1, q2, _⟩ := x.slots _ List.mem_cons_self
          cases e'
          exact ⟨a, u', rfl, sA a hA, q2, hu', hc'⟩
      have kbr : ∀ d', isBr s = true → isBr (k d') = true := fun d' z => by
        obtain ⟨d0, q2⟩ := hk d'
        rcases q2 with ⟨rfl, ek⟩ | ⟨rfl, ek⟩
        · cases z
        · rw [ek]; rfl
      have kown : ∀ d', ownA (k d', some (V.ref a)) = some a := fun d' => by
        obtain ⟨d0, q2⟩ := hk d'
        rcases q2 with ⟨rfl, ek⟩ | ⟨rfl, ek⟩ <;> rw [ek] <;> rfl
      cases eF : F (d :: (ds ++ dd)) with
      | bad => rw [eF] at hp; exact hp.elim
      | exc y d' =>
        rw [eF] at hp
        intro cl oa H' kp rk ex
        have hp : PostX K ca c W σ y (ρ.set i (k d')) := hp
        refine hp cl oa H' ?_ ex
        obtain ⟨u', hu', hc'⟩ := rk a rfl
        have y1 := (xr.next kp (fun _ h => h) (fun _ h => .inl h) (kept_live x kp fun b z => by cases z; rw [hu']; exact fun z => nomatch z) hra).consO (own2 (fun _ h => h) ⟨u', hu', hc'⟩) fun b z => by
          rw [kown d'] at z
          cases z
          exact na
        exact (ok.back e ev ⟨A, y1⟩ (kbr d')).nil
      | ok s' d' =>
        rw [eF] at hp
        intro w H' kp rk rt
        have hp : ∀ v H', OkT K ca c (ρ.set i (k d')) σ ((s', some v) :: ts) H' → Q v H' := hp
        refine hp w H' ?_
        obtain ⟨u', hu', hc'⟩ := rk a rfl
        have lv := kept_live x kp fun b z => by cases z; rw [hu']; exact fun z => nomatch z
        obtain ⟨sA, y1, hn⟩ := xr.ret kp lv hra rt
        generalize extA s' w A = A' at sA y1 hc'
        have y2 := y1.consO (own2 sA ⟨u', hu', hc'⟩) fun b z => by
          rw [kown d'] at z
          cases z
          rw [List.filterMap_cons]
          cases es : ownA (s', some w) with
          | none => exact na
          | some p =>
            intro z2
            rcases List.mem_cons.mp z2 with z2 | z2
            · have := hn p es
              rw [← z2, h1] at this
              cases this
            · exact na z2
        have q : OkT K ca c (ρ.set i (k d')) σ (shs ds vs ++ ts) H' := ok.back e ev ⟨A', y2.sublist ((List.sublist_cons_self _ _).cons₂ _)⟩ (kbr d')
        obtain ⟨q1, q2, _⟩ := q
        have y3 : Ok1 K ca c A' H' ((s', some w) :: (k d', some (.ref a)) :: rst ρ σ (shs ds vs ++ ts) i) := y2.perm (List.Perm.swap _ _ _)
        have y4 : Ok1 K ca c A' H' ((s', some w) :: ((shs ds vs ++ ts) ++ (ρ.set i (k d')).zip σ)) := y3.perm ((unfocus (ts := shs ds vs ++ ts) (s' := k d') e ev).symm.cons _)
        exact ⟨q1, q2, A', y4.sublist (List.Sublist.cons₂ _ ((List.sublist_append_right _ _).append (List.Sublist.refl _)))⟩
    cases s with
    | un => exact h.elim
    | sh d => exact h.elim
    | ow d => exact go d .ow rfl rfl (fun d' => ⟨d, .inl ⟨rfl, rfl⟩⟩) h
    | br d => exact go d .br rfl rfl (fun d' => ⟨d, .inr ⟨rfl, rfl⟩⟩) h

theorem callF_go {F : List D → FR} {dd ds : List D} {vs : List V} {dv : List V} {Q : VK} (hd : ∀ H A, Reps K ca H A dd dv) (hl : vs.length = ds.length) (ok : OkT K ca c ρ σ (shs ds vs ++ ts) H)
    (h : PostE K ca c W σ ts Q (aft (F (ds ++ dd)) (fun _ ρ => ρ) ρ)) : spV K ca false F (vs ++ dv) H Q (WE W σ) := by
  obtain ⟨q1, q2, A, x⟩ := ok
  have rs : Reps K ca H A ds vs := reps_shs hl x fun p q => List.mem_append_left _ (List.mem_append_left _ q)
  refine ⟨A, x.live, ds ++ dd, rs.append (hd H A), ?_⟩
  have xr : Ok1 K ca c A H (ts ++ ρ.zip σ) := by
    rw [List.append_assoc] at x
    exact x.sublist (List.sublist_append_right _ _)
  have hra : ∀ b, (none : Option Addr) = some b → b ∈ A ∧ b ∉ (ts ++ ρ.zip σ).filterMap ownA ∧ (c.H0 b = none ∨ b ∈ c.bs) := fun b z => by cases z
  cases eF : F (ds ++ dd) with
  | bad => rw [eF] at h; exact h.elim
  | exc y d' =>
    rw [eF] at h
    intro cl oa H' kp rk ex
    have h : PostX K ca c W σ y ρ := h
    have y1 := xr.next kp (fun _ h => h) (fun _ h => .inl h) (kept_live x kp fun b z => by cases z) hra
    exact h cl oa H' (OkT.nil (ts := ts) ⟨q1, q2, A, y1⟩) ex
  | ok s' d' =>
    rw [eF] at h
    intro w H' kp rk rt
    have h : ∀ v H', OkT K ca c ρ σ ((s', some v) :: ts) H' → Q v H' := h
    obtain ⟨sA, y1, hn⟩ := xr.ret kp (kept_live x kp fun b z => by cases z) hra rt
    exact h w H' ⟨q1, q2, _, y1⟩
/-- f(e, ..) -/
theorem snd_user {rf : Bool} {F : List D → FR} {dd : List D} {dv : List V} {t : TA} {ms : M (List Opnd)} (hd : ∀ H A, Reps K ca H A dd dv) (ha : SndA K ca W t ms) : Snd K ca W (tCallSD (spV K ca rf F) dv (WE W) t) (bnd ms (mCall rf F dd)) := by
  refine ⟨fun c ρ σ ts H Q ok h => ?_⟩
  refine ha.run c ρ σ ts H _ ok ?_
  unfold bnd at h
  cases e : ms ρ with
  | exc x ρ' => rw [e] at h; exact h
  | bad => rw [e] at h; exact h.elim
  | ok os ρ1 =>
    rw [e] at h
    dsimp only at h
    intro vs H1 om ok1
    cases rf with
    | false =>
      have h : PostE K ca c W σ ts Q (bnd (takes os) (fun ds => aft (F (ds ++ dd)) fun _ ρ => ρ) ρ1) := h
      unfold bnd at h
      cases e2 : takes os ρ1 with
      | exc x ρ' => exact absurd e2 takes_noexc
      | bad => rw [e2] at h; exact h.elim
      | ok ds ρ2 =>
        rw [e2] at h
        obtain ⟨hl, ok2⟩ := takes_ok ok1 om e2
        exact callF_go hd hl ok2 h
    | true =>
      cases os with
      | nil => exact h.elim
      | cons o os =>
        cases o with
        | tmp s => exact h.elim
        | var i =>
          have h : PostE K ca c W σ ts Q (bnd (takes os) (fun ds => mCallT F dd i ds) ρ1) := h
          obtain ⟨v, r, rfl, om1, om2⟩ := om
          unfold bnd at h
          cases e2 : takes os ρ1 with
          | exc x ρ' => exact absurd e2 takes_noexc
          | bad => rw [e2] at h; exact h.elim
          | ok ds ρ2 =>
            rw [e2] at h
            obtain ⟨hl, ok2⟩ := takes_ok (os := os) (vs := r) (ts := ts) ok1 om2 e2
            exact callT_go hd hl ok2 om1 h

/-! ### instances made -/
/-- C(..): a new instance and its dict, then __init__; what is raised is wished for at the caller's slots -/
def tMakeS (C : Addr) (sp : Sp) (dvs : List V) (E : St' → XK) (t : TA) : TE := fun σ H Q => t σ H fun vs H1 => ∀ x dx, H1 x = none → H1 dx = none → dx ≠ x →
  sp (.ref x :: (vs ++ dvs)) (upd (upd H1 dx (.own x)) x (.ins C dx [])) (fun v H2 => v = .non ∧ Q (.ref x) H2) (E σ)
def mMake (cn : Str) (F : List D → FR) (dd : List D) (ds : List D) : M Slot := fun ρ => match F (.obj cn [] [] :: (ds ++ dd)) with
  | .ok (.sh .non) d => .ok (.ow d) ρ
  | .exc x _ => .exc x ρ
  | _ => .bad
theorem snd_make {cn : Str} {F : List D → FR} {dd : List D} {dv : List V} {t : TA} {ms : M (List Opnd)} (hd : ∀ H A, Reps K ca H A dd dv) (ha : SndA K ca W t ms) : Snd K ca W (tMakeS (ca cn) (spV K ca true F) dv (WE W) t) (mTake ms (mMake cn F dd)) := by
  refine snd_takeσ (r := fun σ vs H1 Q => ∀ x dx, H1 x = none → H1 dx = none → dx ≠ x → spV K ca true F (.ref x :: (vs ++ dv)) (upd (upd H1 dx (.own x)) x (.ins (ca cn) dx [])) (fun v H2 => v = .non ∧ Q (.ref x) H2) (WE W σ)) ha fun c ρ σ ts H Q ds vs hl ok h => ?_
  intro x dx nx ndx hne
  obtain ⟨q1, q2, A, y⟩ := ok
  have rs : Reps K ca H A ds vs := reps_shs hl y fun p q => List.mem_append_left _ (List.mem_append_left _ q)
  have yr : Ok1 K ca c A H (ts ++ ρ.zip σ) := by
    rw [List.append_assoc] at y
    exact y.sublist (List.sublist_append_right _ _)
  obtain ⟨xA, x0⟩ := fresh_in y nx
  generalize hH2 : upd (upd H dx (.own x)) x (.ins (ca cn) dx []) = H2
  have hx2 : H2 x = some (.ins (ca cn) dx []) := by rw [← hH2, upd_same]
  have k2 : ∀ b o, H b = some o → b ≠ x ∧ H2 b = some o := fun b o e => by
    have n1 := ne_of_none e nx
    refine ⟨n1, ?_⟩
    rw [← hH2, upd_ne n1, upd_ne (ne_of_none e ndx)]
    exact e
  have sm : ∀ b o, b ∉ A → H b = some o → b ∉ x :: A := fun b o hb e z => by
    rcases List.mem_cons.mp z with z | z
    · exact (k2 b o e).1 z
    · exact hb z
  have lv2 : ∀ a ∈ x :: A, H2 a ≠ none := fun a ha => by
    rcases List.mem_cons.mp ha with rfl | ha
    · rw [hx2]; exact fun z => nomatch z
    · cases e : H a with
      | none => exact absurd e (y.live a ha)
      | some o => rw [(k2 a o e).2]; exact fun z => nomatch z
  refine ⟨x :: A, lv2, x, _, .obj cn [] [], ds ++ dd, vs ++ dv, rfl, List.mem_cons_self, hx2, ⟨dx, [], rfl, rfl, rfl⟩, ?_, ?_⟩
  · exact (Reps.mono2 (fun b o _ e => (k2 b o e).2) sm _ _ rs).append (hd H2 (x :: A))
  · unfold mMake at h
    have kp2 : ∀ {H'}, Kept (some x) H2 H' → Kept none H H' := fun kp b o e _ => kp b o (k2 b o e).2 fun z => by
      cases z
      exact (k2 x o e).1 rfl
    have hra : ∀ b, (none : Option Addr) = some b → b ∈ A ∧ b ∉ (ts ++ ρ.zip σ).filterMap ownA ∧ (c.H0 b = none ∨ b ∈ c.bs) := fun b z => by cases z
    cases eF : F (.obj cn [] [] :: (ds ++ dd)) with
    | bad => rw [eF] at h; exact h.elim
    | exc z d' =>
      rw [eF] at h
      intro cl oa H' kp rk ex
      have h : PostX K ca c W σ z ρ := h
      have y1 := yr.next (kp2 kp) (fun _ h => h) (fun _ h => .inl h) (kept_live yr (kp2 kp) fun b z => by cases z) hra
      exact h cl oa H' (OkT.nil (ts := ts) ⟨q1, q2, A, y1⟩) ex
    | ok s' d' =>
      rw [eF] at h
      cases s' with
      | un => exact h.elim
      | ow d => exact h.elim
      | br d => exact h.elim
      | sh d =>
        cases d with
        | non =>
          intro w H' kp rk rt
          have h : ∀ v H', OkT K ca c ρ σ ((.ow d', some v) :: ts) H' → Q v H' := h
          obtain ⟨u', hu', hc'⟩ := rk x rfl
          refine ⟨rt, h (.ref x) H' ?_⟩
          obtain ⟨sA, y1, hn⟩ := yr.ret (s := .ow d') (v := .ref x) (kp2 kp) (kept_live yr (kp2 kp) fun b z => by cases z) hra ⟨x, u', rfl, nx, hu', hc'⟩
          exact ⟨q1, q2, _, y1⟩
        | _ => exact h.elim

/-! ### methods -/
def tMethS (C : Addr) (m : Str) (sp : Sp) (dvs : List V) (E : St' → XK) (ta : TE) (t : TA) : TE := fun σ H Q => ta σ H fun x H1 => ∃ a dx fs, x = .ref a ∧ H1 a = some (.ins C dx fs) ∧ fs.lookup m = none ∧
  t σ H1 fun vs H2 => sp (x :: (vs ++ dvs)) H2 Q (E σ)
def hasF (cn m : Str) : D → Bool
  | .obj c ns _ => decide (c = cn) && !ns.contains m
  | _ => false
def mIs (cn m : Str) (o : Opnd) {α : Type} (k : M α) : M α := fun ρ => match look ρ o with
  | some d => if hasF cn m d then k ρ else .bad
  | none => .bad
/-- o.m(..), o is looked at: its def takes it as shared -/
def mMethS (cn m : Str) (F : List D → FR) (dd : List D) (mo : M Opnd) (ms : M (List Opnd)) : M Slot := bnd mo fun o => mIs cn m o (bnd ms fun os => mCall false F dd (o :: os))
theorem lookup_zip_none {m : Str} : ∀ {ns : List Str} {vs : List V}, ns.contains m = false → (ns.zip vs).lookup m = none
  | [], _, _ => rfl
  | n :: ns, [], _ => rfl
  | n :: ns, v :: vs, h => by
    rw [List.contains_cons, Bool.or_eq_false_iff] at h
    show (match m == n with | true => some v | false => (ns.zip vs).lookup m) = none
    rw [h.1]
    exact lookup_zip_none h.2
theorem is_of {cn m : Str} {d : D} {v : V} (p : Peek K ca H A d v) (h : hasF cn m d = true) : ∃ a dx fs, v = .ref a ∧ H a = some (.ins (ca cn) dx fs) ∧ fs.lookup m = none := by
  cases d with
  | obj c ns ds =>
    have h : (decide (c = cn) && !ns.contains m) = true := h
    rw [Bool.and_eq_true] at h
    obtain ⟨h1, h2⟩ := h
    cases of_decide_eq_true h1
    obtain ⟨a, dx, vs, rfl, e, _, _⟩ := p.obj
    exact ⟨a, dx, _, rfl, e, lookup_zip_none (by simpa using h2)⟩
  | _ => cases h
theorem snd_methS {cn m : Str} {F : List D → FR} {dd : List D} {dv : List V} {to : TE} {t : TA} {mo : M Opnd} {ms : M (List Opnd)} (hd : ∀ H A, Reps K ca H A dd dv) (ho : SndO K ca W to mo) (ha : SndA K ca W t ms) :
    Snd K ca W (tMethS (ca cn) m (spV K ca false F) dv (WE W) to t) (mMethS cn m F dd mo ms) := by
  refine ⟨fun c ρ σ ts H Q ok h => ?_⟩
  refine ho.run c ρ σ ts H _ ok ?_
  unfold mMethS bnd at h
  cases e : mo ρ with
  | exc x ρ' => rw [e] at h; exact h
  | bad => rw [e] at h; exact h.elim
  | ok o ρ1 =>
    rw [e] at h
    dsimp only at h
    intro v H1 om ok1
    unfold mIs at h
    cases e1 : look ρ1 o with
    | none => rw [e1] at h; exact h.elim
    | some d =>
      rw [e1] at h
      dsimp only at h
      by_cases hf : hasF cn m d = true
      · rw [if_pos hf] at h
        have pk : ∃ A, Peek K ca H1 A d v := by
          obtain ⟨_, _, A, x⟩ := ok1
          exact ⟨A, peek_look x (fun p q => List.mem_append_left _ (List.mem_append_left _ q)) (fun p q => List.mem_append_right _ q) om e1⟩
        obtain ⟨A, pk⟩ := pk
        obtain ⟨a, dx, fs, rfl, ea, el⟩ := is_of pk hf
        refine ⟨a, dx, fs, rfl, ea, el, ha.run c ρ1 σ _ H1 _ ok1 ?_⟩
        cases e2 : ms ρ1 with
        | exc x ρ' => rw [e2] at h; exact h
        | bad => rw [e2] at h; exact h.elim
        | ok os ρ2 =>
          rw [e2] at h
          intro vs H2 om2 ok2
          have h : PostE K ca c W σ ts Q (bnd (takes (o :: os)) (fun ds => aft (F (ds ++ dd)) fun _ ρ => ρ) ρ2) := h
          unfold bnd at h
          cases e3 : takes (o :: os) ρ2 with
          | exc x ρ' => exact absurd e3 takes_noexc
          | bad => rw [e3] at h; exact h.elim
          | ok ds ρ3 =>
            rw [e3] at h
            have ok3 : OkT K ca c ρ2 σ (tmps (o :: os) (.ref a :: vs) ++ ts) H2 := by
              refine ok2.ts_perm ?_
              show (tmps os vs ++ (otmp o (.ref a) ++ ts)).Perm ((otmp o (.ref a) ++ tmps os vs) ++ ts)
              rw [← List.append_assoc]
              exact List.perm_append_comm.append_right ts
            obtain ⟨hl, ok4⟩ := takes_ok ok3 ⟨_, vs, rfl, om, om2⟩ e3
            exact callF_go hd hl ok4 h
      · rw [if_neg hf] at h; exact h.elim

/-! ### fields -/
def getF (f : Str) : List Str → List D → Option D
  | n :: ns, d :: ds => if f == n then some d else getF f ns ds
  | _, _ => none
def pFld (f : Str) : List D → Option Slot
  | [.obj _ ns ds] => (getF f ns ds).map .sh
  | _ => none
theorem getF_ok {f : Str} : ∀ {ns : List Str} {ds : List D} {vs : List V} {d : D}, Reps K ca H A ds vs → getF f ns ds = some d → ∃ v, (ns.zip vs).lookup f = some v ∧ Rep K ca H A d v
  | [], _, _, _, _, e => by cases e
  | _ :: _, [], _, _, _, e => by cases e
  | n :: ns, d :: ds, _, d', r, e => by
    obtain ⟨v, r, rfl, h1, h2⟩ := r
    have e : (if f == n then some d else getF f ns ds) = some d' := e
    show ∃ w, (match f == n with | true => some v | false => (ns.zip r).lookup f) = some w ∧ _
    cases hb : f == n with
    | true =>
      rw [hb, if_pos rfl] at e
      cases e
      exact ⟨v, rfl, h1⟩
    | false =>
      rw [hb, if_neg Bool.false_ne_true] at e
      exact getF_ok h2 e
/-- which classes have no attribute f of their own -/
def FldOk (K : PySem.W.Frag) (ca : Str → Addr) (cn f : Str) : Prop := Cls K (ca cn) ∧ NoAttr K (ca cn) f
def mFld (cn f : Str) (mo : M Opnd) : M Slot := bnd mo fun o => mIs cn "" o (mPrim (pFld f) [o])
theorem snd_fld {cn f : Str} {to : TE} {mo : M Opnd} (hf : FldOk K ca cn f) (ho : SndO K ca W to mo) : Snd K ca W (tFld K to f) (mFld cn f mo) := by
  refine ⟨fun c ρ σ ts H Q ok h => ?_⟩
  refine ho.run c ρ σ ts H _ ok ?_
  unfold mFld bnd at h
  cases e : mo ρ with
  | exc x ρ' => rw [e] at h; exact h
  | bad => rw [e] at h; exact h.elim
  | ok o ρ1 =>
    rw [e] at h
    dsimp only at h
    intro v H1 om ok1
    unfold mIs at h
    cases e1 : look ρ1 o with
    | none => rw [e1] at h; exact h.elim
    | some d =>
      rw [e1] at h
      dsimp only at h
      by_cases hh : hasF cn "" d = true
      · rw [if_pos hh] at h
        have ok2 : OkT K ca c ρ1 σ (tmps [o] [v] ++ ts) H1 := by
          show OkT K ca c ρ1 σ ((otmp o v ++ []) ++ ts) H1
          rw [List.append_nil]
          exact ok1
        obtain ⟨x, e3, q⟩ := prim_go (W := W) (r := fun vs H Q => ∃ x, vs = [x] ∧ ∃ a C dx fs v, x = .ref a ∧ H a = some (.ins C dx fs) ∧ (C = ca cn → Cls K C ∧ NoAttr K C f) ∧ fs.lookup f = some v ∧ Q v H) (f := pFld f)
          (by
            intro A H vs ds s Q pk e k
            match ds, e, pk with
            | [], e, _ => cases e
            | x :: _ :: _, e, _ => cases x <;> cases e
            | [x], e, pk =>
              obtain ⟨v, rfl, pv⟩ := pk1 pk
              cases x with
              | obj c ns ds =>
                have e : (getF f ns ds).map Slot.sh = some s := e
                cases eg : getF f ns ds with
                | none => rw [eg] at e; cases e
                | some d =>
                  rw [eg] at e
                  cases e
                  obtain ⟨a, dx, vs, rfl, ea, _, rs⟩ := pv.obj
                  obtain ⟨w, el, rw'⟩ := getF_ok rs eg
                  exact ⟨_, rfl, a, _, dx, _, w, rfl, ea, fun z => by rw [z]; exact hf, el, k _ _ (.inl ⟨rfl, d, rfl, rw'⟩)⟩
              | _ => cases e) ok2 ⟨v, [], rfl, om, rfl⟩ h
        cases e3
        have pk : ∃ A, Peek K ca H1 A d v := by
          obtain ⟨_, _, A, x⟩ := ok1
          exact ⟨A, peek_look x (fun p q => List.mem_append_left _ (List.mem_append_left _ q)) (fun p q => List.mem_append_right _ q) om e1⟩
        obtain ⟨A, pk⟩ := pk
        obtain ⟨a, dx, fs, rfl, ea, el⟩ := is_of pk hh
        obtain ⟨a', C, dx', fs', w, e4, e5, hc, e6, q⟩ := q
        cases e4
        rw [ea] at e5
        cases e5
        obtain ⟨h1, h2⟩ := hc rfl
        exact ⟨a, _, dx, fs, w, rfl, ea, h1, h2, e6, q⟩
      · rw [if_neg hh] at h; exact h.elim
end

/-! ### at the machine's level: the calls with a wish at the slots -/
section
variable {X : Cx} {CX : CXT} {k : Nat} {f C : Addr} {fd : FuncData} {ps : List Str} {sp : Sp} {dvs : List V} {ds : List Value} {E : St' → XK} {x m : Str} {p pos apos : Pos} {e o : Expr} {es : List Expr} {ta : TE} {t : TA}
theorem pe_methS {pl : Sem Bool} (he : PE X o ta) (c : Cls X.K C) (hm : Meth X.K C m f) (F : FnOk X.prog X.w X.K X.mg X.base CX k f fd ps sp) (hr : Room k X.A) (hb : Binds X.K fd ps ds) (hd : Vals dvs ds) (hx : ∀ σ, PassesAt CX X σ (E σ)) (ha : PA X (e :: es) t)
    (hst : starEach (e :: es) X.env = (false, eval e X.env) :: starEach es X.env := by rfl) (hpl : (backTo pos (starEach es X.env)).any (·.1) = false := by rfl)
    (ht : eval (.Call (.Attribute o m apos) (e :: es) [] pos) X.env = (do
      let ov ← eval o X.env
      standAt apos.atName
      let (f, first) ← holding [ov] (getMethod ov m pl)
      callWith pos f first (backTo pos (starEach (e :: es) X.env)) (backToKw pos (keywordEach [] X.env))) := by rfl) :
    PE X (.Call (.Attribute o m apos) (e :: es) [] pos) (tMethS C m sp dvs E ta t) := by
  refine ⟨fun pins s σ H Q I h => ?_⟩
  refine PySem.W.methodCall_KW (pl := pl) (thn (he.run pins s σ H _ I h) fun u s1 ⟨x, H1, I1, rx, a, dx, fs, ex, ea, l, q⟩ => ?_) ht
  subst ex
  obtain rfl : u = Value.ref a := rx
  refine getmeth_ok I1 ea c hm l ?_
  refine PySem.W.callWith_K (first := [.ref a]) (h₀ := X.base) I.ok.mod.kin hm.kp (thn (ha.run pos pins s1 σ H1 _ I1 q) fun us s2 ⟨vs, H2, I2, r, q2⟩ => ⟨I2.kIn, ?_⟩) hst hpl
  exact run_fnSD (us := .ref a :: us) (vs := .ref a :: vs) F hr hb hd (hx σ) I2 (.cons rfl r) q2
theorem run_makeS {pins : List (Addr × Obj)} {σ : St'} {H : Hp} {s : Shared} {Q : VK} {us : List Value} {vs : List V} (M : Mk X.K C f) (F : FnOk X.prog X.w X.K X.mg X.base CX k f fd ps sp) (hr : Room (k + 1) X.A) (hb : Binds X.K fd ps ds) (hd : Vals dvs ds)
    (hx : PassesAt CX X σ (E σ)) (I : Inv X pins σ H s) (r : Vals vs us)
    (h : ∀ x dx, H x = none → H dx = none → dx ≠ x → sp (.ref x :: (vs ++ dvs)) (upd (upd H dx (.own x)) x (.ins C dx [])) (fun v H2 => v = .non ∧ Q (.ref x) H2) (E σ)) :
    wpAny (model X.prog X.w) X.A (call (.ref C) us) (EP X pins σ Q) X.xe s := by
  have hq := h (s.heap.objs.size + 1) s.heap.objs.size (I.hok.fresh (Nat.le_succ _)) (I.hok.fresh (Nat.le_refl _)) (Nat.ne_of_lt (Nat.lt_succ_self _))
  have I2 := Inv.made (C := C) I
  have r2 : Vals (V.ref (s.heap.objs.size + 1) :: (vs ++ dvs)) (Value.ref (s.heap.objs.size + 1) :: (us ++ ds)) := .cons rfl (r.append hd)
  have hl : (Value.ref (s.heap.objs.size + 1) :: us ++ ds).length = ps.length := by
    have e := r2.length
    rw [F.len _ _ _ _ hq] at e
    exact e.symm
  refine wpAny_call (make_map (f := f) I.kIn M.makes M.init (beq_iff_eq.mp M.fn) (codeAny_mono (F.run _ X.stack _ _ ⟨Value.ref (s.heap.objs.size + 1) :: us, []⟩ (Value.ref (s.heap.objs.size + 1) :: (us ++ ds)) _ _ (E σ) (hr.make C us [])
    (I2.env0.make C us []) (hb _ (Value.ref (s.heap.objs.size + 1) :: us) I2.kIn hl) r2 hq) fun r s' hq' => ?_))
  cases r with
  | error e => exact hx pins _ _ e s' I2 hq'
  | ok fl =>
    cases fl with
    | ret u =>
      obtain ⟨v, H', I3, rv, ev, q3⟩ := I2.after hq'
      subst ev
      exact ⟨rv, ⟨V.ref (s.heap.objs.size + 1), H', I3, rfl, q3⟩⟩
    | next => exact False.elim hq'
    | brk => exact False.elim hq'
    | cont => exact False.elim hq'
theorem pe_makeS (M : Mk X.K C f) (F : FnOk X.prog X.w X.K X.mg X.base CX k f fd ps sp) (hr : Room (k + 1) X.A) (hg : Gl X x) (hm : X.mg x = some (.ref C)) (hb : Binds X.K fd ps ds) (hd : Vals dvs ds) (hx : ∀ σ, PassesAt CX X σ (E σ))
    (ha : PA X (e :: es) t) (hdb : (x == ("__debug__" : Str)) = false := by decide) (he : starEach (e :: es) X.env = (false, eval e X.env) :: starEach es X.env := by rfl) (hpl : (backTo pos (starEach es X.env)).any (·.1) = false := by rfl) :
    PE X (.Call (.Name x p) (e :: es) [] pos) (tMakeS C sp dvs E t) := by
  refine ⟨fun pins s σ H Q I h => ?_⟩
  refine wpAny_Call_Name_kw (ld_glob I hg hm ?_ hdb)
  refine PySem.W.callWith_K (h₀ := X.base) I.ok.mod.kin M.kp (thn (ha.run pos pins s σ H _ I h) fun us s1 ⟨vs, H1, I1, r, q⟩ => ⟨I1.kIn, ?_⟩) he hpl
  exact run_makeS M F hr hb hd (hx σ) I1 r q
end
end VL
set_option Elab.async false
set_option linter.all false
set_option maxRecDepth 100000
/-! VL8: the primitives: operators, comparisons, subscripts, builtins. -/
namespace VL
open PySem PySem.Spec PyProof.Rows L2
abbrev r2 (r : R2) : List V → Hp → VK → Prop := fun vs H Q => ∃ x y, vs = [x, y] ∧ r x y H Q
abbrev r1' (r : V → Hp → VK → Prop) : List V → Hp → VK → Prop := fun vs H Q => ∃ x, vs = [x] ∧ r x H Q
section
variable {K : PySem.W.Frag} {ca : Str → Addr} {A : List Addr} {H : Hp}
theorem prim2 {r : R2} {f : List D → Option Slot} (h : ∀ (A : List Addr) (H : Hp) (v w : V) (d e : D) (s : Slot) (Q : VK), Peek K ca H A d v → Peek K ca H A e w → f [d, e] = some s → (∀ u H', Grow K ca A H H' s u → Q u H') → r v w H Q)
    (h0 : ∀ ds, f ds ≠ none → ds.length = 2) : PrimR K ca (r2 r) f := by
  intro A H vs ds s Q pk e k
  have hl := h0 ds (by rw [e]; exact fun z => nomatch z)
  match ds, hl with
  | [d, d'], _ =>
    obtain ⟨v, w, rfl, pv, pw⟩ := pk2 pk
    exact ⟨v, w, rfl, h A H v w d d' s Q pv pw e k⟩
theorem prim1 {r : V → Hp → VK → Prop} {f : List D → Option Slot} (h : ∀ (A : List Addr) (H : Hp) (v : V) (d : D) (s : Slot) (Q : VK), Peek K ca H A d v → f [d] = some s → (∀ u H', Grow K ca A H H' s u → Q u H') → r v H Q)
    (h0 : ∀ ds, f ds ≠ none → ds.length = 1) : PrimR K ca (r1' r) f := by
  intro A H vs ds s Q pk e k
  have hl := h0 ds (by rw [e]; exact fun z => nomatch z)
  match ds, hl with
  | [d], _ =>
    obtain ⟨v, rfl, pv⟩ := pk1 pk
    exact ⟨v, rfl, h A H v d s Q pv e k⟩
theorem gr_sh {d : D} {v : V} (r : Rep K ca H A d v) : Grow K ca A H H (.sh d) v := .inl ⟨rfl, d, rfl, r⟩
theorem gr_tup {ds : List D} {vs : List V} {p : Addr} (n : H p = none) (r : Reps K ca H A ds vs) : Grow K ca A H (upd H p (.tup vs)) (.sh (.tup ds)) (.ref p) := .inr ⟨p, _, n, rfl, rfl, .inr (.inl ⟨ds, vs, rfl, rfl, r⟩)⟩
theorem gr_lst {ds : List D} {vs : List V} {p : Addr} (n : H p = none) (r : Reps K ca H A ds vs) : Grow K ca A H (upd H p (.lst vs)) (.ow (.lst ds)) (.ref p) := .inr ⟨p, _, n, rfl, rfl, .inl ⟨_, rfl, vs, rfl, r⟩⟩
/-! ### arithmetic -/
def sI (i : Int) : Option Slot := some (.sh (.int i))
def sB (b : Bool) : Option Slot := some (.sh (.bl b))
def pAdd (ds : List D) : Option Slot := match ds with
  | [.int i, .int j] => sI (i + j)
  | [.lst xs, .lst ys] => if xs.length + ys.length ≤ lim then some (.ow (.lst (xs ++ ys))) else none
  | [.tup xs, .tup ys] => if xs.length + ys.length ≤ lim then some (.sh (.tup (xs ++ ys))) else none
  | [.str a, .str b] => if a.length + b.length ≤ lim then some (.sh (.str (a ++ b))) else none
  | _ => none
def rAdd (K : PySem.W.Frag) : R2 := fun x y H Q => (rI0 fun i j => V.int (i + j)) x y H Q ∨ rCat x y H Q ∨ rCatA K x y H Q ∨ (∃ i j, x = .str i ∧ y = .str j ∧ i.length + j.length ≤ sizeLine ∧ Q (.str (i ++ j)) H)
theorem op_addV {X : Cx} : OpR X (binaryOp .Add) (rAdd X.K) := op_add.or (op_cat.or (op_catA.or op_add_str))
theorem pr_add : PrimR K ca (r2 (rAdd K)) pAdd := by
  refine prim2 (fun A H v w d e s Q pv pw hf k => ?_) (fun ds h => ?_)
  · have hl := lim_lt
    unfold pAdd at hf
    split at hf
    · rename_i i j he
      cases he
      cases hf
      exact .inl ⟨i, j, pv.int, pw.int, k _ _ (gr_sh rfl)⟩
    · rename_i xs ys he
      cases he
      split at hf
      · cases hf
        obtain ⟨a, vs, rfl, e1, r1⟩ := pv.lst
        obtain ⟨b, ws, rfl, e2, r2⟩ := pw.lst
        refine .inr (.inl ⟨a, b, vs, ws, rfl, rfl, e1, e2, ?_, fun p np => k _ _ (gr_lst np (r1.append r2))⟩)
        rw [r1.length, r2.length]; omega
      · cases hf
    · rename_i xs ys he
      cases he
      split at hf
      · cases hf
        obtain ⟨a, vs, rfl, e1, r1⟩ := pv.tup
        obtain ⟨b, ws, rfl, e2, r2⟩ := pw.tup
        refine .inr (.inr (.inl ⟨a, b, vs, ws, rfl, rfl, SqT.of e1, SqT.of e2, ?_, fun z => ?_, fun _ z => ?_, fun _ _ p np => k _ _ (gr_tup np (r1.append r2))⟩))
        · rw [r1.length, r2.length]; omega
        · have : xs = [] := List.eq_nil_of_length_eq_zero (by rw [← r1.length, z]; rfl)
          subst this
          rcases pw with pw | ⟨_, _, _, _, q⟩
          · exact k _ _ (gr_sh pw)
          · exact q.elim
        · have : ys = [] := List.eq_nil_of_length_eq_zero (by rw [← r2.length, z]; rfl)
          subst this
          rw [List.append_nil] at k
          rcases pv with pv | ⟨_, _, _, _, q⟩
          · exact k _ _ (gr_sh pv)
          · exact q.elim
      · cases hf
    · rename_i a b he
      cases he
      split at hf
      · cases hf
        exact .inr (.inr (.inr ⟨a, b, pv.str, pw.str, by omega, k _ _ (gr_sh rfl)⟩))
      · cases hf
    · cases hf
  · unfold pAdd at h
    split at h <;> first | rfl | exact absurd rfl h
def pSub (ds : List D) : Option Slot := match ds with
  | [.int i, .int j] => sI (i - j)
  | _ => none
theorem len2 {g : D → D → Option Slot} {f : List D → Option Slot} (hf : ∀ ds, f ds = match ds with | [d, e] => g d e | _ => none) : ∀ ds, f ds ≠ none → ds.length = 2 := fun ds h => by
  rw [hf] at h
  split at h
  · rfl
  · exact absurd rfl h
def ii (g : Int → Int → Option Slot) (ds : List D) : Option Slot := match ds with
  | [.int i, .int j] => g i j
  | _ => none
theorem ii_len {g : Int → Int → Option Slot} : ∀ ds, ii g ds ≠ none → ds.length = 2 := fun ds h => by
  unfold ii at h
  split at h
  · rfl
  · exact absurd rfl h
theorem pr_ii {r : R2} {g : Int → Int → Option Slot} (h : ∀ (H : Hp) (i j : Int) (s : Slot) (Q : VK), g i j = some s → (∀ d, s = .sh (.int d) → Q (.int d) H) → (∀ d, s = .sh (.bl d) → Q (.bl d) H) → r (.int i) (.int j) H Q) : PrimR K ca (r2 r) (ii g) := by
  refine prim2 (fun A H v w d e s Q pv pw hf k => ?_) ii_len
  unfold ii at hf
  split at hf
  · rename_i i j he
    cases he
    rw [pv.int, pw.int]
    exact h H i j s Q hf (fun d e => k _ _ (by rw [e]; exact gr_sh rfl)) fun d e => k _ _ (by rw [e]; exact gr_sh rfl)
  · cases hf
def oI (c : Bool) (i : Int) : Option Slot := if c then sI i else none
theorem pr_sub : PrimR K ca (r2 (rI0 fun i j => V.int (i - j))) (ii fun i j => sI (i - j)) := pr_ii fun H i j s Q e k _ => ⟨i, j, rfl, rfl, k _ (Option.some.inj e).symm⟩
theorem oI_some {c : Bool} {i : Int} {s : Slot} (h : oI c i = some s) : c = true ∧ s = .sh (.int i) := by
  unfold oI at h
  cases c with
  | true => rw [if_pos rfl] at h; cases h; exact ⟨rfl, rfl⟩
  | false => rw [if_neg Bool.false_ne_true] at h; cases h
theorem pr_rI {C : Int → Int → Prop} {g : Int → Int → Int} {c : Int → Int → Bool} (hc : ∀ i j, c i j = true → C i j) : PrimR K ca (r2 (rI C fun i j => V.int (g i j))) (ii fun i j => oI (c i j) (g i j)) := pr_ii fun H i j s Q e k _ => by
  obtain ⟨h1, h2⟩ := oI_some e
  exact ⟨i, j, rfl, rfl, hc i j h1, k _ h2⟩
def cDiv (i j : Int) : Bool := decide (0 < j) && decide (j < 1073741824)
def cMod (i j : Int) : Bool := decide (0 < j)
def cPow (i j : Int) : Bool := decide (0 ≤ j) && decide (j ≤ 1000000) && decide (i.natAbs < 2 ^ 64)
def cShr (i j : Int) : Bool := decide (0 ≤ j)
def pFdiv := ii fun i j => oI (cDiv i j) (i / j)
def pMod := ii fun i j => oI (cMod i j) (i % j)
def pPow := ii fun i j => oI (cPow i j) (i ^ j.toNat)
def pShl := ii fun i j => oI (cPow i j) (i * 2 ^ j.toNat)
def pShr := ii fun i j => oI (cShr i j) (i / 2 ^ j.toNat)
def pBand := ii fun i j => sI (Builtin.bitAnd i j)
def pBor := ii fun i j => sI (Builtin.bitOr i j)
theorem pr_fdiv : PrimR K ca (r2 (rI CDiv fun i j => V.int (i / j))) pFdiv := pr_rI fun i j h => by
  unfold cDiv at h; rw [Bool.and_eq_true] at h; exact ⟨of_decide_eq_true h.1, of_decide_eq_true h.2⟩
theorem pr_mod : PrimR K ca (r2 (rI (fun _ j => 0 < j) fun i j => V.int (i % j))) pMod := pr_rI fun i j h => of_decide_eq_true h
theorem cPow_ok : ∀ i j, cPow i j = true → CPow i j := fun i j h => by
  unfold cPow at h; rw [Bool.and_eq_true, Bool.and_eq_true] at h; exact ⟨of_decide_eq_true h.1.1, of_decide_eq_true h.1.2, of_decide_eq_true h.2⟩
theorem pr_pow : PrimR K ca (r2 (rI CPow fun i j => V.int (i ^ j.toNat))) pPow := pr_rI cPow_ok
theorem pr_shl : PrimR K ca (r2 (rI CPow fun i j => V.int (i * 2 ^ j.toNat))) pShl := pr_rI cPow_ok
theorem pr_shr : PrimR K ca (r2 (rI (fun _ j => 0 ≤ j) fun i j => V.int (i / 2 ^ j.toNat))) pShr := pr_rI fun i j h => of_decide_eq_true h
theorem pr_band : PrimR K ca (r2 (rI0 fun i j => V.int (Builtin.bitAnd i j))) pBand := pr_ii fun H i j s Q e k _ => ⟨i, j, rfl, rfl, k _ (Option.some.inj e).symm⟩
theorem pr_bor : PrimR K ca (r2 (rI0 fun i j => V.int (Builtin.bitOr i j))) pBor := pr_ii fun H i j s Q e k _ => ⟨i, j, rfl, rfl, k _ (Option.some.inj e).symm⟩
/-- * of ints (one below 2^64), a list times an int -/
def cMul (i j : Int) : Bool := Nat.ble i.natAbs 18446744073709551615 || Nat.ble j.natAbs 18446744073709551615
def pMul (ds : List D) : Option Slot := match ds with
  | [.int i, .int j] => oI (cMul i j) (i * j)
  | [.lst xs, .int k] => if small k && decide (xs.length * k.toNat ≤ lim) then some (.ow (.lst (List.replicate k.toNat xs).flatten)) else none
  | _ => none
def rMulV : R2 := fun x y H Q => (rI CMul fun i j => V.int (i * j)) x y H Q ∨ rRep x y H Q
theorem op_mulV {X : Cx} : OpR X (binaryOp .Mult) rMulV := op_mul.or op_rep
theorem Reps.rep {ds : List D} {vs : List V} (r : Reps K ca H A ds vs) : ∀ n : Nat, Reps K ca H A (List.replicate n ds).flatten (List.replicate n vs).flatten
  | 0 => rfl
  | n + 1 => by
    rw [List.replicate_succ, List.replicate_succ, List.flatten_cons, List.flatten_cons]
    exact r.append (Reps.rep r n)
theorem pr_mul : PrimR K ca (r2 rMulV) pMul := by
  refine prim2 (fun A H v w d e s Q pv pw hf k => ?_) (fun ds h => ?_)
  · have hl := lim_lt
    unfold pMul at hf
    split at hf
    · rename_i i j he
      cases he
      obtain ⟨h1, rfl⟩ := oI_some hf
      refine .inl ⟨i, j, pv.int, pw.int, ?_, k _ _ (gr_sh rfl)⟩
      unfold cMul at h1
      rw [Bool.or_eq_true] at h1
      rcases h1 with h1 | h1
      · have h2 := Nat.le_of_ble_eq_true h1
        exact .inl ⟨by omega, by omega⟩
      · have h2 := Nat.le_of_ble_eq_true h1
        exact .inr ⟨by omega, by omega⟩
    · rename_i xs j he
      cases he
      split at hf
      · rename_i hc
        cases hf
        rw [Bool.and_eq_true] at hc
        obtain ⟨s1, s2⟩ := small_of hc.1
        have hz := of_decide_eq_true hc.2
        obtain ⟨a, vs, rfl, e1, r1⟩ := pv.lst
        refine .inr ⟨a, j, vs, rfl, pw.int, e1, by omega, by omega, ?_, fun p np => k _ _ (gr_lst np (r1.rep _))⟩
        rw [r1.length]
        omega
      · cases hf
    · cases hf
  · unfold pMul at h
    split at h <;> first | rfl | exact absurd rfl h
def pNeg (ds : List D) : Option Slot := match ds with
  | [.int i] => sI (-i)
  | _ => none
theorem pr_neg : PrimR K ca (r1' (rU fun i => V.int (-i))) pNeg := by
  refine prim1 (fun A H v d s Q pv hf k => ?_) (fun ds h => ?_)
  · unfold pNeg at hf
    split at hf
    · rename_i i he
      cases he
      cases hf
      exact ⟨i, pv.int, k _ _ (gr_sh rfl)⟩
    · cases hf
  · unfold pNeg at h
    split at h <;> first | rfl | exact absurd rfl h

/-! ### comparisons -/
def pLt := ii fun i j => sB (decide (i < j))
def pLe := ii fun i j => sB (decide (i ≤ j))
def pGt := ii fun i j => sB (decide (j < i))
def pGe := ii fun i j => sB (decide (j ≤ i))
theorem pr_lt : PrimR K ca (r2 (rI0 fun i j => V.bl (decide (i < j)))) pLt := pr_ii fun H i j s Q e _ k => ⟨i, j, rfl, rfl, k _ (Option.some.inj e).symm⟩
theorem pr_le : PrimR K ca (r2 (rI0 fun i j => V.bl (decide (i ≤ j)))) pLe := pr_ii fun H i j s Q e _ k => ⟨i, j, rfl, rfl, k _ (Option.some.inj e).symm⟩
theorem pr_gt : PrimR K ca (r2 (rI0 fun i j => V.bl (decide (j < i)))) pGt := pr_ii fun H i j s Q e _ k => ⟨i, j, rfl, rfl, k _ (Option.some.inj e).symm⟩
theorem pr_ge : PrimR K ca (r2 (rI0 fun i j => V.bl (decide (j ≤ i)))) pGe := pr_ii fun H i j s Q e _ k => ⟨i, j, rfl, rfl, k _ (Option.some.inj e).symm⟩
/-! data as the library has it -/
mutual
def toP : D → Option PyData
  | .non => some .none
  | .bl b => some (.bool b)
  | .int i => some (.int i)
  | .str x => some (.str x)
  | .tup ds => (toPs ds).map .tuple
  | .ft ds => (toPs ds).map .tuple
  | .lst ds => (toPs ds).map .list
  | _ => none
def toPs : List D → Option (List PyData)
  | [] => some []
  | d :: ds => match toP d with
    | some p => match toPs ds with
      | some ps => some (p :: ps)
      | none => none
    | none => none
end
mutual
theorem dp_of : ∀ (d : D) (v : V) (p : PyData), Rep K ca H A d v → toP d = some p → Dp K H v p
  | .non, _, _, r, e => by cases (show _ = _ from r); cases e; exact .non
  | .bl b, _, _, r, e => by cases (show _ = _ from r); cases e; exact .bl b
  | .int b, _, _, r, e => by cases (show _ = _ from r); cases e; exact .int b
  | .str b, _, _, r, e => by cases (show _ = _ from r); cases e; exact .str b
  | .tup ds, _, p, r, e => by
    obtain ⟨a, vs, rfl, _, n, rs⟩ := r
    have e : (toPs ds).map PyData.tuple = some p := e
    cases e2 : toPs ds with
    | none => rw [e2] at e; cases e
    | some ps =>
      rw [e2] at e
      cases e
      exact .tup (SqT.of n) (dps_of ds vs ps rs e2)
  | .ft ds, _, p, r, e => by
    obtain ⟨a, vs, o, rfl, _, n, _, rs⟩ := r
    have e : (toPs ds).map PyData.tuple = some p := e
    cases e2 : toPs ds with
    | none => rw [e2] at e; cases e
    | some ps =>
      rw [e2] at e
      cases e
      exact .tup (.inl (.inr ⟨o, n⟩)) (dps_of ds vs ps rs e2)
  | .lst ds, _, p, r, e => by
    obtain ⟨a, vs, rfl, n, h, rs⟩ := r
    have e : (toPs ds).map PyData.list = some p := e
    cases e2 : toPs ds with
    | none => rw [e2] at e; cases e
    | some ps =>
      rw [e2] at e
      cases e
      exact .lst (SqL.of h) (dps_of ds vs ps rs e2)
  | .dic _ _, _, _, _, e => by cases e
  | .dit _ _, _, _, _, e => by cases e
  | .kt _, _, _, _, e => by cases e
  | .scr _, _, _, _, e => by cases e
  | .obj _ _ _, _, _, _, e => by cases e
theorem dps_of : ∀ (ds : List D) (vs : List V) (ps : List PyData), Reps K ca H A ds vs → toPs ds = some ps → DpAll K H vs ps
  | [], _, _, r, e => by cases (show _ = _ from r); cases e; exact .nil
  | d :: ds, _, ps, r, e => by
    obtain ⟨v, r, rfl, h1, h2⟩ := r
    unfold toPs at e
    cases e1 : toP d with
    | none => rw [e1] at e; cases e
    | some p =>
      cases e2 : toPs ds with
      | none => rw [e1, e2] at e; cases e
      | some qs =>
        rw [e1, e2] at e
        cases e
        exact .cons (dp_of d v p h1 e1) (dps_of ds r qs h2 e2)
end
theorem dp_peek {d : D} {v : V} {p : PyData} (h : Peek K ca H A d v) (e : toP d = some p) : Dp K H v p := by
  rcases h with h | ⟨a, u, rfl, h1, h2⟩
  · exact dp_of d v p h e
  · cases d with
    | lst ds =>
      obtain ⟨vs, rfl, rs⟩ := h2
      have e : (toPs ds).map PyData.list = some p := e
      cases e2 : toPs ds with
      | none => rw [e2] at e; cases e
      | some ps =>
        rw [e2] at e
        cases e
        exact .lst (SqL.of h1) (dps_of ds vs ps rs e2)
    | dic ks ds => cases e
    | dit ks ds => cases e
    | obj c ns ds => cases e
    | _ => exact h2.elim
/-- data that == is told of -/
def shp (d : D) : Option PyData := match toP d with
  | some p => if SeqAt.shaped p then some p else none
  | none => none
theorem shp_of {d : D} {p : PyData} (h : shp d = some p) : toP d = some p ∧ SeqAt.shaped p = true := by
  unfold shp at h
  cases e : toP d with
  | none => rw [e] at h; cases h
  | some q =>
    rw [e] at h
    dsimp only at h
    split at h
    · rename_i hs
      cases h
      exact ⟨rfl, hs⟩
    · cases h
def pEq (ds : List D) : Option Slot := match ds with
  | [d, e] => match shp d, shp e with
    | some p, some q => sB (PyData.eqv p q)
    | _, _ => none
  | _ => none
def pNe (ds : List D) : Option Slot := match ds with
  | [d, e] => match shp d, shp e with
    | some p, some q => sB (!PyData.eqv p q)
    | _, _ => none
  | _ => none
theorem pr_eq : PrimR K ca (r2 (rEqD K)) pEq := by
  refine prim2 (fun A H v w d e s Q pv pw hf k => ?_) (fun ds h => ?_)
  · unfold pEq at hf
    dsimp only at hf
    split at hf
    · rename_i p q h1 h2
      cases hf
      obtain ⟨a1, a2⟩ := shp_of h1
      obtain ⟨b1, b2⟩ := shp_of h2
      exact ⟨p, q, dp_peek pv a1, dp_peek pw b1, a2, b2, k _ _ (gr_sh rfl)⟩
    · cases hf
  · unfold pEq at h
    split at h <;> first | rfl | exact absurd rfl h
theorem pr_ne : PrimR K ca (r2 (rNeD K)) pNe := by
  refine prim2 (fun A H v w d e s Q pv pw hf k => ?_) (fun ds h => ?_)
  · unfold pNe at hf
    dsimp only at hf
    split at hf
    · rename_i p q h1 h2
      cases hf
      obtain ⟨a1, a2⟩ := shp_of h1
      obtain ⟨b1, b2⟩ := shp_of h2
      exact ⟨p, q, dp_peek pv a1, dp_peek pw b1, a2, b2, k _ _ (gr_sh rfl)⟩
    · cases hf
  · unfold pNe at h
    split at h <;> first | rfl | exact absurd rfl h
/-- is None, is True -/
def pIs (ds : List D) : Option Slot := match ds with
  | [.bl a, .bl b] => sB (decide (a = b))
  | [.non, .non] => sB true
  | [.obj _ _ _, .non] => sB false
  | [.int _, .non] => sB false
  | [.bl _, .non] => sB false
  | [.str _, .non] => sB false
  | [.tup _, .non] => sB false
  | [.lst _, .non] => sB false
  | _ => none
def pIsN (ds : List D) : Option Slot := match pIs ds with
  | some (.sh (.bl b)) => sB (!b)
  | _ => none
def rIs : R2 := fun x y H Q => rIsB x y H Q ∨ (y = .non ∧ Q (.bl (decide (x = .non))) H)
def rIsNot : R2 := fun x y H Q => rNotB x y H Q ∨ (y = .non ∧ Q (.bl (!decide (x = .non))) H)
theorem op_isV {X : Cx} : OpR X (compareOp .Is) rIs := op_isBl.or op_isN
theorem op_isNotV {X : Cx} : OpR X (compareOp .IsNot) rIsNot := op_notBl.or op_notN
theorem is_cases {d e : D} {s : Slot} {v w : V} (pv : Peek K ca H A d v) (pw : Peek K ca H A e w) (h : pIs [d, e] = some s) : ∃ b, s = .sh (.bl b) ∧ ((∃ x y, v = .bl x ∧ w = .bl y ∧ b = decide (x = y)) ∨ (w = .non ∧ b = decide (v = .non))) := by
  unfold pIs at h
  split at h
  · rename_i a b he
    cases he
    cases h
    exact ⟨_, rfl, .inl ⟨a, b, pv.bl, pw.bl, rfl⟩⟩
  · rename_i he
    cases he
    cases h
    exact ⟨_, rfl, .inr ⟨pw.non, by rw [pv.non]; rfl⟩⟩
  · rename_i he
    cases he
    cases h
    obtain ⟨a, dx, vs, rfl, _⟩ := pv.obj
    exact ⟨_, rfl, .inr ⟨pw.non, rfl⟩⟩
  · rename_i he
    cases he
    cases h
    exact ⟨_, rfl, .inr ⟨pw.non, by rw [pv.int]; rfl⟩⟩
  · rename_i he
    cases he
    cases h
    exact ⟨_, rfl, .inr ⟨pw.non, by rw [pv.bl]; rfl⟩⟩
  · rename_i he
    cases he
    cases h
    exact ⟨_, rfl, .inr ⟨pw.non, by rw [pv.str]; rfl⟩⟩
  · rename_i he
    cases he
    cases h
    obtain ⟨a, vs, rfl, _⟩ := pv.tup
    exact ⟨_, rfl, .inr ⟨pw.non, rfl⟩⟩
  · rename_i he
    cases he
    cases h
    obtain ⟨a, vs, rfl, _⟩ := pv.lst
    exact ⟨_, rfl, .inr ⟨pw.non, rfl⟩⟩
  · cases h
theorem is_len : ∀ ds, pIs ds ≠ none → ds.length = 2 := fun ds h => by
  unfold pIs at h
  split at h <;> first | rfl | exact absurd rfl h
theorem pr_is : PrimR K ca (r2 rIs) pIs := by
  refine prim2 (fun A H v w d e s Q pv pw hf k => ?_) is_len
  obtain ⟨b, rfl, q⟩ := is_cases pv pw hf
  rcases q with ⟨x, y, rfl, rfl, rfl⟩ | ⟨rfl, rfl⟩
  · exact .inl ⟨x, y, rfl, rfl, k _ _ (gr_sh rfl)⟩
  · exact .inr ⟨rfl, k _ _ (gr_sh rfl)⟩
theorem pr_isN : PrimR K ca (r2 rIsNot) pIsN := by
  refine prim2 (fun A H v w d e s Q pv pw hf k => ?_) (fun ds h => ?_)
  · unfold pIsN at hf
    split at hf
    · rename_i b hb
      cases hf
      obtain ⟨b', e', q⟩ := is_cases pv pw hb
      cases e'
      rcases q with ⟨x, y, rfl, rfl, rfl⟩ | ⟨rfl, rfl⟩
      · exact .inl ⟨x, y, rfl, rfl, k _ _ (gr_sh rfl)⟩
      · exact .inr ⟨rfl, k _ _ (gr_sh rfl)⟩
    · cases hf
  · unfold pIsN at h
    split at h
    · rename_i b hb
      exact is_len ds (by rw [hb]; exact fun z => nomatch z)
    · exact absurd rfl h
end
end VL
set_option Elab.async false
set_option linter.all false
set_option maxRecDepth 100000
/-! VL9: the primitives: in, subscripts, slices, builtins, methods, dicts, fields stored. -/
namespace VL
open PySem PySem.Spec PyProof.Rows L2
section
variable {K : PySem.W.Frag} {ca : Str → Addr} {A : List Addr} {H : Hp}
/-! ### keys -/
def keyOf : D → Option Key
  | .int i => some (.inl i)
  | .str x => some (.inr x)
  | _ => none
def keysOf : List D → Option (List Key)
  | [] => some []
  | d :: ds => match keyOf d with
    | some k => match keysOf ds with
      | some ks => some (k :: ks)
      | none => none
    | none => none
theorem keyOf_rep {d : D} {v : V} {k : Key} (h : keyOf d = some k) (r : Peek K ca H A d v) : v = kV k := by
  cases d with
  | int i => cases h; exact r.int
  | str i => cases h; exact r.str
  | _ => cases h
theorem keysOf_rep : ∀ {ds : List D} {vs : List V} {ks : List Key}, keysOf ds = some ks → Reps K ca H A ds vs → vs = ks.map kV
  | [], _, _, h, r => by cases h; exact r
  | d :: ds, _, ks, h, r => by
    obtain ⟨v, r, rfl, h1, h2⟩ := r
    unfold keysOf at h
    split at h
    · rename_i k hk
      split at h
      · rename_i ks' hks
        cases h
        rw [keyOf_rep hk (.inl h1), keysOf_rep hks h2]
        rfl
      · cases h
    · cases h
/-- what a dict holds -/
def dgt {κ : Type} [DecidableEq κ] (k : κ) : List κ → List D → Option D
  | k' :: ks, d :: ds => if k' = k then some d else dgt k ks ds
  | _, _ => none
theorem dgt_ok {κ : Type} [DecidableEq κ] {k : κ} : ∀ {ks : List κ} {ds : List D} {vs : List V}, Reps K ca H A ds vs → ks.length = vs.length →
    (∀ d, dgt k ks ds = some d → ∃ v, valV (ks.zip vs) k = some v ∧ Rep K ca H A d v) ∧ (dgt k ks ds = none → valV (ks.zip vs) k = none)
  | [], _, _, _, _ => ⟨fun d h => (by cases h), fun _ => rfl⟩
  | k' :: ks, [], vs, r, e => by
    have hv : vs = [] := r
    subst hv
    cases e
  | k' :: ks, d :: ds, _, r, e => by
    obtain ⟨v, r, rfl, h1, h2⟩ := r
    obtain ⟨i1, i2⟩ := dgt_ok (k := k) h2 (by simpa using e)
    by_cases hk : k' = k
    · refine ⟨fun d' h => ?_, fun h => ?_⟩
      · have h : (if k' = k then some d else dgt k ks ds) = some d' := h
        rw [if_pos hk] at h
        cases h
        exact ⟨v, valV_pos (p := (k', v)) hk, h1⟩
      · have h : (if k' = k then some d else dgt k ks ds) = none := h
        rw [if_pos hk] at h
        cases h
    · refine ⟨fun d' h => ?_, fun h => ?_⟩
      · have h : (if k' = k then some d else dgt k ks ds) = some d' := h
        rw [if_neg hk] at h
        obtain ⟨w, q1, q2⟩ := i1 d' h
        exact ⟨w, (valV_neg (p := (k', v)) hk).trans q1, q2⟩
      · have h : (if k' = k then some d else dgt k ks ds) = none := h
        rw [if_neg hk] at h
        exact (valV_neg (p := (k', v)) hk).trans (i2 h)
/-- .. behind a store -/
def dpt {κ : Type} [DecidableEq κ] (k : κ) (e : D) : List κ → List D → List κ × List D
  | k' :: ks, d :: ds => if k' = k then (k' :: ks, e :: ds) else ((k' :: (dpt k e ks ds).1), d :: (dpt k e ks ds).2)
  | _, _ => ([k], [e])
def hasK {κ : Type} [DecidableEq κ] (k : κ) (ks : List κ) : Bool := ks.any fun j => decide (j = k)
theorem hasK_iff {κ : Type} [DecidableEq κ] {k : κ} {ks : List κ} : hasK k ks = true ↔ k ∈ ks := by
  unfold hasK
  rw [List.any_eq_true]
  exact ⟨fun ⟨j, h1, h2⟩ => of_decide_eq_true h2 ▸ h1, fun h => ⟨k, h, decide_eq_true rfl⟩⟩
theorem zip_any {κ : Type} [DecidableEq κ] {k : κ} : ∀ {ks : List κ} {vs : List V}, ks.length = vs.length → ((ks.zip vs).any fun kv => decide (kv.1 = k)) = hasK k ks
  | [], [], _ => rfl
  | k' :: ks, v :: vs, e => by
    rw [List.zip_cons_cons, List.any_cons, zip_any (by simpa using e)]
    rfl
theorem mapif {κ : Type} [DecidableEq κ] {k : κ} {w : V} : ∀ {ks : List κ} {vs : List V}, k ∉ ks → (ks.zip vs).map (fun kv => if kv.1 = k then (kv.1, w) else kv) = ks.zip vs
  | [], _, _ => by simp
  | k' :: ks, [], _ => by simp
  | k' :: ks, v :: vs, h => by
    rw [List.zip_cons_cons, List.map_cons, mapif fun z => h (List.mem_cons_of_mem _ z), if_neg fun z : k' = k => h (z ▸ List.mem_cons_self)]
theorem dpt_ok {κ : Type} [DecidableEq κ] {k : κ} {e : D} {w : V} (rw' : Rep K ca H A e w) : ∀ {ks : List κ} {ds : List D} {vs : List V}, Reps K ca H A ds vs → ks.length = vs.length → ks.Nodup →
    ∃ vs', putK (ks.zip vs) k w = (dpt k e ks ds).1.zip vs' ∧ (dpt k e ks ds).1.length = vs'.length ∧ Reps K ca H A (dpt k e ks ds).2 vs' ∧ (dpt k e ks ds).1.Nodup ∧ (∀ j, j ∈ (dpt k e ks ds).1 → j = k ∨ j ∈ ks)
  | [], ds, vs, r, e', _ => by
    have hv : vs = [] := List.eq_nil_of_length_eq_zero e'.symm
    subst hv
    have hd : ds = [] := List.eq_nil_of_length_eq_zero (by rw [← r.length]; rfl)
    subst hd
    exact ⟨[w], rfl, rfl, ⟨w, [], rfl, rw', rfl⟩, List.nodup_cons.mpr ⟨by simp, List.nodup_nil⟩, fun j hj => .inl (by simpa [dpt] using hj)⟩
  | k' :: ks, [], vs, r, e', _ => by
    have hv : vs = [] := r
    subst hv
    cases e'
  | k' :: ks, d :: ds, _, r, e', nd => by
    obtain ⟨v, r, rfl, h1, h2⟩ := r
    obtain ⟨n1, n2⟩ := List.nodup_cons.mp nd
    have e2 : ks.length = r.length := by simpa using e'
    obtain ⟨vs', q1, q2, q3, q4, q5⟩ := dpt_ok (k := k) rw' h2 e2 n2
    by_cases hk : k' = k
    · have hd : dpt k e (k' :: ks) (d :: ds) = (k' :: ks, e :: ds) := by unfold dpt; rw [if_pos hk]
      rw [hd]
      refine ⟨w :: r, ?_, e', ⟨w, r, rfl, rw', h2⟩, nd, fun j hj => .inr hj⟩
      unfold putK
      rw [zip_any e', if_pos (hasK_iff.mpr (by rw [hk]; exact List.mem_cons_self))]
      rw [List.zip_cons_cons, List.map_cons, if_pos hk, mapif (hk ▸ n1)]
      rfl
    · have hd : dpt k e (k' :: ks) (d :: ds) = ((k' :: (dpt k e ks ds).1), d :: (dpt k e ks ds).2) := by
        conv => lhs; unfold dpt
        rw [if_neg hk]
      rw [hd]
      refine ⟨v :: vs', ?_, by simpa using q2, ⟨v, vs', rfl, h1, q3⟩, ?_, fun j hj => ?_⟩
      · show putK ((k', v) :: ks.zip r) k w = (k', v) :: (dpt k e ks ds).1.zip vs'
        rw [← q1]
        unfold putK
        rw [List.any_cons, zip_any e2, decide_eq_false (show ¬ (k', v).1 = k from hk), Bool.false_or]
        cases hm : hasK k ks with
        | true => rw [if_pos rfl, if_pos rfl, List.map_cons, if_neg (show ¬ (k', v).1 = k from hk)]
        | false => rw [if_neg Bool.false_ne_true, if_neg Bool.false_ne_true]; rfl
      · refine List.nodup_cons.mpr ⟨fun z => ?_, q4⟩
        rcases q5 k' z with z | z
        · exact hk z
        · exact n1 z
      · rcases List.mem_cons.mp hj with rfl | hj
        · exact .inr List.mem_cons_self
        · rcases q5 j hj with z | z
          · exact .inl z
          · exact .inr (List.mem_cons_of_mem _ z)

/-! ### in -/
def flatD : D → Bool
  | .non => true
  | .bl _ => true
  | .int _ => true
  | .str _ => true
  | _ => false
def aV : D → V
  | .bl b => .bl b
  | .int i => .int i
  | .str x => .str x
  | _ => .non
theorem flat_rep {d : D} {v : V} (h : flatD d = true) (r : Peek K ca H A d v) : v = aV d ∧ flatV v = true := by
  cases d with
  | non => rw [r.non]; exact ⟨rfl, rfl⟩
  | bl b => rw [r.bl]; exact ⟨rfl, rfl⟩
  | int i => rw [r.int]; exact ⟨rfl, rfl⟩
  | str x => rw [r.str]; exact ⟨rfl, rfl⟩
  | _ => cases h
theorem flats_rep : ∀ {ds : List D} {vs : List V}, ds.all flatD = true → Reps K ca H A ds vs → vs = ds.map aV ∧ vs.all flatV = true
  | [], _, _, r => by cases (show _ = _ from r); exact ⟨rfl, rfl⟩
  | d :: ds, _, h, r => by
    obtain ⟨v, r, rfl, h1, h2⟩ := r
    rw [List.all_cons, Bool.and_eq_true] at h
    obtain ⟨q1, q2⟩ := flat_rep h.1 (.inl h1)
    obtain ⟨q3, q4⟩ := flats_rep h.2 h2
    exact ⟨by rw [q1, q3]; rfl, by rw [List.all_cons, q2, q4]; rfl⟩
def inB (x : D) : D → Option Bool
  | .lst ys => if flatD x && ys.all flatD then some (inV (aV x) (ys.map aV)) else match shp x, shp (.lst ys) with
    | some p, some (.list ps) => some (ps.any fun z => PyData.eqv z p)
    | _, _ => none
  | .tup ys => if flatD x && ys.all flatD then some (inV (aV x) (ys.map aV)) else none
  | .kt ys => if flatD x && ys.all flatD then some (inV (aV x) (ys.map aV)) else none
  | .dic ks _ => match keyOf x with
    | some k => some (hasK k ks)
    | none => none
  | .dit ks _ => match x with
    | .tup ds => match keysOf ds with
      | some k => some (hasK k ks)
      | none => none
    | _ => none
  | _ => none
def rInA (K : PySem.W.Frag) (neg : Bool) : R2 := fun x y H Q => rIn K neg x y H Q ∨ (∃ d ds, Dp K H x d ∧ Dp K H y (.list ds) ∧ SeqAt.shaped d = true ∧ SeqAt.shaped (.list ds) = true ∧ Q (.bl (neg ^^ (ds.any fun z => PyData.eqv z d))) H) ∨
  (∃ a o, y = .ref a ∧ DGet H a x o ∧ Q (.bl (neg ^^ o.isSome)) H)
theorem op_inA {X : Cx} (hu : X.A.units + 65 < cLine) : OpR X (compareOp .In) (rInA X.K false) := by
  intro pins s σ H x y v u Q I rx ry h
  rcases h with h | ⟨d, ds, h1, h2, h3, h4, q⟩ | ⟨a, o, rfl, g, q⟩
  · exact op_in_seq pins s σ H x y v u Q I rx ry h
  · exact op_inD hu pins s σ H x y v u Q I rx ry ⟨d, ds, h1, h2, h3, h4, by simpa using q⟩
  · cases ry
    exact d_in (by omega) I g rx fun s3 I3 => ⟨.bl o.isSome, H, I3, rfl, by simpa using q⟩
theorem op_notInA {X : Cx} (hu : X.A.units + 65 < cLine) : OpR X (compareOp .NotIn) (rInA X.K true) := by
  intro pins s σ H x y v u Q I rx ry h
  rcases h with h | ⟨d, ds, h1, h2, h3, h4, q⟩ | ⟨a, o, rfl, g, q⟩
  · exact op_notIn_seq pins s σ H x y v u Q I rx ry h
  · exact op_notInD hu pins s σ H x y v u Q I rx ry ⟨d, ds, h1, h2, h3, h4, by simpa using q⟩
  · cases ry
    exact d_notIn (by omega) I g rx fun s3 I3 => ⟨.bl (!o.isSome), H, I3, rfl, by simpa using q⟩
def pIn (ds : List D) : Option Slot := match ds with
  | [x, y] => match inB x y with
    | some b => sB b
    | none => none
  | _ => none
def pNotIn (ds : List D) : Option Slot := match ds with
  | [x, y] => match inB x y with
    | some b => sB (!b)
    | none => none
  | _ => none
theorem some_mem {κ : Type} [DecidableEq κ] {k : κ} {ks : List κ} {vs : List V} (e : ks.length = vs.length) : (valV (ks.zip vs) k).isSome = hasK k ks := by
  rw [← valV_any, zip_any e]
theorem in_go {neg : Bool} {x y : D} {v w : V} {b : Bool} {Q : VK} (pv : Peek K ca H A x v) (pw : Peek K ca H A y w) (h : inB x y = some b) (q : Q (.bl (neg ^^ b)) H) : rInA K neg v w H Q := by
  have flat : ∀ (ys : List D) (a : Addr) (vs : List V), w = .ref a → (SqL K H a vs ∨ SqT K H a vs) → Reps K ca H A ys vs → (flatD x && ys.all flatD) = true → b = inV (aV x) (ys.map aV) → rInA K neg v w H Q := fun ys a vs ew hs rs hf hb => by
    rw [Bool.and_eq_true] at hf
    obtain ⟨q1, q2⟩ := flat_rep hf.1 pv
    obtain ⟨q3, q4⟩ := flats_rep hf.2 rs
    refine .inl ⟨a, vs, ew, hs, q2, q4, ?_⟩
    rw [hb] at q
    rw [q1, q3]
    cases neg with
    | true => simpa using q
    | false => simpa using q
  cases y with
  | lst ys =>
    obtain ⟨a, vs, rfl, e1, rs⟩ := pw.lst
    unfold inB at h
    dsimp only at h
    split at h
    · rename_i hf
      cases h
      exact flat ys a vs rfl (.inl (SqL.of e1)) rs hf rfl
    · split at h
      · rename_i p ps h1 h2
        cases h
        obtain ⟨a1, a2⟩ := shp_of h1
        obtain ⟨b1, b2⟩ := shp_of h2
        exact .inr (.inl ⟨p, ps, dp_peek pv a1, dp_peek pw b1, a2, b2, q⟩)
      · cases h
  | tup ys =>
    obtain ⟨a, vs, rfl, e1, rs⟩ := pw.tup
    unfold inB at h
    dsimp only at h
    split at h
    · rename_i hf
      cases h
      exact flat ys a vs rfl (.inr (SqT.of e1)) rs hf rfl
    · cases h
  | kt ys =>
    obtain ⟨a, vs, rfl, e1, rs⟩ := pw.kt
    unfold inB at h
    dsimp only at h
    split at h
    · rename_i hf
      cases h
      exact flat ys a vs rfl (.inr (.inr e1)) rs hf rfl
    · cases h
  | dic ks ds =>
    obtain ⟨a, vs, rfl, e1, ⟨hl, nd⟩, rs⟩ := pw.dic
    unfold inB at h
    dsimp only at h
    split at h
    · rename_i k hk
      cases h
      refine .inr (.inr ⟨a, _, rfl, by rw [keyOf_rep hk pv]; exact DGet.k (k := k) e1, ?_⟩)
      rw [some_mem hl]
      exact q
    · cases h
  | dit ks ds =>
    obtain ⟨a, vs, rfl, e1, ⟨hl, nd⟩, rs⟩ := pw.dit
    unfold inB at h
    dsimp only at h
    split at h
    · split at h
      · rename_i ds' _ k hk
        cases h
        obtain ⟨b', ws, rfl, e2, rs2⟩ := pv.tup
        refine .inr (.inr ⟨a, _, rfl, DGet.t (k := k) e1 (by rw [e2, keysOf_rep hk rs2]), ?_⟩)
        rw [some_mem hl]
        exact q
      · cases h
    · cases h
  | _ => cases h
theorem pr_in : PrimR K ca (r2 (rInA K false)) pIn := by
  refine prim2 (fun A H v w d e s Q pv pw hf k => ?_) (fun ds h => ?_)
  · unfold pIn at hf
    dsimp only at hf
    split at hf
    · rename_i b hb
      cases hf
      exact in_go pv pw hb (k _ _ (gr_sh (by simp [Rep])))
    · cases hf
  · unfold pIn at h
    split at h <;> first | rfl | exact absurd rfl h
theorem pr_notIn : PrimR K ca (r2 (rInA K true)) pNotIn := by
  refine prim2 (fun A H v w d e s Q pv pw hf k => ?_) (fun ds h => ?_)
  · unfold pNotIn at hf
    dsimp only at hf
    split at hf
    · rename_i b hb
      cases hf
      exact in_go pv pw hb (k _ _ (gr_sh (by simp [Rep])))
    · cases hf
  · unfold pNotIn at h
    split at h <;> first | rfl | exact absurd rfl h

/-! ### a[i] -/
def rIxA (K : PySem.W.Frag) : R2 := fun x y H Q => rIx K x y H Q ∨ ∃ a v, x = .ref a ∧ DGet H a y (some v) ∧ Q v H
theorem ix_any {X : Cx} (hu : X.A.units + 65 < cLine) : IxR X (rIxA X.K) := by
  refine ix_seq.or ?_
  intro value slice pins s σ H x y v u Q I rx ry h hs
  obtain ⟨a, w, rfl, g, q⟩ := h
  cases rx
  exact tail_any (dict_typeIs I g) PySem.F.slot_dict_getitem.lookup (d_getItem (by omega) I g ry fun w' s3 I3 rw' => ⟨w, H, I3, rw', q⟩) hs
def pIx (ds : List D) : Option Slot := match ds with
  | [.lst xs, .int i] => (atI xs i).map .sh
  | [.tup xs, .int i] => (atI xs i).map .sh
  | [.kt xs, .int i] => (atI xs i).map .sh
  | [.ft xs, .int i] => (atI xs i).map .sh
  | [.scr ns, .int i] => (atI ns i).map fun n => .sh (.int n)
  | [.str z, .int i] => if z.length ≤ lim then (atI z.cps.toList i).map fun c => .sh (.str ⟨#[c]⟩) else none
  | [.dic ks vs, k] => match keyOf k with
    | some k => (dgt k ks vs).map .sh
    | none => none
  | [.dit ks vs, .tup k] => match keysOf k with
    | some k => (dgt k ks vs).map .sh
    | none => none
  | _ => none
theorem atI_rep {ds : List D} {vs : List V} {i : Int} {d : D} (r : Reps K ca H A ds vs) (h : atI ds i = some d) : ∃ v, atI vs i = some v ∧ Rep K ca H A d v := by
  unfold atI at h ⊢
  rw [r.length]
  cases e : ixN ds.length i with
  | none => rw [e] at h; cases h
  | some j =>
    rw [e] at h
    exact r.get h
theorem map_sh {o : Option D} {s : Slot} (h : o.map Slot.sh = some s) : ∃ d, o = some d ∧ s = .sh d := by
  cases o with
  | none => cases h
  | some d => cases h; exact ⟨d, rfl, rfl⟩
theorem atI_map {α β : Type} (f : α → β) (xs : List α) (i : Int) : atI (xs.map f) i = (atI xs i).map f := by
  unfold atI
  rw [List.length_map]
  cases ixN xs.length i with
  | none => rfl
  | some j => simp
theorem pr_ix : PrimR K ca (r2 (rIxA K)) pIx := by
  refine prim2 (fun A H v w d e s Q pv pw hf k => ?_) (fun ds h => ?_)
  · unfold pIx at hf
    split at hf
    · rename_i xs i he
      cases he
      obtain ⟨d, e, rfl⟩ := map_sh hf
      obtain ⟨a, vs, rfl, e1, rs⟩ := pv.lst
      obtain ⟨x, ex, rx⟩ := atI_rep rs e
      exact .inl (.inl ⟨a, vs, i, x, rfl, pw.int, SqL.of e1, ex, k _ _ (gr_sh rx)⟩)
    · rename_i xs i he
      cases he
      obtain ⟨d, e, rfl⟩ := map_sh hf
      obtain ⟨a, vs, rfl, e1, rs⟩ := pv.tup
      obtain ⟨x, ex, rx⟩ := atI_rep rs e
      exact .inl (.inr (.inl ⟨a, vs, i, x, rfl, pw.int, SqT.of e1, ex, k _ _ (gr_sh rx)⟩))
    · rename_i xs i he
      cases he
      obtain ⟨d, e, rfl⟩ := map_sh hf
      obtain ⟨a, vs, rfl, e1, rs⟩ := pv.kt
      obtain ⟨x, ex, rx⟩ := atI_rep rs e
      exact .inl (.inr (.inl ⟨a, vs, i, x, rfl, pw.int, .inr e1, ex, k _ _ (gr_sh rx)⟩))
    · rename_i xs i he
      cases he
      obtain ⟨d, e, rfl⟩ := map_sh hf
      obtain ⟨a, vs, o, rfl, e1, _, rs⟩ := pv.ft
      obtain ⟨x, ex, rx⟩ := atI_rep rs e
      exact .inl (.inr (.inl ⟨a, vs, i, x, rfl, pw.int, .inl (.inr ⟨o, e1⟩), ex, k _ _ (gr_sh rx)⟩))
    · rename_i ns i he
      cases he
      cases e : atI ns i with
      | none => rw [e] at hf; cases hf
      | some n =>
        rw [e] at hf
        cases hf
        obtain ⟨a, rfl, e1⟩ := pv.scr
        exact .inl (.inl ⟨a, _, i, .int n, rfl, pw.int, e1, by rw [atI_map, e]; rfl, k _ _ (gr_sh rfl)⟩)
    · rename_i z i he
      cases he
      split at hf
      · rename_i hz
        cases e : atI z.cps.toList i with
        | none => rw [e] at hf; cases hf
        | some n =>
          rw [e] at hf
          cases hf
          have := lim_lt
          exact .inl (.inr (.inr ⟨z, i, n, pv.str, pw.int, by omega, e, k _ _ (gr_sh rfl)⟩))
      · cases hf
    · rename_i ks vs kd he
      cases he
      split at hf
      · rename_i k' hk
        obtain ⟨d, e, rfl⟩ := map_sh hf
        obtain ⟨a, ws, rfl, e1, ⟨hl, nd⟩, rs⟩ := pv.dic
        obtain ⟨x, ex, rx⟩ := (dgt_ok (k := k') rs hl).1 d e
        refine .inr ⟨a, x, rfl, ?_, k _ _ (gr_sh rx)⟩
        rw [keyOf_rep hk pw, ← ex]
        exact DGet.k e1
      · cases hf
    · rename_i ks vs kd he
      cases he
      split at hf
      · rename_i k' hk
        obtain ⟨d, e, rfl⟩ := map_sh hf
        obtain ⟨a, ws, rfl, e1, ⟨hl, nd⟩, rs⟩ := pv.dit
        obtain ⟨x, ex, rx⟩ := (dgt_ok (k := k') rs hl).1 d e
        obtain ⟨b', us, rfl, e2, rs2⟩ := pw.tup
        refine .inr ⟨a, x, rfl, ?_, k _ _ (gr_sh rx)⟩
        rw [← ex]
        exact DGet.t e1 (by rw [e2, keysOf_rep hk rs2])
      · cases hf
    · cases hf
  · unfold pIx at h
    split at h <;> first | rfl | exact absurd rfl h
end
end VL
set_option Elab.async false
set_option linter.all false
set_option maxRecDepth 100000
/-! VL10: stores, slices, builtins, methods, fields stored, isinstance. -/
namespace VL
open PySem PySem.Spec PyProof.Rows L2
section
variable {K : PySem.W.Frag} {ca : Str → Addr} {A : List Addr} {H : Hp} {W : WX}
/-! ### o[i] = v -/
def rSetA : V → V → V → Hp → (Hp → Prop) → Prop := fun o i v H Q => rSetL o i v H Q ∨ ∃ a H', o = .ref a ∧ DPut H a i v H' ∧ Q H'
theorem set_any {X : Cx} (hu : X.A.units + 65 < cLine) : PSet X rSetA := by
  intro pins s σ H o i v ov iv u Q I ro ri rv h
  rcases h with h | ⟨a, H', rfl, g, q⟩
  · exact set_list pins s σ H o i v ov iv u Q I ro ri rv h
  · cases ro
    exact d_setItem (by omega) I g ri rv fun s' I' => ⟨H', I', q⟩
def setF : D → D → D → Option D
  | .lst xs, .int k, v => (ixN xs.length k).map fun j => .lst (xs.set j v)
  | .dic ks vs, k, v => match keyOf k with
    | some k => if ks.length < lim then some (.dic (dpt k v ks vs).1 (dpt k v ks vs).2) else none
    | none => none
  | .dit ks vs, .tup k, v => match keysOf k with
    | some k => if ks.length < lim then some (.dit (dpt k v ks vs).1 (dpt k v ks vs).2) else none
    | none => none
  | _, _, _ => none
theorem set_ok : SetR K ca rSetA setF := by
  intro A H a u iv v d di dv d' Q hu hc ri rv hf k
  have hlim := lim_lt
  unfold setF at hf
  split at hf
  · rename_i xs i
    obtain ⟨vs, rfl, rs⟩ := hc
    cases (show _ = _ from ri)
    cases e : ixN xs.length i with
    | none => rw [e] at hf; cases hf
    | some j =>
      rw [e] at hf
      cases hf
      exact .inl ⟨a, vs, i, j, rfl, rfl, hu, by rw [rs.length]; exact e, k _ ⟨_, rfl, rs.set j rv⟩⟩
  · rename_i ks ds kd
    obtain ⟨vs, ⟨⟨hl, nd⟩, rfl⟩, rs⟩ := hc
    split at hf
    · rename_i k' hk
      split at hf
      · rename_i hz
        cases hf
        obtain ⟨vs', q1, q2, q3, q4, _⟩ := dpt_ok (k := k') rv rs hl nd
        refine .inr ⟨a, _, rfl, by rw [keyOf_rep hk (.inl ri)]; exact DPut.k (k := k') hu (by rw [List.length_zip]; omega), ?_⟩
        rw [q1]
        exact k _ ⟨vs', ⟨⟨q2, q4⟩, rfl⟩, q3⟩
      · cases hf
    · cases hf
  · rename_i ks ds kd
    obtain ⟨vs, ⟨⟨hl, nd⟩, rfl⟩, rs⟩ := hc
    split at hf
    · rename_i k' hk
      split at hf
      · rename_i hz
        cases hf
        obtain ⟨b, ws, rfl, _, e2, rs2⟩ := ri
        obtain ⟨vs', q1, q2, q3, q4, _⟩ := dpt_ok (k := k') rv rs hl nd
        refine .inr ⟨a, _, rfl, DPut.t (k := k') hu (by rw [e2, keysOf_rep hk rs2]) (by rw [List.length_zip]; omega), ?_⟩
        rw [q1]
        exact k _ ⟨vs', ⟨⟨q2, q4⟩, rfl⟩, q3⟩
      · cases hf
    · cases hf
  · cases hf

/-! ### slices -/
structure SndP (K : PySem.W.Frag) (ca : Str → Addr) (W : WX) (t : TO) (m : M (Option Int)) : Prop where
  run : ∀ (c : Ctx) (ρ : Env) (σ : St') (ts : Ls) (H : Hp) (Q : Option Int → Hp → Prop), OkT K ca c ρ σ ts H →
    (match m ρ with | .ok i ρ' => ∀ H', OkT K ca c ρ' σ ts H' → Q i H' | .exc x ρ' => PostX K ca c W σ x ρ' | .bad => False) → t σ H Q
theorem sndP_none : SndP K ca W tNoPart (ret none) := ⟨fun c ρ σ ts H Q ok h => h H ok⟩
def asI (s : Slot) : M (Option Int) := match s with
  | .sh (.int i) => ret (some i)
  | _ => fun _ => .bad
theorem sndP_some {te : TE} {m : M Slot} (h : Snd K ca W te m) : SndP K ca W (tPart te) (bnd m asI) := by
  refine ⟨fun c ρ σ ts H Q ok q => ?_⟩
  refine h.run c ρ σ ts H _ ok ?_
  unfold bnd at q
  cases e : m ρ with
  | exc x ρ' => rw [e] at q; exact q
  | bad => rw [e] at q; exact q.elim
  | ok s ρ1 =>
    rw [e] at q
    dsimp only at q
    intro v H1 ok1
    cases s with
    | un => exact q.elim
    | ow d => exact q.elim
    | br d => exact q.elim
    | sh d =>
      cases d with
      | int i =>
        obtain ⟨A, r⟩ := head_sh ok1
        exact ⟨i, r, q H1 ok1.pop⟩
      | _ => exact q.elim
def cutD (xs : List D) (lo hi : Option Int) : List D := (xs.drop (HT.sIx xs.length 0 lo)).take (HT.sIx xs.length xs.length hi - HT.sIx xs.length 0 lo)
theorem cut_rep {ds : List D} {vs : List V} (r : Reps K ca H A ds vs) (lo hi : Option Int) : Reps K ca H A (cutD ds lo hi) (cutV vs lo hi) := by
  unfold cutD cutV
  rw [r.length]
  exact Reps.take _ (Reps.drop _ r)
theorem cut_whole {ds : List D} {lo hi : Option Int} (h : HT.sIx ds.length 0 lo = 0 ∧ HT.sIx ds.length ds.length hi = ds.length) : cutD ds lo hi = ds := by
  unfold cutD
  rw [h.1, h.2]
  simp
def pSl (lo hi : Option Int) (ds : List D) : Option Slot := match ds with
  | [.lst xs] => some (.ow (.lst (cutD xs lo hi)))
  | [.tup xs] => some (.sh (.tup (cutD xs lo hi)))
  | _ => none
def rSlV (K : PySem.W.Frag) : V → Option Int → Option Int → Hp → VK → Prop := fun x lo hi H Q => rSlL K x lo hi H Q ∨ rSlA K x lo hi H Q
theorem sl_any {X : Cx} : SlR X (rSlV X.K) := sl_list.or sl_tupA
theorem pr_sl (lo hi : Option Int) : PrimR K ca (r1' fun x H Q => rSlV K x lo hi H Q) (pSl lo hi) := by
  refine prim1 (fun A H v d s Q pv hf k => ?_) (fun ds h => ?_)
  · unfold pSl at hf
    split at hf
    · rename_i xs he
      cases he
      cases hf
      obtain ⟨a, vs, rfl, e1, rs⟩ := pv.lst
      exact .inl ⟨a, vs, rfl, SqL.of e1, fun p np => k _ _ (gr_lst np (cut_rep rs lo hi))⟩
    · rename_i xs he
      cases he
      cases hf
      obtain ⟨a, vs, rfl, e1, rs⟩ := pv.tup
      refine .inr ⟨a, vs, rfl, SqT.of e1, fun hw => ?_, fun _ p np => k _ _ (gr_tup np (cut_rep rs lo hi))⟩
      rw [rs.length] at hw
      rw [cut_whole hw] at k
      rcases pv with pv | ⟨_, _, _, _, q⟩
      · exact k _ _ (gr_sh pv)
      · exact q.elim
    · cases hf
  · unfold pSl at h
    split at h <;> first | rfl | exact absurd rfl h
def mSl (mo : M Opnd) (ml mh : M (Option Int)) : M Slot := bnd mo fun o => bnd ml fun lo => bnd mh fun hi => mPrim (pSl lo hi) [o]
theorem snd_sl {te : TE} {tl th : TO} {mo : M Opnd} {ml mh : M (Option Int)} (h1 : SndO K ca W te mo) (h2 : SndP K ca W tl ml) (h3 : SndP K ca W th mh) : Snd K ca W (tSl (rSlV K) te tl th) (mSl mo ml mh) := by
  refine ⟨fun c ρ σ ts H Q ok h => ?_⟩
  refine h1.run c ρ σ ts H _ ok ?_
  unfold mSl bnd at h
  cases e : mo ρ with
  | exc x ρ' => rw [e] at h; exact h
  | bad => rw [e] at h; exact h.elim
  | ok o ρ1 =>
    rw [e] at h
    dsimp only at h
    intro v H1 om ok1
    refine h2.run c ρ1 σ _ H1 _ ok1 ?_
    cases e2 : ml ρ1 with
    | exc x ρ' => rw [e2] at h; exact h
    | bad => rw [e2] at h; exact h.elim
    | ok lo ρ2 =>
      rw [e2] at h
      dsimp only at h
      intro H2 ok2
      refine h3.run c ρ2 σ _ H2 _ ok2 ?_
      cases e3 : mh ρ2 with
      | exc x ρ' => rw [e3] at h; exact h
      | bad => rw [e3] at h; exact h.elim
      | ok hi ρ3 =>
        rw [e3] at h
        intro H3 ok3
        have ok4 : OkT K ca c ρ3 σ (tmps [o] [v] ++ ts) H3 := by
          show OkT K ca c ρ3 σ ((otmp o v ++ []) ++ ts) H3
          rw [List.append_nil]
          exact ok3
        obtain ⟨x, e4, q⟩ := prim_go (W := W) (pr_sl lo hi) ok4 ⟨v, [], rfl, om, rfl⟩ h
        cases e4
        exact q
/-- xs[::-1] -/
def pRev (ds : List D) : Option Slot := match ds with
  | [.lst xs] => some (.ow (.lst xs.reverse))
  | _ => none
theorem pr_rev : PrimR K ca (r1' fun x H1 Q => ∃ a xs, x = .ref a ∧ SqL K H1 a xs ∧ ∀ p, H1 p = none → Q (.ref p) (upd H1 p (.lst xs.reverse))) pRev := by
  refine prim1 (fun A H v d s Q pv hf k => ?_) (fun ds h => ?_)
  · unfold pRev at hf
    split at hf
    · rename_i xs he
      cases he
      cases hf
      obtain ⟨a, vs, rfl, e1, rs⟩ := pv.lst
      exact ⟨a, vs, rfl, SqL.of e1, fun p np => k _ _ (gr_lst np rs.reverse)⟩
    · cases hf
  · unfold pRev at h
    split at h <;> first | rfl | exact absurd rfl h
theorem snd_rev {te : TE} {mo : M Opnd} (h : SndO K ca W te mo) : Snd K ca W (tRevL K te) (bnd mo fun o => mPrim pRev [o]) := ⟨fun c ρ σ ts H Q ok q => (snd_un pr_rev h).run c ρ σ ts H Q ok q⟩

/-! ### builtins -/
theorem primC {r : V → Hp → VK → Prop} {f : List D → Option Slot} (h : PrimR K ca (r1' r) f) : PrimR K ca (fun xs H Q => ∃ x, xs = [x] ∧ r x H Q) f := h
def pLen (ds : List D) : Option Slot := match ds with
  | [.lst xs] => sI xs.length
  | [.tup xs] => sI xs.length
  | [.kt xs] => sI xs.length
  | [.ft xs] => sI xs.length
  | [.scr ns] => sI ns.length
  | [.str z] => if z.length ≤ lim then sI z.length else none
  | [.dic ks _] => sI ks.length
  | _ => none
def rLenA (K : PySem.W.Frag) : V → Hp → VK → Prop := fun x H Q => (∃ n, LenV K x H n ∧ Q (.int n) H) ∨ ∃ a kvs, x = V.ref a ∧ H a = some (.dK kvs) ∧ Q (.int kvs.length) H
theorem call_lenA {X : Cx} : CallR X (.builtin "len") (r1' (rLenA X.K)) := by
  intro pins s σ H xs us Q I r h
  obtain ⟨x, rfl, h⟩ := h
  rcases h with ⟨n, h1, h2⟩ | ⟨a, kvs, rfl, h1, h2⟩
  · exact call_len pins s σ H _ us Q I r ⟨x, n, rfl, h1, h2⟩
  · exact call_lenD pins s σ H _ us Q I r ⟨a, kvs, rfl, h1, h2⟩
theorem pr_len : PrimR K ca (r1' (rLenA K)) pLen := by
  refine prim1 (fun A H v d s Q pv hf k => ?_) (fun ds h => ?_)
  · unfold pLen at hf
    split at hf
    · rename_i xs he
      cases he; cases hf
      obtain ⟨a, vs, rfl, e1, rs⟩ := pv.lst
      exact .inl ⟨_, .inl ⟨vs, SqL.of e1, rs.length.symm⟩, k _ _ (gr_sh rfl)⟩
    · rename_i xs he
      cases he; cases hf
      obtain ⟨a, vs, rfl, e1, rs⟩ := pv.tup
      exact .inl ⟨_, .inr ⟨vs, SqT.of e1, rs.length.symm⟩, k _ _ (gr_sh rfl)⟩
    · rename_i xs he
      cases he; cases hf
      obtain ⟨a, vs, rfl, e1, rs⟩ := pv.kt
      exact .inl ⟨_, .inr ⟨vs, .inr e1, rs.length.symm⟩, k _ _ (gr_sh rfl)⟩
    · rename_i xs he
      cases he; cases hf
      obtain ⟨a, vs, o, rfl, e1, _, rs⟩ := pv.ft
      exact .inl ⟨_, .inr ⟨vs, .inl (.inr ⟨o, e1⟩), rs.length.symm⟩, k _ _ (gr_sh rfl)⟩
    · rename_i xs he
      cases he; cases hf
      obtain ⟨a, rfl, e1⟩ := pv.scr
      exact .inl ⟨_, .inl ⟨_, e1, by rw [List.length_map]⟩, k _ _ (gr_sh rfl)⟩
    · rename_i z he
      cases he
      split at hf
      · cases hf
        have := lim_lt
        rw [pv.str]
        exact .inl ⟨z.length, ⟨by omega, rfl⟩, k _ _ (gr_sh rfl)⟩
      · cases hf
    · rename_i ks ds he
      cases he; cases hf
      obtain ⟨a, vs, rfl, e1, ⟨hl, _⟩, rs⟩ := pv.dic
      refine .inr ⟨a, _, rfl, e1, ?_⟩
      rw [List.length_zip, ← hl, Nat.min_self]
      exact k _ _ (gr_sh rfl)
    · cases hf
  · unfold pLen at h
    split at h <;> first | rfl | exact absurd rfl h
def pList (ds : List D) : Option Slot := match ds with
  | [.lst xs] => some (.ow (.lst xs))
  | [.tup xs] => some (.ow (.lst xs))
  | [.kt xs] => some (.ow (.lst xs))
  | [.ft xs] => some (.ow (.lst xs))
  | [.scr ns] => some (.ow (.lst (ns.map .int)))
  | [.dic ks _] => some (.ow (.lst (ks.map keyD)))
  | _ => none
def rListA (K : PySem.W.Frag) : V → Hp → VK → Prop := fun x H Q => (∃ p ys, x = .ref p ∧ (SqL K H p ys ∨ SqT K H p ys) ∧ ∀ l, H l = none → Q (.ref l) (upd H l (.lst ys))) ∨
  (∃ p kvs, x = .ref p ∧ H p = some (.dK kvs) ∧ ∀ q, H q = none → Q (.ref q) (upd H q (.lst (kvs.map fun kv => kV kv.1)))) ∨
  (∃ d kvs, x = V.ref d ∧ Rd H d (.dT kvs) ∧ ∀ p bs, H p = none → IsKeys H kvs bs → Q (.ref p) (upd H p (.lst (bs.map V.ref))))
theorem call_listA {X : Cx} (hc : X.calm = true) : CallR X (.type "list") (r1' (rListA X.K)) := by
  intro pins s σ H xs us Q I r h
  obtain ⟨x, rfl, h⟩ := h
  rcases h with ⟨p, ys, rfl, h1, h2⟩ | ⟨p, kvs, rfl, h1, h2⟩ | ⟨p, kvs, rfl, h1, h2⟩
  · exact call_list_of pins s σ H _ us Q I r ⟨p, ys, rfl, h1, h2⟩
  · exact call_list_dK hc pins s σ H _ us Q I r ⟨p, kvs, rfl, h1, h2⟩
  · exact call_list_dT hc pins s σ H _ us Q I r ⟨p, kvs, rfl, h1, h2⟩
theorem reps_ints (ns : List Int) : Reps K ca H A (ns.map D.int) (ns.map V.int) := by
  induction ns with
  | nil => exact rfl
  | cons n ns ih => exact ⟨_, _, rfl, rfl, ih⟩
theorem rep_key (k : Key) : Rep K ca H A (keyD k) (kV k) := by cases k <;> exact rfl
theorem reps_keys (ks : List Key) : Reps K ca H A (ks.map keyD) (ks.map kV) := by
  induction ks with
  | nil => exact rfl
  | cons k ks ih => exact ⟨_, _, rfl, rep_key k, ih⟩
theorem pr_list : PrimR K ca (r1' (rListA K)) pList := by
  refine prim1 (fun A H v d s Q pv hf k => ?_) (fun ds h => ?_)
  · unfold pList at hf
    split at hf
    · rename_i xs he
      cases he; cases hf
      obtain ⟨a, vs, rfl, e1, rs⟩ := pv.lst
      exact .inl ⟨a, vs, rfl, .inl (SqL.of e1), fun p np => k _ _ (gr_lst np rs)⟩
    · rename_i xs he
      cases he; cases hf
      obtain ⟨a, vs, rfl, e1, rs⟩ := pv.tup
      exact .inl ⟨a, vs, rfl, .inr (SqT.of e1), fun p np => k _ _ (gr_lst np rs)⟩
    · rename_i xs he
      cases he; cases hf
      obtain ⟨a, vs, rfl, e1, rs⟩ := pv.kt
      exact .inl ⟨a, vs, rfl, .inr (.inr e1), fun p np => k _ _ (gr_lst np rs)⟩
    · rename_i xs he
      cases he; cases hf
      obtain ⟨a, vs, o, rfl, e1, _, rs⟩ := pv.ft
      exact .inl ⟨a, vs, rfl, .inr (.inl (.inr ⟨o, e1⟩)), fun p np => k _ _ (gr_lst np rs)⟩
    · rename_i xs he
      cases he; cases hf
      obtain ⟨a, rfl, e1⟩ := pv.scr
      exact .inl ⟨a, _, rfl, .inl e1, fun p np => k _ _ (gr_lst np (reps_ints xs))⟩
    · rename_i ks ds he
      cases he; cases hf
      obtain ⟨a, vs, rfl, e1, ⟨hl, _⟩, rs⟩ := pv.dic
      refine .inr (.inl ⟨a, _, rfl, e1, fun q nq => k _ _ (gr_lst nq ?_)⟩)
      have e : (ks.zip vs).map (fun kv => kV kv.1) = ks.map kV := by
        rw [show (fun kv : Key × V => kV kv.1) = kV ∘ Prod.fst from rfl, ← List.map_map, List.map_fst_zip (Nat.le_of_eq hl)]
      rw [e]
      exact reps_keys ks
    · cases hf
  · unfold pList at h
    split at h <;> first | rfl | exact absurd rfl h

def pTuple (ds : List D) : Option Slot := match ds with
  | [.lst xs] => some (.sh (.tup xs))
  | [.tup xs] => some (.sh (.tup xs))
  | [.kt xs] => some (.sh (.kt xs))
  | [.ft xs] => some (.sh (.ft xs))
  | _ => none
def rTupleA (K : PySem.W.Frag) : V → Hp → VK → Prop := fun x H Q => ∃ p ys, x = .ref p ∧ ((SqL K H p ys ∧ ∀ l, H l = none → Q (.ref l) (upd H l (.tup ys))) ∨ (SqT K H p ys ∧ Q (.ref p) H))
theorem call_tupleA {X : Cx} : CallR X (.type "tuple") (r1' (rTupleA X.K)) := by
  intro pins s σ H xs us Q I r h
  obtain ⟨x, rfl, p, ys, rfl, h⟩ := h
  exact call_tuple_of pins s σ H _ us Q I r ⟨p, ys, rfl, h⟩
theorem peek_rep {d : D} {v : V} (h : Peek K ca H A d v) (n : ∀ u, ¬ Cont K ca H A d u) : Rep K ca H A d v := by
  rcases h with h | ⟨_, u, _, _, q⟩
  · exact h
  · exact (n u q).elim
theorem pr_tuple : PrimR K ca (r1' (rTupleA K)) pTuple := by
  refine prim1 (fun A H v d s Q pv hf k => ?_) (fun ds h => ?_)
  · unfold pTuple at hf
    split at hf
    · rename_i xs he
      cases he; cases hf
      obtain ⟨a, vs, rfl, e1, rs⟩ := pv.lst
      exact ⟨a, vs, rfl, .inl ⟨SqL.of e1, fun p np => k _ _ (gr_tup np rs)⟩⟩
    · rename_i xs he
      cases he; cases hf
      have pr := peek_rep pv fun _ z => z
      obtain ⟨a, vs, rfl, e1, rs⟩ := pv.tup
      exact ⟨a, vs, rfl, .inr ⟨SqT.of e1, k _ _ (gr_sh pr)⟩⟩
    · rename_i xs he
      cases he; cases hf
      have pr := peek_rep pv fun _ z => z
      obtain ⟨a, vs, rfl, e1, rs⟩ := pv.kt
      exact ⟨a, vs, rfl, .inr ⟨.inr e1, k _ _ (gr_sh pr)⟩⟩
    · rename_i xs he
      cases he; cases hf
      have pr := peek_rep pv fun _ z => z
      obtain ⟨a, vs, o, rfl, e1, _, rs⟩ := pv.ft
      exact ⟨a, vs, rfl, .inr ⟨.inl (.inr ⟨o, e1⟩), k _ _ (gr_sh pr)⟩⟩
    · cases hf
  · unfold pTuple at h
    split at h <;> first | rfl | exact absurd rfl h
/-- tuple(a list), its object known from now on -/
def pTupleF (ds : List D) : Option Slot := match ds with
  | [.lst xs] => some (.sh (.ft xs))
  | _ => none
def rTupleF (K : PySem.W.Frag) : V → Hp → VK → Prop := fun x H Q => ∃ p ys, x = .ref p ∧ SqL K H p ys ∧ ∀ l o, H l = none → (o.cls = .type "tuple" ∧ o.dict = none) → Q (.ref l) (upd H l (.frz o (.tup ys)))
theorem call_tupleF {X : Cx} : CallR X (.type "tuple") (r1' (rTupleF X.K)) := by
  intro pins s σ H xs us Q I r h
  obtain ⟨x, rfl, p, ys, rfl, hq, q⟩ := h
  obtain ⟨u, rfl, rx⟩ := vals1 r
  cases rx
  obtain ⟨its, r', pl, hz⟩ := I.list hq
  have hlen := r'.length
  refine call_tuple_list pl.isList (fun h' kp => ?_) (by simp only [List.size_toArray] <;> omega)
  have I1 : Inv X pins σ H { s with heap := h' } := I.kept (t' := s.toks) kp
  have I2 : Inv X pins σ (upd H h'.objs.size (.frz { cls := .type "tuple", data := .seq its.toArray } (.tup ys))) { s with heap := h'.push { cls := .type "tuple", data := .seq its.toArray } } :=
    I1.laid (t' := s.toks) (fun b o e => Heap.get?_push_of_some _ e) (Nat.le_refl _) ⟨Heap.get?_push_size _ rfl, (show ObjOk X.prog X.w _ _ _ (.tup ys) from ⟨hz, its, r', IsTup.new _ _⟩)⟩
  exact ⟨.ref h'.objs.size, _, I2, rfl, q _ _ (I1.hok.fresh (Nat.le_refl _)) ⟨rfl, rfl⟩⟩
theorem pr_tupleF : PrimR K ca (r1' (rTupleF K)) pTupleF := by
  refine prim1 (fun A H v d s Q pv hf k => ?_) (fun ds h => ?_)
  · unfold pTupleF at hf
    split at hf
    · rename_i xs he
      cases he; cases hf
      obtain ⟨a, vs, rfl, e1, rs⟩ := pv.lst
      exact ⟨a, vs, rfl, SqL.of e1, fun p o np ho => k _ _ (.inr ⟨p, _, np, rfl, rfl, .inr (.inr ⟨xs, vs, o, rfl, rfl, ho, rs⟩)⟩)⟩
    · cases hf
  · unfold pTupleF at h
    split at h <;> first | rfl | exact absurd rfl h
/-! lists of intsD, of bools -/
def intsD : List D → Option (List Int)
  | [] => some []
  | .int i :: ds => match intsD ds with
    | some ns => some (i :: ns)
    | none => none
  | _ => none
theorem intsD_rep : ∀ {ds : List D} {vs : List V} {ns : List Int}, Reps K ca H A ds vs → intsD ds = some ns → vs = ns.map V.int
  | [], _, _, r, e => by cases e; exact r
  | d :: ds, _, ns, r, e => by
    obtain ⟨v, r, rfl, h1, h2⟩ := r
    unfold intsD at e
    split at e
    · rename_i h; cases h
    · rename_i i ds' h
      cases h
      split at e
      · rename_i ns' h'
        cases e
        rw [intsD_rep h2 h', show v = V.int i from h1]
        rfl
      · cases e
    · cases e
def bools : List D → Option (List Bool)
  | [] => some []
  | .bl i :: ds => match bools ds with
    | some ns => some (i :: ns)
    | none => none
  | _ => none
theorem bools_rep : ∀ {ds : List D} {vs : List V} {ns : List Bool}, Reps K ca H A ds vs → bools ds = some ns → vs = ns.map V.bl
  | [], _, _, r, e => by cases e; exact r
  | d :: ds, _, ns, r, e => by
    obtain ⟨v, r, rfl, h1, h2⟩ := r
    unfold bools at e
    split at e
    · rename_i h; cases h
    · rename_i i ds' h
      cases h
      split at e
      · rename_i ns' h'
        cases e
        rw [bools_rep h2 h', show v = V.bl i from h1]
        rfl
      · cases e
    · cases e
def insI (i : Int) : List Int → List Int
  | [] => [i]
  | j :: r => if i ≤ j then i :: j :: r else j :: insI i r
def sortI : List Int → List Int
  | [] => []
  | i :: r => insI i (sortI r)
theorem insI_perm (i : Int) : ∀ l : List Int, (insI i l).Perm (i :: l)
  | [] => List.Perm.refl _
  | j :: r => by
    unfold insI
    split
    · exact List.Perm.refl _
    · exact ((insI_perm i r).cons j).trans (List.Perm.swap _ _ _)
theorem sortI_perm : ∀ l : List Int, (sortI l).Perm l
  | [] => List.Perm.refl _
  | i :: r => (insI_perm i (sortI r)).trans ((sortI_perm r).cons i)
theorem insI_pw (i : Int) : ∀ l : List Int, l.Pairwise (· ≤ ·) → (insI i l).Pairwise (· ≤ ·)
  | [], _ => by simp [insI]
  | j :: r, h => by
    obtain ⟨h1, h2⟩ := List.pairwise_cons.mp h
    unfold insI
    split
    · rename_i hij
      refine List.pairwise_cons.mpr ⟨fun k hk => ?_, h⟩
      rcases List.mem_cons.mp hk with rfl | hk
      · exact hij
      · exact Int.le_trans hij (h1 k hk)
    · rename_i hij
      refine List.pairwise_cons.mpr ⟨fun k hk => ?_, insI_pw i r h2⟩
      rcases List.mem_cons.mp ((insI_perm i r).mem_iff.mp hk) with rfl | hk
      · omega
      · exact h1 k hk
theorem sortI_pw : ∀ l : List Int, (sortI l).Pairwise (· ≤ ·)
  | [] => List.Pairwise.nil
  | i :: r => insI_pw i _ (sortI_pw r)
def pSorted (ds : List D) : Option Slot := match ds with
  | [.lst xs] => match intsD xs with
    | some ns => if ns.length < 64 then some (.ow (.lst ((sortI ns).map .int))) else none
    | none => none
  | _ => none
theorem pr_sorted : PrimR K ca (rSorted K) pSorted := by
  intro A H vs ds s Q pk hf k
  unfold pSorted at hf
  split at hf
  · rename_i xs
    obtain ⟨v, rfl, pv⟩ := pk1 pk
    split at hf
    · rename_i ns hn
      split at hf
      · rename_i hl
        cases hf
        obtain ⟨a, vs, rfl, e1, rs⟩ := pv.lst
        refine ⟨a, ns, rfl, by rw [← intsD_rep rs hn]; exact SqL.of e1, hl, fun ns' p hp hw np => ?_⟩
        rw [PySem.W.ksm_same (hp.trans (sortI_perm ns).symm) hw (sortI_pw ns)]
        exact k _ _ (gr_lst np (reps_ints _))
      · cases hf
    · cases hf
  · cases hf
def pAll (ds : List D) : Option Slot := match ds with
  | [.lst xs] => match bools xs with
    | some bs => sB (bs.all id)
    | none => none
  | _ => none
def pAny (ds : List D) : Option Slot := match ds with
  | [.lst xs] => match bools xs with
    | some bs => sB (bs.any id)
    | none => none
  | _ => none
theorem pr_all : PrimR K ca (rAll K) pAll := by
  intro A H vs ds s Q pk hf k
  unfold pAll at hf
  split at hf
  · rename_i xs
    obtain ⟨v, rfl, pv⟩ := pk1 pk
    split at hf
    · rename_i ns hn
      cases hf
      obtain ⟨a, vs, rfl, e1, rs⟩ := pv.lst
      exact ⟨a, ns, rfl, by rw [← bools_rep rs hn]; exact SqL.of e1, k _ _ (gr_sh rfl)⟩
    · cases hf
  · cases hf
theorem pr_any : PrimR K ca (rAny K) pAny := by
  intro A H vs ds s Q pk hf k
  unfold pAny at hf
  split at hf
  · rename_i xs
    obtain ⟨v, rfl, pv⟩ := pk1 pk
    split at hf
    · rename_i ns hn
      cases hf
      obtain ⟨a, vs, rfl, e1, rs⟩ := pv.lst
      exact ⟨a, ns, rfl, by rw [← bools_rep rs hn]; exact SqL.of e1, k _ _ (gr_sh rfl)⟩
    · cases hf
  · cases hf
/-- all of a tuple of bools -/
def rAllT (K : PySem.W.Frag) : List V → Hp → VK → Prop := fun vs H Q => ∃ (a : Addr) (bs : List Bool), vs = [V.ref a] ∧ SqT K H a (bs.map V.bl) ∧ Q (.bl (bs.all id)) H
theorem iter_anyT {prog : Program} {w : World} {A : Around} {E : Value → Shared → Prop} {s : Shared} {l : Addr} {items : Array Value} {Q : Value → Shared → Prop} (hl : s.heap.IsTuple l items)
    (h : ∀ s₂ : Shared, s₂ = { s with heap := s.heap.push { cls := .type "tuple_iterator", data := .fields #[.ref l, .int 0 0] } } →
      (s₂.heap.IsTupleIter s.heap.objs.size l 0 ∧ s₂.heap.IsTuple l items) → l ≠ s.heap.objs.size → Q (.ref s.heap.objs.size) s₂) : wpAny (model prog w) A (pyIter (.ref l)) Q E s := by
  have hlt : l < s.heap.objs.size := by obtain ⟨_, e, _⟩ := hl; exact Heap.lt_size e
  exact wpAny_pyIter_tuple hl (h _ rfl ⟨⟨_, Heap.get?_push_size _ rfl, rfl, rfl⟩, by obtain ⟨o, e, r⟩ := hl; exact ⟨o, Heap.get?_push_of_some _ e, r⟩⟩ (Nat.ne_of_lt hlt))
theorem cr_allT {X : Cx} (hc : X.calm = true) : CallR X (.builtin "all") (rAllT X.K) := by
  intro pins s σ H vs us Q I r h
  obtain ⟨a, bs, rfl, hs, q⟩ := h
  obtain ⟨its, rv, hl, _⟩ := I.tuple hs
  rw [Vals.ref1 r]
  have hb := rv.bls
  refine call_all_walk (iter_anyT hl fun s₂ e2 st hne => ?_)
  subst e2
  refine ⟨_, _, _, _, _, _, _, rfl, Walks.tuple (A := X.A.in1) (I.ok.hd hc) _ a hne its.toArray, st, truth_bools hb, fun h' tk hk => ?_⟩
  refine ⟨.bl _, H, I.kept fun b o eo => hk b o (fun hmem => ?_) (Heap.get?_push_of_some _ eo), ?_, q⟩
  · rcases List.mem_cons.mp hmem with e1 | hmem
    · exact absurd (e1 ▸ Heap.lt_size eo) (Nat.lt_irrefl _)
    · cases hmem
  · show Value.bool _ = Value.bool _
    rw [← L2.all_range, hb, List.size_toArray, List.length_map]
def pAllT (ds : List D) : Option Slot := match ds with
  | [.ft xs] => match bools xs with
    | some bs => sB (bs.all id)
    | none => none
  | [.tup xs] => match bools xs with
    | some bs => sB (bs.all id)
    | none => none
  | _ => none
theorem pr_allT : PrimR K ca (rAllT K) pAllT := by
  intro A H vs ds s Q pk hf k
  unfold pAllT at hf
  split at hf
  · rename_i xs
    obtain ⟨v, rfl, pv⟩ := pk1 pk
    split at hf
    · rename_i ns hn
      cases hf
      obtain ⟨a, vs, o, rfl, e1, _, rs⟩ := pv.ft
      exact ⟨a, ns, rfl, by rw [← bools_rep rs hn]; exact .inl (.inr ⟨o, e1⟩), k _ _ (gr_sh rfl)⟩
    · cases hf
  · rename_i xs
    obtain ⟨v, rfl, pv⟩ := pk1 pk
    split at hf
    · rename_i ns hn
      cases hf
      obtain ⟨a, vs, rfl, e1, rs⟩ := pv.tup
      exact ⟨a, ns, rfl, by rw [← bools_rep rs hn]; exact SqT.of e1, k _ _ (gr_sh rfl)⟩
    · cases hf
  · cases hf
def pInt (ds : List D) : Option Slot := match ds with
  | [.int i] => sI i
  | [.bl b] => sI (if b then 1 else 0)
  | _ => none
theorem pr_int : PrimR K ca (fun xs H Q => (∃ i, xs = [.int i] ∧ Q (.int i) H) ∨ ∃ k, xs = [.bl k] ∧ Q (.int (if k then 1 else 0)) H) pInt := by
  intro A H vs ds s Q pk hf k
  unfold pInt at hf
  split at hf
  · obtain ⟨v, rfl, pv⟩ := pk1 pk
    cases hf
    exact .inl ⟨_, by rw [pv.int], k _ _ (gr_sh rfl)⟩
  · obtain ⟨v, rfl, pv⟩ := pk1 pk
    cases hf
    exact .inr ⟨_, by rw [pv.bl], k _ _ (gr_sh rfl)⟩
  · cases hf
def pMax2 := ii fun i j => sI (if j > i then j else i)
def pMin2 := ii fun i j => sI (if j < i then j else i)
theorem pr_ii' {r : List V → Hp → VK → Prop} {g : Int → Int → Int} (h : ∀ (H : Hp) (i j : Int) (Q : VK), Q (.int (g i j)) H → r [.int i, .int j] H Q) : PrimR K ca r (ii fun i j => sI (g i j)) := by
  intro A H vs ds s Q pk hf k
  unfold ii at hf
  split at hf
  · obtain ⟨v, w, rfl, pv, pw⟩ := pk2 pk
    cases hf
    rw [pv.int, pw.int]
    exact h H _ _ Q (k _ _ (gr_sh rfl))
  · cases hf
theorem pr_max2 : PrimR K ca (fun xs H Q => ∃ i j, xs = [V.int i, V.int j] ∧ Q (V.int (if j > i then j else i)) H) pMax2 := pr_ii' fun H i j Q q => ⟨i, j, rfl, q⟩
theorem pr_min2 : PrimR K ca (fun xs H Q => ∃ i j, xs = [V.int i, V.int j] ∧ Q (V.int (if j < i then j else i)) H) pMin2 := pr_ii' fun H i j Q q => ⟨i, j, rfl, q⟩
end
end VL
set_option Elab.async false
set_option linter.all false
set_option maxRecDepth 100000
set_option maxHeartbeats 1000000
/-! VLmin: min(a list of ints, default=None). -/
namespace VL
open PySem PySem.Spec PyProof.Rows L2
theorem reads_ints {h : Heap} : ∀ {ns : List Int} {us : List Value}, Vals (ns.map V.int) us → ∃ as, ReadsAll h us (ns.map PyData.int) as
  | [], _, r => by
    rw [List.map_nil] at r
    cases r
    exact ⟨_, ReadsAll.nil⟩
  | n :: ns, _, r => by
    rw [List.map_cons] at r
    cases r with
    | cons r1 r2 =>
      obtain ⟨t, rfl⟩ := r1
      obtain ⟨as, q⟩ := reads_ints r2
      exact ⟨_, ReadsAll.cons (Reads.int n t) q⟩
theorem depth_ints : ∀ ns : List Int, PyData.depthAll (ns.map PyData.int) ≤ 1
  | [] => by simp [PyData.depthAll]
  | n :: ns => by
    have := depth_ints ns
    rw [List.map_cons]
    simp only [PyData.depthAll, PyData.depth]
    omega
def minN : List Int → D
  | [] => .non
  | n :: r => .int (r.foldl min n)
def rMinN (K : PySem.W.Frag) : List V → List V → Hp → VK → Prop := fun vs zs H Q => zs = [.non] ∧ ∃ (a : Addr) (ns : List Int), vs = [V.ref a] ∧ SqL K H a (ns.map V.int) ∧ Q (aV (minN ns)) H
theorem cr_minN {X : Cx} (hc : X.calm = true) (hu : X.A.units + 64 < cLine) : CallRK X (.builtin "min") [(Str.ofString "default")] (rMinN X.K) := by
  intro pins s σ H xs zs us ws Q I r rz h
  obtain ⟨rfl, a, ns, rfl, hs, q⟩ := h
  obtain ⟨its, rv, hl, _⟩ := I.list hs
  rw [Vals.ref1 r]
  obtain ⟨w, rfl, rw'⟩ := Vals.one rz
  cases (show w = Value.none from rw')
  obtain ⟨as, ra⟩ := reads_ints (h := s.heap) rv
  have dp := depth_ints ns
  refine PySem.W.min_list_default (d := .none) (xs := ns.map PyData.int) (as := as) (I.ok.hd hc) hl.isList (by simpa using ra) ⟨fun x hx y hy => ?_, fun x hx => ?_⟩ (by omega) (fun e h' tk k => ?_) fun y ys i v h' tk bs e hv rd k => ?_
  · obtain ⟨n, _, rfl⟩ := List.mem_map.mp hx
    obtain ⟨m, _, rfl⟩ := List.mem_map.mp hy
    rfl
  · obtain ⟨n, _, rfl⟩ := List.mem_map.mp hx
    exact fun z => nomatch z
  · have e0 : ns = [] := List.map_eq_nil_iff.mp e
    subst e0
    exact ⟨.non, H, I.kept k, rfl, q⟩
  · cases ns with
    | nil => cases e
    | cons n ns =>
      rw [List.map_cons] at e
      cases e
      rw [PySem.W.minD_ints] at rd
      obtain ⟨t, rfl⟩ : ∃ t, v = Value.int (ns.foldl min n) t := by
        cases rd
        exact ⟨_, rfl⟩
      exact ⟨.int (ns.foldl min n), H, I.kept k, ⟨t, rfl⟩, q⟩
def pMinN (ds : List D) : Option Slot := match ds with
  | [.lst xs, .non] => match intsD xs with
    | some ns => some (.sh (minN ns))
    | none => none
  | _ => none
theorem minN_rep {K : PySem.W.Frag} {ca : Str → Addr} {A : List Addr} {H : Hp} (ns : List Int) : Rep K ca H A (minN ns) (aV (minN ns)) := by cases ns <;> exact rfl
section
variable {K : PySem.W.Frag} {ca : Str → Addr} {W : WX}
/-- f(e, .., k = v, ..) for a built-in: the values in their order -/
theorem snd_callK {r : List V → List V → Hp → VK → Prop} {f : List D → Option Slot} {n : Nat} (hp : PrimR K ca (fun vs H Q => r (vs.take n) (vs.drop n) H Q) f) {t tk : TA} {m mk : M (List Opnd)} (ha : SndA K ca W t m) (hk : SndA K ca W tk mk)
    (hn : ∀ ρ os ρ', m ρ = .ok os ρ' → os.length = n) : Snd K ca W (tCKw r t tk) (bnd m fun os => bnd mk fun ks => mPrim f (os ++ ks)) := by
  refine ⟨fun c ρ σ ts H Q ok h => ?_⟩
  refine ha.run c ρ σ ts H _ ok ?_
  unfold bnd at h
  cases e : m ρ with
  | exc x ρ' => rw [e] at h; exact h
  | bad => rw [e] at h; exact h.elim
  | ok os ρ1 =>
    rw [e] at h
    intro vs H1 om ok1
    refine hk.run c ρ1 σ _ H1 _ ok1 ?_
    dsimp only at h
    cases e2 : mk ρ1 with
    | exc x ρ' => rw [e2] at h; exact h
    | bad => rw [e2] at h; exact h.elim
    | ok ks ρ2 =>
      rw [e2] at h
      intro ws H2 om2 ok2
      have app : ∀ {os : List Opnd} {vs : List V}, OpMs σ os vs → OpMs σ (os ++ ks) (vs ++ ws) ∧ tmps (os ++ ks) (vs ++ ws) = tmps os vs ++ tmps ks ws ∧ vs.length = os.length := fun {os} => by
        induction os with
        | nil => intro vs om; cases (show _ = _ from om); exact ⟨om2, rfl, rfl⟩
        | cons o os ih =>
          intro vs om
          obtain ⟨v, r, rfl, h1, h2⟩ := om
          obtain ⟨q1, q2, q3⟩ := ih h2
          refine ⟨⟨v, _, rfl, h1, q1⟩, ?_, by simp [q3]⟩
          show otmp o v ++ tmps (os ++ ks) (r ++ ws) = (otmp o v ++ tmps os r) ++ tmps ks ws
          rw [q2, List.append_assoc]
      obtain ⟨q1, q2, q3⟩ := app om
      have ok3 : OkT K ca c ρ2 σ (tmps (os ++ ks) (vs ++ ws) ++ ts) H2 := by
        rw [q2]
        refine ok2.ts_perm ?_
        rw [List.append_assoc]
        exact (List.append_assoc (tmps ks ws) (tmps os vs) ts ▸ List.append_assoc (tmps os vs) (tmps ks ws) ts ▸ List.perm_append_comm.append_right ts)
      have h3 := prim_go (W := W) hp ok3 q1 h
      have el := hn ρ os ρ1 e
      rw [show (vs ++ ws).take n = vs by rw [← el, ← q3]; simp, show (vs ++ ws).drop n = ws by rw [← el, ← q3]; simp] at h3
      exact h3
theorem pr_minN : PrimR K ca (fun vs H Q => rMinN K (vs.take 1) (vs.drop 1) H Q) pMinN := by
  intro A H vs ds s Q pk hf k
  unfold pMinN at hf
  split at hf
  · rename_i xs
    obtain ⟨v, w, rfl, pv, pw⟩ := pk2 pk
    split at hf
    · rename_i ns hn
      cases hf
      obtain ⟨a, vs, rfl, e1, rs⟩ := pv.lst
      refine ⟨by rw [pw.non]; rfl, a, ns, rfl, by rw [← intsD_rep rs hn]; exact SqL.of e1, k _ _ (gr_sh (minN_rep ns))⟩
    · cases hf
  · cases hf
end
end VL
set_option Elab.async false
set_option linter.all false
set_option maxRecDepth 100000
set_option maxHeartbeats 1000000
/-! VL11: methods, isinstance, fields stored, instances called, properties, pairs stored. -/
namespace VL
open PySem PySem.Spec PyProof.Rows L2
section
variable {K : PySem.W.Frag} {ca : Str → Addr} {c : Ctx} {A A' : List Addr} {H H' : Hp} {l : Ls} {ρ : Env} {σ : St'} {ts : Ls} {W : WX}
/-! ### list's methods -/
def fAppend : D → List D → Option (D × D)
  | .lst xs, [y] => if xs.length < lim then some (.lst (xs ++ [y]), .non) else none
  | _, _ => none
theorem mu_append : MutR K ca rAppend fAppend := by
  intro A H a u vs d ds d' res Q hu hc rs hf k
  unfold fAppend at hf
  split at hf
  · rename_i xs y
    split at hf
    · rename_i hz
      cases hf
      obtain ⟨ws, rfl, rx⟩ := hc
      obtain ⟨v, r, rfl, h1, h2⟩ := rs
      cases (show _ = _ from h2)
      have := lim_lt
      exact ⟨a, ws, v, rfl, rfl, hu, by rw [rx.length]; omega, k _ _ ⟨_, rfl, rx.append ⟨v, [], rfl, h1, rfl⟩⟩ rfl⟩
    · cases hf
  · cases hf
def fPop : D → List D → Option (D × D)
  | .lst xs, [] => match xs[xs.length - 1]? with
    | some y => some (.lst xs.dropLast, y)
    | none => none
  | _, _ => none
theorem Reps.dropLast {ds : List D} {vs : List V} (r : Reps K ca H A ds vs) : Reps K ca H A ds.dropLast vs.dropLast := by
  rw [List.dropLast_eq_take, List.dropLast_eq_take, r.length]
  exact Reps.take _ r
theorem mu_pop : MutR K ca rPop fPop := by
  intro A H a u vs d ds d' res Q hu hc rs hf k
  unfold fPop at hf
  split at hf
  · rename_i xs
    split at hf
    · rename_i y hy
      cases hf
      obtain ⟨ws, rfl, rx⟩ := hc
      cases (show _ = _ from rs)
      obtain ⟨w, hw, rw'⟩ := rx.get hy
      exact ⟨a, ws, w, rfl, rfl, hu, by rw [rx.length]; exact hw, k _ _ ⟨_, rfl, rx.dropLast⟩ rw'⟩
    · cases hf
  · cases hf
def fPopAt : D → List D → Option (D × D)
  | .lst xs, [.int i] => match ixN xs.length i with
    | some j => match xs[j]? with
      | some y => if small i then some (.lst (xs.eraseIdx j), y) else none
      | none => none
    | none => none
  | _, _ => none
theorem mu_popAt : MutR K ca rPopAt fPopAt := by
  intro A H a u vs d ds d' res Q hu hc rs hf k
  unfold fPopAt at hf
  split at hf
  · rename_i xs i
    split at hf
    · rename_i j hj
      split at hf
      · rename_i y hy
        split at hf
        · rename_i hs
          cases hf
          obtain ⟨ws, rfl, rx⟩ := hc
          obtain ⟨v, r, rfl, h1, h2⟩ := rs
          cases (show _ = _ from h1)
          cases (show _ = _ from h2)
          obtain ⟨w, hw, rw'⟩ := rx.get hy
          obtain ⟨s1, s2⟩ := small_of hs
          exact ⟨a, ws, i, j, w, rfl, rfl, hu, by omega, by omega, by rw [rx.length]; exact (ixN_seq hj).1, hw, k _ _ ⟨_, rfl, rx.eraseIdx j⟩ rw'⟩
        · cases hf
      · cases hf
    · cases hf
  · cases hf
def fReverse : D → List D → Option (D × D)
  | .lst xs, [] => some (.lst xs.reverse, .non)
  | _, _ => none
theorem mu_reverse : MutR K ca rReverse fReverse := by
  intro A H a u vs d ds d' res Q hu hc rs hf k
  unfold fReverse at hf
  split at hf
  · rename_i xs
    cases hf
    obtain ⟨ws, rfl, rx⟩ := hc
    cases (show _ = _ from rs)
    exact ⟨a, ws, rfl, rfl, hu, k _ _ ⟨_, rfl, rx.reverse⟩ rfl⟩
  · cases hf
/-- the first place -/
def fstAt (y : V) : List D → Nat → Option Nat
  | [], _ => none
  | d :: ds, j => if eqV (aV d) y then some j else fstAt y ds (j + 1)
theorem fstAt_ok {y : V} : ∀ {ds : List D} {vs : List V} {j n : Nat}, vs = ds.map aV → fstAt y ds j = some n → j ≤ n ∧ (∃ z, vs[n - j]? = some z ∧ eqV z y = true) ∧ ∀ (m : Nat) (z : V), m < n - j → vs[m]? = some z → eqV z y = false
  | [], _, _, _, _, h => by cases h
  | d :: ds, _, j, n, e, h => by
    subst e
    have h : (if eqV (aV d) y then some j else fstAt y ds (j + 1)) = some n := h
    cases hb : eqV (aV d) y with
    | true =>
      rw [hb, if_pos rfl] at h
      cases h
      refine ⟨Nat.le_refl _, ⟨aV d, by simp, hb⟩, fun m z hm => by omega⟩
    | false =>
      rw [hb, if_neg Bool.false_ne_true] at h
      obtain ⟨h1, ⟨z, h2, h3⟩, h4⟩ := fstAt_ok (vs := ds.map aV) rfl h
      have e : n - j = (n - (j + 1)) + 1 := by omega
      refine ⟨by omega, ⟨z, by rw [e]; simpa using h2, h3⟩, fun m w hm hw => ?_⟩
      cases m with
      | zero => simp at hw; rw [← hw]; exact hb
      | succ m => exact h4 m w (by omega) (by simpa using hw)
def fIndex : D → List D → Option Slot
  | .lst xs, [y] => if flatD y && xs.all flatD then match fstAt (aV y) xs 0 with
    | some n => sI n
    | none => none
    else none
  | _, _ => none
theorem pm_index : PrimM K ca (rIndex K) fIndex := by
  intro A H v vs d ds s Q pk rs hf k
  unfold fIndex at hf
  split at hf
  · rename_i xs y
    split at hf
    · rename_i hfl
      rw [Bool.and_eq_true] at hfl
      split at hf
      · rename_i n hn
        cases hf
        obtain ⟨a, ws, rfl, e1, rx⟩ := pk.lst
        obtain ⟨w, r, rfl, h1, h2⟩ := rs
        cases (show _ = _ from h2)
        obtain ⟨q1, q2⟩ := flat_rep hfl.1 (.inl h1)
        obtain ⟨q3, q4⟩ := flats_rep hfl.2 rx
        obtain ⟨_, ⟨z, h3, h4⟩, h5⟩ := fstAt_ok q3 hn
        exact ⟨a, ws, w, n, z, rfl, rfl, SqL.of e1, q2, q4, by simpa using h3, by rw [q1]; exact h4, fun m z hm hz => by rw [q1]; exact h5 m z (by omega) hz, k _ _ (gr_sh rfl)⟩
      · cases hf
    · cases hf
  · cases hf
/-! tuple.index, where the tuple's object is known -/
def rIndexT (K : PySem.W.Frag) : V → List V → Hp → VK → Prop := fun x xs H Q => ∃ (a : Addr) (ys : List V) (y : V) (j : Nat) (z : V), x = V.ref a ∧ xs = [y] ∧ SqT K H a ys ∧ flatV y = true ∧ ys.all flatV = true ∧ ys[j]? = some z ∧ eqV z y = true ∧
  (∀ (m : Nat) (z' : V), m < j → ys[m]? = some z' → eqV z' y = false) ∧ Q (.int (j : Nat)) H
def fIndexT : D → List D → Option Slot
  | .ft xs, [y] => if flatD y && xs.all flatD then match fstAt (aV y) xs 0 with
    | some n => sI n
    | none => none
    else none
  | _, _ => none
theorem pm_indexT : PrimM K ca (rIndexT K) fIndexT := by
  intro A H v vs d ds s Q pk rs hf k
  unfold fIndexT at hf
  split at hf
  · rename_i xs y
    split at hf
    · rename_i hfl
      rw [Bool.and_eq_true] at hfl
      split at hf
      · rename_i n hn
        cases hf
        obtain ⟨a, ws, o, rfl, e1, _, rx⟩ := pk.ft
        obtain ⟨w, r, rfl, h1, h2⟩ := rs
        cases (show _ = _ from h2)
        obtain ⟨q1, q2⟩ := flat_rep hfl.1 (.inl h1)
        obtain ⟨q3, q4⟩ := flats_rep hfl.2 rx
        obtain ⟨_, ⟨z, h3, h4⟩, h5⟩ := fstAt_ok q3 hn
        exact ⟨a, ws, w, n, z, rfl, rfl, .inl (.inr ⟨o, e1⟩), q2, q4, by simpa using h3, by rw [q1]; exact h4, fun m z hm hz => by rw [q1]; exact h5 m z (by omega) hz, k _ _ (gr_sh rfl)⟩
      · cases hf
    · cases hf
  · cases hf
/-! dict.get -/
def rGet : V → List V → Hp → VK → Prop := fun x vs H Q => ∃ a y o, x = .ref a ∧ DGet H a y o ∧ ((vs = [y] ∧ Q (o.getD .non) H) ∨ ∃ z, vs = [y, z] ∧ Q (o.getD z) H)
theorem mt_get {X : Cx} (hu : X.A.units + 65 < cLine) : MtR X "dict.get" rGet := by
  intro pins s σ H x xs v us Q I rx rs h
  obtain ⟨a, y, o, rfl, g, h⟩ := h
  cases rx
  rcases h with ⟨rfl, q⟩ | ⟨z, rfl, q⟩
  · obtain ⟨u, rfl, r1⟩ := Vals.one rs
    exact d_get1 (by omega) I g r1 fun w' s' I' rw' => ⟨_, H, I', rw', q⟩
  · obtain ⟨u, w, rfl, r1, r2⟩ := Vals.two rs
    exact d_get2 (by omega) I g r1 r2 fun w' s' I' rw' => ⟨_, H, I', rw', q⟩
def getK (d k : D) : Option (Option D) := match d with
  | .dic ks vs => match keyOf k with
    | some k => some (dgt k ks vs)
    | none => none
  | .dit ks vs => match k with
    | .tup k => match keysOf k with
      | some k => some (dgt k ks vs)
      | none => none
    | _ => none
  | _ => none
def fGet : D → List D → Option Slot
  | d, [k] => (getK d k).map fun o => .sh (o.getD .non)
  | d, [k, e] => (getK d k).map fun o => .sh (o.getD e)
  | _, _ => none
theorem getK_ok {d k : D} {v w : V} {o : Option D} (pd : Peek K ca H A d v) (rk : Rep K ca H A k w) (h : getK d k = some o) : ∃ a ov, v = .ref a ∧ DGet H a w ov ∧ ((o = none ∧ ov = none) ∨ ∃ d' v', o = some d' ∧ ov = some v' ∧ Rep K ca H A d' v') := by
  have fin : ∀ {κ : Type} [DecidableEq κ] {k : κ} {ks : List κ} {ds : List D} {vs : List V} (_ : Reps K ca H A ds vs) (_ : ks.length = vs.length),
      ((dgt k ks ds = none ∧ valV (ks.zip vs) k = none) ∨ ∃ d' v', dgt k ks ds = some d' ∧ valV (ks.zip vs) k = some v' ∧ Rep K ca H A d' v') := fun {κ _ k ks ds vs} r e => by
    obtain ⟨q1, q2⟩ := dgt_ok (k := k) r e
    cases e2 : dgt k ks ds with
    | none => exact .inl ⟨rfl, q2 e2⟩
    | some d' =>
      obtain ⟨v', q3, q4⟩ := q1 d' e2
      exact .inr ⟨d', v', rfl, q3, q4⟩
  unfold getK at h
  split at h
  · rename_i ks vs
    split at h
    · rename_i k' hk
      cases h
      obtain ⟨a, ws, rfl, e1, ⟨hl, _⟩, rs⟩ := pd.dic
      refine ⟨a, _, rfl, by rw [keyOf_rep hk (.inl rk)]; exact DGet.k (k := k') e1, fin rs hl⟩
    · cases h
  · rename_i ks vs
    split at h
    · split at h
      · rename_i k' hk
        cases h
        obtain ⟨a, ws, rfl, e1, ⟨hl, _⟩, rs⟩ := pd.dit
        obtain ⟨b, us, rfl, _, e2, rs2⟩ := rk
        exact ⟨a, _, rfl, DGet.t (k := k') e1 (by rw [e2, keysOf_rep hk rs2]), fin rs hl⟩
      · cases h
    · cases h
  · cases h
theorem pm_get : PrimM K ca rGet fGet := by
  intro A H v vs d ds s Q pk rs hf k
  unfold fGet at hf
  split at hf
  · rename_i kd
    cases e : getK d kd with
    | none => rw [e] at hf; cases hf
    | some o =>
      rw [e] at hf
      cases hf
      obtain ⟨w, r, rfl, h1, h2⟩ := rs
      cases (show _ = _ from h2)
      obtain ⟨a, ov, rfl, g, q⟩ := getK_ok pk h1 e
      refine ⟨a, w, ov, rfl, g, .inl ⟨rfl, k _ _ (gr_sh ?_)⟩⟩
      rcases q with ⟨rfl, rfl⟩ | ⟨d', v', rfl, rfl, q⟩
      · exact rfl
      · exact q
  · rename_i kd ed
    cases e : getK d kd with
    | none => rw [e] at hf; cases hf
    | some o =>
      rw [e] at hf
      cases hf
      obtain ⟨w, r, rfl, h1, w2, r2, rfl, h3, h2⟩ := rs
      cases (show _ = _ from h2)
      obtain ⟨a, ov, rfl, g, q⟩ := getK_ok pk h1 e
      refine ⟨a, w, ov, rfl, g, .inr ⟨w2, rfl, k _ _ (gr_sh ?_)⟩⟩
      rcases q with ⟨rfl, rfl⟩ | ⟨d', v', rfl, rfl, q⟩
      · exact h3
      · exact q
  · cases hf

/-! ### isinstance -/
def tyN : D → Option String
  | .non => some "NoneType"
  | .bl _ => some "bool"
  | .int _ => some "int"
  | .str _ => some "str"
  | .tup _ => some "tuple"
  | .kt _ => some "tuple"
  | .ft _ => some "tuple"
  | .lst _ => some "list"
  | .dic _ _ => some "dict"
  | .dit _ _ => some "dict"
  | _ => none
theorem tyN_ok {d : D} {v : V} {n : String} (p : Peek K ca H A d v) (h : tyN d = some n) : TyX K H v (.type n) := by
  cases d with
  | non => cases h; rw [p.non]; exact .base .non
  | bl b => cases h; rw [p.bl]; exact .base (.bl b)
  | int b => cases h; rw [p.int]; exact .base (.int b)
  | str b => cases h; rw [p.str]; exact .base (.str b)
  | tup ds => cases h; obtain ⟨a, vs, rfl, e, _⟩ := p.tup; exact .base (.tup e)
  | kt ds => cases h; obtain ⟨a, vs, rfl, ⟨o, its, m, e1, e2, _⟩, _⟩ := p.kt; exact .kTuple e1 e2
  | ft ds => cases h; obtain ⟨a, vs, o, rfl, e, _⟩ := p.ft; exact .fTuple e
  | lst ds => cases h; obtain ⟨a, vs, rfl, e, _⟩ := p.lst; exact .base (.lst e)
  | dic ks ds => cases h; obtain ⟨a, vs, rfl, e, _⟩ := p.dic; exact .base (.dK e)
  | dit ks ds => cases h; obtain ⟨a, vs, rfl, e, _⟩ := p.dit; exact .base (.dT e)
  | _ => cases h
def isiB (n b : String) : Bool := decide (n = b) || (decide (n = "bool") && decide (b = "int"))
/-- the built-in types whose instances are told apart -/
def kitOk (b : String) : Bool := ["NoneType", "bool", "int", "str", "tuple", "list", "dict"].all fun n => decide (kitB n b = some (isiB n b))
theorem tyN_in {d : D} {n : String} (h : tyN d = some n) : n ∈ ["NoneType", "bool", "int", "str", "tuple", "list", "dict"] := by
  cases d <;> cases h <;> decide
theorem kitOk_of {d : D} {n b : String} (h : tyN d = some n) (k : kitOk b = true) : PySem.W.kitOne K (.type n) (.type b) = some (isiB n b) := by
  unfold kitOk at k
  exact kit_ty (of_decide_eq_true (List.all_eq_true.mp k n (tyN_in h)))
def pIsi (bs : List String) (ds : List D) : Option Slot := match ds with
  | [d] => match tyN d with
    | some n => sB (bs.any fun b => isiB n b)
    | none => none
  | _ => none
/-- isinstance(e, T) -/
def tIsi (K : PySem.W.Frag) (b : String) (te : TE) : TE := tCB (rIsi K) (tCons te (tCons (tC (.ty b)) tNil))
theorem snd_isi {b : String} {te : TE} {mo : M Opnd} (kb : kitOk b = true) (h : SndO K ca W te mo) : Snd K ca W (tIsi K b te) (bnd mo fun o => mPrim (pIsi [b]) [o]) := by
  refine ⟨fun c ρ σ ts H Q ok q => ?_⟩
  refine (snd_un (r := fun x H Q => rIsi K [x, .ty b] H Q) (f := pIsi [b]) (prim1 (fun A H v d s Q pv hf k => ?_) (fun ds h => ?_)) h).run c ρ σ ts H Q ok q
  · unfold pIsi at hf
    dsimp only at hf
    split at hf
    · rename_i n hn
      cases hf
      · refine ⟨v, .ty b, .type n, .type b, _, rfl, .ty b, tyN_ok pv hn, kitOk_of hn kb, ?_⟩
        have := k (.bl (isiB n b)) H
        simp only [List.any_cons, List.any_nil, Bool.or_false] at this
        exact this (gr_sh rfl)
    · cases hf
  · unfold pIsi at h
    split at h <;> first | rfl | exact absurd rfl h
/-- isinstance(e, (T, U)) -/
def tIsi2 (K : PySem.W.Frag) (a b : String) (te : TE) : TE := tCB (rIsiT K) (tCons te (tCons (tTup (tCons (tC (.ty a)) (tCons (tC (.ty b)) tNil))) tNil))
theorem snd_isi2 {a b : String} {te : TE} {mo : M Opnd} (ka : kitOk a = true) (kb : kitOk b = true) (h : SndO K ca W te mo) : Snd K ca W (tIsi2 K a b te) (bnd mo fun o => mPrim (pIsi [a, b]) [o]) := by
  refine ⟨fun c ρ σ ts H Q ok q => ?_⟩
  refine h.run c ρ σ ts H _ ok ?_
  unfold bnd at q
  cases e : mo ρ with
  | exc x ρ' => rw [e] at q; exact q
  | bad => rw [e] at q; exact q.elim
  | ok o ρ1 =>
    rw [e] at q
    dsimp only at q
    intro v H1 om ok1
    refine ⟨by show 2 ≤ sizeLine; rw [sizeLine_eq]; decide, fun p np => ?_⟩
    unfold mPrim at q
    cases e1 : looks ρ1 [o] with
    | none => rw [e1] at q; exact q.elim
    | some ds =>
      rw [e1] at q
      dsimp only at q
      cases e2 : pIsi [a, b] ds with
      | none => rw [e2] at q; exact q.elim
      | some s =>
        rw [e2] at q
        unfold pIsi at e2
        split at e2
        · rename_i d
          split at e2
          · rename_i n hn
            cases e2
            have el : look ρ1 o = some d := by
              unfold looks at e1
              cases e3 : look ρ1 o with
              | none => rw [e3] at e1; cases e1
              | some d2 => rw [e3] at e1; cases e1; rfl
            obtain ⟨h1, h2, A, x⟩ := ok1
            have pk := peek_look x (fun p q => List.mem_append_left _ (List.mem_append_left _ q)) (fun p q => List.mem_append_right _ q) om el
            have pk2 : Peek K ca (upd H1 p (.tup [.ty a, .ty b])) A d v := by
              rcases pk with pk | ⟨a', u, e, g1, g2⟩
              · exact .inl (Rep.mono2 (fun b o _ e => upd_keep np b o e) (fun _ _ z _ => z) _ _ pk)
              · exact .inr ⟨a', u, e, upd_keep np _ _ g1, g2.mono2 (fun b o _ e => upd_keep np b o e) fun _ _ z _ => z⟩
            refine ⟨v, p, [.ty a, .ty b], .type n, [.type a, .type b], _, rfl, upd_same, .cons (.ty a) (.cons (.ty b) .nil), tyN_ok pk2 hn,
              kitAny_cons (b := isiB n a) (r := (isiB n a || isiB n b)) (kitOk_of hn ka) (fun hz => kitAny_cons (b := isiB n b) (kitOk_of hn kb) (fun hz2 => by rw [hz, hz2]; exact kitAny_nil) fun hz2 => by rw [hz, hz2]; rfl) fun hz => by rw [hz]; rfl, ?_⟩
            have x' : Ok1 K ca c A H1 (ts ++ ρ1.zip σ) := x.sublist ((List.sublist_append_right _ _).append (List.Sublist.refl _))
            have y : Ok1 K ca c A (upd H1 p (.tup [.ty a, .ty b])) (ts ++ ρ1.zip σ) := x'.next (ra := none) (fun b o e _ => upd_keep np b o e) (fun _ z => z) (fun _ z => .inl z)
              (fun a' ha => by
                cases e9 : H1 a' with
                | none => exact absurd e9 (x.live a' ha)
                | some u => rw [upd_keep np a' u e9]; exact fun z => by cases z) (fun a z => by cases z)
            have z := rep_dup y (r := show Rep K ca _ A (.bl (isiB n a || isiB n b)) (.bl (isiB n a || isiB n b)) from rfl)
            have q' : PostE K ca c W σ ts Q (.ok (.sh (.bl ([a, b].any fun b => isiB n b))) ρ1) := q
            simp only [List.any_cons, List.any_nil, Bool.or_false] at q'
            exact q' _ _ ⟨h1, h2, A, z⟩
          · cases e2
        · cases e2
end
end VL
set_option Elab.async false
set_option linter.all false
set_option maxRecDepth 100000
set_option maxHeartbeats 2000000
/-! VL12: comprehensions of two clauses, fields stored, a, b = x, y, statements never reached. -/
namespace VL
open PySem PySem.Spec PyProof.Rows L2
section
variable {K : PySem.W.Frag} {ca : Str → Addr} {c : Ctx} {A A' : List Addr} {H H' : Hp} {l : Ls} {ρ : Env} {σ : St'} {ts : Ls} {W : WX}
/-! ### two clauses -/
def lc2Loop (vs vs1 : List Nat) (g : Slot → M Unit) (mt : M Bool) (mi1 : M (List D)) (g1 : Slot → M Unit) (mt1 : M Bool) (me : M Slot) : List D → List D → M (List D)
  | [], acc => ret acc
  | d :: ds, acc => bnd (g (.sh d)) fun _ => bnd mt fun b => if b then bnd mi1 fun es => hideM vs1 (bnd (lcLoop vs1 g1 mt1 me es acc) fun acc' => hideM vs (lc2Loop vs vs1 g mt mi1 g1 mt1 me ds acc'))
    else hideM vs (lc2Loop vs vs1 g mt mi1 g1 mt1 me ds acc)
theorem wipe_comm (i j : Nat) (σ : St') : (σ.set i none).set j none = (σ.set j none).set i none := by
  by_cases h : i = j
  · subst h; rfl
  · exact List.set_comm _ _ h
theorem wipe_set (i : Nat) : ∀ (vs : List Nat) (σ : St'), wipe (σ.set i none) vs = (wipe σ vs).set i none
  | [], σ => rfl
  | j :: vs, σ => by
    show (wipe (σ.set i none) vs).set j none = ((wipe σ vs).set j none).set i none
    rw [wipe_set i vs σ, wipe_comm]
theorem wipe_self (i : Nat) : ∀ (vs : List Nat) (σ : St'), i ∈ vs → (wipe σ vs).set i none = wipe σ vs
  | [], σ, h => by cases h
  | j :: vs, σ, h => by
    show ((wipe σ vs).set j none).set i none = (wipe σ vs).set j none
    rcases List.mem_cons.mp h with rfl | h
    · rw [List.set_set]
    · rw [wipe_comm, wipe_self i vs σ h]
theorem wipe_wipe : ∀ (vs1 : List Nat) {vs : List Nat} {σ : St'}, (∀ j ∈ vs1, j ∈ vs) → wipe (wipe σ vs1) vs = wipe σ vs
  | [], _, _, _ => rfl
  | j :: r, vs, σ, h => by
    show wipe ((wipe σ r).set j none) vs = _
    rw [wipe_set, wipe_self _ _ _ (h j List.mem_cons_self), wipe_wipe r fun i hi => h i (List.mem_cons_of_mem _ hi)]
theorem lc2_turns {gs gs1 vs vs1 : List Nat} {g g1 : TG} {tt tt1 : TT} {te : TE} {wi1 : TI} {f f1 : Slot → M Unit} {mt mt1 : M Bool} {mi1 : M (List D)} {me : M Slot} (hv : ∀ j ∈ vs1, j ∈ vs) (hgs : ∀ j ∈ gs, j ∈ vs) (hgs1 : ∀ j ∈ gs1, j ∈ vs1)
    (h2 : SndG K ca gs g f) (h3 : SndT K ca W0 tt mt) (hi1 : SndI K ca W0 wi1 mi1) (h21 : SndG K ca gs1 g1 f1) (h31 : SndT K ca W0 tt1 mt1) (h4 : Snd K ca W0 te me)
    {J : It} {p : Slot × Option V} {ds acc0 acc' : List D} {ρ0 ρ' : Env} {D' : Addr} {Kont : Hp → Prop} (src : Src K ca J p ds)
    (ok : OkT K ca c ρ0 (wipe σ vs) (p :: (.ow (.lst acc0), some (.ref D')) :: ts) H) (run : lc2Loop vs vs1 f mt mi1 f1 mt1 me ds acc0 ρ0 = .ok acc' ρ')
    (kont : ∀ H', OkT K ca c ρ' (wipe σ vs) (p :: (.ow (.lst acc'), some (.ref D')) :: ts) H' → Kont H') :
    ∃ W : Nat → Nat → Hp → Prop, (∃ m, W 0 m H) ∧ ∀ i m H, W i m H → (J.stop i H ∧ Kont H) ∨ (J.go i H ∧ ∃ Nx : Hp → Prop, (∀ H', Nx H' → ∃ m', m' < m ∧ W (i + 1) m' H') ∧ ∀ x H', J.yld i H x H' →
      g x (wipe σ vs) H' fun σ2 H2 => wipe σ2 vs = wipe σ vs ∧ tt σ2 H2 fun b H3 =>
    if b = true then wi1 σ2 H3 fun J1 H4 => ∃ W1 : Nat → Nat → Hp → Prop, (∃ m, W1 0 m H4) ∧ ∀ j k H, W1 j k H →
      (J1.stop j H ∧ Nx H) ∨ (J1.go j H ∧ ∃ Nx1 : Hp → Prop, (∀ H', Nx1 H' → ∃ k', k' < k ∧ W1 (j + 1) k' H') ∧ ∀ x H', J1.yld j H x H' → g1 x (wipe σ2 vs1) H' fun σ3 H5 => wipe σ3 vs1 = wipe σ2 vs1 ∧ tt1 σ3 H5 fun b H6 =>
        if b = true then te σ3 H6 fun y H7 => ∃ acc, H7 D' = some (.lst acc) ∧ acc.length < sizeLine ∧ Nx1 (upd H7 D' (.lst (acc ++ [y]))) else Nx1 H6)
    else Nx H3) := by
  refine ⟨fun i m H => m = ds.length - i ∧ i ≤ ds.length ∧ ∃ ρ acc, OkT K ca c ρ (wipe σ vs) (p :: (.ow (.lst acc), some (.ref D')) :: ts) H ∧ lc2Loop vs vs1 f mt mi1 f1 mt1 me (ds.drop i) acc ρ = .ok acc' ρ', ⟨ds.length, by simp, Nat.zero_le _, ρ0, acc0, ok, run⟩, ?_⟩
  rintro i m H ⟨rfl, hi, ρ, acc, ok, q⟩
  obtain ⟨y1, y2⟩ := src_go src ok
  by_cases hlt : i < ds.length
  · obtain ⟨go, yl⟩ := y1 i hlt
    refine .inr ⟨go, fun H' => ∃ ρ acc, OkT K ca c ρ (wipe σ vs) (p :: (.ow (.lst acc), some (.ref D')) :: ts) H' ∧ lc2Loop vs vs1 f mt mi1 f1 mt1 me (ds.drop (i + 1)) acc ρ = .ok acc' ρ', fun H' h => ⟨ds.length - (i + 1), by omega, rfl, hlt, h⟩, fun xv H' hy => ?_⟩
    obtain ⟨d, ed, ok2⟩ := yl xv H' hy
    have e3 : ds.drop i = d :: ds.drop (i + 1) := by
      rw [List.drop_eq_getElem_cons hlt]
      rw [List.getElem?_eq_getElem hlt] at ed
      cases ed
      rfl
    rw [e3] at q
    have q : bnd (f (.sh d)) (fun _ => bnd mt fun b => if b then bnd mi1 fun es => hideM vs1 (bnd (lcLoop vs1 f1 mt1 me es acc) fun acc' => hideM vs (lc2Loop vs vs1 f mt mi1 f1 mt1 me (ds.drop (i + 1)) acc'))
      else hideM vs (lc2Loop vs vs1 f mt mi1 f1 mt1 me (ds.drop (i + 1)) acc)) ρ = .ok acc' ρ' := q
    refine h2.run c ρ (wipe σ vs) (p :: (.ow (.lst acc), some (.ref D')) :: ts) H' (.sh d) xv _ ok2 ?_
    unfold bnd at q
    cases e4 : f (.sh d) ρ with
    | exc z ρ' => rw [e4] at q; cases q
    | bad => rw [e4] at q; cases q
    | ok z ρ2 =>
      rw [e4] at q
      dsimp only at q
      intro σ2 H2 ok3 ag
      have ew := wipe_agr ag hgs
      have back : ∀ {σ3 : St'} {ts' : Ls} {ρ3 : Env} {H3 : Hp} {acc1 : List D}, wipe σ3 vs = wipe σ vs → OkT K ca c ρ3 σ3 (ts' ++ (p :: (.ow (.lst acc1), some (.ref D')) :: ts)) H3 → hideM vs (lc2Loop vs vs1 f mt mi1 f1 mt1 me (ds.drop (i + 1)) acc1) ρ3 = .ok acc' ρ' →
          ∃ ρ acc, OkT K ca c ρ (wipe σ vs) (p :: (.ow (.lst acc), some (.ref D')) :: ts) H3 ∧ lc2Loop vs vs1 f mt mi1 f1 mt1 me (ds.drop (i + 1)) acc ρ = .ok acc' ρ' := fun {σ3 ts' ρ3 H3 acc1} e9 ok4 q4 => by
        unfold hideM at q4
        by_cases hf : free ρ3 vs = true
        · rw [if_pos hf] at q4
          have ok5 := hide_ok hf ok4
          rw [e9] at ok5
          exact ⟨_, acc1, ok5.ts_sublist ((List.sublist_append_right _ _).trans (List.sublist_append_right _ _)), q4⟩
        · rw [if_neg hf] at q4; cases q4
      refine ⟨ew, h3.run c ρ2 σ2 _ H2 _ ok3 ?_⟩
      cases e5 : mt ρ2 with
      | exc z ρ' => rw [e5] at q; cases q
      | bad => rw [e5] at q; cases q
      | ok b ρ3 =>
        rw [e5] at q
        dsimp only at q
        intro H3 ok4
        cases b with
        | false =>
          rw [if_neg Bool.false_ne_true] at q ⊢
          exact back (ts' := []) ew ok4 q
        | true =>
          rw [if_pos rfl] at q ⊢
          refine hi1.run c ρ3 σ2 _ H3 _ ok4 ?_
          cases e6 : mi1 ρ3 with
          | exc z ρ' => rw [e6] at q; cases q
          | bad => rw [e6] at q; cases q
          | ok es ρ4 =>
            rw [e6] at q
            dsimp only at q
            intro J1 p1 H4 src1 ok5
            unfold hideM at q
            by_cases hf1 : free ρ4 vs1 = true
            · rw [if_pos hf1] at q
              dsimp only at q
              cases e7 : lcLoop vs1 f1 mt1 me es acc (hideS ρ4 vs1) with
              | exc z ρ' => rw [e7] at q; cases q
              | bad => rw [e7] at q; cases q
              | ok acc2 ρ5 =>
                rw [e7] at q
                dsimp only at q
                have ok6 : OkT K ca c (hideS ρ4 vs1) (wipe σ2 vs1) (p1 :: (.ow (.lst acc), some (.ref D')) :: (saved ρ4 σ2 vs1 ++ (p :: ts))) H4 := by
                  refine (hide_ok hf1 ok5).ts_perm ?_
                  have e1 : (saved ρ4 σ2 vs1 ++ (p1 :: p :: (.ow (.lst acc), some (.ref D')) :: ts)).Perm (p1 :: (saved ρ4 σ2 vs1 ++ (p :: (.ow (.lst acc), some (.ref D')) :: ts))) := List.perm_middle
                  refine e1.trans (List.Perm.cons _ ?_)
                  refine ((List.Perm.swap _ _ _).append_left (saved ρ4 σ2 vs1)).trans ?_
                  exact List.perm_middle
                refine lc_turns hgs1 h21 h31 h4 src1 ok6 e7 fun H5 ok7 => ?_
                have ok8 : OkT K ca c ρ5 (wipe σ2 vs1) ((p1 :: saved ρ4 σ2 vs1) ++ (p :: (.ow (.lst acc2), some (.ref D')) :: ts)) H5 := by
                  refine ok7.ts_perm (List.Perm.cons _ ?_)
                  refine (List.perm_middle).symm.trans ?_
                  exact (List.Perm.swap _ _ _).append_left _
                exact back (by rw [wipe_wipe vs1 hv]; exact ew) ok8 q
            · rw [if_neg hf1] at q; cases q
  · have e3 : i = ds.length := by omega
    subst e3
    rw [List.drop_length] at q
    cases q
    exact .inl ⟨y2, kont H ok⟩
def mLc2 (vs vs1 : List Nat) (mi : M (List D)) (g : Slot → M Unit) (mt : M Bool) (mi1 : M (List D)) (g1 : Slot → M Unit) (mt1 : M Bool) (me : M Slot) : M Slot := bnd mi fun ds => fun ρ => if free ρ vs then match lc2Loop vs vs1 g mt mi1 g1 mt1 me ds [] (hideS ρ vs) with
    | .ok acc ρ' => if free ρ' vs then .ok (.ow (.lst acc)) (unhideS ρ vs ρ') else .bad
    | _ => .bad
  else .bad
theorem snd_lc2 {gs gs1 vs vs1 : List Nat} {wi wi1 : TI} {g g1 : TG} {tt tt1 : TT} {te : TE} {mi mi1 : M (List D)} {f f1 : Slot → M Unit} {mt mt1 : M Bool} {me : M Slot} (hv : ∀ j ∈ vs1, j ∈ vs) (hgs : ∀ j ∈ gs, j ∈ vs) (hgs1 : ∀ j ∈ gs1, j ∈ vs1) (h1 : SndI K ca W wi mi)
    (h2 : SndG K ca gs g f) (h3 : SndT K ca W0 tt mt) (hi1 : SndI K ca W0 wi1 mi1) (h21 : SndG K ca gs1 g1 f1) (h31 : SndT K ca W0 tt1 mt1) (h4 : Snd K ca W0 te me) :
    Snd K ca W (tLc2 wi g tt wi1 g1 tt1 te vs vs1) (mLc2 vs vs1 mi f mt mi1 f1 mt1 me) := by
  refine ⟨fun c ρ σ ts H Q ok q => ?_⟩
  refine h1.run c ρ σ ts H _ ok ?_
  unfold mLc2 bnd at q
  cases e : mi ρ with
  | exc x ρ' => rw [e] at q; exact q
  | bad => rw [e] at q; exact q.elim
  | ok ds ρ1 =>
    rw [e] at q
    dsimp only at q
    intro J p H1 src ok1 D' nD
    by_cases hf : free ρ1 vs = true
    · rw [if_pos hf] at q
      cases e2 : lc2Loop vs vs1 f mt mi1 f1 mt1 me ds [] (hideS ρ1 vs) with
      | exc x ρ' => rw [e2] at q; exact q.elim
      | bad => rw [e2] at q; exact q.elim
      | ok acc ρ2 =>
        rw [e2] at q
        dsimp only at q
        by_cases hf2 : free ρ2 vs = true
        · rw [if_pos hf2] at q
          have ok2 := hide_ok hf (push_new ok1 nD)
          have ok3 : OkT K ca c (hideS ρ1 vs) (wipe σ vs) (p :: (.ow (.lst []), some (.ref D')) :: (saved ρ1 σ vs ++ ts)) (upd H1 D' (.lst [])) := by
            refine ok2.ts_perm ?_
            exact (List.perm_middle.trans (List.perm_middle.cons _)).trans (List.Perm.swap _ _ _)
          refine lc2_turns hv hgs hgs1 h2 h3 hi1 h21 h31 h4 src ok3 e2 fun H' ok4 => q _ H' ?_
          have hl : σ.length = ρ1.length := ok1.1.symm
          have ok5 : OkT K ca c ρ2 (wipe σ vs) (saved ρ1 σ vs ++ ((.ow (.lst acc), some (.ref D')) :: ts)) H' := by
            refine (ok4.pop).ts_perm ?_
            exact List.perm_middle.symm
          exact unhide_ok hf hf2 hl ok5
        · rw [if_neg hf2] at q; exact q.elim
    · rw [if_neg hf] at q; exact q.elim
/-! ### never -/
def sNever : M Fl := fun _ => .bad
theorem sndS_never : SndS K ca W tNever sNever := ⟨fun _ _ _ _ _ _ _ h => h.elim⟩
/-! ### fields stored -/
def putN (f : Str) (e : D) : List Str → List D → List Str × List D
  | n :: ns, d :: ds => if n = f then (n :: ns, e :: ds) else (n :: (putN f e ns ds).1, d :: (putN f e ns ds).2)
  | _, _ => ([f], [e])
theorem putN_ok {f : Str} {e : D} {w : V} (re : Rep K ca H A e w) : ∀ {ns : List Str} {ds : List D} {vs : List V}, Reps K ca H A ds vs → ns.length = ds.length →
    ∃ vs', putF f w (ns.zip vs) = (putN f e ns ds).1.zip vs' ∧ (putN f e ns ds).1.length = (putN f e ns ds).2.length ∧ Reps K ca H A (putN f e ns ds).2 vs'
  | [], [], vs, r, _ => by
    cases (show _ = _ from r)
    exact ⟨[w], rfl, rfl, w, [], rfl, re, rfl⟩
  | n :: ns, d :: ds, _, r, h => by
    obtain ⟨v, r, rfl, h1, h2⟩ := r
    unfold putN
    by_cases hn : n = f
    · rw [if_pos hn]
      refine ⟨w :: r, ?_, h, w, r, rfl, re, h2⟩
      show (if n = f then (n, w) :: ns.zip r else _) = _
      rw [if_pos hn] <;> rfl
    · rw [if_neg hn]
      obtain ⟨vs', e1, e2, e3⟩ := putN_ok (f := f) re h2 (by simpa using h)
      refine ⟨v :: vs', ?_, congrArg Nat.succ e2, v, vs', rfl, h1, e3⟩
      show (if n = f then _ else (n, v) :: putF f w (ns.zip r)) = (n, v) :: _
      rw [if_neg hn, e1] <;> rfl
def fPut (cn f : Str) : D → List D → Option (D × D)
  | .obj c ns ds, [e] => if c = cn ∧ ns.length < 1000 then some (.obj c (putN f e ns ds).1 (putN f e ns ds).2, .non) else none
  | _, _ => none
def rPut (K : PySem.W.Frag) (f : Str) : V → List V → Hp → VK → Prop := fun x vs H Q => ∃ a C dx fs y, x = .ref a ∧ vs = [y] ∧ H a = some (.ins C dx fs) ∧ Cls K C ∧ NoAttr K C f ∧ fs.length < 1000 ∧ Q .non (upd H a (.ins C dx (putF f y fs)))
theorem mu_put {cn f : Str} (hf : FldOk K ca cn f) : MutR K ca (rPut K f) (fPut cn f) := by
  intro A H a u vs d ds d' res Q ha hc rs e k
  match d, ds, e, rs, hc with
  | .obj c ns xs, [y], e, rs, hc =>
    unfold fPut at e
    dsimp only at e
    by_cases h : c = cn ∧ ns.length < 1000
    · rw [if_pos h] at e
      cases e
      obtain ⟨rfl, hl⟩ := h
      obtain ⟨dx, ws, rfl, hlen, rx⟩ := hc
      obtain ⟨v, r, rfl, ry, r0⟩ := rs
      cases (show _ = _ from r0)
      obtain ⟨vs', e1, e2, e3⟩ := putN_ok (f := f) ry rx hlen
      refine ⟨a, _, dx, _, v, rfl, rfl, ha, hf.1, hf.2, ?_, k .non _ ⟨dx, vs', ?_, e2, e3⟩ rfl⟩
      · rw [List.length_zip]; omega
      · rw [e1]
    · rw [if_neg h] at e; cases e
def sPutF (cn f : Str) (i : Nat) (m : M Slot) : M Fl := bnd m fun s => fun ρ => match (ρ[i]?).bind Slot.d? with
  | some _ => bnd (takes [.tmp s]) (fun ds => bnd (mUpd i fun d => fPut cn f d ds) fun _ => ret .next) ρ
  | none => .bad
theorem sndS_fld {cn f : Str} {i : Nat} {tv : TE} {m : M Slot} (hf : FldOk K ca cn f) (hv : Snd K ca W tv m) : SndS K ca W (sFld K (tVar i) tv f) (sPutF cn f i m) := by
  refine ⟨fun c ρ σ ts H N ok h => ?_⟩
  refine hv.run c ρ σ ts H _ ok ?_
  unfold sPutF bnd at h
  cases e : m ρ with
  | exc x ρ' => rw [e] at h; exact h σ
  | bad => rw [e] at h; exact h.elim
  | ok s ρ1 =>
    rw [e] at h
    dsimp only at h
    intro v H1 ok1
    cases e0 : (ρ1[i]?).bind Slot.d? with
    | none => rw [e0] at h; exact h.elim
    | some dd =>
      rw [e0] at h
      dsimp only at h
      obtain ⟨x, ex⟩ := ok1.val e0
      refine ⟨x, ex, ?_⟩
      cases e2 : takes [.tmp s] ρ1 with
      | exc z ρ' => exact absurd e2 takes_noexc
      | bad => rw [e2] at h; exact h.elim
      | ok ds ρ2 =>
        rw [e2] at h
        dsimp only at h
        obtain ⟨hl, ok3⟩ := takes_ok (os := [.tmp s]) (vs := [v]) ok1 ⟨v, [], rfl, trivial, rfl⟩ e2
        obtain ⟨a, C, dx, fs, y, e4, e5, q1, q2, q3, q4, q5⟩ := upd_slot (W := fun _ _ _ _ => False) (Q := fun _ H' => N.nx σ H') (mu_put hf) hl ok3 ex (by
          cases e3 : mUpd i (fun d => fPut cn f d ds) ρ2 with
          | exc x ρ' => rw [e3] at h; unfold mUpd at e3; split at e3 <;> (try split at e3) <;> cases e3
          | bad => rw [e3] at h; exact h.elim
          | ok s' ρ3 =>
            rw [e3] at h
            intro v' H' ok4
            exact h σ H' ok4.pop)
        cases e5
        exact ⟨a, C, dx, fs, e4, q1, q2, q3, q4, q5⟩
end
end VL
set_option Elab.async false
set_option linter.all false
set_option maxRecDepth 100000
set_option maxHeartbeats 2000000
/-! VL13: tuple(range(n)), t.index(x), instances called, properties read, a, b = x, y. -/
namespace VL
open PySem PySem.Spec PyProof.Rows L2
section
variable {K : PySem.W.Frag} {ca : Str → Addr} {c : Ctx} {A A' : List Addr} {H H' : Hp} {l : Ls} {ρ : Env} {σ : St'} {ts : Ls} {W : WX}
/-! ### ranges made a list, a tuple -/
theorem rep_rng (n : Int) : Reps K ca H A (rng 0 n.toNat) (rgV 0 n) := by
  have h := reps_ints (K := K) (ca := ca) (H := H) (A := A) ((List.range n.toNat).map fun i => (0 : Int) + (i : Nat))
  unfold rng rgV
  rw [List.map_map, List.map_map] at h
  rw [Int.sub_zero]
  exact h
def pTupRg (ds : List D) : Option Slot := match ds with
  | [.int n] => if n.toNat ≤ lim then if small n then some (.sh (.tup (rng 0 n.toNat))) else none else none
  | _ => none
def pLstRg (ds : List D) : Option Slot := match ds with
  | [.int n] => if n.toNat ≤ lim then if small n then some (.ow (.lst (rng 0 n.toNat))) else none else none
  | _ => none
def rTupRg : V → Hp → VK → Prop := fun x H Q => ∃ n, x = .int n ∧ (RgOk 0 n ∧ ∀ q, H q = none → Q (.ref q) (upd H q (.tup (rgV 0 n))))
def rLstRg : V → Hp → VK → Prop := fun x H Q => ∃ n, x = .int n ∧ (RgOk 0 n ∧ ∀ q, H q = none → Q (.ref q) (upd H q (.lst (rgV 0 n))))
theorem rg_ok {n : Int} (h1 : n.toNat ≤ lim) (h2 : small n = true) : RgOk 0 n := by
  obtain ⟨a, b⟩ := small_of h2
  unfold lim at h1
  exact ⟨by omega, by omega, a, b, by rw [Int.sub_zero]; omega⟩
theorem pr_tupRg : PrimR K ca (r1' rTupRg) pTupRg := prim1 (fun A H v d s Q pv hf k => by
  cases d with
  | int n =>
    rw [pv.int]
    unfold pTupRg at hf
    dsimp only at hf
    split at hf
    · rename_i h1
      split at hf
      · rename_i h2
        cases hf
        exact ⟨n, rfl, rg_ok h1 h2, fun q hq => k _ _ (gr_tup hq (rep_rng n))⟩
      · cases hf
    · cases hf
  | _ => cases hf) fun ds h => by
    unfold pTupRg at h
    split at h
    · rfl
    · exact absurd rfl h
theorem pr_lstRg : PrimR K ca (r1' rLstRg) pLstRg := prim1 (fun A H v d s Q pv hf k => by
  cases d with
  | int n =>
    rw [pv.int]
    unfold pLstRg at hf
    dsimp only at hf
    split at hf
    · rename_i h1
      split at hf
      · rename_i h2
        cases hf
        exact ⟨n, rfl, rg_ok h1 h2, fun q hq => k _ _ (gr_lst hq (rep_rng n))⟩
      · cases hf
    · cases hf
  | _ => cases hf) fun ds h => by
    unfold pLstRg at h
    split at h
    · rfl
    · exact absurd rfl h
theorem snd_tupRg {te : TE} {mo : M Opnd} (h : SndO K ca W te mo) : Snd K ca W (tTupRg (tRg1 te)) (bnd mo fun o => mPrim pTupRg [o]) := ⟨fun c ρ σ ts H Q ok q => (snd_un pr_tupRg h).run c ρ σ ts H Q ok q⟩
theorem snd_lstRg {te : TE} {mo : M Opnd} (h : SndO K ca W te mo) : Snd K ca W (tLstRg (tRg1 te)) (bnd mo fun o => mPrim pLstRg [o]) := ⟨fun c ρ σ ts H Q ok q => (snd_un pr_lstRg h).run c ρ σ ts H Q ok q⟩
/-! ### t.index(x), t a tuple made by tuple(list) -/
def ftV (x : V) (H : Hp) : Prop := ∃ p o u, x = .ref p ∧ H p = some (.frz o u) ∧ o.cls = .type "tuple" ∧ o.dict = none
def tFM (r : V → List V → Hp → VK → Prop) (to : TE) (t : TA) : TE := fun σ H Q => to σ H fun x H1 => ftV x H1 ∧ t σ H1 fun xs H2 => r x xs H2 Q
def mFt (o : Opnd) {α : Type} (m : M α) : M α := fun ρ => match look ρ o with
  | some (.ft _) => m ρ
  | _ => .bad
theorem ftV_of {ds : List D} {v : V} (p : Peek K ca H A (.ft ds) v) : ftV v H := by
  obtain ⟨a, vs, o, rfl, e, h, _⟩ := p.ft
  exact ⟨a, o, _, rfl, e, h.1, h.2⟩
theorem snd_methF {r : V → List V → Hp → VK → Prop} {f : D → List D → Option Slot} (hp : PrimM K ca r f) {to : TE} {t : TA} {mo : M Opnd} {ms : M (List Opnd)} (ho : SndO K ca W to mo) (ha : SndA K ca W t ms) :
    Snd K ca W (tFM r to t) (bnd mo fun o => mFt o (bnd ms fun os => bnd (takes os) fun ds => mOn f o ds)) := by
  refine ⟨fun c ρ σ ts H Q ok h => ?_⟩
  refine ho.run c ρ σ ts H _ ok ?_
  unfold bnd at h
  cases e : mo ρ with
  | exc x ρ' => rw [e] at h; exact h
  | bad => rw [e] at h; exact h.elim
  | ok o ρ1 =>
    rw [e] at h
    dsimp only at h
    unfold mFt at h
    cases e1 : look ρ1 o with
    | none => rw [e1] at h; exact h.elim
    | some d =>
      rw [e1] at h
      cases d with
      | ft xs =>
        intro v H1 om ok1
        have pk0 : ftV v H1 := by
          obtain ⟨_, _, A, x⟩ := ok1
          exact ftV_of (peek_look x (fun p q => List.mem_append_left _ (List.mem_append_left _ q)) (fun p q => List.mem_append_right _ q) om e1)
        refine ⟨pk0, ha.run c ρ1 σ _ H1 _ ok1 ?_⟩
        dsimp only at h
        cases e2 : ms ρ1 with
        | exc x ρ' => rw [e2] at h; exact h
        | bad => rw [e2] at h; exact h.elim
        | ok os ρ2 =>
          rw [e2] at h
          intro vs H2 om2 ok2
          dsimp only at h
          cases e3 : takes os ρ2 with
          | exc x ρ' => exact absurd e3 takes_noexc
          | bad => rw [e3] at h; exact h.elim
          | ok ds ρ3 =>
            rw [e3] at h
            dsimp only at h
            obtain ⟨hl, h1, h2, A, x⟩ := takes_ok ok2 om2 e3
            unfold mOn at h
            cases e4 : look ρ3 o with
            | none => rw [e4] at h; exact h.elim
            | some d3 =>
              rw [e4] at h
              dsimp only at h
              cases e5 : f d3 ds with
              | none => rw [e5] at h; exact h.elim
              | some s =>
                rw [e5] at h
                have pk := peek_look x (fun p q => List.mem_append_left _ (List.mem_append_right _ (List.mem_append_left _ q))) (fun p q => List.mem_append_right _ q) om e4
                have rs := reps_shs hl x fun p q => List.mem_append_left _ (List.mem_append_left _ q)
                refine hp A H2 v vs d3 ds s Q pk rs e5 fun w H' g => h w H' ?_
                have x' : Ok1 K ca c A H2 (ts ++ ρ3.zip σ) := x.sublist (((List.sublist_append_right _ _).trans (List.sublist_append_right _ _)).append (List.Sublist.refl _))
                exact ⟨h1, h2, x'.grow g⟩
      | _ => exact h.elim
end
/-! ### the machine's side -/
section
variable {X : Cx} {CX : CXT} {k : Nat} {f g C : Addr} {fd : FuncData} {ps : List Str} {sp : Sp} {dvs : List V} {ds : List Value} {E : St' → XK} {m : Str} {pos apos cpos : Pos} {e o fe : Expr} {es : List Expr} {ta tf to : TE} {t : TA}
theorem mt_indexF : MtR X "tuple.index" (rIndexT X.K) := by
  intro pins s σ H x xs v us Q I rx rxs h
  obtain ⟨a, ys, y, j, z, rfl, rfl, hs, fy, fys, hz, hzj, hno, q⟩ := h
  cases rx
  obtain ⟨uy, rfl, ry⟩ := vals1 rxs
  obtain ⟨its, rv, pl, hlen⟩ := I.tuple hs
  obtain ⟨⟨cls, dd, dt, sl⟩, ho, hc, n, hd⟩ := pl
  simp only at hc hd
  subst hc
  subst hd
  obtain ⟨u, hu, ru⟩ := rv.get hz
  obtain ⟨hjl, hje⟩ := List.getElem?_eq_some_iff.mp hu
  have hvl := rv.length
  have hj : j < its.toArray.size := by simpa using hjl
  refine call_meets PySem.F.slot_tuple_index ⟨_, ho, rfl⟩ PySem.F.entry_tuple_index (PySem.F.args_tuple_index_2 _ _) (TI.tuple_indexAt a its.toArray n dd sl uy (eqU y) j hj ?_ ?_)
    ⟨ho, fun w hw => mem_eqAt ry fy rv fys w (by simpa using hw), ⟨.int (j : Nat), H, I.tok _, ⟨_, rfl⟩, q⟩⟩
  · have e1 : its.toArray[j] = u := by simpa using hje
    rw [e1, eqU_of ru (flat_at fys hz)]
    exact hzj
  · intro i hi hij
    have hil : i < its.length := by simpa using hi
    have hiy : i < ys.length := by omega
    have hy' : ys[i]? = some ys[i] := List.getElem?_eq_getElem hiy
    obtain ⟨u2, hu2, ru2⟩ := rv.get hy'
    obtain ⟨_, hme⟩ := List.getElem?_eq_some_iff.mp hu2
    have e1 : its.toArray[i] = u2 := by simpa using hme
    rw [e1, eqU_of ru2 (flat_at fys hy')]
    exact hno i _ hij hy'
theorem pe_fm {r : V → List V → Hp → VK → Prop} {name : Str} {id : String} (pa : PlainAttrs "tuple") (slot : PySem.Slot "tuple" name id) (hty : typeOf (.builtin id) = pure (.type "method_descriptor")) (hm : MtR X id r) (ho : PE X o to) (ha : PA X (e :: es) t)
    (hbase : attributeBase o name X.env (eval o X.env) = eval o X.env := by rfl)
    (hfew : ((backTo cpos (starEach (e :: es) X.env)).all (fun x => !x.1) && (backToKw cpos (keywordEach [] X.env)).all (fun x => x.1.isSome)
      && decide ((e :: es).length + ([] : List Keyword).length + (if ([] : List Keyword).isEmpty then 0 else 1) < 30)) = true := by rfl)
    (hline : (apos.endLine == cpos.line) = true := by rfl) (hs : starEach (e :: es) X.env = (false, eval e X.env) :: starEach es X.env := by rfl) (hplain : (backTo cpos (starEach es X.env)).any (·.1) = false := by rfl) :
    PE X (.Call (.Attribute o name apos) (e :: es) [] cpos) (tFM r to t) := by
  refine ⟨fun pins s σ H Q I h => ?_⟩
  refine wpAny_Call_method_late hbase hfew hline rfl (thn (ho.run pins s σ H _ I h) fun v s1 ⟨x, H1, I1, r1, ty, q1⟩ => ?_)
  obtain ⟨p, ob, u, rfl, hp, h1, h2⟩ := ty
  cases r1
  have hg : s1.heap.get? p = some ob := (show _ ∧ _ from I1.hok p _ hp).1
  refine ⟨"tuple", id, pa, slot, hty, ⟨ob, hg, h1⟩, fun a ea => by cases ea; exact ⟨ob, hg, h2⟩, ?_⟩
  have hA := ha.run cpos pins s1 σ H1 _ I1 q1
  rw [hs] at hA ⊢
  refine Calls.callWith_builtin (by show (false || (backTo cpos (starEach es X.env)).any (·.1)) = false; rw [hplain] <;> rfl) (Calls.evalArgs_plain ?_)
  exact thn hA fun us s2 ⟨vs, H2, I2, r2, q2⟩ => hm pins s2 σ H2 (.ref p) vs (.ref p) us Q I2 rfl r2 q2
theorem code_fnSD {pins : List (Addr × Obj)} {σ : St'} {H : Hp} {s : Shared} {Q : VK} {us : List Value} {vs : List V} (F : FnOk X.prog X.w X.K X.mg X.base CX k f fd ps sp) (hr : Room k X.A) (hb : Binds X.K fd ps ds) (hd : Vals dvs ds) (hx : PassesAt CX X σ (E σ))
    (I : Inv X pins σ H s) (r : Vals vs us) (h : sp (vs ++ dvs) H Q (E σ)) :
    codeAny (model X.prog X.w) X.A (.call (.ref f) ⟨us, []⟩) (fun z s' => match z with | .ok (.ret v) => EP X pins σ Q v s' | .ok _ => False | .error e => X.xe e s') s := by
  have rr := r.append hd
  have hn : (us ++ ds).length = ps.length := rr.length.symm.trans (F.len _ _ _ _ h)
  refine codeAny_mono (F.run X.A X.stack s H ⟨us, []⟩ (us ++ ds) (vs ++ dvs) Q (E σ) hr I.env0 (hb s us I.kIn hn) rr h) fun z s' hz => ?_
  match z, hz with
  | .error e, hz => exact hx pins H s e s' I hz
  | .ok (.ret u), hz => exact I.after hz
  | .ok .next, hz => exact hz.elim
  | .ok .brk, hz => exact hz.elim
  | .ok .cont, hz => exact hz.elim
/-- an instance called -/
def tInst (C : Addr) (sp : Sp) (dvs : List V) (E : St' → XK) (tf : TE) (t : TA) : TE := fun σ H Q => tf σ H fun y H1 => ∃ a, y = V.ref a ∧ t σ H1 fun vs H2 => (∃ dx fs, H2 a = some (.ins C dx fs)) ∧ sp (y :: (vs ++ dvs)) H2 Q (E σ)
theorem pe_inst (hf : PE X fe tf) (c : StX.CallO X.K C g) (F : FnOk X.prog X.w X.K X.mg X.base CX k g fd ps sp) (hr : Room k X.A) (hb : Binds X.K fd ps ds) (hd : Vals dvs ds) (hx : ∀ σ, PassesAt CX X σ (E σ)) (ha : PA X (e :: es) t)
    (ht : eval (.Call fe (e :: es) [] pos) X.env = (do callWith pos (← eval fe X.env) [] (backTo pos (starEach (e :: es) X.env)) (backToKw pos (keywordEach [] X.env))) := by rfl)
    (he : starEach (e :: es) X.env = (false, eval e X.env) :: starEach es X.env := by rfl) (hpl : (backTo pos (starEach es X.env)).any (·.1) = false := by rfl) : PE X (.Call fe (e :: es) [] pos) (tInst C sp dvs E tf t) := by
  refine ⟨fun pins s σ H Q I h => ?_⟩
  refine Call_ (thn (hf.run pins s σ H _ I h) fun u s1 ⟨y, H1, I1, ry, a, ey, q⟩ => ?_) ht
  subst ey
  obtain rfl : u = Value.ref a := ry
  refine StX.callO_with (thn (ha.run pos pins s1 σ H1 _ I1 q) fun us s2 ⟨vs, H2, I2, r, hi, q2⟩ => ?_) he hpl
  obtain ⟨ox, od, J, hd'⟩ := StX.insC_at I2 (.inr hi)
  exact ⟨⟨C, ox, od, J, hd'⟩, wpAny_call (PySem.W.kco_code I2.kIn J hd' c.at_ c.fn c.fi (code_fnSD (us := .ref a :: us) (vs := .ref a :: vs) F hr hb hd (hx σ) I2 (.cons rfl r) q2))⟩
end
section
variable {K : PySem.W.Frag} {ca : Str → Addr} {c : Ctx} {A A' : List Addr} {H H' : Hp} {l : Ls} {ρ : Env} {σ : St'} {ts : Ls} {W : WX}
def kInst (cn : Str) (F : List D → FR) (dd : List D) (ds : List D) : M Slot := match ds with
  | .obj c _ _ :: _ => if c = cn then aft (F (ds ++ dd)) (fun _ ρ => ρ) else fun _ => .bad
  | _ => fun _ => .bad
def mInst (cn : Str) (F : List D → FR) (dd : List D) (mo : M Opnd) (ms : M (List Opnd)) : M Slot := bnd mo fun o => mIs cn "" o (bnd ms fun os => bnd (takes (o :: os)) (kInst cn F dd))
theorem snd_inst {cn : Str} {F : List D → FR} {dd : List D} {dv : List V} {to : TE} {t : TA} {mo : M Opnd} {ms : M (List Opnd)} (hd : ∀ H A, Reps K ca H A dd dv) (ho : SndO K ca W to mo) (ha : SndA K ca W t ms) :
    Snd K ca W (tInst (ca cn) (spV K ca false F) dv (WE W) to t) (mInst cn F dd mo ms) := by
  refine ⟨fun c ρ σ ts H Q ok h => ?_⟩
  refine ho.run c ρ σ ts H _ ok ?_
  unfold mInst bnd at h
  cases e : mo ρ with
  | exc x ρ' => rw [e] at h; exact h
  | bad => rw [e] at h; exact h.elim
  | ok o ρ1 =>
    rw [e] at h
    dsimp only at h
    intro v H1 om ok1
    unfold mIs at h
    cases e1 : look ρ1 o with
    | none => rw [e1] at h; exact h.elim
    | some d =>
      rw [e1] at h
      dsimp only at h
      by_cases hf : hasF cn "" d = true
      · rw [if_pos hf] at h
        have pk : ∃ A, Peek K ca H1 A d v := by
          obtain ⟨_, _, A, x⟩ := ok1
          exact ⟨A, peek_look x (fun p q => List.mem_append_left _ (List.mem_append_left _ q)) (fun p q => List.mem_append_right _ q) om e1⟩
        obtain ⟨A, pk⟩ := pk
        obtain ⟨a, dx, fs, rfl, ea, el⟩ := is_of pk hf
        refine ⟨a, rfl, ha.run c ρ1 σ _ H1 _ ok1 ?_⟩
        cases e2 : ms ρ1 with
        | exc x ρ' => rw [e2] at h; exact h
        | bad => rw [e2] at h; exact h.elim
        | ok os ρ2 =>
          rw [e2] at h
          intro vs H2 om2 ok2
          dsimp only at h
          cases e3 : takes (o :: os) ρ2 with
          | exc x ρ' => exact absurd e3 takes_noexc
          | bad => rw [e3] at h; exact h.elim
          | ok ds ρ3 =>
            rw [e3] at h
            dsimp only at h
            have ok3 : OkT K ca c ρ2 σ (tmps (o :: os) (.ref a :: vs) ++ ts) H2 := by
              refine ok2.ts_perm ?_
              show (tmps os vs ++ (otmp o (.ref a) ++ ts)).Perm ((otmp o (.ref a) ++ tmps os vs) ++ ts)
              rw [← List.append_assoc]
              exact List.perm_append_comm.append_right ts
            obtain ⟨hl, ok4⟩ := takes_ok ok3 ⟨_, vs, rfl, om, om2⟩ e3
            unfold kInst at h
            split at h
            · rename_i cc nn xx rr
              by_cases hc : cc = cn
              · rw [if_pos hc] at h
                subst hc
                refine ⟨?_, callF_go (vs := .ref a :: vs) hd hl ok4 h⟩
                obtain ⟨_, _, A2, x2⟩ := ok4
                obtain ⟨v', r', e9, rp, _⟩ := reps_shs hl x2 fun p q => List.mem_append_left _ (List.mem_append_left _ q)
                cases e9
                obtain ⟨a', dx', vs', e10, ea', _⟩ := Peek.obj (.inl rp)
                cases e10
                exact ⟨dx', _, ea'⟩
              · rw [if_neg hc] at h; exact h.elim
            · exact h.elim
      · rw [if_neg hf] at h; exact h.elim
/-! ### a property read -/
def aftN (r : FR) : M Slot := fun ρ => match r with
  | .ok s _ => .ok s ρ
  | _ => .bad
def mProp (cn : Str) (F : List D → FR) (mo : M Opnd) : M Slot := bnd mo fun o => mIs cn "" o (bnd (takes [o]) fun ds => aftN (F ds))
theorem snd_prop {cn : Str} {F : List D → FR} {to : TE} {mo : M Opnd} (ho : SndO K ca W to mo) : Snd K ca W (tProp (ca cn) (spV K ca false F) [] (fun _ _ _ => False) to) (mProp cn F mo) := by
  refine ⟨fun c ρ σ ts H Q ok h => ?_⟩
  refine ho.run c ρ σ ts H _ ok ?_
  unfold mProp bnd at h
  cases e : mo ρ with
  | exc x ρ' => rw [e] at h; exact h
  | bad => rw [e] at h; exact h.elim
  | ok o ρ1 =>
    rw [e] at h
    dsimp only at h
    intro v H1 om ok1
    unfold mIs at h
    cases e1 : look ρ1 o with
    | none => rw [e1] at h; exact h.elim
    | some d =>
      rw [e1] at h
      dsimp only at h
      by_cases hf : hasF cn "" d = true
      · rw [if_pos hf] at h
        have pk : ∃ A, Peek K ca H1 A d v := by
          obtain ⟨_, _, A, x⟩ := ok1
          exact ⟨A, peek_look x (fun p q => List.mem_append_left _ (List.mem_append_left _ q)) (fun p q => List.mem_append_right _ q) om e1⟩
        obtain ⟨A, pk⟩ := pk
        obtain ⟨a, dx, fs, rfl, ea, el⟩ := is_of pk hf
        refine ⟨a, dx, fs, rfl, ea, ?_⟩
        cases e3 : takes [o] ρ1 with
        | exc x ρ' => exact absurd e3 takes_noexc
        | bad => rw [e3] at h; exact h.elim
        | ok ds ρ3 =>
          rw [e3] at h
          dsimp only at h
          have ok2 : OkT K ca c ρ1 σ (tmps [o] [.ref a] ++ ts) H1 := by
            show OkT K ca c ρ1 σ ((otmp o (.ref a) ++ []) ++ ts) H1
            rw [List.append_nil]
            exact ok1
          obtain ⟨hl, ok4⟩ := takes_ok ok2 ⟨_, [], rfl, om, rfl⟩ e3
          have := callF_go (W := W0) (dd := []) (dv := []) (F := F) (Q := Q) (fun _ _ => rfl) hl ok4 (by
            rw [List.append_nil]
            unfold aftN at h
            unfold aft
            cases e4 : F ds with
            | ok s d => rw [e4] at h; exact h
            | exc x d => rw [e4] at h; exact h.elim
            | bad => rw [e4] at h; exact h.elim)
          exact this
      · rw [if_neg hf] at h; exact h.elim
/-! ### a, b = x, y -/
def sPar (i j : Nat) (ms : M (List Opnd)) : M Fl := bnd ms fun os => match os with
  | [.tmp s1, .tmp s2] => okO (bnd (setS i s1) fun _ => setS j s2)
  | _ => fun _ => .bad
theorem sndS_par {i j : Nat} {t : TA} {ms : M (List Opnd)} (ha : SndA K ca W t ms) : SndS K ca W (tPar i j t) (sPar i j ms) := by
  refine ⟨fun c ρ σ ts H N ok h => ?_⟩
  refine ha.run c ρ σ ts H _ ok ?_
  unfold sPar bnd at h
  cases e : ms ρ with
  | exc x ρ' => rw [e] at h; exact h σ
  | bad => rw [e] at h; exact h.elim
  | ok os ρ1 =>
    rw [e] at h
    dsimp only at h
    intro vs H1 om ok1
    split at h
    · rename_i s1 s2
      obtain ⟨v, r, rfl, _, w, r2, rfl, _, e9⟩ := om
      cases (show _ = _ from e9)
      refine ⟨v, w, rfl, ?_⟩
      have ok2 : OkT K ca c ρ1 σ ((s1, some v) :: (s2, some w) :: ts) H1 := ok1
      unfold okO at h
      dsimp only at h
      cases e1 : setS i s1 ρ1 with
      | exc x ρ' => rw [e1] at h; exact h.elim
      | bad => rw [e1] at h; exact h.elim
      | ok u ρ2 =>
        rw [e1] at h
        dsimp only at h
        refine (sndG_name (i := i)).run c ρ1 σ ((s2, some w) :: ts) H1 s1 v (fun σ' H' => N.nx (σ'.set j (some w)) H') ok2 ?_
        rw [e1]
        intro σ' H' ok3 _
        refine (sndG_name (i := j)).run c ρ2 σ' ts H' s2 w N.nx ok3 ?_
        cases e2 : setS j s2 ρ2 with
        | exc x ρ' => rw [e2] at h; exact h.elim
        | bad => rw [e2] at h; exact h.elim
        | ok u ρ3 =>
          rw [e2] at h
          intro σ'' H'' ok4 _
          exact h σ'' H'' ok4
    · exact h.elim
end
end VL
namespace VL
open PySem PySem.Spec PyProof.Rows L2
section
variable {K : PySem.W.Frag} {ca : Str → Addr} {c : Ctx} {A A' : List Addr} {H H' : Hp} {l : Ls} {ρ : Env} {σ : St'} {ts : Ls} {W : WX}
theorem snd_dnewK : Snd K ca W tDNewK (ret (.ow (.dic [] []))) := ⟨fun c ρ σ ts H Q ok h p np => h _ _ (ok.grow fun A x => .inr ⟨p, _, np, rfl, rfl, .inl ⟨_, rfl, [], ⟨⟨rfl, List.nodup_nil⟩, rfl⟩, rfl⟩⟩)⟩
theorem snd_dnewT : Snd K ca W tDNewT (ret (.ow (.dit [] []))) := ⟨fun c ρ σ ts H Q ok h p np => h _ _ (ok.grow fun A x => .inr ⟨p, _, np, rfl, rfl, .inl ⟨_, rfl, [], ⟨⟨rfl, List.nodup_nil⟩, rfl⟩, rfl⟩⟩)⟩
theorem sndT_yes : SndT K ca W tYes (ret true) := ⟨fun c ρ σ ts H Q ok h => h H ok⟩
end
end VL
set_option Elab.async false
set_option linter.all false
set_option maxRecDepth 100000
set_option maxHeartbeats 2000000
/-! VLh: the head's Hook with defs found by a path of one's own (a property's getter), one more Bool. -/
namespace VL
open PySem PySem.Spec PyProof.Rows L2
/-- a def at an address of one's own -/
structure DefP where
  ad : PySem.W.Frag → Addr
  d : He.DefD
def wrt (K : PySem.W.Frag) (a : Addr) : He.FnW :=
  (K.lookup a).bind fun o => match o.data with
    | .func g => some (g.name, g.qualname, g.params, g.body, g.scope, g.globals, g.closure, g.builtins)
    | _ => none
def wrtOk (K : PySem.W.Frag) (p : DefP) : Bool :=
  match (K.lookup (p.ad K)).map Obj.data with
  | some (.func g) => (PySem.W.codeIn K g.code p.d.qual && PySem.W.keepIn K (.ref (p.ad K))) && (He.kwdB K g.kwdefaults (p.d.kws K) && He.dflB K g.defaults (p.d.dvs K))
  | _ => false
theorem wrt_fun {K : PySem.W.Frag} {p : DefP} (e : wrt K (p.ad K) = p.d.val) (c : wrtOk K p = true) :
    ∃ fd, FunD K p.d.name p.d.qual p.d.params p.d.body p.d.scope (p.d.dvs K) (p.d.kws K) (p.ad K) fd := by
  unfold wrtOk at c
  unfold wrt at e
  cases q : K.lookup (p.ad K) with
  | none => rw [q] at c; exact absurd c (by simp)
  | some o =>
    obtain ⟨c0, d0, dt, sl⟩ := o
    rw [q] at c e
    cases dt with
    | func g =>
      obtain ⟨m1, m2, m3, m4, m5, m6, m7, m8, m9, mA, mB, mC, mD, mE, mF⟩ := g
      simp only [Option.map_some, Bool.and_eq_true] at c
      obtain ⟨⟨k1, k2⟩, k3, k4⟩ := c
      have e' : (some (m1, m2, m3, m4, m5, m6, m7, mF) : He.FnW) = p.d.val := e
      unfold He.DefD.val at e'
      injection e' with e'
      injection e' with a1 e'; injection e' with a2 e'; injection e' with a3 e'; injection e' with a4 e'
      injection e' with a5 e'; injection e' with a6 e'; injection e' with a7 a8
      subst a1 a2 a3 a4 a5 a6 a7 a8
      exact ⟨_, ⟨c0, d0, m8, m9, mA, mB, mC, mD, mE, sl, rfl, q, k1, He.dflB_ok k4, He.kwdB_ok k3⟩, k2⟩
    | _ => exact absurd c (by simp)
/-! the Hook -/
abbrev AlP : Type := He.AlD × Bool × List He.FnW
def obsP (fa : List He.Fa) (fn : List He.DefD) (pn : List DefP) (ex : PySem.W.Frag → Bool) (K : PySem.W.Frag) : AlP :=
  (He.obsD fa fn K, (ex K && pn.all (wrtOk K)), pn.map fun p => wrt K (p.ad K))
def valP (fn : List He.DefD) (pn : List DefP) : AlP := (He.valD fn, true, pn.map fun p => p.d.val)
structure SaysP (fa : List He.Fa) (fn : List He.DefD) (pn : List DefP) (ex : PySem.W.Frag → Bool) (K : PySem.W.Frag) : Prop where
  d : He.SaysD fa fn K
  ex : ex K = true
  pn : ∀ (i : Nat) (p : DefP), pn[i]? = some p → ∃ fd, FunD K p.d.name p.d.qual p.d.params p.d.body p.d.scope (p.d.dvs K) (p.d.kws K) (p.ad K) fd
theorem saysP_of {fa : List He.Fa} {fn : List He.DefD} {pn : List DefP} {ex : PySem.W.Frag → Bool} {K : PySem.W.Frag} (e : obsP fa fn pn ex K = valP fn pn) : SaysP fa fn pn ex K := by
  injection e with e1 e2
  injection e2 with e2 e3
  rw [Bool.and_eq_true] at e2
  refine ⟨e1, e2.1, fun i p h => wrt_fun ?_ (List.all_eq_true.mp e2.2 p (List.mem_of_getElem? h))⟩
  have := congrArg (fun l : List He.FnW => l[i]?) e3
  simp only [List.getElem?_map, h, Option.map_some] at this
  exact Option.some.inj this
def obsPG (n : Nat) (fa : List He.Fa) (fn : List He.DefD) (pn : List DefP) (ex : PySem.W.Frag → Bool) (g : Addr → Option Obj) : AlP := obsP fa fn pn ex (He.frG g (He.asD g n))
def hookP (n : Nat) (fa : List He.Fa) (fn : List He.DefD) (pn : List DefP) (ex : PySem.W.Frag → Bool) : PySem.W.Hook where
  α := AlP
  obs := fun s => obsPG n fa fn pn ex s.heap.get?
  val := fun _ => valP fn pn
  says := fun _ h => ∃ K : PySem.W.Frag, K.In h ∧ SaysP fa fn pn ex K
  of := fun _ _ e => ⟨_, He.frG_in, saysP_of e⟩
  keeps := fun _ _ _ z k => z.imp fun _ y => ⟨PySem.W.Frag.In.keeps y.1 k, y.2⟩
theorem obsPG_eq {n : Nat} {fa : List He.Fa} {fn : List He.DefD} {pn : List DefP} {ex : PySem.W.Frag → Bool} {g : Addr → Option Obj} {s : Shared} (h : ∀ a, g a = s.heap.get? a) : obsPG n fa fn pn ex g = (hookP n fa fn pn ex).obs s :=
  congrArg (obsPG n fa fn pn ex) (funext h)
/-! properties, calls of instances -/
def pgA (K : PySem.W.Frag) (C m : Str) : Addr := match PySem.W.recIn K (He.ma K (He.ga K C) m) "property" with
  | some (.ref g :: _) => g
  | _ => 0
def propB (C m : Str) (K : PySem.W.Frag) : Bool :=
  (He.eqO (PySem.W.findIn K (.ref (He.ga K C)) m) (some (some (.ref (He.ma K (He.ga K C) m)))) && He.eqO (PySem.W.specialIn K (.ref (He.ma K (He.ga K C) m)) "__get__") (some (some (.builtin "property.__get__")))) &&
  (decide (PySem.W.takesIn K (.ref (He.ma K (He.ga K C) m)) = some true) && (PySem.W.recIn K (He.ma K (He.ga K C) m) "property").any fun l => match l with | .ref _ :: _ => true | _ => false)
theorem propB_ok {C m : Str} {K : PySem.W.Frag} (h : propB C m K = true) : PropOf K (He.ga K C) m (He.ma K (He.ga K C) m) (pgA K C m) := by
  unfold propB at h
  simp only [Bool.and_eq_true] at h
  obtain ⟨⟨h1, h2⟩, h3, h4⟩ := h
  refine ⟨He.eqO_ok h1, He.eqO_ok h2, of_decide_eq_true h3, ?_⟩
  unfold pgA
  cases e : PySem.W.recIn K (He.ma K (He.ga K C) m) "property" with
  | none => rw [e] at h4; cases h4
  | some l =>
    rw [e] at h4
    match l, h4 with
    | .ref g :: r, _ => exact ⟨r, rfl⟩
def callB (C : Str) (K : PySem.W.Frag) : Bool := PySem.W.fnIn K (He.ma K (He.ga K C) "__call__")
theorem callB_ok {C : Str} {K : PySem.W.Frag} (h : callB C K = true) (m : Meth K (He.ga K C) "__call__" (He.ma K (He.ga K C) "__call__")) : StX.CallO K (He.ga K C) (He.ma K (He.ga K C) "__call__") := ⟨m.at_, m.fn, h⟩
end VL
set_option Elab.async false
set_option linter.all false
set_option maxRecDepth 100000
set_option maxHeartbeats 2000000
/-! VL14: short names for the generator. -/
namespace VL
open PySem PySem.Spec PyProof.Rows L2
@[reducible] def mv (i : Nat) : M Opnd := fun ρ => match (ρ[i]?).bind Slot.d? with | some _ => .ok (.var i) ρ | none => .bad
@[reducible] def tm (m : M Slot) : M Opnd := bnd m fun s => ret (.tmp s)
@[reducible] def an : M (List Opnd) := ret []
@[reducible] def ac (m : M Opnd) (ms : M (List Opnd)) : M (List Opnd) := bnd m fun o => bnd ms fun os => ret (o :: os)
@[reducible] def o1 (f : List D → Option Slot) (ma : M Opnd) : M Slot := bnd ma fun a => mPrim f [a]
@[reducible] def o2 (f : List D → Option Slot) (ma mb : M Opnd) : M Slot := bnd ma fun a => bnd mb fun b => mPrim f [a, b]
@[reducible] def cb (f : List D → Option Slot) (ms : M (List Opnd)) : M Slot := bnd ms (mPrim f)
@[reducible] def cst (d : D) : M Slot := ret (.sh d)
@[reducible] def mb (m : M Slot) : M Bool := bnd m asB
@[reducible] def mt (mo : M Opnd) : M Bool := bnd mo mTru
@[reducible] def meth (T : String) (f : D → List D → Option Slot) (mo : M Opnd) (ms : M (List Opnd)) : M Slot := bnd mo fun o => mTy T o (bnd ms fun os => bnd (takes os) fun ds => mOn f o ds)
@[reducible] def methF (f : D → List D → Option Slot) (mo : M Opnd) (ms : M (List Opnd)) : M Slot := bnd mo fun o => mFt o (bnd ms fun os => bnd (takes os) fun ds => mOn f o ds)
@[reducible] def mutm (T : String) (i : Nat) (f : D → List D → Option (D × D)) (ms : M (List Opnd)) : M Slot := mTy T (.var i) (bnd ms fun os => bnd (takes os) fun ds => mUpd i fun d => f d ds)
@[reducible] def usr (rf : Bool) (F : List D → FR) (dd : List D) (ms : M (List Opnd)) : M Slot := bnd ms (mCall rf F dd)
@[reducible] def slP (m : M Slot) : M (Option Int) := bnd m asI
@[reducible] def gs0 : List D → M Unit := fun ds => match ds with | [] => ret () | _ => fun _ => .bad
@[reducible] def gsc (f : Slot → M Unit) (g : List D → M Unit) : List D → M Unit := fun ds => match ds with | d :: r => bnd (f (.sh d)) fun _ => g r | [] => fun _ => .bad
@[reducible] def minDef (ms mk : M (List Opnd)) : M Slot := bnd ms fun os => bnd mk fun ks => mPrim pMinN (os ++ ks)
section
variable {K : PySem.W.Frag} {ca : Str → Addr} {W : WX}
theorem sndO_v {i : Nat} : SndO K ca W (tVar i) (mv i) := sndO_var
theorem sndO_t {t : TE} {m : M Slot} (h : Snd K ca W t m) : SndO K ca W t (tm m) := sndO_exp h
theorem sndA_c {te : TE} {ta : TA} {m : M Opnd} {ms : M (List Opnd)} (he : SndO K ca W te m) (ha : SndA K ca W ta ms) : SndA K ca W (tCons te ta) (ac m ms) := sndA_cons he ha
theorem sndT_tst {t : TE} {m : M Slot} (h : Snd K ca W t m) : SndT K ca W (tTest t) (mb m) := sndT_val h
theorem sndT_b {t : TE} {m : M Slot} (h : Snd K ca W t m) : SndT K ca W (tB t) (mb m) := sndT_val h
theorem one_len {m : M Opnd} : ∀ ρ os ρ', ac m an ρ = .ok os ρ' → os.length = 1 := fun ρ os ρ' h => by
  unfold ac an bnd at h
  cases e : m ρ with
  | ok o ρ1 => rw [e] at h; cases h; rfl
  | exc x ρ1 => rw [e] at h; cases h
  | bad => rw [e] at h; cases h
end
section
variable {X : Cx}
theorem pg_seq {es : List Expr} {k : Nat} {pos : Pos} {t : TGs} {n : Nat} (hc : X.calm = true) (h : PGs X es t) (hn : (assignEach es X.env).length = n := by rfl) (hst : (assignEach es X.env).findIdx? (·.1) = none := by rfl) : PG X (.Tuple es k pos) (gSeq X.K n t) :=
  ⟨fun pins s σ H v u Q I r z => z.elim (fun z => (pg_tup hc h hn hst).run pins s σ H v u Q I r z) fun z => (pg_lst hc h hn hst).run pins s σ H v u Q I r z⟩
end
/-! ### rules at a K that is named -/
section
variable {X : Cx} {o e : Expr} {es : List Expr} {to te : TE} {t : TA} {name f : Str} {apos cpos pos : Pos} {T id : String} {r : V → List V → Hp → VK → Prop}
theorem hu_of {k : Nat} {A : Around} (h : Room k A) : A.units + 65 < cLine := by have := h.un; omega
theorem hu_of0 {k : Nat} {A : Around} (h : Room k A) : A.units + 64 < cLine := by have := h.un; omega
theorem pe_fldK (K : PySem.W.Frag) (hK : X.K = K) (he : PE X e te) (hb : attributeBase e f X.env (eval e X.env) = eval e X.env) : PE X (.Attribute e f pos) (tFld K te f) := by subst hK; exact pe_fld he hb
theorem pe_bm0K (K : PySem.W.Frag) (hK : X.K = K) (pa : PlainAttrs T) (slot : PySem.Slot T name id) (hty : typeOf (.builtin id) = pure (.type "method_descriptor")) (hm : MtR X id r) (ho : PE X o to)
    (hbase : attributeBase o name X.env (eval o X.env) = eval o X.env := by rfl) (hline : (apos.endLine == cpos.line) = true := by rfl) : PE X (.Call (.Attribute o name apos) [] [] cpos) (tBM0 K T r to) := by
  subst hK; exact pe_bm0 pa slot hty hm ho hbase hline
theorem pe_bmK (K : PySem.W.Frag) (hK : X.K = K) (pa : PlainAttrs T) (slot : PySem.Slot T name id) (hty : typeOf (.builtin id) = pure (.type "method_descriptor")) (hm : MtR X id r) (ho : PE X o to) (ha : PA X (e :: es) t)
    (hbase : attributeBase o name X.env (eval o X.env) = eval o X.env := by rfl)
    (hfew : ((backTo cpos (starEach (e :: es) X.env)).all (fun x => !x.1) && (backToKw cpos (keywordEach [] X.env)).all (fun x => x.1.isSome) && decide ((e :: es).length + ([] : List Keyword).length + (if ([] : List Keyword).isEmpty then 0 else 1) < 30)) = true := by rfl)
    (hline : (apos.endLine == cpos.line) = true := by rfl) (hs : starEach (e :: es) X.env = (false, eval e X.env) :: starEach es X.env := by rfl) (hplain : (backTo cpos (starEach es X.env)).any (·.1) = false := by rfl) :
    PE X (.Call (.Attribute o name apos) (e :: es) [] cpos) (tBM K T r to t) := by
  subst hK; exact pe_bm pa slot hty hm ho ha hbase hfew hline hs hplain
theorem pe_revLK (K : PySem.W.Frag) (hK : X.K = K) {k : Nat} {p1 p2 p3 pos : Pos} (he : PE X e te) : PE X (.Subscript e (.Slice none none (some (.UnaryOp .USub (.Constant (.int 1) k p1) p2)) p3) pos) (tRevL K te) := by subst hK; exact pe_revL he
theorem pi_seqK (K : PySem.W.Frag) (hK : X.K = K) {tg : Expr} (he : PE X e te) : PI X tg e (iSeq K te) := by subst hK; exact pi_seq he
theorem pg_seqK (K : PySem.W.Frag) (hK : X.K = K) {k : Nat} {tt : TGs} {n : Nat} (hc : X.calm = true) (h : PGs X es tt) (hn : (assignEach es X.env).length = n := by rfl) (hst : (assignEach es X.env).findIdx? (·.1) = none := by rfl) :
    PG X (.Tuple es k pos) (gSeq K n tt) := by subst hK; exact pg_seq hc h hn hst
theorem pt_truthK (K : PySem.W.Frag) (hK : X.K = K) (ha : PE X e te) (he : ∀ whole, isTrue e X.env whole = (do let v ← whole; standAt e.pos; holding [v] (truthy v))) : PT X e (fun σ H Q => te σ H fun x H' => ∃ k, TruV K x H' k ∧ Q k H') := by subst hK; exact pt_truth ha he
end
/-- a default that is the empty tuple -/
def ktB (p : PySem.W.Frag → Addr) (K : PySem.W.Frag) : Bool := match K.lookup (p K) with
  | some ⟨.type c, _, .seq its _, _⟩ => decide (c = "tuple") && decide (its.size = 0)
  | _ => false
theorem ktB_ok {p : PySem.W.Frag → Addr} {K : PySem.W.Frag} (h : ktB p K = true) : KTup K (p K) [] := by
  unfold ktB at h
  split at h
  · rename_i e
    rw [Bool.and_eq_true] at h
    have h2 := of_decide_eq_true h.2
    refine ⟨_, _, _, e, congrArg Value.type (of_decide_eq_true h.1), rfl, by rw [h2]; exact Nat.zero_le _, ?_⟩
    rw [Array.eq_empty_of_size_eq_zero h2]
    exact .nil
  · cases h
end VL
set_option Elab.async false
set_option linter.all false
set_option maxRecDepth 100000
set_option maxHeartbeats 2000000
/-! VL15: what loops and comprehensions run to, in plain lists. -/
namespace VL
open PySem L2
/-- one turn of a comprehension's clause -/
def LcStep (vs : List Nat) (g : Slot → M Unit) (mt : M Bool) (me : M Slot) (ρ : Env) (d : D) (r : Option D) : Prop :=
  ∃ ρ1, g (.sh d) ρ = .ok () ρ1 ∧ match r with
  | none => ∃ ρ2, mt ρ1 = .ok false ρ2 ∧ free ρ2 vs = true ∧ hideS ρ2 vs = ρ
  | some e => ∃ ρ2 s ρ3, mt ρ1 = .ok true ρ2 ∧ me ρ2 = .ok s ρ3 ∧ take (.tmp s) ρ3 = .ok e ρ3 ∧ free ρ3 vs = true ∧ hideS ρ3 vs = ρ
theorem hideM_ok {α : Type} {vs : List Nat} {m : M α} {ρ : Env} (h : free ρ vs = true) : hideM vs m ρ = m (hideS ρ vs) := by
  unfold hideM; rw [if_pos h]
theorem lc_run {X Y : Type} {e0 : X → D} {e1 : Y → D} {vs : List Nat} {g : Slot → M Unit} {mt : M Bool} {me : M Slot} {f : X → Option Y} {ρ : Env} : ∀ {ds : List X} {acc : List D}, (∀ d ∈ ds, LcStep vs g mt me ρ (e0 d) ((f d).map e1)) → acc.length + ds.length ≤ lim →
    lcLoop vs g mt me (ds.map e0) acc ρ = .ok (acc ++ (ds.filterMap f).map e1) ρ
  | [], acc, _, _ => by
    show Res.ok acc ρ = _
    simp
  | d :: ds, acc, h, hl => by
    have hl' : acc.length + (ds.length + 1) ≤ lim := hl
    obtain ⟨ρ1, h1, h2⟩ := h d List.mem_cons_self
    have ih := fun (acc : List D) (hl : acc.length + ds.length ≤ lim) => lc_run (e0 := e0) (e1 := e1) (vs := vs) (g := g) (mt := mt) (me := me) (f := f) (ρ := ρ) (ds := ds) (acc := acc) (fun d hd => h d (List.mem_cons_of_mem _ hd)) hl
    rw [List.filterMap_cons, List.map_cons]
    unfold lcLoop
    simp only [bnd, h1]
    cases e : f d with
    | none =>
      rw [e] at h2
      obtain ⟨ρ2, h3, h4, h5⟩ := h2
      simp only [h3, Bool.false_eq_true, ↓reduceIte]
      rw [hideM_ok h4, h5, ih acc (by omega)]
    | some v =>
      rw [e] at h2
      obtain ⟨ρ2, s, ρ3, h3, h4, h5, h6, h7⟩ := h2
      simp only [h3, ↓reduceIte, h4, h5, chk]
      rw [decide_eq_true (show acc.length < lim by omega)]
      simp only [↓reduceIte, bnd, h4, h5]
      rw [List.map_cons, hideM_ok h6, h7, ih (acc ++ [e1 v]) (by rw [List.length_append]; simp only [List.length_cons, List.length_nil]; omega), List.append_assoc] <;> rfl
theorem mLc_run {X Y : Type} {e0 : X → D} {e1 : Y → D} {f : X → Option Y} {ds : List X} {vs : List Nat} {mi : M (List D)} {g : Slot → M Unit} {mt : M Bool} {me : M Slot} {ρ ρ1 : Env} (h1 : mi ρ = .ok (ds.map e0) ρ1) (h2 : free ρ1 vs = true) (h3 : free (hideS ρ1 vs) vs = true) (h4 : unhideS ρ1 vs (hideS ρ1 vs) = ρ1)
    (h : ∀ d ∈ ds, LcStep vs g mt me (hideS ρ1 vs) (e0 d) ((f d).map e1)) (hl : ds.length ≤ lim) : mLc vs mi g mt me ρ = .ok (.ow (.lst ((ds.filterMap f).map e1))) ρ1 := by
  unfold mLc bnd
  rw [h1]
  simp only [h2, ↓reduceIte]
  rw [lc_run h (by simpa using hl)]
  simp only [h3, ↓reduceIte, h4, List.nil_append]
theorem rng0 (n : Nat) : rng 0 n = (List.range n).map fun i => D.int ((i : Nat) : Int) := by
  unfold rng
  simp only [Int.zero_add]
theorem rng1_ok {ms : M (List Opnd)} {ρ ρ1 : Env} {os : List Opnd} {k : Nat} (hs : small (k : Int) = true) (h1 : ms ρ = .ok os ρ1) (h2 : looks ρ1 os = some [.int (k : Int)]) : mArgs ms rng1 ρ = .ok ((List.range k).map fun i => D.int ((i : Nat) : Int)) ρ1 := by
  have e : rng1 [.int (k : Int)] ρ1 = .ok (rng 0 (k : Int).toNat) ρ1 := by
    show chk (small (k : Int)) (ret (rng 0 (k : Int).toNat)) ρ1 = _
    rw [hs] <;> rfl
  unfold mArgs bnd
  rw [h1]
  dsimp only
  rw [h2]
  dsimp only
  rw [e, Int.toNat_natCast, rng0]
theorem loop_run {S X : Type} {E : S → Env} {step : S → X → S} {e : X → D} {g : Slot → M Unit} {b : M Fl} {P : S → Prop} : ∀ {xs : List X} {s : S}, P s → (∀ s, P s → ∀ x ∈ xs, P (step s x) ∧ ∃ ρ1, g (.sh (e x)) (E s) = .ok () ρ1 ∧ b ρ1 = .ok .next (E (step s x))) →
    sLoop g b (xs.map e) (E s) = .ok .next (E (xs.foldl step s))
  | [], _, _, _ => rfl
  | x :: xs, s, hp, h => by
    obtain ⟨p1, ρ1, h1, h2⟩ := h s hp x List.mem_cons_self
    have ih := loop_run (E := E) (step := step) (e := e) (g := g) (b := b) (xs := xs) p1 fun s hs y hy => h s hs y (List.mem_cons_of_mem _ hy)
    rw [List.map_cons, List.foldl_cons, ← ih]
    show sLoop g b (e x :: xs.map e) (E s) = _
    conv => lhs; unfold sLoop
    simp only [bnd, okO, h1, h2]
/-- a loop that may return -/
def goes {S X R : Type} (step : S → X → S ⊕ R) : S → List X → S ⊕ R
  | s, [] => .inl s
  | s, x :: xs => match step s x with
    | .inl s' => goes step s' xs
    | .inr r => .inr r
theorem loop_runR {S X R : Type} {E : S → Env} {ER : R → Slot × Env} {step : S → X → S ⊕ R} {e : X → D} {g : Slot → M Unit} {b : M Fl} {P : S → Prop} : ∀ {xs : List X} {s : S}, P s →
    (∀ s, P s → ∀ x ∈ xs, ∃ ρ1, g (.sh (e x)) (E s) = .ok () ρ1 ∧ match step s x with | .inl s' => P s' ∧ b ρ1 = .ok .next (E s') | .inr r => b ρ1 = .ok (.ret (ER r).1) (ER r).2) →
    sLoop g b (xs.map e) (E s) = match goes step s xs with | .inl s' => .ok .next (E s') | .inr r => .ok (.ret (ER r).1) (ER r).2
  | [], _, _, _ => rfl
  | x :: xs, s, hp, h => by
    obtain ⟨ρ1, h1, h2⟩ := h s hp x List.mem_cons_self
    have ih := fun s p => loop_runR (E := E) (ER := ER) (step := step) (e := e) (g := g) (b := b) (P := P) (xs := xs) (s := s) p fun s hs y hy => h s hs y (List.mem_cons_of_mem _ hy)
    rw [List.map_cons]
    conv => lhs; unfold sLoop
    unfold goes
    cases e1 : step s x with
    | inl s' =>
      rw [e1] at h2
      simp only [bnd, okO, h1, h2.2]
      exact ih s' h2.1
    | inr r =>
      rw [e1] at h2
      simp only [bnd, okO, h1, h2] <;> rfl
end VL
set_option Elab.async false
set_option linter.all false
set_option maxRecDepth 100000
set_option maxHeartbeats 0
namespace VLL
open PySem PySem.Spec PyProof.Rows L2 VL
def top (i : Nat) : Stmt := PySem.Challenge.pw_switchrounds_k71_joined_and_yet_without.main.body.getD i (.Pass ⟨0, 0, 0, 0⟩)
def inCls (j : Nat) : Stmt → Stmt
  | .ClassDef (body := b) .. => b.getD j (.Pass ⟨0, 0, 0, 0⟩)
  | s => s
abbrev s_is_int : Stmt := top 9
abbrev s_is_row_like : Stmt := top 10
abbrev s_check_number : Stmt := top 11
abbrev s_lot_of : Stmt := top 12
abbrev s_both : Stmt := top 13
abbrev s_small_lots : Stmt := top 17
abbrev s_check_lines_few : Stmt := top 18
abbrev s_check_house_falls : Stmt := top 19
abbrev s_nearest : Stmt := top 20
abbrev s_line_worth : Stmt := top 21
abbrev s_lot_worths : Stmt := top 22
abbrev s_worth_table : Stmt := top 23
abbrev s_WorthX_initX : Stmt := inCls 0 (top 24)
abbrev s_Worth_known_lot : Stmt := inCls 1 (top 24)
abbrev s_WorthX_callX : Stmt := inCls 2 (top 24)
abbrev s_Worth_best : Stmt := inCls 3 (top 24)
abbrev s_Worth_lots : Stmt := inCls 4 (top 24)
abbrev s_reach_from : Stmt := top 26
abbrev s_parted_by : Stmt := top 27
abbrev s_is_below : Stmt := top 33
abbrev s_is_line : Stmt := top 34
abbrev s_NetX_initX : Stmt := inCls 0 (top 35)
abbrev s_Net_every_line : Stmt := inCls 1 (top 35)
abbrev s_Net_other : Stmt := inCls 3 (top 35)
abbrev s_Net_lines_at : Stmt := inCls 4 (top 35)
abbrev s_NetX_lenX : Stmt := inCls 10 (top 35)
abbrev s_NetX_addX : Stmt := inCls 11 (top 35)
abbrev s__law_draws : Stmt := top 37
abbrev s__law_take : Stmt := top 38
abbrev s__law_int : Stmt := top 39
abbrev s__law_joined : Stmt := top 40
abbrev s__law_arms : Stmt := top 41
abbrev s__law_due : Stmt := top 42
abbrev s__law_same : Stmt := top 43
abbrev s__law_still_joined : Stmt := top 44
abbrev s_law : Stmt := top 45
def d_is_int : He.DefD := ⟨("is_int", none), "is_int", "is_int", defArgs s_is_int, defBody s_is_int, defScope s_is_int, [], []⟩
def d_is_row_like : He.DefD := ⟨("is_row_like", none), "is_row_like", "is_row_like", defArgs s_is_row_like, defBody s_is_row_like, defScope s_is_row_like, [], []⟩
def d_check_number : He.DefD := ⟨("check_number", none), "check_number", "check_number", defArgs s_check_number, defBody s_check_number, defScope s_check_number, [], []⟩
def d_lot_of : He.DefD := ⟨("lot_of", none), "lot_of", "lot_of", defArgs s_lot_of, defBody s_lot_of, defScope s_lot_of, [], []⟩
def d_both : He.DefD := ⟨("both", none), "both", "both", defArgs s_both, defBody s_both, defScope s_both, [], []⟩
def d_small_lots : He.DefD := ⟨("small_lots", none), "small_lots", "small_lots", defArgs s_small_lots, defBody s_small_lots, defScope s_small_lots, [], []⟩
def d_check_lines_few : He.DefD := ⟨("check_lines_few", none), "check_lines_few", "check_lines_few", defArgs s_check_lines_few, defBody s_check_lines_few, defScope s_check_lines_few, [], []⟩
def d_check_house_falls : He.DefD := ⟨("check_house_falls", none), "check_house_falls", "check_house_falls", defArgs s_check_house_falls, defBody s_check_house_falls, defScope s_check_house_falls, [], []⟩
def d_nearest : He.DefD := ⟨("nearest", none), "nearest", "nearest", defArgs s_nearest, defBody s_nearest, defScope s_nearest, [], []⟩
def d_line_worth : He.DefD := ⟨("line_worth", none), "line_worth", "line_worth", defArgs s_line_worth, defBody s_line_worth, defScope s_line_worth, [], []⟩
def d_lot_worths : He.DefD := ⟨("lot_worths", none), "lot_worths", "lot_worths", defArgs s_lot_worths, defBody s_lot_worths, defScope s_lot_worths, [], []⟩
def d_worth_table : He.DefD := ⟨("worth_table", none), "worth_table", "worth_table", defArgs s_worth_table, defBody s_worth_table, defScope s_worth_table, [], []⟩
def d_WorthX_initX : He.DefD := ⟨("Worth", some "__init__"), "__init__", "Worth.__init__", defArgs s_WorthX_initX, defBody s_WorthX_initX, defScope s_WorthX_initX, [], []⟩
def d_Worth_known_lot : He.DefD := ⟨("Worth", some "known_lot"), "known_lot", "Worth.known_lot", defArgs s_Worth_known_lot, defBody s_Worth_known_lot, defScope s_Worth_known_lot, [], []⟩
def d_WorthX_callX : He.DefD := ⟨("Worth", some "__call__"), "__call__", "Worth.__call__", defArgs s_WorthX_callX, defBody s_WorthX_callX, defScope s_WorthX_callX, [.adr (He.dflAt ("Worth", some "__call__") 0)], []⟩
def d_Worth_best : He.DefD := ⟨("Worth", some "best"), "best", "Worth.best", defArgs s_Worth_best, defBody s_Worth_best, defScope s_Worth_best, [.adr (He.dflAt ("Worth", some "best") 0)], []⟩
def d_Worth_lots : He.DefD := ⟨("Worth", some "lots"), "lots", "Worth.lots", defArgs s_Worth_lots, defBody s_Worth_lots, defScope s_Worth_lots, [], []⟩
def d_reach_from : He.DefD := ⟨("reach_from", none), "reach_from", "reach_from", defArgs s_reach_from, defBody s_reach_from, defScope s_reach_from, [], []⟩
def d_parted_by : He.DefD := ⟨("parted_by", none), "parted_by", "parted_by", defArgs s_parted_by, defBody s_parted_by, defScope s_parted_by, [], []⟩
def d_is_below : He.DefD := ⟨("is_below", none), "is_below", "is_below", defArgs s_is_below, defBody s_is_below, defScope s_is_below, [], []⟩
def d_is_line : He.DefD := ⟨("is_line", none), "is_line", "is_line", defArgs s_is_line, defBody s_is_line, defScope s_is_line, [], []⟩
def d_NetX_initX : He.DefD := ⟨("Net", some "__init__"), "__init__", "Net.__init__", defArgs s_NetX_initX, defBody s_NetX_initX, defScope s_NetX_initX, [], [("bits", .int (0))]⟩
def d_Net_every_line : He.DefD := ⟨("Net", some "every_line"), "every_line", "Net.every_line", defArgs s_Net_every_line, defBody s_Net_every_line, defScope s_Net_every_line, [], []⟩
def d_Net_other : He.DefD := ⟨("Net", some "other"), "other", "Net.other", defArgs s_Net_other, defBody s_Net_other, defScope s_Net_other, [], []⟩
def d_Net_lines_at : He.DefD := ⟨("Net", some "lines_at"), "lines_at", "Net.lines_at", defArgs s_Net_lines_at, defBody s_Net_lines_at, defScope s_Net_lines_at, [], []⟩
def d_NetX_lenX : He.DefD := ⟨("Net", some "__len__"), "__len__", "Net.__len__", defArgs s_NetX_lenX, defBody s_NetX_lenX, defScope s_NetX_lenX, [], []⟩
def d_NetX_addX : He.DefD := ⟨("Net", some "__add__"), "__add__", "Net.__add__", defArgs s_NetX_addX, defBody s_NetX_addX, defScope s_NetX_addX, [], []⟩
def d__law_draws : He.DefD := ⟨("_law_draws", none), "_law_draws", "_law_draws", defArgs s__law_draws, defBody s__law_draws, defScope s__law_draws, [], []⟩
def d__law_take : He.DefD := ⟨("_law_take", none), "_law_take", "_law_take", defArgs s__law_take, defBody s__law_take, defScope s__law_take, [], []⟩
def d__law_int : He.DefD := ⟨("_law_int", none), "_law_int", "_law_int", defArgs s__law_int, defBody s__law_int, defScope s__law_int, [], []⟩
def d__law_joined : He.DefD := ⟨("_law_joined", none), "_law_joined", "_law_joined", defArgs s__law_joined, defBody s__law_joined, defScope s__law_joined, [], []⟩
def d__law_arms : He.DefD := ⟨("_law_arms", none), "_law_arms", "_law_arms", defArgs s__law_arms, defBody s__law_arms, defScope s__law_arms, [], []⟩
def d__law_due : He.DefD := ⟨("_law_due", none), "_law_due", "_law_due", defArgs s__law_due, defBody s__law_due, defScope s__law_due, [], []⟩
def d__law_same : He.DefD := ⟨("_law_same", none), "_law_same", "_law_same", defArgs s__law_same, defBody s__law_same, defScope s__law_same, [], []⟩
def d__law_still_joined : He.DefD := ⟨("_law_still_joined", none), "_law_still_joined", "_law_still_joined", defArgs s__law_still_joined, defBody s__law_still_joined, defScope s__law_still_joined, [], []⟩
def d_law : He.DefD := ⟨("law", none), "law", "law", defArgs s_law, defBody s_law, defScope s_law, [], []⟩
def fn : List He.DefD := [d_is_int, d_is_row_like, d_check_number, d_lot_of, d_both, d_small_lots, d_check_lines_few, d_check_house_falls, d_nearest, d_line_worth, d_lot_worths, d_worth_table, d_WorthX_initX, d_Worth_known_lot, d_WorthX_callX, d_Worth_best, d_Worth_lots, d_reach_from, d_parted_by, d_is_below, d_is_line, d_NetX_initX, d_Net_other, d_Net_lines_at, d_NetX_lenX, d_NetX_addX, d__law_draws, d__law_take, d__law_int, d__law_joined, d__law_arms, d__law_due, d__law_same, d__law_still_joined, d_law]
def pn : List DefP := [⟨fun K => pgA K "Net" "every_line", d_Net_every_line⟩]
def fa0 : List He.Fa := [.glo "RoundsError", .glo "BadNumber", .glo "BadLot", .glo "BadNet", .glo "TooMany", .glo "OtherNet", .glo "is_int", .glo "is_row_like", .glo "check_number", .glo "lot_of", .glo "both", .glo "small_lots", .glo "check_lines_few", .glo "check_house_falls", .glo "nearest", .glo "line_worth", .glo "lot_worths", .glo "worth_table", .glo "Worth", .glo "reach_from", .glo "parted_by", .glo "is_below", .glo "is_line", .glo "Net", .glo "_law_draws", .glo "_law_take", .glo "_law_int", .glo "_law_joined", .glo "_law_arms", .glo "_law_due"]
def fa1 : List He.Fa := [.glo "_law_same", .glo "_law_still_joined", .glo "law", .free "NotImplemented", .free "all", .free "bool", .free "int", .free "isinstance", .free "len", .free "list", .free "max", .free "min", .free "property", .free "range", .free "sorted", .free "tuple", .int "MOST_NET_LINES" (12), .int "MOST_FALLEN" (3), .int "MOST_SWITCHES" (9), .int "MOST_LINES" (36), .int "MOST_HOUSES" (16), .int "MOST_BITS" (4), .cls "Worth", .mkr "Worth", .noat "Worth" "net", .noat "Worth" "house", .noat "Worth" "most", .noat "Worth" "by_lot", .meth "Worth" "known_lot", .meth "Worth" "__call__"]
def fa2 : List He.Fa := [.meth "Worth" "best", .meth "Worth" "lots", .cls "Net", .mkr "Net", .noat "Net" "size", .noat "Net" "lines", .noat "Net" "houses", .noat "Net" "bits", .meth "Net" "other", .meth "Net" "lines_at", .meth "Net" "__len__", .meth "Net" "__add__"]
def fa : List He.Fa := fa0 ++ fa1 ++ fa2
def exs : List (PySem.W.Frag → Bool) := [callB "Worth", propB "Net" "every_line", ktB (He.dflAt ("Worth", some "__call__") 0), ktB (He.dflAt ("Worth", some "best") 0)]
def ex (K : PySem.W.Frag) : Bool := exs.all fun f => f K
theorem ex_at {K : PySem.W.Frag} (h : ex K = true) (i : Nat) {f : PySem.W.Frag → Bool} (e : exs[i]? = some f := by rfl) : f K = true := List.all_eq_true.mp h f (List.mem_of_getElem? e)
def loose0 : List Str := ["_wall", "RoundsError", "BadNumber", "BadLot", "BadNet", "TooMany", "OtherNet", "is_int", "is_row_like", "check_number", "lot_of", "both", "MOST_NET_LINES", "MOST_FALLEN", "small_lots", "check_lines_few", "check_house_falls", "nearest", "line_worth", "lot_worths"]
def loose1 : List Str := ["worth_table", "Worth", "reach_from", "parted_by", "MOST_SWITCHES", "MOST_LINES", "MOST_HOUSES", "MOST_BITS", "is_below", "is_line", "Net", "_law_draws", "_law_take", "_law_int", "_law_joined", "_law_arms", "_law_due", "_law_same", "_law_still_joined"]
def loose : List Str := loose0 ++ loose1
abbrev R : PySem.W.OpenRow := PySem.W.OpenLaw.row PySem.Challenge.rw_switchrounds_k71_joined_and_yet_without
abbrev q : Program := PySem.W.view R.prog [45]
def hk : PySem.W.Hook := hookP 5 fa fn pn ex
def ob (s : PySem.W.SharedT) : AlP := obsPG 5 fa fn pn ex (HandSHeadRun.getT s)
theorem ob_eq (s : PySem.W.SharedT) : ob s = hk.obs s.abs := obsPG_eq (HandSHeadRun.getT_eq s)
theorem run (w : World) : HandSHeadRun.RunEq R q hk ob 4000 loose w := by
  intro os
  kernel_rfl
end VLL
set_option Elab.async false
set_option linter.all false
set_option maxRecDepth 100000
set_option maxHeartbeats 0
set_option maxErrors 2000
namespace VLL
open PySem PySem.Spec PyProof.Rows L2 VL
theorem pass00 {P : Program} {w : World} {X : Cx} (h : X.prog = P) (h2 : X.w = w) : Passes (L2.CX P w) X (fun _ _ _ => False) := fun pins σ H s e s' I c => by
  subst h h2
  exact passAt (W := W0) takes0 σ pins H s e s' I c
/-! _law_draws -/
theorem sc__law_draws : FnScope ["script", "draws", "at", "cell", "k", "number"] ["script"] (defScope s__law_draws) := ⟨rfl, rfl, rfl, by decide +kernel, rfl, by decide +kernel, by decide +kernel⟩
def l__law_draws_1 : M Fl := (sFor (mArgs (ac (tm (cst (.int 60))) an) rng1) (setS 4)
  (sIf (mb (o2 pGt (mv 3) (tm (cst (.int 0)))))
  (thn' (sDrop (mutm "list" 1 fAppend (ac (tm (o2 pMod (tm (cb pInt (ac (mv 3) an))) (tm (cst (.int 24))))) an)))
  (sAsg (o2 pFdiv (mv 3) (tm (cst (.int 24)))) (setS 3)))
  (ret .next)))
def l__law_draws_2 : M Fl := (sFor (mArgs (ac (tm (cst (.int 6))) an) rng1) (setS 4)
  (thn' (sAsg (o2 pMod (tm (cb pInt (ac (tm (o2 pAdd (tm (o2 pAdd (tm (o2 pAdd (tm (o2 pMul (mv 5) (mv 5))) (tm (o2 pMul (mv 4) (tm (cst (.int 40692))))))) (mv 2))) (tm (cst (.int 7))))) an))) (tm (cst (.int 2147483563)))) (setS 5))
  (sDrop (mutm "list" 1 fAppend (ac (tm (o2 pFdiv (mv 5) (tm (cst (.int 64))))) an)))))
def l__law_draws_3 : M Fl := (sFor (mArgs (ac (tm (cb pMin2 (ac (tm (cb pLen (ac (mv 0) an))) (ac (tm (cst (.int 63))) an)))) an) rng1) (setS 2)
  (thn' (sAsg (cb pInt (ac (tm (o2 pIx (mv 0) (mv 2))) an)) (setS 3))
  (thn' (sIf (mb (o2 pLt (mv 3) (tm (cst (.int 0)))))
  (sAsg (o2 (ii fun i j => sI (i - j)) (tm (cst (.int 1))) (mv 3)) (setS 3))
  (ret .next))
  (sIf (mb (o2 pGe (mv 3) (tm (o2 pPow (tm (cst (.int 10))) (tm (cst (.int 18)))))))
  l__law_draws_1
  (thn' (sAsg (o2 pMod (tm (cb pInt (ac (tm (o2 pAdd (tm (o2 pAdd (tm (o2 pMul (mv 3) (tm (cst (.int 48271))))) (tm (o2 pMul (mv 2) (tm (cst (.int 69621))))))) (tm (cst (.int 1))))) an))) (tm (cst (.int 2147483647)))) (setS 5))
  l__law_draws_2)))))
def m__law_draws : M Fl :=
  (thn' (sAsg (mTake an kLst) (setS 1))
  (thn' l__law_draws_3
  (thn' (sDrop (mutm "list" 1 fReverse an))
  (sRet (mMove 1)))))
def run__law_draws : List D → FR := runF 1 6 false m__law_draws
theorem ok__law_draws {P : Program} {w : World} {K : PySem.W.Frag} {mg : Str → Option Value} {base h : Heap} (Xh : K.In h) (G : h.Ns mainGlobals mg) (c : SaysP fa fn pn ex K) :
    ∃ fd, FnOk P w K mg base (L2.CX P w) 1 (He.fAd K d__law_draws.at_) fd ["script"] (spV K (He.ga K) false run__law_draws) ∧ FunD K d__law_draws.name d__law_draws.qual d__law_draws.params d__law_draws.body d__law_draws.scope (d__law_draws.dvs K) (d__law_draws.kws K) (He.fAd K d__law_draws.at_) fd := by
  obtain ⟨fd, F⟩ := c.d.def_ 26 (d := d__law_draws) rfl
  have f_int : mg "int" = none := He.free_ok Xh G (c.d.fact 36 (f := .free "int") rfl)
  have f_len : mg "len" = none := He.free_ok Xh G (c.d.fact 38 (f := .free "len") rfl)
  have f_min : mg "min" = none := He.free_ok Xh G (c.d.fact 41 (f := .free "min") rfl)
  have f_range : mg "range" = none := He.free_ok Xh G (c.d.fact 43 (f := .free "range") rfl)
  refine ⟨fd, fnV_of F sc__law_draws fun cdv A outer s H E hr tk => ?_, F⟩
  have hu := VL.hu_of hr
  have hu0 := VL.hu_of0 hr
  apply Exists.intro
  constructor
  · exact (pss_cons (ps_set sc__law_draws.nd (i := 1) rfl (by first | exact Or.inl rfl | exact Or.inr rfl) (pe_lst pa_nil))
    (pss_cons (ps_for (passes_of rfl) rfl (pi_range1 rfl f_range (pa_cons (pe_callB (call_min2 rfl) rfl f_min boot_min (pa_cons (pe_callB (r := r1' (rLenA K)) call_lenA rfl f_len boot_len (pa_cons (pv 0) pa_nil)) (pa_cons pe_int pa_nil))) pa_nil)) (pg_name sc__law_draws.nd (i := 2) rfl (by first | exact Or.inl rfl | exact Or.inr rfl)) (pss_cons (ps_set sc__law_draws.nd (i := 3) rfl (by first | exact Or.inl rfl | exact Or.inr rfl) (pe_callTy call_int1 rfl f_int boot_int (pa_cons (pe_ix (r := rIxA K) (ix_any hu) (pv 0) (pv 2) (fun _ _ => rfl)) pa_nil)))
    (pss_cons (ps_if (pt_cmpR op_lt (pv 3) pe_int (nomark _)) (pss_one (ps_set sc__law_draws.nd (i := 3) rfl (by first | exact Or.inl rfl | exact Or.inr rfl) (pe_op op_sub pe_int (pv 3)))) pss_nil)
    (pss_one (ps_if (pt_cmpR op_ge (pv 3) (pe_op op_pow pe_int pe_int) (nomark _)) (pss_one (ps_for (passes_of rfl) rfl (pi_range1 rfl f_range (pa_cons pe_int pa_nil)) (pg_name sc__law_draws.nd (i := 4) rfl (by first | exact Or.inl rfl | exact Or.inr rfl)) (pss_one (ps_if (pt_cmpR op_gt (pv 3) pe_int (nomark _)) (pss_cons (ps_expr (pe_bmK K rfl PySem.F.plainAttrs_list PySem.F.slot_list_append PySem.F.type_list_append mt_append (pv 1) (pa_cons (pe_op op_mod (pe_callTy call_int1 rfl f_int boot_int (pa_cons (pv 3) pa_nil)) pe_int) pa_nil)))
    (pss_one (ps_set sc__law_draws.nd (i := 3) rfl (by first | exact Or.inl rfl | exact Or.inr rfl) (pe_op op_fdiv (pv 3) pe_int)))) pss_nil)))) (pss_cons (ps_set sc__law_draws.nd (i := 5) rfl (by first | exact Or.inl rfl | exact Or.inr rfl) (pe_op op_mod (pe_callTy call_int1 rfl f_int boot_int (pa_cons (pe_op (r := VL.rAdd K) op_addV (pe_op (r := VL.rAdd K) op_addV (pe_op op_mulV (pv 3) pe_int) (pe_op op_mulV (pv 2) pe_int)) pe_int) pa_nil)) pe_int))
    (pss_one (ps_for (passes_of rfl) rfl (pi_range1 rfl f_range (pa_cons pe_int pa_nil)) (pg_name sc__law_draws.nd (i := 4) rfl (by first | exact Or.inl rfl | exact Or.inr rfl)) (pss_cons (ps_set sc__law_draws.nd (i := 5) rfl (by first | exact Or.inl rfl | exact Or.inr rfl) (pe_op op_mod (pe_callTy call_int1 rfl f_int boot_int (pa_cons (pe_op (r := VL.rAdd K) op_addV (pe_op (r := VL.rAdd K) op_addV (pe_op (r := VL.rAdd K) op_addV (pe_op op_mulV (pv 5) (pv 5)) (pe_op op_mulV (pv 4) pe_int)) (pv 2)) pe_int) pa_nil)) pe_int))
    (pss_one (ps_expr (pe_bmK K rfl PySem.F.plainAttrs_list PySem.F.slot_list_append PySem.F.type_list_append mt_append (pv 1) (pa_cons (pe_op op_fdiv (pv 5) pe_int) pa_nil)))))))))))))
    (pss_cons (ps_expr (pe_bm0K K rfl PySem.F.plainAttrs_list PySem.F.slot_list_reverse PySem.F.type_list_reverse mt_reverse (pv 1)))
    (pss_one (ps_ret (pv 1))))))
  · exact (sndS_seq (sndS_asg (snd_lst sndA_nil) sndG_name)
    (sndS_seq (sndS_for (sndI_rng1 (sndA_c (sndO_t (snd_call pr_min2 (sndA_c (sndO_t (snd_call pr_len (sndA_c sndO_v sndA_nil))) (sndA_c (sndO_t (snd_c fun _ _ => rfl)) sndA_nil)))) sndA_nil)) sndG_name (sndS_seq (sndS_asg (snd_call pr_int (sndA_c (sndO_t (snd_op pr_ix sndO_v sndO_v)) sndA_nil)) sndG_name)
    (sndS_seq (sndS_if (sndT_tst (snd_op pr_lt sndO_v (sndO_t (snd_c fun _ _ => rfl)))) (sndS_asg (snd_op pr_sub (sndO_t (snd_c fun _ _ => rfl)) sndO_v) sndG_name) sndS_nil)
    (sndS_if (sndT_tst (snd_op pr_ge sndO_v (sndO_t (snd_op pr_pow (sndO_t (snd_c fun _ _ => rfl)) (sndO_t (snd_c fun _ _ => rfl)))))) (sndS_for (sndI_rng1 (sndA_c (sndO_t (snd_c fun _ _ => rfl)) sndA_nil)) sndG_name (sndS_if (sndT_tst (snd_op pr_gt sndO_v (sndO_t (snd_c fun _ _ => rfl)))) (sndS_seq (sndS_drop (snd_mut mu_append (sndA_c (sndO_t (snd_op pr_mod (sndO_t (snd_call pr_int (sndA_c sndO_v sndA_nil))) (sndO_t (snd_c fun _ _ => rfl)))) sndA_nil)))
    (sndS_asg (snd_op pr_fdiv sndO_v (sndO_t (snd_c fun _ _ => rfl))) sndG_name)) sndS_nil)) (sndS_seq (sndS_asg (snd_op pr_mod (sndO_t (snd_call pr_int (sndA_c (sndO_t (snd_op pr_add (sndO_t (snd_op pr_add (sndO_t (snd_op pr_mul sndO_v (sndO_t (snd_c fun _ _ => rfl)))) (sndO_t (snd_op pr_mul sndO_v (sndO_t (snd_c fun _ _ => rfl)))))) (sndO_t (snd_c fun _ _ => rfl)))) sndA_nil))) (sndO_t (snd_c fun _ _ => rfl))) sndG_name)
    (sndS_for (sndI_rng1 (sndA_c (sndO_t (snd_c fun _ _ => rfl)) sndA_nil)) sndG_name (sndS_seq (sndS_asg (snd_op pr_mod (sndO_t (snd_call pr_int (sndA_c (sndO_t (snd_op pr_add (sndO_t (snd_op pr_add (sndO_t (snd_op pr_add (sndO_t (snd_op pr_mul sndO_v sndO_v)) (sndO_t (snd_op pr_mul sndO_v (sndO_t (snd_c fun _ _ => rfl)))))) sndO_v)) (sndO_t (snd_c fun _ _ => rfl)))) sndA_nil))) (sndO_t (snd_c fun _ _ => rfl))) sndG_name)
    (sndS_drop (snd_mut mu_append (sndA_c (sndO_t (snd_op pr_fdiv sndO_v (sndO_t (snd_c fun _ _ => rfl)))) sndA_nil))))))))))
    (sndS_seq (sndS_drop (snd_mut mu_reverse sndA_nil))
    (sndS_ret snd_move))))
/-! _law_take -/
theorem sc__law_take : FnScope ["draws", "many"] ["draws", "many"] (defScope s__law_take) := ⟨rfl, rfl, rfl, by decide +kernel, rfl, by decide +kernel, by decide +kernel⟩
def m__law_take : M Fl :=
  (thn' (sIf (mb (o2 pEq (tm (cb pLen (ac (mv 0) an))) (tm (cst (.int 0)))))
  (sRet (cst (.int 0)))
  (ret .next))
  (sRet (o2 pMod (tm (cb pInt (ac (tm (mutm "list" 0 fPop an)) an))) (mv 1))))
def run__law_take : List D → FR := runF 2 2 true m__law_take
theorem ok__law_take {P : Program} {w : World} {K : PySem.W.Frag} {mg : Str → Option Value} {base h : Heap} (Xh : K.In h) (G : h.Ns mainGlobals mg) (c : SaysP fa fn pn ex K) :
    ∃ fd, FnOk P w K mg base (L2.CX P w) 1 (He.fAd K d__law_take.at_) fd ["draws", "many"] (spV K (He.ga K) true run__law_take) ∧ FunD K d__law_take.name d__law_take.qual d__law_take.params d__law_take.body d__law_take.scope (d__law_take.dvs K) (d__law_take.kws K) (He.fAd K d__law_take.at_) fd := by
  obtain ⟨fd, F⟩ := c.d.def_ 27 (d := d__law_take) rfl
  have f_int : mg "int" = none := He.free_ok Xh G (c.d.fact 36 (f := .free "int") rfl)
  have f_len : mg "len" = none := He.free_ok Xh G (c.d.fact 38 (f := .free "len") rfl)
  refine ⟨fd, fnV_of F sc__law_take fun cdv A outer s H E hr tk => ?_, F⟩
  have hu := VL.hu_of hr
  have hu0 := VL.hu_of0 hr
  apply Exists.intro
  constructor
  · exact (pss_cons (ps_if (pt_cmpR (r := rEqD K) (op_eqD hu0) (pe_callB (r := r1' (rLenA K)) call_lenA rfl f_len boot_len (pa_cons (pv 0) pa_nil)) pe_int (nomark _)) (pss_one (ps_ret pe_int)) pss_nil)
    (pss_one (ps_ret (pe_op op_mod (pe_callTy call_int1 rfl f_int boot_int (pa_cons (pe_bm0K K rfl PySem.F.plainAttrs_list PySem.F.slot_list_pop PySem.F.type_list_pop mt_pop (pv 0)) pa_nil)) (pv 1)))))
  · exact (sndS_seq (sndS_if (sndT_tst (snd_op pr_eq (sndO_t (snd_call pr_len (sndA_c sndO_v sndA_nil))) (sndO_t (snd_c fun _ _ => rfl)))) (sndS_ret (snd_c fun _ _ => rfl)) sndS_nil)
    (sndS_ret (snd_op pr_mod (sndO_t (snd_call pr_int (sndA_c (sndO_t (snd_mut mu_pop sndA_nil)) sndA_nil))) sndO_v)))
/-! _law_arms -/
theorem sc__law_arms : FnScope ["draws", "long", "arms", "size", "shift", "arm", "lines", "far", "one", "step", "other", "pair"] ["draws"] (defScope s__law_arms) := ⟨rfl, rfl, rfl, by decide +kernel, rfl, by decide +kernel, by decide +kernel⟩
def l__law_arms_1 : M Fl := (sFor (mArgs (ac (mv 1) an) rng1) (setS 9)
  (thn' (sAsg (cst (.int 1)) (setS 10))
  (thn' (sIf (mb (o2 pLt (mv 9) (tm (o2 (ii fun i j => sI (i - j)) (mv 1) (tm (cst (.int 1)))))))
  (thn' (sAsg (o2 pAdd (tm (o2 pAdd (tm (cst (.int 2))) (tm (o2 pMul (mv 5) (tm (o2 (ii fun i j => sI (i - j)) (mv 1) (tm (cst (.int 1))))))))) (mv 9)) (setS 10))
  (sAsg (o2 (ii fun i j => sI (i - j)) (tm (o2 (ii fun i j => sI (i - j)) (mv 1) (tm (cst (.int 1))))) (mv 9)) (setSub 7 (tm (o2 pMod (tm (cb pInt (ac (tm (o2 pAdd (mv 10) (mv 4))) an))) (mv 3))) setF)))
  (ret .next))
  (thn' (sAsg (mTake (ac (tm (o2 pMod (tm (cb pInt (ac (tm (o2 pAdd (mv 8) (mv 4))) an))) (mv 3))) (ac (tm (o2 pMod (tm (cb pInt (ac (tm (o2 pAdd (mv 10) (mv 4))) an))) (mv 3))) an)) kLst) (setS 11))
  (thn' (sIf (mb (o2 pEq (tm (usr true run__law_take [] (ac (mv 0) (ac (tm (cst (.int 2))) an)))) (tm (cst (.int 1)))))
  (sDrop (mutm "list" 11 fReverse an))
  (ret .next))
  (thn' (sDrop (mutm "list" 6 fAppend (ac (tm (cb pTuple (ac (mv 11) an))) an)))
  (sAsg (mVar 10) (setS 8))))))))
def l__law_arms_2 : M Fl := (sFor (mArgs (ac (mv 2) an) rng1) (setS 5)
  (thn' (sAsg (cst (.int 0)) (setS 8))
  l__law_arms_1))
def m__law_arms : M Fl :=
  (thn' (sAsg (o2 pAdd (tm (cst (.int 1))) (tm (usr true run__law_take [] (ac (mv 0) (ac (tm (cst (.int 4))) an))))) (setS 1))
  (thn' (sAsg (o2 pAdd (tm (cst (.int 1))) (tm (usr true run__law_take [] (ac (mv 0) (ac (tm (o2 pIx (tm (mTake (ac (tm (cst (.int 12))) (ac (tm (cst (.int 6))) (ac (tm (cst (.int 3))) (ac (tm (cst (.int 2))) an)))) kLst)) (tm (o2 (ii fun i j => sI (i - j)) (mv 1) (tm (cst (.int 1))))))) an))))) (setS 2))
  (thn' (sAsg (o2 pAdd (tm (cst (.int 2))) (tm (o2 pMul (mv 2) (tm (o2 (ii fun i j => sI (i - j)) (mv 1) (tm (cst (.int 1)))))))) (setS 3))
  (thn' (sAsg (usr true run__law_take [] (ac (mv 0) (ac (mv 3) an))) (setS 4))
  (thn' (sPar 6 7 (ac (tm (mTake an kLst)) (ac (tm (o2 pMul (tm (mTake (ac (tm (cst (.int 0))) an) kLst)) (mv 3))) an)))
  (thn' (sAsg (mVar 1) (setSub 7 (tm (o2 pMod (tm (cb pInt (ac (mv 4) an))) (mv 3))) setF))
  (thn' l__law_arms_2
  (sRet (mTake (ac (mv 1) (ac (mv 2) (ac (mv 3) (ac (mv 6) (ac (mv 7) an))))) kLst)))))))))
def run__law_arms : List D → FR := runF 1 12 true m__law_arms
theorem ok__law_arms {P : Program} {w : World} {K : PySem.W.Frag} {mg : Str → Option Value} {base h : Heap} (Xh : K.In h) (G : h.Ns mainGlobals mg) (c : SaysP fa fn pn ex K) :
    ∃ fd, FnOk P w K mg base (L2.CX P w) 2 (He.fAd K d__law_arms.at_) fd ["draws"] (spV K (He.ga K) true run__law_arms) ∧ FunD K d__law_arms.name d__law_arms.qual d__law_arms.params d__law_arms.body d__law_arms.scope (d__law_arms.dvs K) (d__law_arms.kws K) (He.fAd K d__law_arms.at_) fd := by
  obtain ⟨fd, F⟩ := c.d.def_ 30 (d := d__law_arms) rfl
  have f_int : mg "int" = none := He.free_ok Xh G (c.d.fact 36 (f := .free "int") rfl)
  have f_range : mg "range" = none := He.free_ok Xh G (c.d.fact 43 (f := .free "range") rfl)
  have f_tuple : mg "tuple" = none := He.free_ok Xh G (c.d.fact 45 (f := .free "tuple") rfl)
  have g__law_take : mg "_law_take" = some (.ref (He.ga K "_law_take")) := He.glo_ok Xh G (c.d.fact 25 (f := .glo "_law_take") rfl)
  obtain ⟨fd__law_take, F__law_take, D__law_take⟩ := ok__law_take (P := P) (w := w) (base := base) Xh G c
  have b__law_take_2 : Binds K fd__law_take _ [] := D__law_take.bindsN (ps := ["draws", "many"]) fun _ _ _ _ _ _ us hl => match us, hl with | [_, _], _ => rfl
  have v__law_take_2 : Vals [] [] := .nil
  refine ⟨fd, fnV_of F sc__law_arms fun cdv A outer s H E hr tk => ?_, F⟩
  have hu := VL.hu_of hr
  have hu0 := VL.hu_of0 hr
  apply Exists.intro
  constructor
  · exact (pss_cons (ps_set sc__law_arms.nd (i := 1) rfl (by first | exact Or.inl rfl | exact Or.inr rfl) (pe_op (r := VL.rAdd K) op_addV pe_int (pe_callSD F__law_take (hr.mono (by decide)) rfl g__law_take D__law_take.kp b__law_take_2 v__law_take_2 (fun σ => passAt tk σ) (pa_cons (pv 0) (pa_cons pe_int pa_nil)))))
    (pss_cons (ps_set sc__law_arms.nd (i := 2) rfl (by first | exact Or.inl rfl | exact Or.inr rfl) (pe_op (r := VL.rAdd K) op_addV pe_int (pe_callSD F__law_take (hr.mono (by decide)) rfl g__law_take D__law_take.kp b__law_take_2 v__law_take_2 (fun σ => passAt tk σ) (pa_cons (pv 0) (pa_cons (pe_ix (r := rIxA K) (ix_any hu) (pe_lst (pa_cons pe_int (pa_cons pe_int (pa_cons pe_int (pa_cons pe_int pa_nil))))) (pe_op op_sub (pv 1) pe_int) (fun _ _ => rfl)) pa_nil)))))
    (pss_cons (ps_set sc__law_arms.nd (i := 3) rfl (by first | exact Or.inl rfl | exact Or.inr rfl) (pe_op (r := VL.rAdd K) op_addV pe_int (pe_op op_mulV (pv 2) (pe_op op_sub (pv 1) pe_int))))
    (pss_cons (ps_set sc__law_arms.nd (i := 4) rfl (by first | exact Or.inl rfl | exact Or.inr rfl) (pe_callSD F__law_take (hr.mono (by decide)) rfl g__law_take D__law_take.kp b__law_take_2 v__law_take_2 (fun σ => passAt tk σ) (pa_cons (pv 0) (pa_cons (pv 3) pa_nil))))
    (pss_cons (ps_par rfl sc__law_arms.nd (i := 6) (j := 7) rfl rfl (by decide) rfl rfl (pa_cons (pe_lst pa_nil) (pa_cons (pe_op op_mulV (pe_lst (pa_cons pe_int pa_nil)) (pv 3)) pa_nil)) (by rfl))
    (pss_cons (ps_asg (pv 1) (pg_sub (pv 7) (pe_op op_mod (pe_callTy call_int1 rfl f_int boot_int (pa_cons (pv 4) pa_nil)) (pv 3)) (set_any hu)))
    (pss_cons (ps_for (passes_of rfl) rfl (pi_range1 rfl f_range (pa_cons (pv 2) pa_nil)) (pg_name sc__law_arms.nd (i := 5) rfl (by first | exact Or.inl rfl | exact Or.inr rfl)) (pss_cons (ps_set sc__law_arms.nd (i := 8) rfl (by first | exact Or.inl rfl | exact Or.inr rfl) pe_int)
    (pss_one (ps_for (passes_of rfl) rfl (pi_range1 rfl f_range (pa_cons (pv 1) pa_nil)) (pg_name sc__law_arms.nd (i := 9) rfl (by first | exact Or.inl rfl | exact Or.inr rfl)) (pss_cons (ps_set sc__law_arms.nd (i := 10) rfl (by first | exact Or.inl rfl | exact Or.inr rfl) pe_int)
    (pss_cons (ps_if (pt_cmpR op_lt (pv 9) (pe_op op_sub (pv 1) pe_int) (nomark _)) (pss_cons (ps_set sc__law_arms.nd (i := 10) rfl (by first | exact Or.inl rfl | exact Or.inr rfl) (pe_op (r := VL.rAdd K) op_addV (pe_op (r := VL.rAdd K) op_addV pe_int (pe_op op_mulV (pv 5) (pe_op op_sub (pv 1) pe_int))) (pv 9)))
    (pss_one (ps_asg (pe_op op_sub (pe_op op_sub (pv 1) pe_int) (pv 9)) (pg_sub (pv 7) (pe_op op_mod (pe_callTy call_int1 rfl f_int boot_int (pa_cons (pe_op (r := VL.rAdd K) op_addV (pv 10) (pv 4)) pa_nil)) (pv 3)) (set_any hu))))) pss_nil)
    (pss_cons (ps_set sc__law_arms.nd (i := 11) rfl (by first | exact Or.inl rfl | exact Or.inr rfl) (pe_lst (pa_cons (pe_op op_mod (pe_callTy call_int1 rfl f_int boot_int (pa_cons (pe_op (r := VL.rAdd K) op_addV (pv 8) (pv 4)) pa_nil)) (pv 3)) (pa_cons (pe_op op_mod (pe_callTy call_int1 rfl f_int boot_int (pa_cons (pe_op (r := VL.rAdd K) op_addV (pv 10) (pv 4)) pa_nil)) (pv 3)) pa_nil))))
    (pss_cons (ps_if (pt_cmpR (r := rEqD K) (op_eqD hu0) (pe_callSD F__law_take (hr.mono (by decide)) rfl g__law_take D__law_take.kp b__law_take_2 v__law_take_2 (fun σ => passAt tk σ) (pa_cons (pv 0) (pa_cons pe_int pa_nil))) pe_int (nomark _)) (pss_one (ps_expr (pe_bm0K K rfl PySem.F.plainAttrs_list PySem.F.slot_list_reverse PySem.F.type_list_reverse mt_reverse (pv 11)))) pss_nil)
    (pss_cons (ps_expr (pe_bmK K rfl PySem.F.plainAttrs_list PySem.F.slot_list_append PySem.F.type_list_append mt_append (pv 6) (pa_cons (pe_callTy (r := r1' (rTupleA K)) call_tupleA rfl f_tuple boot_tuple (pa_cons (pv 11) pa_nil)) pa_nil)))
    (pss_one (ps_set sc__law_arms.nd (i := 8) rfl (by first | exact Or.inl rfl | exact Or.inr rfl) (pv 10))))))))))))
    (pss_one (ps_ret (pe_lst (pa_cons (pv 1) (pa_cons (pv 2) (pa_cons (pv 3) (pa_cons (pv 6) (pa_cons (pv 7) pa_nil)))))))))))))))
  · exact (sndS_seq (sndS_asg (snd_op pr_add (sndO_t (snd_c fun _ _ => rfl)) (sndO_t (snd_user (fun _ _ => rfl) (sndA_c sndO_v (sndA_c (sndO_t (snd_c fun _ _ => rfl)) sndA_nil))))) sndG_name)
    (sndS_seq (sndS_asg (snd_op pr_add (sndO_t (snd_c fun _ _ => rfl)) (sndO_t (snd_user (fun _ _ => rfl) (sndA_c sndO_v (sndA_c (sndO_t (snd_op pr_ix (sndO_t (snd_lst (sndA_c (sndO_t (snd_c fun _ _ => rfl)) (sndA_c (sndO_t (snd_c fun _ _ => rfl)) (sndA_c (sndO_t (snd_c fun _ _ => rfl)) (sndA_c (sndO_t (snd_c fun _ _ => rfl)) sndA_nil)))))) (sndO_t (snd_op pr_sub sndO_v (sndO_t (snd_c fun _ _ => rfl)))))) sndA_nil))))) sndG_name)
    (sndS_seq (sndS_asg (snd_op pr_add (sndO_t (snd_c fun _ _ => rfl)) (sndO_t (snd_op pr_mul sndO_v (sndO_t (snd_op pr_sub sndO_v (sndO_t (snd_c fun _ _ => rfl))))))) sndG_name)
    (sndS_seq (sndS_asg (snd_user (fun _ _ => rfl) (sndA_c sndO_v (sndA_c sndO_v sndA_nil))) sndG_name)
    (sndS_seq (sndS_par (sndA_c (sndO_t (snd_lst sndA_nil)) (sndA_c (sndO_t (snd_op pr_mul (sndO_t (snd_lst (sndA_c (sndO_t (snd_c fun _ _ => rfl)) sndA_nil))) sndO_v)) sndA_nil)))
    (sndS_seq (sndS_asg snd_var (sndG_sub set_ok (sndO_t (snd_op pr_mod (sndO_t (snd_call pr_int (sndA_c sndO_v sndA_nil))) sndO_v))))
    (sndS_seq (sndS_for (sndI_rng1 (sndA_c sndO_v sndA_nil)) sndG_name (sndS_seq (sndS_asg (snd_c fun _ _ => rfl) sndG_name)
    (sndS_for (sndI_rng1 (sndA_c sndO_v sndA_nil)) sndG_name (sndS_seq (sndS_asg (snd_c fun _ _ => rfl) sndG_name)
    (sndS_seq (sndS_if (sndT_tst (snd_op pr_lt sndO_v (sndO_t (snd_op pr_sub sndO_v (sndO_t (snd_c fun _ _ => rfl)))))) (sndS_seq (sndS_asg (snd_op pr_add (sndO_t (snd_op pr_add (sndO_t (snd_c fun _ _ => rfl)) (sndO_t (snd_op pr_mul sndO_v (sndO_t (snd_op pr_sub sndO_v (sndO_t (snd_c fun _ _ => rfl)))))))) sndO_v) sndG_name)
    (sndS_asg (snd_op pr_sub (sndO_t (snd_op pr_sub sndO_v (sndO_t (snd_c fun _ _ => rfl)))) sndO_v) (sndG_sub set_ok (sndO_t (snd_op pr_mod (sndO_t (snd_call pr_int (sndA_c (sndO_t (snd_op pr_add sndO_v sndO_v)) sndA_nil))) sndO_v))))) sndS_nil)
    (sndS_seq (sndS_asg (snd_lst (sndA_c (sndO_t (snd_op pr_mod (sndO_t (snd_call pr_int (sndA_c (sndO_t (snd_op pr_add sndO_v sndO_v)) sndA_nil))) sndO_v)) (sndA_c (sndO_t (snd_op pr_mod (sndO_t (snd_call pr_int (sndA_c (sndO_t (snd_op pr_add sndO_v sndO_v)) sndA_nil))) sndO_v)) sndA_nil))) sndG_name)
    (sndS_seq (sndS_if (sndT_tst (snd_op pr_eq (sndO_t (snd_user (fun _ _ => rfl) (sndA_c sndO_v (sndA_c (sndO_t (snd_c fun _ _ => rfl)) sndA_nil)))) (sndO_t (snd_c fun _ _ => rfl)))) (sndS_drop (snd_mut mu_reverse sndA_nil)) sndS_nil)
    (sndS_seq (sndS_drop (snd_mut mu_append (sndA_c (sndO_t (snd_call pr_tuple (sndA_c sndO_v sndA_nil))) sndA_nil)))
    (sndS_asg snd_var sndG_name)))))))))
    (sndS_ret (snd_lst (sndA_c sndO_v (sndA_c sndO_v (sndA_c sndO_v (sndA_c sndO_v (sndA_c sndO_v sndA_nil))))))))))))))
/-! is_int -/
theorem sc_is_int : FnScope ["value"] ["value"] (defScope s_is_int) := ⟨rfl, rfl, rfl, by decide +kernel, rfl, by decide +kernel, by decide +kernel⟩
def m_is_int : M Fl :=
  (sRet (mAndV (o1 (pIsi ["int"]) (mv 0)) (mNotV (o1 (pIsi ["bool"]) (mv 0)))))
def run_is_int : List D → FR := runF 1 1 false m_is_int
theorem ok_is_int {P : Program} {w : World} {K : PySem.W.Frag} {mg : Str → Option Value} {base h : Heap} (Xh : K.In h) (G : h.Ns mainGlobals mg) (c : SaysP fa fn pn ex K) :
    ∃ fd, FnOk P w K mg base (L2.CX P w) 1 (He.fAd K d_is_int.at_) fd ["value"] (spV K (He.ga K) false run_is_int) ∧ FunD K d_is_int.name d_is_int.qual d_is_int.params d_is_int.body d_is_int.scope (d_is_int.dvs K) (d_is_int.kws K) (He.fAd K d_is_int.at_) fd := by
  obtain ⟨fd, F⟩ := c.d.def_ 0 (d := d_is_int) rfl
  have f_bool : mg "bool" = none := He.free_ok Xh G (c.d.fact 35 (f := .free "bool") rfl)
  have f_int : mg "int" = none := He.free_ok Xh G (c.d.fact 36 (f := .free "int") rfl)
  have f_isinstance : mg "isinstance" = none := He.free_ok Xh G (c.d.fact 37 (f := .free "isinstance") rfl)
  refine ⟨fd, fnV_of F sc_is_int fun cdv A outer s H E hr tk => ?_, F⟩
  have hu := VL.hu_of hr
  have hu0 := VL.hu_of0 hr
  apply Exists.intro
  constructor
  · exact (pss_one (ps_ret (pe_and (pe_callB (r := rIsi K) call_isi rfl f_isinstance boot_isinstance (pa_cons (pv 0) (pa_cons (pe_bltn (v := .ty "int") rfl f_int boot_int rfl) pa_nil))) (pe_one (pe_not (pe_callB (r := rIsi K) call_isi rfl f_isinstance boot_isinstance (pa_cons (pv 0) (pa_cons (pe_bltn (v := .ty "bool") rfl f_bool boot_bool rfl) pa_nil))))))))
  · exact (sndS_ret (snd_andV (snd_isi (by decide +kernel) sndO_v) (snd_notV (snd_isi (by decide +kernel) sndO_v))))
/-! is_below -/
theorem sc_is_below : FnScope ["value", "bound"] ["value", "bound"] (defScope s_is_below) := ⟨rfl, rfl, rfl, by decide +kernel, rfl, by decide +kernel, by decide +kernel⟩
def m_is_below : M Fl :=
  (sRet (mAndV (usr false run_is_int [] (ac (mv 0) an)) (mAndV (o2 pLe (tm (cst (.int 0))) (mv 0)) (o2 pLt (mv 0) (mv 1)))))
def run_is_below : List D → FR := runF 2 2 false m_is_below
theorem ok_is_below {P : Program} {w : World} {K : PySem.W.Frag} {mg : Str → Option Value} {base h : Heap} (Xh : K.In h) (G : h.Ns mainGlobals mg) (c : SaysP fa fn pn ex K) :
    ∃ fd, FnOk P w K mg base (L2.CX P w) 2 (He.fAd K d_is_below.at_) fd ["value", "bound"] (spV K (He.ga K) false run_is_below) ∧ FunD K d_is_below.name d_is_below.qual d_is_below.params d_is_below.body d_is_below.scope (d_is_below.dvs K) (d_is_below.kws K) (He.fAd K d_is_below.at_) fd := by
  obtain ⟨fd, F⟩ := c.d.def_ 19 (d := d_is_below) rfl
  have g_is_int : mg "is_int" = some (.ref (He.ga K "is_int")) := He.glo_ok Xh G (c.d.fact 6 (f := .glo "is_int") rfl)
  obtain ⟨fd_is_int, F_is_int, D_is_int⟩ := ok_is_int (P := P) (w := w) (base := base) Xh G c
  have b_is_int_1 : Binds K fd_is_int _ [] := D_is_int.bindsN (ps := ["value"]) fun _ _ _ _ _ _ us hl => match us, hl with | [_], _ => rfl
  have v_is_int_1 : Vals [] [] := .nil
  refine ⟨fd, fnV_of F sc_is_below fun cdv A outer s H E hr tk => ?_, F⟩
  have hu := VL.hu_of hr
  have hu0 := VL.hu_of0 hr
  apply Exists.intro
  constructor
  · exact (pss_one (ps_ret (pe_and (pe_callSD F_is_int (hr.mono (by decide)) rfl g_is_int D_is_int.kp b_is_int_1 v_is_int_1 (fun σ => passAt tk σ) (pa_cons (pv 0) pa_nil)) (pe_and (pe_cmpR op_le pe_int (pv 0) (nomark _)) (pe_one (pe_cmpR op_lt (pv 0) (pv 1) (nomark _)))))))
  · exact (sndS_ret (snd_andV (snd_user (fun _ _ => rfl) (sndA_c sndO_v sndA_nil)) (snd_andV (snd_op pr_le (sndO_t (snd_c fun _ _ => rfl)) sndO_v) (snd_op pr_lt sndO_v sndO_v))))
/-! is_row_like -/
theorem sc_is_row_like : FnScope ["value"] ["value"] (defScope s_is_row_like) := ⟨rfl, rfl, rfl, by decide +kernel, rfl, by decide +kernel, by decide +kernel⟩
def m_is_row_like : M Fl :=
  (sRet (o1 (pIsi ["list", "tuple"]) (mv 0)))
def run_is_row_like : List D → FR := runF 1 1 false m_is_row_like
theorem ok_is_row_like {P : Program} {w : World} {K : PySem.W.Frag} {mg : Str → Option Value} {base h : Heap} (Xh : K.In h) (G : h.Ns mainGlobals mg) (c : SaysP fa fn pn ex K) :
    ∃ fd, FnOk P w K mg base (L2.CX P w) 1 (He.fAd K d_is_row_like.at_) fd ["value"] (spV K (He.ga K) false run_is_row_like) ∧ FunD K d_is_row_like.name d_is_row_like.qual d_is_row_like.params d_is_row_like.body d_is_row_like.scope (d_is_row_like.dvs K) (d_is_row_like.kws K) (He.fAd K d_is_row_like.at_) fd := by
  obtain ⟨fd, F⟩ := c.d.def_ 1 (d := d_is_row_like) rfl
  have f_isinstance : mg "isinstance" = none := He.free_ok Xh G (c.d.fact 37 (f := .free "isinstance") rfl)
  have f_list : mg "list" = none := He.free_ok Xh G (c.d.fact 39 (f := .free "list") rfl)
  have f_tuple : mg "tuple" = none := He.free_ok Xh G (c.d.fact 45 (f := .free "tuple") rfl)
  refine ⟨fd, fnV_of F sc_is_row_like fun cdv A outer s H E hr tk => ?_, F⟩
  have hu := VL.hu_of hr
  have hu0 := VL.hu_of0 hr
  apply Exists.intro
  constructor
  · exact (pss_one (ps_ret (pe_callB (r := rIsiT K) call_isiT rfl f_isinstance boot_isinstance (pa_cons (pv 0) (pa_cons (pe_tup (pa_cons (pe_bltn (v := .ty "list") rfl f_list boot_list rfl) (pa_cons (pe_bltn (v := .ty "tuple") rfl f_tuple boot_tuple rfl) pa_nil))) pa_nil)))))
  · exact (sndS_ret (snd_isi2 (by decide +kernel) (by decide +kernel) sndO_v))
/-! is_line -/
theorem sc_is_line : FnScope ["value", "size", "one", "two"] ["value", "size"] (defScope s_is_line) := ⟨rfl, rfl, rfl, by decide +kernel, rfl, by decide +kernel, by decide +kernel⟩
def m_is_line : M Fl :=
  (thn' (sIf (mOr (mNot (mb (usr false run_is_row_like [] (ac (mv 0) an)))) (mb (o2 pNe (tm (cb pLen (ac (mv 0) an))) (tm (cst (.int 2))))))
  (sRet (cst (.bl false)))
  (ret .next))
  (thn' (sAsg (mVar 0) (unpk 2 (gsc (setS 2) (gsc (setS 3) gs0))))
  (sRet (mAndV (usr false run_is_below [] (ac (mv 2) (ac (mv 1) an))) (mAndV (usr false run_is_below [] (ac (mv 3) (ac (mv 1) an))) (o2 pNe (mv 2) (mv 3)))))))
def run_is_line : List D → FR := runF 2 4 false m_is_line
theorem ok_is_line {P : Program} {w : World} {K : PySem.W.Frag} {mg : Str → Option Value} {base h : Heap} (Xh : K.In h) (G : h.Ns mainGlobals mg) (c : SaysP fa fn pn ex K) :
    ∃ fd, FnOk P w K mg base (L2.CX P w) 3 (He.fAd K d_is_line.at_) fd ["value", "size"] (spV K (He.ga K) false run_is_line) ∧ FunD K d_is_line.name d_is_line.qual d_is_line.params d_is_line.body d_is_line.scope (d_is_line.dvs K) (d_is_line.kws K) (He.fAd K d_is_line.at_) fd := by
  obtain ⟨fd, F⟩ := c.d.def_ 20 (d := d_is_line) rfl
  have f_len : mg "len" = none := He.free_ok Xh G (c.d.fact 38 (f := .free "len") rfl)
  have g_is_below : mg "is_below" = some (.ref (He.ga K "is_below")) := He.glo_ok Xh G (c.d.fact 21 (f := .glo "is_below") rfl)
  have g_is_row_like : mg "is_row_like" = some (.ref (He.ga K "is_row_like")) := He.glo_ok Xh G (c.d.fact 7 (f := .glo "is_row_like") rfl)
  obtain ⟨fd_is_row_like, F_is_row_like, D_is_row_like⟩ := ok_is_row_like (P := P) (w := w) (base := base) Xh G c
  have b_is_row_like_1 : Binds K fd_is_row_like _ [] := D_is_row_like.bindsN (ps := ["value"]) fun _ _ _ _ _ _ us hl => match us, hl with | [_], _ => rfl
  have v_is_row_like_1 : Vals [] [] := .nil
  obtain ⟨fd_is_below, F_is_below, D_is_below⟩ := ok_is_below (P := P) (w := w) (base := base) Xh G c
  have b_is_below_2 : Binds K fd_is_below _ [] := D_is_below.bindsN (ps := ["value", "bound"]) fun _ _ _ _ _ _ us hl => match us, hl with | [_, _], _ => rfl
  have v_is_below_2 : Vals [] [] := .nil
  refine ⟨fd, fnV_of F sc_is_line fun cdv A outer s H E hr tk => ?_, F⟩
  have hu := VL.hu_of hr
  have hu0 := VL.hu_of0 hr
  apply Exists.intro
  constructor
  · exact (pss_cons (ps_if (PW.pt (pw_or (pt_not (pt_val (pe_callSD F_is_row_like (hr.mono (by decide)) rfl g_is_row_like D_is_row_like.kp b_is_row_like_1 v_is_row_like_1 (fun σ => passAt tk σ) (pa_cons (pv 0) pa_nil)))) (pw_or1 (pt_cmpR (r := rNeD K) (op_neD hu0) (pe_callB (r := r1' (rLenA K)) call_lenA rfl f_len boot_len (pa_cons (pv 0) pa_nil)) pe_int (nomark _))))) (pss_one (ps_ret pe_bl)) pss_nil)
    (pss_cons (ps_asg (pv 0) (pg_seqK K rfl (n := 2) rfl (pgs_cons (pg_name sc_is_line.nd (i := 2) rfl (by first | exact Or.inl rfl | exact Or.inr rfl)) (pgs_cons (pg_name sc_is_line.nd (i := 3) rfl (by first | exact Or.inl rfl | exact Or.inr rfl)) pgs_nil))))
    (pss_one (ps_ret (pe_and (pe_callSD F_is_below (hr.mono (by decide)) rfl g_is_below D_is_below.kp b_is_below_2 v_is_below_2 (fun σ => passAt tk σ) (pa_cons (pv 2) (pa_cons (pv 1) pa_nil))) (pe_and (pe_callSD F_is_below (hr.mono (by decide)) rfl g_is_below D_is_below.kp b_is_below_2 v_is_below_2 (fun σ => passAt tk σ) (pa_cons (pv 3) (pa_cons (pv 1) pa_nil))) (pe_one (pe_cmpR (r := rNeD K) (op_neD hu0) (pv 2) (pv 3) (nomark _)))))))))
  · exact (sndS_seq (sndS_if (sndT_or (sndT_not (sndT_b (snd_user (fun _ _ => rfl) (sndA_c sndO_v sndA_nil)))) (sndT_tst (snd_op pr_ne (sndO_t (snd_call pr_len (sndA_c sndO_v sndA_nil))) (sndO_t (snd_c fun _ _ => rfl))))) (sndS_ret (snd_c fun _ _ => rfl)) sndS_nil)
    (sndS_seq (sndS_asg snd_var (sndG_seq (sndGs_cons sndG_name (sndGs_cons sndG_name sndGs_nil))))
    (sndS_ret (snd_andV (snd_user (fun _ _ => rfl) (sndA_c sndO_v (sndA_c sndO_v sndA_nil))) (snd_andV (snd_user (fun _ _ => rfl) (sndA_c sndO_v (sndA_c sndO_v sndA_nil))) (snd_op pr_ne sndO_v sndO_v))))))
/-! NetX_initX -/
theorem sc_NetX_initX : FnScope ["self", "size", "lines", "houses", "bits", "pair", "spot"] ["self", "size", "lines", "houses", "bits"] (defScope s_NetX_initX) := ⟨rfl, rfl, rfl, by decide +kernel, rfl, by decide +kernel, by decide +kernel⟩
def c_NetX_initX_1 : M Slot := (mLc [5] (mSeq (mVar 2)) (setS 5) (ret true) (usr false run_is_line [] (ac (mv 5) (ac (mv 1) an))))
def c_NetX_initX_2 : M Slot := (mLc [6] (mSeq (mVar 3)) (setS 6) (ret true) (usr false run_is_below [] (ac (mv 6) (ac (mv 1) an))))
def c_NetX_initX_3 : M Slot := (mLc [5] (mSeq (mVar 2)) (setS 5) (ret true) (cb pTuple (ac (mv 5) an)))
def m_NetX_initX : M Fl :=
  (thn' (sIf (mOr (mNot (mb (usr false run_is_below [] (ac (mv 1) (ac (tm (o2 pAdd (tm (cst (.int 9))) (tm (cst (.int 1))))) an))))) (mb (o2 pEq (mv 1) (tm (cst (.int 0))))))
  sNever
  (ret .next))
  (thn' (sIf (mOr (mNot (mb (usr false run_is_row_like [] (ac (mv 2) an)))) (mOr (mb (o2 pGt (tm (cb pLen (ac (mv 2) an))) (tm (cst (.int 36))))) (mNot (mb (cb pAll (ac (tm c_NetX_initX_1) an))))))
  sNever
  (ret .next))
  (thn' (sIf (mOr (mNot (mb (usr false run_is_row_like [] (ac (mv 3) an)))) (mOr (mb (o2 pGt (tm (cb pLen (ac (mv 3) an))) (tm (cst (.int 16))))) (mNot (mb (cb pAll (ac (tm c_NetX_initX_2) an))))))
  sNever
  (ret .next))
  (thn' (sIf (mNot (mb (usr false run_is_below [] (ac (mv 4) (ac (tm (o2 pAdd (tm (cst (.int 4))) (tm (cst (.int 1))))) an)))))
  sNever
  (ret .next))
  (thn' (sPutF "Net" "size" 0 (mVar 1))
  (thn' (sPutF "Net" "lines" 0 (cb pTuple (ac (tm c_NetX_initX_3) an)))
  (thn' (sPutF "Net" "houses" 0 (cb pTuple (ac (mv 3) an)))
  (sPutF "Net" "bits" 0 (mVar 4)))))))))
def run_NetX_initX : List D → FR := runF 5 7 true m_NetX_initX
theorem ok_NetX_initX {P : Program} {w : World} {K : PySem.W.Frag} {mg : Str → Option Value} {base h : Heap} (Xh : K.In h) (G : h.Ns mainGlobals mg) (c : SaysP fa fn pn ex K) :
    ∃ fd, FnOk P w K mg base (L2.CX P w) 4 (He.fAd K d_NetX_initX.at_) fd ["self", "size", "lines", "houses", "bits"] (spV K (He.ga K) true run_NetX_initX) ∧ FunD K d_NetX_initX.name d_NetX_initX.qual d_NetX_initX.params d_NetX_initX.body d_NetX_initX.scope (d_NetX_initX.dvs K) (d_NetX_initX.kws K) (He.fAd K d_NetX_initX.at_) fd := by
  obtain ⟨fd, F⟩ := c.d.def_ 21 (d := d_NetX_initX) rfl
  have f_all : mg "all" = none := He.free_ok Xh G (c.d.fact 34 (f := .free "all") rfl)
  have f_len : mg "len" = none := He.free_ok Xh G (c.d.fact 38 (f := .free "len") rfl)
  have f_tuple : mg "tuple" = none := He.free_ok Xh G (c.d.fact 45 (f := .free "tuple") rfl)
  have g_is_below : mg "is_below" = some (.ref (He.ga K "is_below")) := He.glo_ok Xh G (c.d.fact 21 (f := .glo "is_below") rfl)
  have g_is_line : mg "is_line" = some (.ref (He.ga K "is_line")) := He.glo_ok Xh G (c.d.fact 22 (f := .glo "is_line") rfl)
  have g_is_row_like : mg "is_row_like" = some (.ref (He.ga K "is_row_like")) := He.glo_ok Xh G (c.d.fact 7 (f := .glo "is_row_like") rfl)
  obtain ⟨u_MOST_BITS, i_MOST_BITS, j_MOST_BITS⟩ : ∃ u, mg "MOST_BITS" = some u ∧ RelV (.int 4) u := by
    obtain ⟨t, e⟩ := He.int_ok Xh G (c.d.fact 51 (f := .int "MOST_BITS" (4)) rfl)
    exact ⟨_, e, t, rfl⟩
  obtain ⟨u_MOST_HOUSES, i_MOST_HOUSES, j_MOST_HOUSES⟩ : ∃ u, mg "MOST_HOUSES" = some u ∧ RelV (.int 16) u := by
    obtain ⟨t, e⟩ := He.int_ok Xh G (c.d.fact 50 (f := .int "MOST_HOUSES" (16)) rfl)
    exact ⟨_, e, t, rfl⟩
  obtain ⟨u_MOST_LINES, i_MOST_LINES, j_MOST_LINES⟩ : ∃ u, mg "MOST_LINES" = some u ∧ RelV (.int 36) u := by
    obtain ⟨t, e⟩ := He.int_ok Xh G (c.d.fact 49 (f := .int "MOST_LINES" (36)) rfl)
    exact ⟨_, e, t, rfl⟩
  obtain ⟨u_MOST_SWITCHES, i_MOST_SWITCHES, j_MOST_SWITCHES⟩ : ∃ u, mg "MOST_SWITCHES" = some u ∧ RelV (.int 9) u := by
    obtain ⟨t, e⟩ := He.int_ok Xh G (c.d.fact 48 (f := .int "MOST_SWITCHES" (9)) rfl)
    exact ⟨_, e, t, rfl⟩
  have c_Net : Cls K (He.ga K "Net") := He.cls_ok (c.d.fact 62 (f := .cls "Net") rfl)
  have a_Net_bits : FldOk K (He.ga K) "Net" "bits" := ⟨c_Net, He.noat_ok (c.d.fact 67 (f := .noat "Net" "bits") rfl)⟩
  have a_Net_houses : FldOk K (He.ga K) "Net" "houses" := ⟨c_Net, He.noat_ok (c.d.fact 66 (f := .noat "Net" "houses") rfl)⟩
  have a_Net_lines : FldOk K (He.ga K) "Net" "lines" := ⟨c_Net, He.noat_ok (c.d.fact 65 (f := .noat "Net" "lines") rfl)⟩
  have a_Net_size : FldOk K (He.ga K) "Net" "size" := ⟨c_Net, He.noat_ok (c.d.fact 64 (f := .noat "Net" "size") rfl)⟩
  obtain ⟨fd_is_below, F_is_below, D_is_below⟩ := ok_is_below (P := P) (w := w) (base := base) Xh G c
  have b_is_below_2 : Binds K fd_is_below _ [] := D_is_below.bindsN (ps := ["value", "bound"]) fun _ _ _ _ _ _ us hl => match us, hl with | [_, _], _ => rfl
  have v_is_below_2 : Vals [] [] := .nil
  obtain ⟨fd_is_row_like, F_is_row_like, D_is_row_like⟩ := ok_is_row_like (P := P) (w := w) (base := base) Xh G c
  have b_is_row_like_1 : Binds K fd_is_row_like _ [] := D_is_row_like.bindsN (ps := ["value"]) fun _ _ _ _ _ _ us hl => match us, hl with | [_], _ => rfl
  have v_is_row_like_1 : Vals [] [] := .nil
  obtain ⟨fd_is_line, F_is_line, D_is_line⟩ := ok_is_line (P := P) (w := w) (base := base) Xh G c
  have b_is_line_2 : Binds K fd_is_line _ [] := D_is_line.bindsN (ps := ["value", "size"]) fun _ _ _ _ _ _ us hl => match us, hl with | [_, _], _ => rfl
  have v_is_line_2 : Vals [] [] := .nil
  refine ⟨fd, fnV_of F sc_NetX_initX fun cdv A outer s H E hr tk => ?_, F⟩
  have hu := VL.hu_of hr
  have hu0 := VL.hu_of0 hr
  apply Exists.intro
  constructor
  · exact (pss_cons (ps_if (PW.pt (pw_or (pt_not (pt_val (pe_callSD F_is_below (hr.mono (by decide)) rfl g_is_below D_is_below.kp b_is_below_2 v_is_below_2 (fun σ => passAt tk σ) (pa_cons (pv 1) (pa_cons (pe_op (r := VL.rAdd K) op_addV (pe_glob rfl i_MOST_SWITCHES j_MOST_SWITCHES) pe_int) pa_nil))))) (pw_or1 (pt_cmpR (r := rEqD K) (op_eqD hu0) (pv 1) pe_int (nomark _))))) (pss_one ps_never) pss_nil)
    (pss_cons (ps_if (PW.pt (pw_or (pt_not (pt_val (pe_callSD F_is_row_like (hr.mono (by decide)) rfl g_is_row_like D_is_row_like.kp b_is_row_like_1 v_is_row_like_1 (fun σ => passAt tk σ) (pa_cons (pv 2) pa_nil)))) (pw_or (pt_cmpR op_gt (pe_callB (r := r1' (rLenA K)) call_lenA rfl f_len boot_len (pa_cons (pv 2) pa_nil)) (pe_glob rfl i_MOST_LINES j_MOST_LINES) (nomark _)) (pw_or1 (pt_not (pt_val (pe_callB (r := rAll K) (cr_all rfl) rfl f_all boot_all (pa_cons (pe_lc rfl sc_NetX_initX.nd (pi_seqK K rfl (pv 2)) (blkOk_by (own := [("pair", 5)]) (by kernel_rfl)) (fun _ _ _ _ _ => (pg_name sc_NetX_initX.nd (i := 5) rfl (by first | exact Or.inl rfl | exact Or.inr rfl))) (fun _ _ _ _ _ => pts_nil) (fun _ _ _ _ _ => (pe_callSD F_is_line (hr.mono (by decide)) rfl g_is_line D_is_line.kp b_is_line_2 v_is_line_2 (fun σ => passAt takes0 σ) (pa_cons (pv 5) (pa_cons (pv 1) pa_nil))))) pa_nil)))))))) (pss_one ps_never) pss_nil)
    (pss_cons (ps_if (PW.pt (pw_or (pt_not (pt_val (pe_callSD F_is_row_like (hr.mono (by decide)) rfl g_is_row_like D_is_row_like.kp b_is_row_like_1 v_is_row_like_1 (fun σ => passAt tk σ) (pa_cons (pv 3) pa_nil)))) (pw_or (pt_cmpR op_gt (pe_callB (r := r1' (rLenA K)) call_lenA rfl f_len boot_len (pa_cons (pv 3) pa_nil)) (pe_glob rfl i_MOST_HOUSES j_MOST_HOUSES) (nomark _)) (pw_or1 (pt_not (pt_val (pe_callB (r := rAll K) (cr_all rfl) rfl f_all boot_all (pa_cons (pe_lc rfl sc_NetX_initX.nd (pi_seqK K rfl (pv 3)) (blkOk_by (own := [("spot", 6)]) (by kernel_rfl)) (fun _ _ _ _ _ => (pg_name sc_NetX_initX.nd (i := 6) rfl (by first | exact Or.inl rfl | exact Or.inr rfl))) (fun _ _ _ _ _ => pts_nil) (fun _ _ _ _ _ => (pe_callSD F_is_below (hr.mono (by decide)) rfl g_is_below D_is_below.kp b_is_below_2 v_is_below_2 (fun σ => passAt takes0 σ) (pa_cons (pv 6) (pa_cons (pv 1) pa_nil))))) pa_nil)))))))) (pss_one ps_never) pss_nil)
    (pss_cons (ps_if (pt_not (pt_val (pe_callSD F_is_below (hr.mono (by decide)) rfl g_is_below D_is_below.kp b_is_below_2 v_is_below_2 (fun σ => passAt tk σ) (pa_cons (pv 4) (pa_cons (pe_op (r := VL.rAdd K) op_addV (pe_glob rfl i_MOST_BITS j_MOST_BITS) pe_int) pa_nil))))) (pss_one ps_never) pss_nil)
    (pss_cons (ps_fld (pv 0) (pv 1) rfl)
    (pss_cons (ps_fld (pv 0) (pe_callTy (r := r1' (rTupleA K)) call_tupleA rfl f_tuple boot_tuple (pa_cons (pe_lc rfl sc_NetX_initX.nd (pi_seqK K rfl (pv 2)) (blkOk_by (own := [("pair", 5)]) (by kernel_rfl)) (fun _ _ _ _ _ => (pg_name sc_NetX_initX.nd (i := 5) rfl (by first | exact Or.inl rfl | exact Or.inr rfl))) (fun _ _ _ _ _ => pts_nil) (fun _ _ _ _ _ => (pe_callTy (r := r1' (rTupleA K)) call_tupleA rfl f_tuple boot_tuple (pa_cons (pv 5) pa_nil)))) pa_nil)) rfl)
    (pss_cons (ps_fld (pv 0) (pe_callTy (r := r1' (rTupleA K)) call_tupleA rfl f_tuple boot_tuple (pa_cons (pv 3) pa_nil)) rfl)
    (pss_one (ps_fld (pv 0) (pv 4) rfl)))))))))
  · exact (sndS_seq (sndS_if (sndT_or (sndT_not (sndT_b (snd_user (fun _ _ => rfl) (sndA_c sndO_v (sndA_c (sndO_t (snd_op pr_add (sndO_t (snd_c fun _ _ => rfl)) (sndO_t (snd_c fun _ _ => rfl)))) sndA_nil))))) (sndT_tst (snd_op pr_eq sndO_v (sndO_t (snd_c fun _ _ => rfl))))) sndS_never sndS_nil)
    (sndS_seq (sndS_if (sndT_or (sndT_not (sndT_b (snd_user (fun _ _ => rfl) (sndA_c sndO_v sndA_nil)))) (sndT_or (sndT_tst (snd_op pr_gt (sndO_t (snd_call pr_len (sndA_c sndO_v sndA_nil))) (sndO_t (snd_c fun _ _ => rfl)))) (sndT_not (sndT_b (snd_call pr_all (sndA_c (sndO_t (snd_lc (by decide) (sndI_seq snd_var) sndG_name sndT_yes (snd_user (fun _ _ => rfl) (sndA_c sndO_v (sndA_c sndO_v sndA_nil))))) sndA_nil)))))) sndS_never sndS_nil)
    (sndS_seq (sndS_if (sndT_or (sndT_not (sndT_b (snd_user (fun _ _ => rfl) (sndA_c sndO_v sndA_nil)))) (sndT_or (sndT_tst (snd_op pr_gt (sndO_t (snd_call pr_len (sndA_c sndO_v sndA_nil))) (sndO_t (snd_c fun _ _ => rfl)))) (sndT_not (sndT_b (snd_call pr_all (sndA_c (sndO_t (snd_lc (by decide) (sndI_seq snd_var) sndG_name sndT_yes (snd_user (fun _ _ => rfl) (sndA_c sndO_v (sndA_c sndO_v sndA_nil))))) sndA_nil)))))) sndS_never sndS_nil)
    (sndS_seq (sndS_if (sndT_not (sndT_b (snd_user (fun _ _ => rfl) (sndA_c sndO_v (sndA_c (sndO_t (snd_op pr_add (sndO_t (snd_c fun _ _ => rfl)) (sndO_t (snd_c fun _ _ => rfl)))) sndA_nil))))) sndS_never sndS_nil)
    (sndS_seq (sndS_fld a_Net_size snd_var)
    (sndS_seq (sndS_fld a_Net_lines (snd_call pr_tuple (sndA_c (sndO_t (snd_lc (by decide) (sndI_seq snd_var) sndG_name sndT_yes (snd_call pr_tuple (sndA_c sndO_v sndA_nil)))) sndA_nil)))
    (sndS_seq (sndS_fld a_Net_houses (snd_call pr_tuple (sndA_c sndO_v sndA_nil)))
    (sndS_fld a_Net_bits snd_var))))))))
/-! check_lines_few -/
theorem sc_check_lines_few : FnScope ["net"] ["net"] (defScope s_check_lines_few) := ⟨rfl, rfl, rfl, by decide +kernel, rfl, by decide +kernel, by decide +kernel⟩
def m_check_lines_few : M Fl :=
  (sIf (mb (o2 pGt (tm (cb pLen (ac (tm (mFld "Net" "lines" (mv 0))) an))) (tm (cst (.int 12)))))
  sNever
  (ret .next))
def run_check_lines_few : List D → FR := runF 1 1 false m_check_lines_few
theorem ok_check_lines_few {P : Program} {w : World} {K : PySem.W.Frag} {mg : Str → Option Value} {base h : Heap} (Xh : K.In h) (G : h.Ns mainGlobals mg) (c : SaysP fa fn pn ex K) :
    ∃ fd, FnOk P w K mg base (L2.CX P w) 1 (He.fAd K d_check_lines_few.at_) fd ["net"] (spV K (He.ga K) false run_check_lines_few) ∧ FunD K d_check_lines_few.name d_check_lines_few.qual d_check_lines_few.params d_check_lines_few.body d_check_lines_few.scope (d_check_lines_few.dvs K) (d_check_lines_few.kws K) (He.fAd K d_check_lines_few.at_) fd := by
  obtain ⟨fd, F⟩ := c.d.def_ 6 (d := d_check_lines_few) rfl
  have f_len : mg "len" = none := He.free_ok Xh G (c.d.fact 38 (f := .free "len") rfl)
  obtain ⟨u_MOST_NET_LINES, i_MOST_NET_LINES, j_MOST_NET_LINES⟩ : ∃ u, mg "MOST_NET_LINES" = some u ∧ RelV (.int 12) u := by
    obtain ⟨t, e⟩ := He.int_ok Xh G (c.d.fact 46 (f := .int "MOST_NET_LINES" (12)) rfl)
    exact ⟨_, e, t, rfl⟩
  have c_Net : Cls K (He.ga K "Net") := He.cls_ok (c.d.fact 62 (f := .cls "Net") rfl)
  have a_Net_lines : FldOk K (He.ga K) "Net" "lines" := ⟨c_Net, He.noat_ok (c.d.fact 65 (f := .noat "Net" "lines") rfl)⟩
  refine ⟨fd, fnV_of F sc_check_lines_few fun cdv A outer s H E hr tk => ?_, F⟩
  have hu := VL.hu_of hr
  have hu0 := VL.hu_of0 hr
  apply Exists.intro
  constructor
  · exact (pss_one (ps_if (pt_cmpR op_gt (pe_callB (r := r1' (rLenA K)) call_lenA rfl f_len boot_len (pa_cons (pe_fldK K rfl (pv 0) rfl) pa_nil)) (pe_glob rfl i_MOST_NET_LINES j_MOST_NET_LINES) (nomark _)) (pss_one ps_never) pss_nil))
  · exact (sndS_if (sndT_tst (snd_op pr_gt (sndO_t (snd_call pr_len (sndA_c (sndO_t (snd_fld a_Net_lines sndO_v)) sndA_nil))) (sndO_t (snd_c fun _ _ => rfl)))) sndS_never sndS_nil)
/-! check_number -/
theorem sc_check_number : FnScope ["name", "value", "low", "high"] ["name", "value", "low", "high"] (defScope s_check_number) := ⟨rfl, rfl, rfl, by decide +kernel, rfl, by decide +kernel, by decide +kernel⟩
def m_check_number : M Fl :=
  (thn' (sIf (mOr (mNot (mb (usr false run_is_int [] (ac (mv 1) an)))) (mb (o2 pLt (mv 1) (mv 2))))
  sNever
  (ret .next))
  (thn' (sIf (mAnd (mb (o2 pIsN (mv 3) (tm (cst .non)))) (mb (o2 pGt (mv 1) (mv 3))))
  sNever
  (ret .next))
  (sRet (mMove 1))))
def run_check_number : List D → FR := runF 4 4 false m_check_number
theorem ok_check_number {P : Program} {w : World} {K : PySem.W.Frag} {mg : Str → Option Value} {base h : Heap} (Xh : K.In h) (G : h.Ns mainGlobals mg) (c : SaysP fa fn pn ex K) :
    ∃ fd, FnOk P w K mg base (L2.CX P w) 2 (He.fAd K d_check_number.at_) fd ["name", "value", "low", "high"] (spV K (He.ga K) false run_check_number) ∧ FunD K d_check_number.name d_check_number.qual d_check_number.params d_check_number.body d_check_number.scope (d_check_number.dvs K) (d_check_number.kws K) (He.fAd K d_check_number.at_) fd := by
  obtain ⟨fd, F⟩ := c.d.def_ 2 (d := d_check_number) rfl
  have g_is_int : mg "is_int" = some (.ref (He.ga K "is_int")) := He.glo_ok Xh G (c.d.fact 6 (f := .glo "is_int") rfl)
  obtain ⟨fd_is_int, F_is_int, D_is_int⟩ := ok_is_int (P := P) (w := w) (base := base) Xh G c
  have b_is_int_1 : Binds K fd_is_int _ [] := D_is_int.bindsN (ps := ["value"]) fun _ _ _ _ _ _ us hl => match us, hl with | [_], _ => rfl
  have v_is_int_1 : Vals [] [] := .nil
  refine ⟨fd, fnV_of F sc_check_number fun cdv A outer s H E hr tk => ?_, F⟩
  have hu := VL.hu_of hr
  have hu0 := VL.hu_of0 hr
  apply Exists.intro
  constructor
  · exact (pss_cons (ps_if (PW.pt (pw_or (pt_not (pt_val (pe_callSD F_is_int (hr.mono (by decide)) rfl g_is_int D_is_int.kp b_is_int_1 v_is_int_1 (fun σ => passAt tk σ) (pa_cons (pv 1) pa_nil)))) (pw_or1 (pt_cmpR op_lt (pv 1) (pv 2) (nomark _))))) (pss_one ps_never) pss_nil)
    (pss_cons (ps_if (PW.pt (pw_and (pt_cmpR op_isNotV (pv 3) pe_non (nomark _)) (pw_and1 (pt_cmpR op_gt (pv 1) (pv 3) (nomark _))))) (pss_one ps_never) pss_nil)
    (pss_one (ps_ret (pv 1)))))
  · exact (sndS_seq (sndS_if (sndT_or (sndT_not (sndT_b (snd_user (fun _ _ => rfl) (sndA_c sndO_v sndA_nil)))) (sndT_tst (snd_op pr_lt sndO_v sndO_v))) sndS_never sndS_nil)
    (sndS_seq (sndS_if (sndT_and (sndT_tst (snd_op pr_isN sndO_v (sndO_t (snd_c fun _ _ => rfl)))) (sndT_tst (snd_op pr_gt sndO_v sndO_v))) sndS_never sndS_nil)
    (sndS_ret snd_move)))
/-! check_house_falls -/
theorem sc_check_house_falls : FnScope ["net", "house", "falls"] ["net", "house", "falls"] (defScope s_check_house_falls) := ⟨rfl, rfl, rfl, by decide +kernel, rfl, by decide +kernel, by decide +kernel⟩
def m_check_house_falls : M Fl :=
  (thn' (sDrop (usr false run_check_lines_few [] (ac (mv 0) an)))
  (thn' (sDrop (usr false run_check_number [] (ac (tm (cst (.str "house"))) (ac (mv 1) (ac (tm (cst (.int 0))) (ac (tm (o2 (ii fun i j => sI (i - j)) (tm (cb pLen (ac (tm (mFld "Net" "houses" (mv 0))) an))) (tm (cst (.int 1))))) an))))))
  (sDrop (usr false run_check_number [] (ac (tm (cst (.str "falls"))) (ac (mv 2) (ac (tm (cst (.int 0))) (ac (tm (cst (.int 3))) an))))))))
def run_check_house_falls : List D → FR := runF 3 3 false m_check_house_falls
theorem ok_check_house_falls {P : Program} {w : World} {K : PySem.W.Frag} {mg : Str → Option Value} {base h : Heap} (Xh : K.In h) (G : h.Ns mainGlobals mg) (c : SaysP fa fn pn ex K) :
    ∃ fd, FnOk P w K mg base (L2.CX P w) 3 (He.fAd K d_check_house_falls.at_) fd ["net", "house", "falls"] (spV K (He.ga K) false run_check_house_falls) ∧ FunD K d_check_house_falls.name d_check_house_falls.qual d_check_house_falls.params d_check_house_falls.body d_check_house_falls.scope (d_check_house_falls.dvs K) (d_check_house_falls.kws K) (He.fAd K d_check_house_falls.at_) fd := by
  obtain ⟨fd, F⟩ := c.d.def_ 7 (d := d_check_house_falls) rfl
  have f_len : mg "len" = none := He.free_ok Xh G (c.d.fact 38 (f := .free "len") rfl)
  have g_check_lines_few : mg "check_lines_few" = some (.ref (He.ga K "check_lines_few")) := He.glo_ok Xh G (c.d.fact 12 (f := .glo "check_lines_few") rfl)
  have g_check_number : mg "check_number" = some (.ref (He.ga K "check_number")) := He.glo_ok Xh G (c.d.fact 8 (f := .glo "check_number") rfl)
  obtain ⟨u_MOST_FALLEN, i_MOST_FALLEN, j_MOST_FALLEN⟩ : ∃ u, mg "MOST_FALLEN" = some u ∧ RelV (.int 3) u := by
    obtain ⟨t, e⟩ := He.int_ok Xh G (c.d.fact 47 (f := .int "MOST_FALLEN" (3)) rfl)
    exact ⟨_, e, t, rfl⟩
  have c_Net : Cls K (He.ga K "Net") := He.cls_ok (c.d.fact 62 (f := .cls "Net") rfl)
  have a_Net_houses : FldOk K (He.ga K) "Net" "houses" := ⟨c_Net, He.noat_ok (c.d.fact 66 (f := .noat "Net" "houses") rfl)⟩
  obtain ⟨fd_check_lines_few, F_check_lines_few, D_check_lines_few⟩ := ok_check_lines_few (P := P) (w := w) (base := base) Xh G c
  have b_check_lines_few_1 : Binds K fd_check_lines_few _ [] := D_check_lines_few.bindsN (ps := ["net"]) fun _ _ _ _ _ _ us hl => match us, hl with | [_], _ => rfl
  have v_check_lines_few_1 : Vals [] [] := .nil
  obtain ⟨fd_check_number, F_check_number, D_check_number⟩ := ok_check_number (P := P) (w := w) (base := base) Xh G c
  have b_check_number_4 : Binds K fd_check_number _ [] := D_check_number.bindsN (ps := ["name", "value", "low", "high"]) fun _ _ _ _ _ _ us hl => match us, hl with | [_, _, _, _], _ => rfl
  have v_check_number_4 : Vals [] [] := .nil
  refine ⟨fd, fnV_of F sc_check_house_falls fun cdv A outer s H E hr tk => ?_, F⟩
  have hu := VL.hu_of hr
  have hu0 := VL.hu_of0 hr
  apply Exists.intro
  constructor
  · exact (pss_cons (ps_expr (pe_callSD F_check_lines_few (hr.mono (by decide)) rfl g_check_lines_few D_check_lines_few.kp b_check_lines_few_1 v_check_lines_few_1 (fun σ => passAt tk σ) (pa_cons (pv 0) pa_nil)))
    (pss_cons (ps_expr (pe_callSD F_check_number (hr.mono (by decide)) rfl g_check_number D_check_number.kp b_check_number_4 v_check_number_4 (fun σ => passAt tk σ) (pa_cons pe_str (pa_cons (pv 1) (pa_cons pe_int (pa_cons (pe_op op_sub (pe_callB (r := r1' (rLenA K)) call_lenA rfl f_len boot_len (pa_cons (pe_fldK K rfl (pv 0) rfl) pa_nil)) pe_int) pa_nil))))))
    (pss_one (ps_expr (pe_callSD F_check_number (hr.mono (by decide)) rfl g_check_number D_check_number.kp b_check_number_4 v_check_number_4 (fun σ => passAt tk σ) (pa_cons pe_str (pa_cons (pv 2) (pa_cons pe_int (pa_cons (pe_glob rfl i_MOST_FALLEN j_MOST_FALLEN) pa_nil)))))))))
  · exact (sndS_seq (sndS_drop (snd_user (fun _ _ => rfl) (sndA_c sndO_v sndA_nil)))
    (sndS_seq (sndS_drop (snd_user (fun _ _ => rfl) (sndA_c (sndO_t (snd_c fun _ _ => rfl)) (sndA_c sndO_v (sndA_c (sndO_t (snd_c fun _ _ => rfl)) (sndA_c (sndO_t (snd_op pr_sub (sndO_t (snd_call pr_len (sndA_c (sndO_t (snd_fld a_Net_houses sndO_v)) sndA_nil))) (sndO_t (snd_c fun _ _ => rfl)))) sndA_nil))))))
    (sndS_drop (snd_user (fun _ _ => rfl) (sndA_c (sndO_t (snd_c fun _ _ => rfl)) (sndA_c sndO_v (sndA_c (sndO_t (snd_c fun _ _ => rfl)) (sndA_c (sndO_t (snd_c fun _ _ => rfl)) sndA_nil))))))))
/-! small_lots -/
theorem sc_small_lots : FnScope ["many", "most", "lots", "layer", "_", "lot", "number"] ["many", "most"] (defScope s_small_lots) := ⟨rfl, rfl, rfl, by decide +kernel, rfl, by decide +kernel, by decide +kernel⟩
def c_small_lots_1 : M Slot := (mLc2 [5, 6] [6] (mSeq (mVar 3)) (setS 5) (ret true) (mArgs (ac (mv 0) an) rng1) (setS 6) (mOr (mb (o2 pEq (mv 5) (tm (mTake an kTup)))) (mb (o2 pLt (tm (o2 pIx (mv 5) (tm (o1 pNeg (tm (cst (.int 1))))))) (mv 6)))) (o2 pAdd (mv 5) (tm (mTake (ac (mv 6) an) kTup))))
def l_small_lots_1 : M Fl := (sFor (mArgs (ac (mv 1) an) rng1) (setS 4)
  (thn' (sAsg c_small_lots_1 (setS 3))
  (sAsg (o2 pAdd (mv 2) (mv 3)) (setS 2))))
def m_small_lots : M Fl :=
  (thn' (sAsg (mTake (ac (tm (mTake an kTup)) an) kLst) (setS 2))
  (thn' (sAsg (mTake (ac (tm (mTake an kTup)) an) kLst) (setS 3))
  (thn' l_small_lots_1
  (sRet (mMove 2)))))
def run_small_lots : List D → FR := runF 2 7 false m_small_lots
theorem ok_small_lots {P : Program} {w : World} {K : PySem.W.Frag} {mg : Str → Option Value} {base h : Heap} (Xh : K.In h) (G : h.Ns mainGlobals mg) (c : SaysP fa fn pn ex K) :
    ∃ fd, FnOk P w K mg base (L2.CX P w) 1 (He.fAd K d_small_lots.at_) fd ["many", "most"] (spV K (He.ga K) false run_small_lots) ∧ FunD K d_small_lots.name d_small_lots.qual d_small_lots.params d_small_lots.body d_small_lots.scope (d_small_lots.dvs K) (d_small_lots.kws K) (He.fAd K d_small_lots.at_) fd := by
  obtain ⟨fd, F⟩ := c.d.def_ 5 (d := d_small_lots) rfl
  have f_range : mg "range" = none := He.free_ok Xh G (c.d.fact 43 (f := .free "range") rfl)
  refine ⟨fd, fnV_of F sc_small_lots fun cdv A outer s H E hr tk => ?_, F⟩
  have hu := VL.hu_of hr
  have hu0 := VL.hu_of0 hr
  apply Exists.intro
  constructor
  · exact (pss_cons (ps_set sc_small_lots.nd (i := 2) rfl (by first | exact Or.inl rfl | exact Or.inr rfl) (pe_lst (pa_cons (pe_tup pa_nil) pa_nil)))
    (pss_cons (ps_set sc_small_lots.nd (i := 3) rfl (by first | exact Or.inl rfl | exact Or.inr rfl) (pe_lst (pa_cons (pe_tup pa_nil) pa_nil)))
    (pss_cons (ps_for (passes_of rfl) rfl (pi_range1 rfl f_range (pa_cons (pv 1) pa_nil)) (pg_name sc_small_lots.nd (i := 4) rfl (by first | exact Or.inl rfl | exact Or.inr rfl)) (pss_cons (ps_setLc2 rfl sc_small_lots.nd (i := 3) rfl rfl (sw_true rfl rfl rfl (by rfl)) (pi_seqK K rfl (pv 3)) (blkOk_by (own := [("lot", 5), ("number", 6)]) (by kernel_rfl)) (vs1 := [6]) (by decide) (fun _ _ _ _ _ => (pg_name sc_small_lots.nd (i := 5) rfl (by first | exact Or.inl rfl | exact Or.inr rfl))) (fun _ _ _ _ _ => pts_nil) (fun _ _ _ _ _ => (pi_range1 rfl f_range (pa_cons (pv 0) pa_nil))) (fun _ _ _ _ _ => (pg_name sc_small_lots.nd (i := 6) rfl (by first | exact Or.inl rfl | exact Or.inr rfl))) (fun _ _ _ _ _ => (pts_one (PW.pt (pw_or (pt_cmpR (r := rEqD K) (op_eqD hu0) (pv 5) (pe_tup pa_nil) (nomark _)) (pw_or1 (pt_cmpR op_lt (pe_ix (r := rIxA K) (ix_any hu) (pv 5) (pe_un un_neg pe_int) (fun _ _ => rfl)) (pv 6) (nomark _))))))) (fun _ _ _ _ _ => (pe_op (r := VL.rAdd K) op_addV (pv 5) (pe_tup (pa_cons (pv 6) pa_nil)))))
    (pss_one (ps_set sc_small_lots.nd (i := 2) rfl (by first | exact Or.inl rfl | exact Or.inr rfl) (pe_op (r := VL.rAdd K) op_addV (pv 2) (pv 3))))))
    (pss_one (ps_ret (pv 2))))))
  · exact (sndS_seq (sndS_asg (snd_lst (sndA_c (sndO_t (snd_tup sndA_nil)) sndA_nil)) sndG_name)
    (sndS_seq (sndS_asg (snd_lst (sndA_c (sndO_t (snd_tup sndA_nil)) sndA_nil)) sndG_name)
    (sndS_seq (sndS_for (sndI_rng1 (sndA_c sndO_v sndA_nil)) sndG_name (sndS_seq (sndS_asg (snd_lc2 (by decide) (by decide) (by decide) (sndI_seq snd_var) sndG_name sndT_yes (sndI_rng1 (sndA_c sndO_v sndA_nil)) sndG_name (sndT_or (sndT_tst (snd_op pr_eq sndO_v (sndO_t (snd_tup sndA_nil)))) (sndT_tst (snd_op pr_lt (sndO_t (snd_op pr_ix sndO_v (sndO_t (snd_un pr_neg (sndO_t (snd_c fun _ _ => rfl)))))) sndO_v))) (snd_op pr_add sndO_v (sndO_t (snd_tup (sndA_c sndO_v sndA_nil))))) sndG_name)
    (sndS_asg (snd_op pr_add sndO_v sndO_v) sndG_name)))
    (sndS_ret snd_move))))
/-! Net_every_line -/
theorem sc_Net_every_line : FnScope ["self"] ["self"] (defScope s_Net_every_line) := ⟨rfl, rfl, rfl, by decide +kernel, rfl, by decide +kernel, by decide +kernel⟩
def m_Net_every_line : M Fl :=
  (sRet (o1 pTupRg (tm (cb pLen (ac (tm (mFld "Net" "lines" (mv 0))) an)))))
def run_Net_every_line : List D → FR := runF 1 1 false m_Net_every_line
theorem ok_Net_every_line {P : Program} {w : World} {K : PySem.W.Frag} {mg : Str → Option Value} {base h : Heap} (Xh : K.In h) (G : h.Ns mainGlobals mg) (c : SaysP fa fn pn ex K) :
    ∃ fd, FnOk P w K mg base (L2.CX P w) 1 (pgA K "Net" "every_line") fd ["self"] (spV K (He.ga K) false run_Net_every_line) ∧ FunD K d_Net_every_line.name d_Net_every_line.qual d_Net_every_line.params d_Net_every_line.body d_Net_every_line.scope (d_Net_every_line.dvs K) (d_Net_every_line.kws K) (pgA K "Net" "every_line") fd := by
  obtain ⟨fd, F⟩ := c.pn 0 ⟨fun K => pgA K "Net" "every_line", d_Net_every_line⟩ rfl
  have f_len : mg "len" = none := He.free_ok Xh G (c.d.fact 38 (f := .free "len") rfl)
  have f_range : mg "range" = none := He.free_ok Xh G (c.d.fact 43 (f := .free "range") rfl)
  have f_tuple : mg "tuple" = none := He.free_ok Xh G (c.d.fact 45 (f := .free "tuple") rfl)
  have c_Net : Cls K (He.ga K "Net") := He.cls_ok (c.d.fact 62 (f := .cls "Net") rfl)
  have a_Net_lines : FldOk K (He.ga K) "Net" "lines" := ⟨c_Net, He.noat_ok (c.d.fact 65 (f := .noat "Net" "lines") rfl)⟩
  refine ⟨fd, fnV_of F sc_Net_every_line fun cdv A outer s H E hr tk => ?_, F⟩
  have hu := VL.hu_of hr
  have hu0 := VL.hu_of0 hr
  apply Exists.intro
  constructor
  · exact (pss_one (ps_ret (pe_tupRg rfl rfl f_tuple (prg_1 rfl f_range (pe_callB (r := r1' (rLenA K)) call_lenA rfl f_len boot_len (pa_cons (pe_fldK K rfl (pv 0) rfl) pa_nil))))))
  · exact (sndS_ret (snd_tupRg (sndO_t (snd_call pr_len (sndA_c (sndO_t (snd_fld a_Net_lines sndO_v)) sndA_nil)))))
/-! both -/
theorem sc_both : FnScope ["one", "two", "part"] ["one", "two"] (defScope s_both) := ⟨rfl, rfl, rfl, by decide +kernel, rfl, by decide +kernel, by decide +kernel⟩
def c_both_1 : M Slot := (mLc [2] (mSeq (mVar 1)) (setS 2) (mb (o2 pNotIn (mv 2) (mv 0))) (mVar 2))
def m_both : M Fl :=
  (sRet (cb pTuple (ac (tm (cb pSorted (ac (tm (o2 pAdd (tm (cb pList (ac (mv 0) an))) (tm c_both_1))) an))) an)))
def run_both : List D → FR := runF 2 3 false m_both
theorem ok_both {P : Program} {w : World} {K : PySem.W.Frag} {mg : Str → Option Value} {base h : Heap} (Xh : K.In h) (G : h.Ns mainGlobals mg) (c : SaysP fa fn pn ex K) :
    ∃ fd, FnOk P w K mg base (L2.CX P w) 1 (He.fAd K d_both.at_) fd ["one", "two"] (spV K (He.ga K) false run_both) ∧ FunD K d_both.name d_both.qual d_both.params d_both.body d_both.scope (d_both.dvs K) (d_both.kws K) (He.fAd K d_both.at_) fd := by
  obtain ⟨fd, F⟩ := c.d.def_ 4 (d := d_both) rfl
  have f_list : mg "list" = none := He.free_ok Xh G (c.d.fact 39 (f := .free "list") rfl)
  have f_sorted : mg "sorted" = none := He.free_ok Xh G (c.d.fact 44 (f := .free "sorted") rfl)
  have f_tuple : mg "tuple" = none := He.free_ok Xh G (c.d.fact 45 (f := .free "tuple") rfl)
  refine ⟨fd, fnV_of F sc_both fun cdv A outer s H E hr tk => ?_, F⟩
  have hu := VL.hu_of hr
  have hu0 := VL.hu_of0 hr
  apply Exists.intro
  constructor
  · exact (pss_one (ps_ret (pe_callTy (r := r1' (rTupleA K)) call_tupleA rfl f_tuple boot_tuple (pa_cons (pe_callB (r := rSorted K) cr_sorted rfl f_sorted boot_sorted (pa_cons (pe_op (r := VL.rAdd K) op_addV (pe_callTy (r := r1' (rListA K)) (call_listA rfl) rfl f_list boot_list (pa_cons (pv 0) pa_nil)) (pe_lc rfl sc_both.nd (pi_seqK K rfl (pv 1)) (blkOk_by (own := [("part", 2)]) (by kernel_rfl)) (fun _ _ _ _ _ => (pg_name sc_both.nd (i := 2) rfl (by first | exact Or.inl rfl | exact Or.inr rfl))) (fun _ _ _ _ _ => (pts_one (pt_cmpR (r := rInA K true) (op_notInA hu) (pv 2) (pv 0) (by rfl)))) (fun _ _ _ _ _ => (pv 2)))) pa_nil)) pa_nil))))
  · exact (sndS_ret (snd_call pr_tuple (sndA_c (sndO_t (snd_call pr_sorted (sndA_c (sndO_t (snd_op pr_add (sndO_t (snd_call pr_list (sndA_c sndO_v sndA_nil))) (sndO_t (snd_lc (by decide) (sndI_seq snd_var) sndG_name (sndT_tst (snd_op pr_notIn sndO_v sndO_v)) snd_var)))) sndA_nil))) sndA_nil)))
/-! Net_lines_at -/
theorem sc_Net_lines_at : FnScope ["self", "switch", "line"] ["self", "switch"] (defScope s_Net_lines_at) := ⟨rfl, rfl, rfl, by decide +kernel, rfl, by decide +kernel, by decide +kernel⟩
def c_Net_lines_at_1 : M Slot := (mLc [2] (mArgs (ac (tm (cb pLen (ac (tm (mFld "Net" "lines" (mv 0))) an))) an) rng1) (setS 2) (mb (o2 pIn (mv 1) (tm (o2 pIx (tm (mFld "Net" "lines" (mv 0))) (mv 2))))) (mVar 2))
def m_Net_lines_at : M Fl :=
  (thn' (sDrop (usr false run_check_number [] (ac (tm (cst (.str "switch"))) (ac (mv 1) (ac (tm (cst (.int 0))) (ac (tm (o2 (ii fun i j => sI (i - j)) (tm (mFld "Net" "size" (mv 0))) (tm (cst (.int 1))))) an))))))
  (sRet (cb pTuple (ac (tm c_Net_lines_at_1) an))))
def run_Net_lines_at : List D → FR := runF 2 3 false m_Net_lines_at
theorem ok_Net_lines_at {P : Program} {w : World} {K : PySem.W.Frag} {mg : Str → Option Value} {base h : Heap} (Xh : K.In h) (G : h.Ns mainGlobals mg) (c : SaysP fa fn pn ex K) :
    ∃ fd, FnOk P w K mg base (L2.CX P w) 3 (He.fAd K d_Net_lines_at.at_) fd ["self", "switch"] (spV K (He.ga K) false run_Net_lines_at) ∧ FunD K d_Net_lines_at.name d_Net_lines_at.qual d_Net_lines_at.params d_Net_lines_at.body d_Net_lines_at.scope (d_Net_lines_at.dvs K) (d_Net_lines_at.kws K) (He.fAd K d_Net_lines_at.at_) fd := by
  obtain ⟨fd, F⟩ := c.d.def_ 23 (d := d_Net_lines_at) rfl
  have f_len : mg "len" = none := He.free_ok Xh G (c.d.fact 38 (f := .free "len") rfl)
  have f_range : mg "range" = none := He.free_ok Xh G (c.d.fact 43 (f := .free "range") rfl)
  have f_tuple : mg "tuple" = none := He.free_ok Xh G (c.d.fact 45 (f := .free "tuple") rfl)
  have g_check_number : mg "check_number" = some (.ref (He.ga K "check_number")) := He.glo_ok Xh G (c.d.fact 8 (f := .glo "check_number") rfl)
  have c_Net : Cls K (He.ga K "Net") := He.cls_ok (c.d.fact 62 (f := .cls "Net") rfl)
  have a_Net_lines : FldOk K (He.ga K) "Net" "lines" := ⟨c_Net, He.noat_ok (c.d.fact 65 (f := .noat "Net" "lines") rfl)⟩
  have a_Net_size : FldOk K (He.ga K) "Net" "size" := ⟨c_Net, He.noat_ok (c.d.fact 64 (f := .noat "Net" "size") rfl)⟩
  obtain ⟨fd_check_number, F_check_number, D_check_number⟩ := ok_check_number (P := P) (w := w) (base := base) Xh G c
  have b_check_number_4 : Binds K fd_check_number _ [] := D_check_number.bindsN (ps := ["name", "value", "low", "high"]) fun _ _ _ _ _ _ us hl => match us, hl with | [_, _, _, _], _ => rfl
  have v_check_number_4 : Vals [] [] := .nil
  refine ⟨fd, fnV_of F sc_Net_lines_at fun cdv A outer s H E hr tk => ?_, F⟩
  have hu := VL.hu_of hr
  have hu0 := VL.hu_of0 hr
  apply Exists.intro
  constructor
  · exact (pss_cons (ps_expr (pe_callSD F_check_number (hr.mono (by decide)) rfl g_check_number D_check_number.kp b_check_number_4 v_check_number_4 (fun σ => passAt tk σ) (pa_cons pe_str (pa_cons (pv 1) (pa_cons pe_int (pa_cons (pe_op op_sub (pe_fldK K rfl (pv 0) rfl) pe_int) pa_nil))))))
    (pss_one (ps_ret (pe_callTy (r := r1' (rTupleA K)) call_tupleA rfl f_tuple boot_tuple (pa_cons (pe_lc rfl sc_Net_lines_at.nd (pi_range1 rfl f_range (pa_cons (pe_callB (r := r1' (rLenA K)) call_lenA rfl f_len boot_len (pa_cons (pe_fldK K rfl (pv 0) rfl) pa_nil)) pa_nil)) (blkOk_by (own := [("line", 2)]) (by kernel_rfl)) (fun _ _ _ _ _ => (pg_name sc_Net_lines_at.nd (i := 2) rfl (by first | exact Or.inl rfl | exact Or.inr rfl))) (fun _ _ _ _ _ => (pts_one (pt_cmpR (r := rInA K false) (op_inA hu) (pv 1) (pe_ix (r := rIxA K) (ix_any hu) (pe_fldK K rfl (pv 0) rfl) (pv 2) (fun _ _ => rfl)) (by rfl)))) (fun _ _ _ _ _ => (pv 2))) pa_nil)))))
  · exact (sndS_seq (sndS_drop (snd_user (fun _ _ => rfl) (sndA_c (sndO_t (snd_c fun _ _ => rfl)) (sndA_c sndO_v (sndA_c (sndO_t (snd_c fun _ _ => rfl)) (sndA_c (sndO_t (snd_op pr_sub (sndO_t (snd_fld a_Net_size sndO_v)) (sndO_t (snd_c fun _ _ => rfl)))) sndA_nil))))))
    (sndS_ret (snd_call pr_tuple (sndA_c (sndO_t (snd_lc (by decide) (sndI_rng1 (sndA_c (sndO_t (snd_call pr_len (sndA_c (sndO_t (snd_fld a_Net_lines sndO_v)) sndA_nil))) sndA_nil)) sndG_name (sndT_tst (snd_op pr_in sndO_v (sndO_t (snd_op pr_ix (sndO_t (snd_fld a_Net_lines sndO_v)) sndO_v)))) snd_var)) sndA_nil))))
/-! Net_other -/
theorem sc_Net_other : FnScope ["self", "line", "switch", "one", "two"] ["self", "line", "switch"] (defScope s_Net_other) := ⟨rfl, rfl, rfl, by decide +kernel, rfl, by decide +kernel, by decide +kernel⟩
def m_Net_other : M Fl :=
  (thn' (sDrop (usr false run_check_number [] (ac (tm (cst (.str "line"))) (ac (mv 1) (ac (tm (cst (.int 0))) (ac (tm (o2 (ii fun i j => sI (i - j)) (tm (cb pLen (ac (tm (mFld "Net" "lines" (mv 0))) an))) (tm (cst (.int 1))))) an))))))
  (thn' (sDrop (usr false run_check_number [] (ac (tm (cst (.str "switch"))) (ac (mv 2) (ac (tm (cst (.int 0))) (ac (tm (o2 (ii fun i j => sI (i - j)) (tm (mFld "Net" "size" (mv 0))) (tm (cst (.int 1))))) an))))))
  (thn' (sAsg (o2 pIx (tm (mFld "Net" "lines" (mv 0))) (mv 1)) (unpk 2 (gsc (setS 3) (gsc (setS 4) gs0))))
  (thn' (sIf (mb (o2 pEq (mv 2) (mv 3)))
  (sRet (mMove 4))
  (ret .next))
  (sRet (mIf (mb (o2 pEq (mv 2) (mv 4))) (mMove 3) (cst .non)))))))
def run_Net_other : List D → FR := runF 3 5 false m_Net_other
theorem ok_Net_other {P : Program} {w : World} {K : PySem.W.Frag} {mg : Str → Option Value} {base h : Heap} (Xh : K.In h) (G : h.Ns mainGlobals mg) (c : SaysP fa fn pn ex K) :
    ∃ fd, FnOk P w K mg base (L2.CX P w) 3 (He.fAd K d_Net_other.at_) fd ["self", "line", "switch"] (spV K (He.ga K) false run_Net_other) ∧ FunD K d_Net_other.name d_Net_other.qual d_Net_other.params d_Net_other.body d_Net_other.scope (d_Net_other.dvs K) (d_Net_other.kws K) (He.fAd K d_Net_other.at_) fd := by
  obtain ⟨fd, F⟩ := c.d.def_ 22 (d := d_Net_other) rfl
  have f_len : mg "len" = none := He.free_ok Xh G (c.d.fact 38 (f := .free "len") rfl)
  have g_check_number : mg "check_number" = some (.ref (He.ga K "check_number")) := He.glo_ok Xh G (c.d.fact 8 (f := .glo "check_number") rfl)
  have c_Net : Cls K (He.ga K "Net") := He.cls_ok (c.d.fact 62 (f := .cls "Net") rfl)
  have a_Net_lines : FldOk K (He.ga K) "Net" "lines" := ⟨c_Net, He.noat_ok (c.d.fact 65 (f := .noat "Net" "lines") rfl)⟩
  have a_Net_size : FldOk K (He.ga K) "Net" "size" := ⟨c_Net, He.noat_ok (c.d.fact 64 (f := .noat "Net" "size") rfl)⟩
  obtain ⟨fd_check_number, F_check_number, D_check_number⟩ := ok_check_number (P := P) (w := w) (base := base) Xh G c
  have b_check_number_4 : Binds K fd_check_number _ [] := D_check_number.bindsN (ps := ["name", "value", "low", "high"]) fun _ _ _ _ _ _ us hl => match us, hl with | [_, _, _, _], _ => rfl
  have v_check_number_4 : Vals [] [] := .nil
  refine ⟨fd, fnV_of F sc_Net_other fun cdv A outer s H E hr tk => ?_, F⟩
  have hu := VL.hu_of hr
  have hu0 := VL.hu_of0 hr
  apply Exists.intro
  constructor
  · exact (pss_cons (ps_expr (pe_callSD F_check_number (hr.mono (by decide)) rfl g_check_number D_check_number.kp b_check_number_4 v_check_number_4 (fun σ => passAt tk σ) (pa_cons pe_str (pa_cons (pv 1) (pa_cons pe_int (pa_cons (pe_op op_sub (pe_callB (r := r1' (rLenA K)) call_lenA rfl f_len boot_len (pa_cons (pe_fldK K rfl (pv 0) rfl) pa_nil)) pe_int) pa_nil))))))
    (pss_cons (ps_expr (pe_callSD F_check_number (hr.mono (by decide)) rfl g_check_number D_check_number.kp b_check_number_4 v_check_number_4 (fun σ => passAt tk σ) (pa_cons pe_str (pa_cons (pv 2) (pa_cons pe_int (pa_cons (pe_op op_sub (pe_fldK K rfl (pv 0) rfl) pe_int) pa_nil))))))
    (pss_cons (ps_asg (pe_ix (r := rIxA K) (ix_any hu) (pe_fldK K rfl (pv 0) rfl) (pv 1) (fun _ _ => rfl)) (pg_seqK K rfl (n := 2) rfl (pgs_cons (pg_name sc_Net_other.nd (i := 3) rfl (by first | exact Or.inl rfl | exact Or.inr rfl)) (pgs_cons (pg_name sc_Net_other.nd (i := 4) rfl (by first | exact Or.inl rfl | exact Or.inr rfl)) pgs_nil))))
    (pss_cons (ps_if (pt_cmpR (r := rEqD K) (op_eqD hu0) (pv 2) (pv 3) (nomark _)) (pss_one (ps_ret (pv 4))) pss_nil)
    (pss_one (ps_ret (pe_ifExp (pt_cmpR (r := rEqD K) (op_eqD hu0) (pv 2) (pv 4) (nomark _)) (pv 3) pe_non)))))))
  · exact (sndS_seq (sndS_drop (snd_user (fun _ _ => rfl) (sndA_c (sndO_t (snd_c fun _ _ => rfl)) (sndA_c sndO_v (sndA_c (sndO_t (snd_c fun _ _ => rfl)) (sndA_c (sndO_t (snd_op pr_sub (sndO_t (snd_call pr_len (sndA_c (sndO_t (snd_fld a_Net_lines sndO_v)) sndA_nil))) (sndO_t (snd_c fun _ _ => rfl)))) sndA_nil))))))
    (sndS_seq (sndS_drop (snd_user (fun _ _ => rfl) (sndA_c (sndO_t (snd_c fun _ _ => rfl)) (sndA_c sndO_v (sndA_c (sndO_t (snd_c fun _ _ => rfl)) (sndA_c (sndO_t (snd_op pr_sub (sndO_t (snd_fld a_Net_size sndO_v)) (sndO_t (snd_c fun _ _ => rfl)))) sndA_nil))))))
    (sndS_seq (sndS_asg (snd_op pr_ix (sndO_t (snd_fld a_Net_lines sndO_v)) sndO_v) (sndG_seq (sndGs_cons sndG_name (sndGs_cons sndG_name sndGs_nil))))
    (sndS_seq (sndS_if (sndT_tst (snd_op pr_eq sndO_v sndO_v)) (sndS_ret snd_move) sndS_nil)
    (sndS_ret (snd_if (sndT_tst (snd_op pr_eq sndO_v sndO_v)) snd_move (snd_c fun _ _ => rfl)))))))
/-! nearest -/
theorem sc_nearest : FnScope ["worths", "worth"] ["worths"] (defScope s_nearest) := ⟨rfl, rfl, rfl, by decide +kernel, rfl, by decide +kernel, by decide +kernel⟩
def c_nearest_1 : M Slot := (mLc [1] (mSeq (mVar 0)) (setS 1) (mb (o2 pIsN (mv 1) (tm (cst .non)))) (mVar 1))
def m_nearest : M Fl :=
  (sRet (minDef (ac (tm c_nearest_1) an) (ac (tm (cst .non)) an)))
def run_nearest : List D → FR := runF 1 2 false m_nearest
theorem ok_nearest {P : Program} {w : World} {K : PySem.W.Frag} {mg : Str → Option Value} {base h : Heap} (Xh : K.In h) (G : h.Ns mainGlobals mg) (c : SaysP fa fn pn ex K) :
    ∃ fd, FnOk P w K mg base (L2.CX P w) 1 (He.fAd K d_nearest.at_) fd ["worths"] (spV K (He.ga K) false run_nearest) ∧ FunD K d_nearest.name d_nearest.qual d_nearest.params d_nearest.body d_nearest.scope (d_nearest.dvs K) (d_nearest.kws K) (He.fAd K d_nearest.at_) fd := by
  obtain ⟨fd, F⟩ := c.d.def_ 8 (d := d_nearest) rfl
  have f_min : mg "min" = none := He.free_ok Xh G (c.d.fact 41 (f := .free "min") rfl)
  refine ⟨fd, fnV_of F sc_nearest fun cdv A outer s H E hr tk => ?_, F⟩
  have hu := VL.hu_of hr
  have hu0 := VL.hu_of0 hr
  apply Exists.intro
  constructor
  · exact (pss_one (ps_ret (pe_callBK (r := rMinN K) (cr_minN rfl hu0) rfl f_min boot_min (pa_cons (pe_lc rfl sc_nearest.nd (pi_seqK K rfl (pv 0)) (blkOk_by (own := [("worth", 1)]) (by kernel_rfl)) (fun _ _ _ _ _ => (pg_name sc_nearest.nd (i := 1) rfl (by first | exact Or.inl rfl | exact Or.inr rfl))) (fun _ _ _ _ _ => (pts_one (pt_cmpR op_isNotV (pv 1) pe_non (nomark _)))) (fun _ _ _ _ _ => (pv 1))) pa_nil) (pk_cons pe_non pk_nil))))
  · exact (sndS_ret (snd_callK pr_minN (sndA_c (sndO_t (snd_lc (by decide) (sndI_seq snd_var) sndG_name (sndT_tst (snd_op pr_isN sndO_v (sndO_t (snd_c fun _ _ => rfl)))) snd_var)) sndA_nil) (sndA_c (sndO_t (snd_c fun _ _ => rfl)) sndA_nil) one_len))
/-! line_worth -/
theorem sc_line_worth : FnScope ["beyond", "may_fall", "behind"] ["beyond", "may_fall", "behind"] (defScope s_line_worth) := ⟨rfl, rfl, rfl, by decide +kernel, rfl, by decide +kernel, by decide +kernel⟩
def m_line_worth : M Fl :=
  (thn' (sIf (mOr (mb (o2 pIs (mv 0) (tm (cst .non)))) (mAnd (mt (mv 1)) (mb (o2 pIs (mv 2) (tm (cst .non))))))
  (sRet (cst .non))
  (ret .next))
  (sRet (mIf (mt (mv 1)) (cb pMax2 (ac (tm (o2 pAdd (mv 0) (tm (cst (.int 1))))) (ac (mv 2) an))) (o2 pAdd (mv 0) (tm (cst (.int 1)))))))
def run_line_worth : List D → FR := runF 3 3 false m_line_worth
theorem ok_line_worth {P : Program} {w : World} {K : PySem.W.Frag} {mg : Str → Option Value} {base h : Heap} (Xh : K.In h) (G : h.Ns mainGlobals mg) (c : SaysP fa fn pn ex K) :
    ∃ fd, FnOk P w K mg base (L2.CX P w) 1 (He.fAd K d_line_worth.at_) fd ["beyond", "may_fall", "behind"] (spV K (He.ga K) false run_line_worth) ∧ FunD K d_line_worth.name d_line_worth.qual d_line_worth.params d_line_worth.body d_line_worth.scope (d_line_worth.dvs K) (d_line_worth.kws K) (He.fAd K d_line_worth.at_) fd := by
  obtain ⟨fd, F⟩ := c.d.def_ 9 (d := d_line_worth) rfl
  have f_max : mg "max" = none := He.free_ok Xh G (c.d.fact 40 (f := .free "max") rfl)
  refine ⟨fd, fnV_of F sc_line_worth fun cdv A outer s H E hr tk => ?_, F⟩
  have hu := VL.hu_of hr
  have hu0 := VL.hu_of0 hr
  apply Exists.intro
  constructor
  · exact (pss_cons (ps_if (PW.pt (pw_or (pt_cmpR op_isV (pv 0) pe_non (nomark _)) (pw_or1 (PW.pt (pw_and (pt_truthK K rfl (pv 1) (fun _ => rfl)) (pw_and1 (pt_cmpR op_isV (pv 2) pe_non (nomark _)))))))) (pss_one (ps_ret pe_non)) pss_nil)
    (pss_one (ps_ret (pe_ifExp (pt_truthK K rfl (pv 1) (fun _ => rfl)) (pe_callB (call_max2 rfl) rfl f_max boot_max (pa_cons (pe_op (r := VL.rAdd K) op_addV (pv 0) pe_int) (pa_cons (pv 2) pa_nil))) (pe_op (r := VL.rAdd K) op_addV (pv 0) pe_int)))))
  · exact (sndS_seq (sndS_if (sndT_or (sndT_tst (snd_op pr_is sndO_v (sndO_t (snd_c fun _ _ => rfl)))) (sndT_and (sndT_truth sndO_v) (sndT_tst (snd_op pr_is sndO_v (sndO_t (snd_c fun _ _ => rfl)))))) (sndS_ret (snd_c fun _ _ => rfl)) sndS_nil)
    (sndS_ret (snd_if (sndT_truth sndO_v) (snd_call pr_max2 (sndA_c (sndO_t (snd_op pr_add sndO_v (sndO_t (snd_c fun _ _ => rfl)))) (sndA_c sndO_v sndA_nil))) (snd_op pr_add sndO_v (sndO_t (snd_c fun _ _ => rfl))))))
/-! lot_worths -/
theorem sc_lot_worths : FnScope ["net", "spot", "lot", "falling", "ends", "worths", "_", "switch", "line", "end"] ["net", "spot", "lot", "falling"] (defScope s_lot_worths) := ⟨rfl, rfl, rfl, by decide +kernel, rfl, by decide +kernel, by decide +kernel⟩
def x_lot_worths_1 : M Slot := (mMethS "Net" "lines_at" run_Net_lines_at [] (mv 0) (ac (mv 7) an))
def x_lot_worths_2 : M Slot := (mMethS "Net" "other" run_Net_other [] (mv 0) (ac (mv 8) (ac (mv 7) an)))
def c_lot_worths_1 : M Slot := (mLc [8] (mSeq x_lot_worths_1) (setS 8) (mb (o2 pNotIn (mv 8) (mv 2))) (mTake (ac (mv 8) (ac (tm x_lot_worths_2) an)) kTup))
def c_lot_worths_2 : M Slot := (mLc [7] (mArgs (ac (tm (mFld "Net" "size" (mv 0))) an) rng1) (setS 7) (ret true) c_lot_worths_1)
def c_lot_worths_3 : M Slot := (mLc [7] (mArgs (ac (tm (mFld "Net" "size" (mv 0))) an) rng1) (setS 7) (ret true) (mIf (mb (o2 pEq (mv 7) (mv 1))) (cst (.int 0)) (cst .non)))
def c_lot_worths_4 : M Slot := (mLc [8, 9] (mSeq (o2 pIx (mv 4) (mv 7))) (unpk 2 (gsc (setS 8) (gsc (setS 9) gs0))) (ret true) (usr false run_line_worth [] (ac (tm (o2 pIx (mv 5) (mv 9))) (ac (tm (o2 pIx (tm (o2 pIx (mv 3) (mv 8))) (tm (cst (.int 0))))) (ac (tm (o2 pIx (tm (o2 pIx (tm (o2 pIx (mv 3) (mv 8))) (tm (cst (.int 1))))) (mv 7))) an)))))
def c_lot_worths_5 : M Slot := (mLc [7] (mArgs (ac (tm (mFld "Net" "size" (mv 0))) an) rng1) (setS 7) (ret true) (mIf (mb (o2 pEq (mv 7) (mv 1))) (cst (.int 0)) (usr false run_nearest [] (ac (tm c_lot_worths_4) an))))
def l_lot_worths_1 : M Fl := (sFor (mArgs (ac (tm (mFld "Net" "size" (mv 0))) an) rng1) (setS 6)
  (sAsg c_lot_worths_5 (setS 5)))
def m_lot_worths : M Fl :=
  (thn' (sAsg c_lot_worths_2 (setS 4))
  (thn' (sAsg c_lot_worths_3 (setS 5))
  (thn' l_lot_worths_1
  (sRet (cb pTuple (ac (mv 5) an))))))
def run_lot_worths : List D → FR := runF 4 10 false m_lot_worths
theorem ok_lot_worths {P : Program} {w : World} {K : PySem.W.Frag} {mg : Str → Option Value} {base h : Heap} (Xh : K.In h) (G : h.Ns mainGlobals mg) (c : SaysP fa fn pn ex K) :
    ∃ fd, FnOk P w K mg base (L2.CX P w) 4 (He.fAd K d_lot_worths.at_) fd ["net", "spot", "lot", "falling"] (spV K (He.ga K) false run_lot_worths) ∧ FunD K d_lot_worths.name d_lot_worths.qual d_lot_worths.params d_lot_worths.body d_lot_worths.scope (d_lot_worths.dvs K) (d_lot_worths.kws K) (He.fAd K d_lot_worths.at_) fd := by
  obtain ⟨fd, F⟩ := c.d.def_ 10 (d := d_lot_worths) rfl
  have f_range : mg "range" = none := He.free_ok Xh G (c.d.fact 43 (f := .free "range") rfl)
  have f_tuple : mg "tuple" = none := He.free_ok Xh G (c.d.fact 45 (f := .free "tuple") rfl)
  have g_line_worth : mg "line_worth" = some (.ref (He.ga K "line_worth")) := He.glo_ok Xh G (c.d.fact 15 (f := .glo "line_worth") rfl)
  have g_nearest : mg "nearest" = some (.ref (He.ga K "nearest")) := He.glo_ok Xh G (c.d.fact 14 (f := .glo "nearest") rfl)
  have c_Net : Cls K (He.ga K "Net") := He.cls_ok (c.d.fact 62 (f := .cls "Net") rfl)
  have a_Net_size : FldOk K (He.ga K) "Net" "size" := ⟨c_Net, He.noat_ok (c.d.fact 64 (f := .noat "Net" "size") rfl)⟩
  have mt_Net_lines_at : Meth K (He.ga K "Net") "lines_at" (He.ma K (He.ga K "Net") "lines_at") := He.meth_ok (c.d.fact 69 (f := .meth "Net" "lines_at") rfl)
  have mt_Net_other : Meth K (He.ga K "Net") "other" (He.ma K (He.ga K "Net") "other") := He.meth_ok (c.d.fact 68 (f := .meth "Net" "other") rfl)
  obtain ⟨fd_Net_lines_at, F_Net_lines_at, D_Net_lines_at⟩ := ok_Net_lines_at (P := P) (w := w) (base := base) Xh G c
  have b_Net_lines_at_2 : Binds K fd_Net_lines_at _ [] := D_Net_lines_at.bindsN (ps := ["self", "switch"]) fun _ _ _ _ _ _ us hl => match us, hl with | [_, _], _ => rfl
  have v_Net_lines_at_2 : Vals [] [] := .nil
  obtain ⟨fd_Net_other, F_Net_other, D_Net_other⟩ := ok_Net_other (P := P) (w := w) (base := base) Xh G c
  have b_Net_other_3 : Binds K fd_Net_other _ [] := D_Net_other.bindsN (ps := ["self", "line", "switch"]) fun _ _ _ _ _ _ us hl => match us, hl with | [_, _, _], _ => rfl
  have v_Net_other_3 : Vals [] [] := .nil
  obtain ⟨fd_nearest, F_nearest, D_nearest⟩ := ok_nearest (P := P) (w := w) (base := base) Xh G c
  have b_nearest_1 : Binds K fd_nearest _ [] := D_nearest.bindsN (ps := ["worths"]) fun _ _ _ _ _ _ us hl => match us, hl with | [_], _ => rfl
  have v_nearest_1 : Vals [] [] := .nil
  obtain ⟨fd_line_worth, F_line_worth, D_line_worth⟩ := ok_line_worth (P := P) (w := w) (base := base) Xh G c
  have b_line_worth_3 : Binds K fd_line_worth _ [] := D_line_worth.bindsN (ps := ["beyond", "may_fall", "behind"]) fun _ _ _ _ _ _ us hl => match us, hl with | [_, _, _], _ => rfl
  have v_line_worth_3 : Vals [] [] := .nil
  refine ⟨fd, fnV_of F sc_lot_worths fun cdv A outer s H E hr tk => ?_, F⟩
  have hu := VL.hu_of hr
  have hu0 := VL.hu_of0 hr
  apply Exists.intro
  constructor
  · exact (pss_cons (ps_set sc_lot_worths.nd (i := 4) rfl (by first | exact Or.inl rfl | exact Or.inr rfl) (pe_lc rfl sc_lot_worths.nd (pi_range1 rfl f_range (pa_cons (pe_fldK K rfl (pv 0) rfl) pa_nil)) (blkOk_by (own := [("switch", 7)]) (by kernel_rfl)) (fun _ _ _ _ _ => (pg_name sc_lot_worths.nd (i := 7) rfl (by first | exact Or.inl rfl | exact Or.inr rfl))) (fun _ _ _ _ _ => pts_nil) (fun _ _ _ _ _ => (pe_lc rfl sc_lot_worths.nd (pi_seqK K rfl (pe_methS (pv 0) c_Net mt_Net_lines_at F_Net_lines_at (hr.mono (by decide)) b_Net_lines_at_2 v_Net_lines_at_2 (fun σ => passAt takes0 σ) (pa_cons (pv 7) pa_nil))) (blkOk_by (own := [("line", 8)]) (by kernel_rfl)) (fun _ _ _ _ _ => (pg_name sc_lot_worths.nd (i := 8) rfl (by first | exact Or.inl rfl | exact Or.inr rfl))) (fun _ _ _ _ _ => (pts_one (pt_cmpR (r := rInA K true) (op_notInA hu) (pv 8) (pv 2) (by rfl)))) (fun _ _ _ _ _ => (pe_tup (pa_cons (pv 8) (pa_cons (pe_methS (pv 0) c_Net mt_Net_other F_Net_other (hr.mono (by decide)) b_Net_other_3 v_Net_other_3 (fun σ => passAt takes0 σ) (pa_cons (pv 8) (pa_cons (pv 7) pa_nil))) pa_nil))))))))
    (pss_cons (ps_set sc_lot_worths.nd (i := 5) rfl (by first | exact Or.inl rfl | exact Or.inr rfl) (pe_lc rfl sc_lot_worths.nd (pi_range1 rfl f_range (pa_cons (pe_fldK K rfl (pv 0) rfl) pa_nil)) (blkOk_by (own := [("switch", 7)]) (by kernel_rfl)) (fun _ _ _ _ _ => (pg_name sc_lot_worths.nd (i := 7) rfl (by first | exact Or.inl rfl | exact Or.inr rfl))) (fun _ _ _ _ _ => pts_nil) (fun _ _ _ _ _ => (pe_ifExp (pt_cmpR (r := rEqD K) (op_eqD hu0) (pv 7) (pv 1) (nomark _)) pe_int pe_non))))
    (pss_cons (ps_for (passes_of rfl) rfl (pi_range1 rfl f_range (pa_cons (pe_fldK K rfl (pv 0) rfl) pa_nil)) (pg_name sc_lot_worths.nd (i := 6) rfl (by first | exact Or.inl rfl | exact Or.inr rfl)) (pss_one (ps_set sc_lot_worths.nd (i := 5) rfl (by first | exact Or.inl rfl | exact Or.inr rfl) (pe_lc rfl sc_lot_worths.nd (pi_range1 rfl f_range (pa_cons (pe_fldK K rfl (pv 0) rfl) pa_nil)) (blkOk_by (own := [("switch", 7)]) (by kernel_rfl)) (fun _ _ _ _ _ => (pg_name sc_lot_worths.nd (i := 7) rfl (by first | exact Or.inl rfl | exact Or.inr rfl))) (fun _ _ _ _ _ => pts_nil) (fun _ _ _ _ _ => (pe_ifExp (pt_cmpR (r := rEqD K) (op_eqD hu0) (pv 7) (pv 1) (nomark _)) pe_int (pe_callSD F_nearest (hr.mono (by decide)) rfl g_nearest D_nearest.kp b_nearest_1 v_nearest_1 (fun σ => passAt takes0 σ) (pa_cons (pe_lc rfl sc_lot_worths.nd (pi_seqK K rfl (pe_ix (r := rIxA K) (ix_any hu) (pv 4) (pv 7) (fun _ _ => rfl))) (blkOk_by (own := [("line", 8), ("end", 9)]) (by kernel_rfl)) (fun _ _ _ _ _ => (pg_seqK K rfl (n := 2) rfl (pgs_cons (pg_name sc_lot_worths.nd (i := 8) rfl (by first | exact Or.inl rfl | exact Or.inr rfl)) (pgs_cons (pg_name sc_lot_worths.nd (i := 9) rfl (by first | exact Or.inl rfl | exact Or.inr rfl)) pgs_nil)))) (fun _ _ _ _ _ => pts_nil) (fun _ _ _ _ _ => (pe_callSD F_line_worth (hr.mono (by decide)) rfl g_line_worth D_line_worth.kp b_line_worth_3 v_line_worth_3 (fun σ => passAt takes0 σ) (pa_cons (pe_ix (r := rIxA K) (ix_any hu) (pv 5) (pv 9) (fun _ _ => rfl)) (pa_cons (pe_ix (r := rIxA K) (ix_any hu) (pe_ix (r := rIxA K) (ix_any hu) (pv 3) (pv 8) (fun _ _ => rfl)) pe_int (fun _ _ => rfl)) (pa_cons (pe_ix (r := rIxA K) (ix_any hu) (pe_ix (r := rIxA K) (ix_any hu) (pe_ix (r := rIxA K) (ix_any hu) (pv 3) (pv 8) (fun _ _ => rfl)) pe_int (fun _ _ => rfl)) (pv 7) (fun _ _ => rfl)) pa_nil)))))) pa_nil))))))))
    (pss_one (ps_ret (pe_callTy (r := r1' (rTupleA K)) call_tupleA rfl f_tuple boot_tuple (pa_cons (pv 5) pa_nil)))))))
  · exact (sndS_seq (sndS_asg (snd_lc (by decide) (sndI_rng1 (sndA_c (sndO_t (snd_fld a_Net_size sndO_v)) sndA_nil)) sndG_name sndT_yes (snd_lc (by decide) (sndI_seq (snd_methS (fun _ _ => rfl) sndO_v (sndA_c sndO_v sndA_nil))) sndG_name (sndT_tst (snd_op pr_notIn sndO_v sndO_v)) (snd_tup (sndA_c sndO_v (sndA_c (sndO_t (snd_methS (fun _ _ => rfl) sndO_v (sndA_c sndO_v (sndA_c sndO_v sndA_nil)))) sndA_nil))))) sndG_name)
    (sndS_seq (sndS_asg (snd_lc (by decide) (sndI_rng1 (sndA_c (sndO_t (snd_fld a_Net_size sndO_v)) sndA_nil)) sndG_name sndT_yes (snd_if (sndT_tst (snd_op pr_eq sndO_v sndO_v)) (snd_c fun _ _ => rfl) (snd_c fun _ _ => rfl))) sndG_name)
    (sndS_seq (sndS_for (sndI_rng1 (sndA_c (sndO_t (snd_fld a_Net_size sndO_v)) sndA_nil)) sndG_name (sndS_asg (snd_lc (by decide) (sndI_rng1 (sndA_c (sndO_t (snd_fld a_Net_size sndO_v)) sndA_nil)) sndG_name sndT_yes (snd_if (sndT_tst (snd_op pr_eq sndO_v sndO_v)) (snd_c fun _ _ => rfl) (snd_user (fun _ _ => rfl) (sndA_c (sndO_t (snd_lc (by decide) (sndI_seq (snd_op pr_ix sndO_v sndO_v)) (sndG_seq (sndGs_cons sndG_name (sndGs_cons sndG_name sndGs_nil))) sndT_yes (snd_user (fun _ _ => rfl) (sndA_c (sndO_t (snd_op pr_ix sndO_v sndO_v)) (sndA_c (sndO_t (snd_op pr_ix (sndO_t (snd_op pr_ix sndO_v sndO_v)) (sndO_t (snd_c fun _ _ => rfl)))) (sndA_c (sndO_t (snd_op pr_ix (sndO_t (snd_op pr_ix (sndO_t (snd_op pr_ix sndO_v sndO_v)) (sndO_t (snd_c fun _ _ => rfl)))) sndO_v)) sndA_nil)))))) sndA_nil)))) sndG_name))
    (sndS_ret (snd_call pr_tuple (sndA_c sndO_v sndA_nil))))))
/-! worth_table -/
theorem sc_worth_table : FnScope ["net", "spot", "most", "nothing", "by_lot", "lot", "falling", "switch", "line"] ["net", "spot", "most"] (defScope s_worth_table) := ⟨rfl, rfl, rfl, by decide +kernel, rfl, by decide +kernel, by decide +kernel⟩
def c_worth_table_1 : M Slot := (mLc [7] (mArgs (ac (tm (mFld "Net" "size" (mv 0))) an) rng1) (setS 7) (ret true) (cst .non))
def c_worth_table_2 : M Slot := (mLc [8] (mSeq (mProp "Net" run_Net_every_line (mv 0))) (setS 8) (ret true) (mTake (ac (tm (o2 pLt (tm (cb pLen (ac (mv 5) an))) (mv 2))) (ac (tm (meth "dict" fGet (mv 4) (ac (tm (usr false run_both [] (ac (mv 5) (ac (tm (mTake (ac (mv 8) an) kTup)) an)))) (ac (mv 3) an)))) an)) kTup))
def l_worth_table_1 : M Fl := (sFor (mSeq (o1 pRev (tm (usr false run_small_lots [] (ac (tm (cb pLen (ac (tm (mFld "Net" "lines" (mv 0))) an))) (ac (mv 2) an)))))) (setS 5)
  (thn' (sAsg c_worth_table_2 (setS 6))
  (sAsg (usr false run_lot_worths [] (ac (mv 0) (ac (mv 1) (ac (mv 5) (ac (mv 6) an))))) (setSub 4 (mv 5) setF))))
def m_worth_table : M Fl :=
  (thn' (sAsg (cb pTuple (ac (tm c_worth_table_1) an)) (setS 3))
  (thn' (sAsg (ret (.ow (.dit [] []))) (setS 4))
  (thn' l_worth_table_1
  (sRet (mMove 4)))))
def run_worth_table : List D → FR := runF 3 9 false m_worth_table
theorem ok_worth_table {P : Program} {w : World} {K : PySem.W.Frag} {mg : Str → Option Value} {base h : Heap} (Xh : K.In h) (G : h.Ns mainGlobals mg) (c : SaysP fa fn pn ex K) :
    ∃ fd, FnOk P w K mg base (L2.CX P w) 5 (He.fAd K d_worth_table.at_) fd ["net", "spot", "most"] (spV K (He.ga K) false run_worth_table) ∧ FunD K d_worth_table.name d_worth_table.qual d_worth_table.params d_worth_table.body d_worth_table.scope (d_worth_table.dvs K) (d_worth_table.kws K) (He.fAd K d_worth_table.at_) fd := by
  obtain ⟨fd, F⟩ := c.d.def_ 11 (d := d_worth_table) rfl
  have f_len : mg "len" = none := He.free_ok Xh G (c.d.fact 38 (f := .free "len") rfl)
  have f_range : mg "range" = none := He.free_ok Xh G (c.d.fact 43 (f := .free "range") rfl)
  have f_tuple : mg "tuple" = none := He.free_ok Xh G (c.d.fact 45 (f := .free "tuple") rfl)
  have g_both : mg "both" = some (.ref (He.ga K "both")) := He.glo_ok Xh G (c.d.fact 10 (f := .glo "both") rfl)
  have g_lot_worths : mg "lot_worths" = some (.ref (He.ga K "lot_worths")) := He.glo_ok Xh G (c.d.fact 16 (f := .glo "lot_worths") rfl)
  have g_small_lots : mg "small_lots" = some (.ref (He.ga K "small_lots")) := He.glo_ok Xh G (c.d.fact 11 (f := .glo "small_lots") rfl)
  have c_Net : Cls K (He.ga K "Net") := He.cls_ok (c.d.fact 62 (f := .cls "Net") rfl)
  have a_Net_lines : FldOk K (He.ga K) "Net" "lines" := ⟨c_Net, He.noat_ok (c.d.fact 65 (f := .noat "Net" "lines") rfl)⟩
  have a_Net_size : FldOk K (He.ga K) "Net" "size" := ⟨c_Net, He.noat_ok (c.d.fact 64 (f := .noat "Net" "size") rfl)⟩
  obtain ⟨fd_small_lots, F_small_lots, D_small_lots⟩ := ok_small_lots (P := P) (w := w) (base := base) Xh G c
  have b_small_lots_2 : Binds K fd_small_lots _ [] := D_small_lots.bindsN (ps := ["many", "most"]) fun _ _ _ _ _ _ us hl => match us, hl with | [_, _], _ => rfl
  have v_small_lots_2 : Vals [] [] := .nil
  obtain ⟨fd_Net_every_line, F_Net_every_line, D_Net_every_line⟩ := ok_Net_every_line (P := P) (w := w) (base := base) Xh G c
  have p_Net_every_line : PropOf K (He.ga K "Net") "every_line" _ _ := propB_ok (ex_at c.ex 1 (f := propB "Net" "every_line") rfl)
  have b_Net_every_line_1 : Binds K fd_Net_every_line _ [] := D_Net_every_line.bindsN (ps := ["self"]) fun _ _ _ _ _ _ us hl => match us, hl with | [_], _ => rfl
  have v_Net_every_line_1 : Vals [] [] := .nil
  obtain ⟨fd_both, F_both, D_both⟩ := ok_both (P := P) (w := w) (base := base) Xh G c
  have b_both_2 : Binds K fd_both _ [] := D_both.bindsN (ps := ["one", "two"]) fun _ _ _ _ _ _ us hl => match us, hl with | [_, _], _ => rfl
  have v_both_2 : Vals [] [] := .nil
  obtain ⟨fd_lot_worths, F_lot_worths, D_lot_worths⟩ := ok_lot_worths (P := P) (w := w) (base := base) Xh G c
  have b_lot_worths_4 : Binds K fd_lot_worths _ [] := D_lot_worths.bindsN (ps := ["net", "spot", "lot", "falling"]) fun _ _ _ _ _ _ us hl => match us, hl with | [_, _, _, _], _ => rfl
  have v_lot_worths_4 : Vals [] [] := .nil
  refine ⟨fd, fnV_of F sc_worth_table fun cdv A outer s H E hr tk => ?_, F⟩
  have hu := VL.hu_of hr
  have hu0 := VL.hu_of0 hr
  apply Exists.intro
  constructor
  · exact (pss_cons (ps_set sc_worth_table.nd (i := 3) rfl (by first | exact Or.inl rfl | exact Or.inr rfl) (pe_callTy (r := r1' (rTupleA K)) call_tupleA rfl f_tuple boot_tuple (pa_cons (pe_lc rfl sc_worth_table.nd (pi_range1 rfl f_range (pa_cons (pe_fldK K rfl (pv 0) rfl) pa_nil)) (blkOk_by (own := [("switch", 7)]) (by kernel_rfl)) (fun _ _ _ _ _ => (pg_name sc_worth_table.nd (i := 7) rfl (by first | exact Or.inl rfl | exact Or.inr rfl))) (fun _ _ _ _ _ => pts_nil) (fun _ _ _ _ _ => pe_non)) pa_nil)))
    (pss_cons (ps_set sc_worth_table.nd (i := 4) rfl (by first | exact Or.inl rfl | exact Or.inr rfl) pe_dnewT)
    (pss_cons (ps_for (passes_of rfl) rfl (pi_seqK K rfl (pe_revLK K rfl (pe_callSD F_small_lots (hr.mono (by decide)) rfl g_small_lots D_small_lots.kp b_small_lots_2 v_small_lots_2 (fun σ => passAt tk σ) (pa_cons (pe_callB (r := r1' (rLenA K)) call_lenA rfl f_len boot_len (pa_cons (pe_fldK K rfl (pv 0) rfl) pa_nil)) (pa_cons (pv 2) pa_nil))))) (pg_name sc_worth_table.nd (i := 5) rfl (by first | exact Or.inl rfl | exact Or.inr rfl)) (pss_cons (ps_setLc rfl sc_worth_table.nd (i := 6) rfl rfl (sw_true rfl rfl rfl (by rfl)) (pi_seqK K rfl (pe_prop (pv 0) c_Net p_Net_every_line F_Net_every_line (hr.mono (by decide)) b_Net_every_line_1 .nil (pass00 rfl rfl) rfl)) (blkOk_by (own := [("line", 8)]) (by kernel_rfl)) (fun _ _ _ _ _ => (pg_name sc_worth_table.nd (i := 8) rfl (by first | exact Or.inl rfl | exact Or.inr rfl))) (fun _ _ _ _ _ => pts_nil) (fun _ _ _ _ _ => (pe_tup (pa_cons (pe_cmpR op_lt (pe_callB (r := r1' (rLenA K)) call_lenA rfl f_len boot_len (pa_cons (pv 5) pa_nil)) (pv 2) (nomark _)) (pa_cons (pe_bmK K rfl PySem.F.plainAttrs_dict PySem.F.slot_dict_get PySem.F.type_dict_get (mt_get hu) (pv 4) (pa_cons (pe_callSD F_both (hr.mono (by decide)) rfl g_both D_both.kp b_both_2 v_both_2 (fun σ => passAt takes0 σ) (pa_cons (pv 5) (pa_cons (pe_tup (pa_cons (pv 8) pa_nil)) pa_nil))) (pa_cons (pv 3) pa_nil))) pa_nil)))))
    (pss_one (ps_asg (pe_callSD F_lot_worths (hr.mono (by decide)) rfl g_lot_worths D_lot_worths.kp b_lot_worths_4 v_lot_worths_4 (fun σ => passAt tk σ) (pa_cons (pv 0) (pa_cons (pv 1) (pa_cons (pv 5) (pa_cons (pv 6) pa_nil))))) (pg_sub (pv 4) (pv 5) (set_any hu))))))
    (pss_one (ps_ret (pv 4))))))
  · exact (sndS_seq (sndS_asg (snd_call pr_tuple (sndA_c (sndO_t (snd_lc (by decide) (sndI_rng1 (sndA_c (sndO_t (snd_fld a_Net_size sndO_v)) sndA_nil)) sndG_name sndT_yes (snd_c fun _ _ => rfl))) sndA_nil)) sndG_name)
    (sndS_seq (sndS_asg snd_dnewT sndG_name)
    (sndS_seq (sndS_for (sndI_seq (snd_rev (sndO_t (snd_user (fun _ _ => rfl) (sndA_c (sndO_t (snd_call pr_len (sndA_c (sndO_t (snd_fld a_Net_lines sndO_v)) sndA_nil))) (sndA_c sndO_v sndA_nil)))))) sndG_name (sndS_seq (sndS_asg (snd_lc (by decide) (sndI_seq (snd_prop sndO_v)) sndG_name sndT_yes (snd_tup (sndA_c (sndO_t (snd_op pr_lt (sndO_t (snd_call pr_len (sndA_c sndO_v sndA_nil))) sndO_v)) (sndA_c (sndO_t (snd_meth pm_get sndO_v (sndA_c (sndO_t (snd_user (fun _ _ => rfl) (sndA_c sndO_v (sndA_c (sndO_t (snd_tup (sndA_c sndO_v sndA_nil))) sndA_nil)))) (sndA_c sndO_v sndA_nil)))) sndA_nil)))) sndG_name)
    (sndS_asg (snd_user (fun _ _ => rfl) (sndA_c sndO_v (sndA_c sndO_v (sndA_c sndO_v (sndA_c sndO_v sndA_nil))))) (sndG_sub set_ok sndO_v))))
    (sndS_ret snd_move))))
/-! WorthX_initX -/
theorem sc_WorthX_initX : FnScope ["self", "net", "house", "falls"] ["self", "net", "house", "falls"] (defScope s_WorthX_initX) := ⟨rfl, rfl, rfl, by decide +kernel, rfl, by decide +kernel, by decide +kernel⟩
def m_WorthX_initX : M Fl :=
  (thn' (sDrop (usr false run_check_house_falls [] (ac (mv 1) (ac (mv 2) (ac (mv 3) an)))))
  (thn' (sPutF "Worth" "net" 0 (mVar 1))
  (thn' (sPutF "Worth" "house" 0 (mVar 2))
  (thn' (sPutF "Worth" "most" 0 (mVar 3))
  (sPutF "Worth" "by_lot" 0 (usr false run_worth_table [] (ac (mv 1) (ac (tm (o2 pIx (tm (mFld "Net" "houses" (mv 1))) (mv 2))) (ac (mv 3) an)))))))))
def run_WorthX_initX : List D → FR := runF 4 4 true m_WorthX_initX
theorem ok_WorthX_initX {P : Program} {w : World} {K : PySem.W.Frag} {mg : Str → Option Value} {base h : Heap} (Xh : K.In h) (G : h.Ns mainGlobals mg) (c : SaysP fa fn pn ex K) :
    ∃ fd, FnOk P w K mg base (L2.CX P w) 6 (He.fAd K d_WorthX_initX.at_) fd ["self", "net", "house", "falls"] (spV K (He.ga K) true run_WorthX_initX) ∧ FunD K d_WorthX_initX.name d_WorthX_initX.qual d_WorthX_initX.params d_WorthX_initX.body d_WorthX_initX.scope (d_WorthX_initX.dvs K) (d_WorthX_initX.kws K) (He.fAd K d_WorthX_initX.at_) fd := by
  obtain ⟨fd, F⟩ := c.d.def_ 12 (d := d_WorthX_initX) rfl
  have g_check_house_falls : mg "check_house_falls" = some (.ref (He.ga K "check_house_falls")) := He.glo_ok Xh G (c.d.fact 13 (f := .glo "check_house_falls") rfl)
  have g_worth_table : mg "worth_table" = some (.ref (He.ga K "worth_table")) := He.glo_ok Xh G (c.d.fact 17 (f := .glo "worth_table") rfl)
  have c_Net : Cls K (He.ga K "Net") := He.cls_ok (c.d.fact 62 (f := .cls "Net") rfl)
  have c_Worth : Cls K (He.ga K "Worth") := He.cls_ok (c.d.fact 52 (f := .cls "Worth") rfl)
  have a_Net_houses : FldOk K (He.ga K) "Net" "houses" := ⟨c_Net, He.noat_ok (c.d.fact 66 (f := .noat "Net" "houses") rfl)⟩
  have a_Worth_by_lot : FldOk K (He.ga K) "Worth" "by_lot" := ⟨c_Worth, He.noat_ok (c.d.fact 57 (f := .noat "Worth" "by_lot") rfl)⟩
  have a_Worth_house : FldOk K (He.ga K) "Worth" "house" := ⟨c_Worth, He.noat_ok (c.d.fact 55 (f := .noat "Worth" "house") rfl)⟩
  have a_Worth_most : FldOk K (He.ga K) "Worth" "most" := ⟨c_Worth, He.noat_ok (c.d.fact 56 (f := .noat "Worth" "most") rfl)⟩
  have a_Worth_net : FldOk K (He.ga K) "Worth" "net" := ⟨c_Worth, He.noat_ok (c.d.fact 54 (f := .noat "Worth" "net") rfl)⟩
  obtain ⟨fd_check_house_falls, F_check_house_falls, D_check_house_falls⟩ := ok_check_house_falls (P := P) (w := w) (base := base) Xh G c
  have b_check_house_falls_3 : Binds K fd_check_house_falls _ [] := D_check_house_falls.bindsN (ps := ["net", "house", "falls"]) fun _ _ _ _ _ _ us hl => match us, hl with | [_, _, _], _ => rfl
  have v_check_house_falls_3 : Vals [] [] := .nil
  obtain ⟨fd_worth_table, F_worth_table, D_worth_table⟩ := ok_worth_table (P := P) (w := w) (base := base) Xh G c
  have b_worth_table_3 : Binds K fd_worth_table _ [] := D_worth_table.bindsN (ps := ["net", "spot", "most"]) fun _ _ _ _ _ _ us hl => match us, hl with | [_, _, _], _ => rfl
  have v_worth_table_3 : Vals [] [] := .nil
  refine ⟨fd, fnV_of F sc_WorthX_initX fun cdv A outer s H E hr tk => ?_, F⟩
  have hu := VL.hu_of hr
  have hu0 := VL.hu_of0 hr
  apply Exists.intro
  constructor
  · exact (pss_cons (ps_expr (pe_callSD F_check_house_falls (hr.mono (by decide)) rfl g_check_house_falls D_check_house_falls.kp b_check_house_falls_3 v_check_house_falls_3 (fun σ => passAt tk σ) (pa_cons (pv 1) (pa_cons (pv 2) (pa_cons (pv 3) pa_nil)))))
    (pss_cons (ps_fld (pv 0) (pv 1) rfl)
    (pss_cons (ps_fld (pv 0) (pv 2) rfl)
    (pss_cons (ps_fld (pv 0) (pv 3) rfl)
    (pss_one (ps_fld (pv 0) (pe_callSD F_worth_table (hr.mono (by decide)) rfl g_worth_table D_worth_table.kp b_worth_table_3 v_worth_table_3 (fun σ => passAt tk σ) (pa_cons (pv 1) (pa_cons (pe_ix (r := rIxA K) (ix_any hu) (pe_fldK K rfl (pv 1) rfl) (pv 2) (fun _ _ => rfl)) (pa_cons (pv 3) pa_nil)))) rfl))))))
  · exact (sndS_seq (sndS_drop (snd_user (fun _ _ => rfl) (sndA_c sndO_v (sndA_c sndO_v (sndA_c sndO_v sndA_nil)))))
    (sndS_seq (sndS_fld a_Worth_net snd_var)
    (sndS_seq (sndS_fld a_Worth_house snd_var)
    (sndS_seq (sndS_fld a_Worth_most snd_var)
    (sndS_fld a_Worth_by_lot (snd_user (fun _ _ => rfl) (sndA_c sndO_v (sndA_c (sndO_t (snd_op pr_ix (sndO_t (snd_fld a_Net_houses sndO_v)) sndO_v)) (sndA_c sndO_v sndA_nil)))))))))
/-! _law_due -/
theorem sc__law_due : FnScope ["long", "arms", "cap", "far"] ["long", "arms", "cap", "far"] (defScope s__law_due) := ⟨rfl, rfl, rfl, by decide +kernel, rfl, by decide +kernel, by decide +kernel⟩
def m__law_due : M Fl :=
  (thn' (sIf (mOr (mb (o2 pEq (mv 3) (tm (cst (.int 0))))) (mb (o2 pEq (mv 2) (tm (cst (.int 0))))))
  (sRet (mMove 3))
  (ret .next))
  (thn' (sIf (mAnd (mb (o2 pEq (mv 0) (tm (cst (.int 1))))) (mb (o2 pLt (mv 2) (mv 1))))
  (sRet (cst (.int 1)))
  (ret .next))
  (thn' (sIf (mAnd (mb (o2 pGt (mv 0) (tm (cst (.int 1))))) (mAnd (mb (o2 pEq (mv 2) (tm (cst (.int 1))))) (mb (o2 pGt (mv 1) (tm (cst (.int 1)))))))
  (sRet (o2 (ii fun i j => sI (i - j)) (tm (o2 pAdd (mv 3) (tm (o2 pMul (tm (cst (.int 2))) (mv 0))))) (tm (cst (.int 2)))))
  (ret .next))
  (sRet (cst .non)))))
def run__law_due : List D → FR := runF 4 4 false m__law_due
theorem ok__law_due {P : Program} {w : World} {K : PySem.W.Frag} {mg : Str → Option Value} {base h : Heap} (Xh : K.In h) (G : h.Ns mainGlobals mg) (c : SaysP fa fn pn ex K) :
    ∃ fd, FnOk P w K mg base (L2.CX P w) 1 (He.fAd K d__law_due.at_) fd ["long", "arms", "cap", "far"] (spV K (He.ga K) false run__law_due) ∧ FunD K d__law_due.name d__law_due.qual d__law_due.params d__law_due.body d__law_due.scope (d__law_due.dvs K) (d__law_due.kws K) (He.fAd K d__law_due.at_) fd := by
  obtain ⟨fd, F⟩ := c.d.def_ 31 (d := d__law_due) rfl
  refine ⟨fd, fnV_of F sc__law_due fun cdv A outer s H E hr tk => ?_, F⟩
  have hu := VL.hu_of hr
  have hu0 := VL.hu_of0 hr
  apply Exists.intro
  constructor
  · exact (pss_cons (ps_if (PW.pt (pw_or (pt_cmpR (r := rEqD K) (op_eqD hu0) (pv 3) pe_int (nomark _)) (pw_or1 (pt_cmpR (r := rEqD K) (op_eqD hu0) (pv 2) pe_int (nomark _))))) (pss_one (ps_ret (pv 3))) pss_nil)
    (pss_cons (ps_if (PW.pt (pw_and (pt_cmpR (r := rEqD K) (op_eqD hu0) (pv 0) pe_int (nomark _)) (pw_and1 (pt_cmpR op_lt (pv 2) (pv 1) (nomark _))))) (pss_one (ps_ret pe_int)) pss_nil)
    (pss_cons (ps_if (PW.pt (pw_and (pt_cmpR op_gt (pv 0) pe_int (nomark _)) (pw_and (pt_cmpR (r := rEqD K) (op_eqD hu0) (pv 2) pe_int (nomark _)) (pw_and1 (pt_cmpR op_gt (pv 1) pe_int (nomark _)))))) (pss_one (ps_ret (pe_op op_sub (pe_op (r := VL.rAdd K) op_addV (pv 3) (pe_op op_mulV pe_int (pv 0))) pe_int))) pss_nil)
    (pss_one (ps_ret pe_non)))))
  · exact (sndS_seq (sndS_if (sndT_or (sndT_tst (snd_op pr_eq sndO_v (sndO_t (snd_c fun _ _ => rfl)))) (sndT_tst (snd_op pr_eq sndO_v (sndO_t (snd_c fun _ _ => rfl))))) (sndS_ret snd_move) sndS_nil)
    (sndS_seq (sndS_if (sndT_and (sndT_tst (snd_op pr_eq sndO_v (sndO_t (snd_c fun _ _ => rfl)))) (sndT_tst (snd_op pr_lt sndO_v sndO_v))) (sndS_ret (snd_c fun _ _ => rfl)) sndS_nil)
    (sndS_seq (sndS_if (sndT_and (sndT_tst (snd_op pr_gt sndO_v (sndO_t (snd_c fun _ _ => rfl)))) (sndT_and (sndT_tst (snd_op pr_eq sndO_v (sndO_t (snd_c fun _ _ => rfl)))) (sndT_tst (snd_op pr_gt sndO_v (sndO_t (snd_c fun _ _ => rfl)))))) (sndS_ret (snd_op pr_sub (sndO_t (snd_op pr_add sndO_v (sndO_t (snd_op pr_mul (sndO_t (snd_c fun _ _ => rfl)) sndO_v)))) (sndO_t (snd_c fun _ _ => rfl)))) sndS_nil)
    (sndS_ret (snd_c fun _ _ => rfl)))))
/-! _law_int -/
theorem sc__law_int : FnScope ["value"] ["value"] (defScope s__law_int) := ⟨rfl, rfl, rfl, by decide +kernel, rfl, by decide +kernel, by decide +kernel⟩
def m__law_int : M Fl :=
  (sRet (mAndV (o1 (pIsi ["int"]) (mv 0)) (mNotV (o1 (pIsi ["bool"]) (mv 0)))))
def run__law_int : List D → FR := runF 1 1 false m__law_int
theorem ok__law_int {P : Program} {w : World} {K : PySem.W.Frag} {mg : Str → Option Value} {base h : Heap} (Xh : K.In h) (G : h.Ns mainGlobals mg) (c : SaysP fa fn pn ex K) :
    ∃ fd, FnOk P w K mg base (L2.CX P w) 1 (He.fAd K d__law_int.at_) fd ["value"] (spV K (He.ga K) false run__law_int) ∧ FunD K d__law_int.name d__law_int.qual d__law_int.params d__law_int.body d__law_int.scope (d__law_int.dvs K) (d__law_int.kws K) (He.fAd K d__law_int.at_) fd := by
  obtain ⟨fd, F⟩ := c.d.def_ 28 (d := d__law_int) rfl
  have f_bool : mg "bool" = none := He.free_ok Xh G (c.d.fact 35 (f := .free "bool") rfl)
  have f_int : mg "int" = none := He.free_ok Xh G (c.d.fact 36 (f := .free "int") rfl)
  have f_isinstance : mg "isinstance" = none := He.free_ok Xh G (c.d.fact 37 (f := .free "isinstance") rfl)
  refine ⟨fd, fnV_of F sc__law_int fun cdv A outer s H E hr tk => ?_, F⟩
  have hu := VL.hu_of hr
  have hu0 := VL.hu_of0 hr
  apply Exists.intro
  constructor
  · exact (pss_one (ps_ret (pe_and (pe_callB (r := rIsi K) call_isi rfl f_isinstance boot_isinstance (pa_cons (pv 0) (pa_cons (pe_bltn (v := .ty "int") rfl f_int boot_int rfl) pa_nil))) (pe_one (pe_not (pe_callB (r := rIsi K) call_isi rfl f_isinstance boot_isinstance (pa_cons (pv 0) (pa_cons (pe_bltn (v := .ty "bool") rfl f_bool boot_bool rfl) pa_nil))))))))
  · exact (sndS_ret (snd_andV (snd_isi (by decide +kernel) sndO_v) (snd_notV (snd_isi (by decide +kernel) sndO_v))))
/-! _law_same -/
theorem sc__law_same : FnScope ["told", "due"] ["told", "due"] (defScope s__law_same) := ⟨rfl, rfl, rfl, by decide +kernel, rfl, by decide +kernel, by decide +kernel⟩
def m__law_same : M Fl :=
  (thn' (sIf (mb (o2 pIs (mv 1) (tm (cst .non))))
  (sRet (o2 pIs (mv 0) (tm (cst .non))))
  (ret .next))
  (sRet (mAndV (usr false run__law_int [] (ac (mv 0) an)) (o2 pEq (mv 0) (mv 1)))))
def run__law_same : List D → FR := runF 2 2 false m__law_same
theorem ok__law_same {P : Program} {w : World} {K : PySem.W.Frag} {mg : Str → Option Value} {base h : Heap} (Xh : K.In h) (G : h.Ns mainGlobals mg) (c : SaysP fa fn pn ex K) :
    ∃ fd, FnOk P w K mg base (L2.CX P w) 2 (He.fAd K d__law_same.at_) fd ["told", "due"] (spV K (He.ga K) false run__law_same) ∧ FunD K d__law_same.name d__law_same.qual d__law_same.params d__law_same.body d__law_same.scope (d__law_same.dvs K) (d__law_same.kws K) (He.fAd K d__law_same.at_) fd := by
  obtain ⟨fd, F⟩ := c.d.def_ 32 (d := d__law_same) rfl
  have g__law_int : mg "_law_int" = some (.ref (He.ga K "_law_int")) := He.glo_ok Xh G (c.d.fact 26 (f := .glo "_law_int") rfl)
  obtain ⟨fd__law_int, F__law_int, D__law_int⟩ := ok__law_int (P := P) (w := w) (base := base) Xh G c
  have b__law_int_1 : Binds K fd__law_int _ [] := D__law_int.bindsN (ps := ["value"]) fun _ _ _ _ _ _ us hl => match us, hl with | [_], _ => rfl
  have v__law_int_1 : Vals [] [] := .nil
  refine ⟨fd, fnV_of F sc__law_same fun cdv A outer s H E hr tk => ?_, F⟩
  have hu := VL.hu_of hr
  have hu0 := VL.hu_of0 hr
  apply Exists.intro
  constructor
  · exact (pss_cons (ps_if (pt_cmpR op_isV (pv 1) pe_non (nomark _)) (pss_one (ps_ret (pe_cmpR op_isV (pv 0) pe_non (nomark _)))) pss_nil)
    (pss_one (ps_ret (pe_and (pe_callSD F__law_int (hr.mono (by decide)) rfl g__law_int D__law_int.kp b__law_int_1 v__law_int_1 (fun σ => passAt tk σ) (pa_cons (pv 0) pa_nil)) (pe_one (pe_cmpR (r := rEqD K) (op_eqD hu0) (pv 0) (pv 1) (nomark _)))))))
  · exact (sndS_seq (sndS_if (sndT_tst (snd_op pr_is sndO_v (sndO_t (snd_c fun _ _ => rfl)))) (sndS_ret (snd_op pr_is sndO_v (sndO_t (snd_c fun _ _ => rfl)))) sndS_nil)
    (sndS_ret (snd_andV (snd_user (fun _ _ => rfl) (sndA_c sndO_v sndA_nil)) (snd_op pr_eq sndO_v sndO_v))))
/-! lot_of -/
theorem sc_lot_of : FnScope ["name", "value", "many", "met", "part"] ["name", "value", "many"] (defScope s_lot_of) := ⟨rfl, rfl, rfl, by decide +kernel, rfl, by decide +kernel, by decide +kernel⟩
def l_lot_of_1 : M Fl := (sFor (mSeq (mVar 1)) (setS 4)
  (thn' (sIf (mOr (mNot (mb (usr false run_is_int [] (ac (mv 4) an)))) (mOr (mb (o2 pLt (mv 4) (tm (cst (.int 0))))) (mOr (mb (o2 pGe (mv 4) (mv 2))) (mb (o2 pIn (mv 4) (mv 3))))))
  sNever
  (ret .next))
  (sAsg (cst (.bl true)) (setSub 3 (mv 4) setF))))
def m_lot_of : M Fl :=
  (thn' (sIf (mNot (mb (usr false run_is_row_like [] (ac (mv 1) an))))
  sNever
  (ret .next))
  (thn' (sAsg (ret (.ow (.dic [] []))) (setS 3))
  (thn' l_lot_of_1
  (sRet (cb pTuple (ac (tm (cb pSorted (ac (tm (cb pList (ac (mv 3) an))) an))) an))))))
def run_lot_of : List D → FR := runF 3 5 false m_lot_of
theorem ok_lot_of {P : Program} {w : World} {K : PySem.W.Frag} {mg : Str → Option Value} {base h : Heap} (Xh : K.In h) (G : h.Ns mainGlobals mg) (c : SaysP fa fn pn ex K) :
    ∃ fd, FnOk P w K mg base (L2.CX P w) 2 (He.fAd K d_lot_of.at_) fd ["name", "value", "many"] (spV K (He.ga K) false run_lot_of) ∧ FunD K d_lot_of.name d_lot_of.qual d_lot_of.params d_lot_of.body d_lot_of.scope (d_lot_of.dvs K) (d_lot_of.kws K) (He.fAd K d_lot_of.at_) fd := by
  obtain ⟨fd, F⟩ := c.d.def_ 3 (d := d_lot_of) rfl
  have f_list : mg "list" = none := He.free_ok Xh G (c.d.fact 39 (f := .free "list") rfl)
  have f_sorted : mg "sorted" = none := He.free_ok Xh G (c.d.fact 44 (f := .free "sorted") rfl)
  have f_tuple : mg "tuple" = none := He.free_ok Xh G (c.d.fact 45 (f := .free "tuple") rfl)
  have g_is_int : mg "is_int" = some (.ref (He.ga K "is_int")) := He.glo_ok Xh G (c.d.fact 6 (f := .glo "is_int") rfl)
  have g_is_row_like : mg "is_row_like" = some (.ref (He.ga K "is_row_like")) := He.glo_ok Xh G (c.d.fact 7 (f := .glo "is_row_like") rfl)
  obtain ⟨fd_is_row_like, F_is_row_like, D_is_row_like⟩ := ok_is_row_like (P := P) (w := w) (base := base) Xh G c
  have b_is_row_like_1 : Binds K fd_is_row_like _ [] := D_is_row_like.bindsN (ps := ["value"]) fun _ _ _ _ _ _ us hl => match us, hl with | [_], _ => rfl
  have v_is_row_like_1 : Vals [] [] := .nil
  obtain ⟨fd_is_int, F_is_int, D_is_int⟩ := ok_is_int (P := P) (w := w) (base := base) Xh G c
  have b_is_int_1 : Binds K fd_is_int _ [] := D_is_int.bindsN (ps := ["value"]) fun _ _ _ _ _ _ us hl => match us, hl with | [_], _ => rfl
  have v_is_int_1 : Vals [] [] := .nil
  refine ⟨fd, fnV_of F sc_lot_of fun cdv A outer s H E hr tk => ?_, F⟩
  have hu := VL.hu_of hr
  have hu0 := VL.hu_of0 hr
  apply Exists.intro
  constructor
  · exact (pss_cons (ps_if (pt_not (pt_val (pe_callSD F_is_row_like (hr.mono (by decide)) rfl g_is_row_like D_is_row_like.kp b_is_row_like_1 v_is_row_like_1 (fun σ => passAt tk σ) (pa_cons (pv 1) pa_nil)))) (pss_one ps_never) pss_nil)
    (pss_cons (ps_set sc_lot_of.nd (i := 3) rfl (by first | exact Or.inl rfl | exact Or.inr rfl) pe_dnewK)
    (pss_cons (ps_for (passes_of rfl) rfl (pi_seqK K rfl (pv 1)) (pg_name sc_lot_of.nd (i := 4) rfl (by first | exact Or.inl rfl | exact Or.inr rfl)) (pss_cons (ps_if (PW.pt (pw_or (pt_not (pt_val (pe_callSD F_is_int (hr.mono (by decide)) rfl g_is_int D_is_int.kp b_is_int_1 v_is_int_1 (fun σ => passAt tk σ) (pa_cons (pv 4) pa_nil)))) (pw_or (pt_cmpR op_lt (pv 4) pe_int (nomark _)) (pw_or (pt_cmpR op_ge (pv 4) (pv 2) (nomark _)) (pw_or1 (pt_cmpR (r := rInA K false) (op_inA hu) (pv 4) (pv 3) (by rfl))))))) (pss_one ps_never) pss_nil)
    (pss_one (ps_asg pe_bl (pg_sub (pv 3) (pv 4) (set_any hu))))))
    (pss_one (ps_ret (pe_callTy (r := r1' (rTupleA K)) call_tupleA rfl f_tuple boot_tuple (pa_cons (pe_callB (r := rSorted K) cr_sorted rfl f_sorted boot_sorted (pa_cons (pe_callTy (r := r1' (rListA K)) (call_listA rfl) rfl f_list boot_list (pa_cons (pv 3) pa_nil)) pa_nil)) pa_nil)))))))
  · exact (sndS_seq (sndS_if (sndT_not (sndT_b (snd_user (fun _ _ => rfl) (sndA_c sndO_v sndA_nil)))) sndS_never sndS_nil)
    (sndS_seq (sndS_asg snd_dnewK sndG_name)
    (sndS_seq (sndS_for (sndI_seq snd_var) sndG_name (sndS_seq (sndS_if (sndT_or (sndT_not (sndT_b (snd_user (fun _ _ => rfl) (sndA_c sndO_v sndA_nil)))) (sndT_or (sndT_tst (snd_op pr_lt sndO_v (sndO_t (snd_c fun _ _ => rfl)))) (sndT_or (sndT_tst (snd_op pr_ge sndO_v sndO_v)) (sndT_tst (snd_op pr_in sndO_v sndO_v))))) sndS_never sndS_nil)
    (sndS_asg (snd_c fun _ _ => rfl) (sndG_sub set_ok sndO_v))))
    (sndS_ret (snd_call pr_tuple (sndA_c (sndO_t (snd_call pr_sorted (sndA_c (sndO_t (snd_call pr_list (sndA_c sndO_v sndA_nil))) sndA_nil))) sndA_nil))))))
/-! Worth_known_lot -/
theorem sc_Worth_known_lot : FnScope ["self", "lines", "lot"] ["self", "lines"] (defScope s_Worth_known_lot) := ⟨rfl, rfl, rfl, by decide +kernel, rfl, by decide +kernel, by decide +kernel⟩
def m_Worth_known_lot : M Fl :=
  (thn' (sAsg (usr false run_lot_of [] (ac (tm (cst (.str "lines"))) (ac (mv 1) (ac (tm (cb pLen (ac (tm (mFld "Net" "lines" (tm (mFld "Worth" "net" (mv 0))))) an))) an)))) (setS 2))
  (thn' (sIf (mb (o2 pGt (tm (cb pLen (ac (mv 2) an))) (tm (mFld "Worth" "most" (mv 0)))))
  sNever
  (ret .next))
  (sRet (mMove 2))))
def run_Worth_known_lot : List D → FR := runF 2 3 false m_Worth_known_lot
theorem ok_Worth_known_lot {P : Program} {w : World} {K : PySem.W.Frag} {mg : Str → Option Value} {base h : Heap} (Xh : K.In h) (G : h.Ns mainGlobals mg) (c : SaysP fa fn pn ex K) :
    ∃ fd, FnOk P w K mg base (L2.CX P w) 3 (He.fAd K d_Worth_known_lot.at_) fd ["self", "lines"] (spV K (He.ga K) false run_Worth_known_lot) ∧ FunD K d_Worth_known_lot.name d_Worth_known_lot.qual d_Worth_known_lot.params d_Worth_known_lot.body d_Worth_known_lot.scope (d_Worth_known_lot.dvs K) (d_Worth_known_lot.kws K) (He.fAd K d_Worth_known_lot.at_) fd := by
  obtain ⟨fd, F⟩ := c.d.def_ 13 (d := d_Worth_known_lot) rfl
  have f_len : mg "len" = none := He.free_ok Xh G (c.d.fact 38 (f := .free "len") rfl)
  have g_lot_of : mg "lot_of" = some (.ref (He.ga K "lot_of")) := He.glo_ok Xh G (c.d.fact 9 (f := .glo "lot_of") rfl)
  have c_Net : Cls K (He.ga K "Net") := He.cls_ok (c.d.fact 62 (f := .cls "Net") rfl)
  have c_Worth : Cls K (He.ga K "Worth") := He.cls_ok (c.d.fact 52 (f := .cls "Worth") rfl)
  have a_Net_lines : FldOk K (He.ga K) "Net" "lines" := ⟨c_Net, He.noat_ok (c.d.fact 65 (f := .noat "Net" "lines") rfl)⟩
  have a_Worth_most : FldOk K (He.ga K) "Worth" "most" := ⟨c_Worth, He.noat_ok (c.d.fact 56 (f := .noat "Worth" "most") rfl)⟩
  have a_Worth_net : FldOk K (He.ga K) "Worth" "net" := ⟨c_Worth, He.noat_ok (c.d.fact 54 (f := .noat "Worth" "net") rfl)⟩
  obtain ⟨fd_lot_of, F_lot_of, D_lot_of⟩ := ok_lot_of (P := P) (w := w) (base := base) Xh G c
  have b_lot_of_3 : Binds K fd_lot_of _ [] := D_lot_of.bindsN (ps := ["name", "value", "many"]) fun _ _ _ _ _ _ us hl => match us, hl with | [_, _, _], _ => rfl
  have v_lot_of_3 : Vals [] [] := .nil
  refine ⟨fd, fnV_of F sc_Worth_known_lot fun cdv A outer s H E hr tk => ?_, F⟩
  have hu := VL.hu_of hr
  have hu0 := VL.hu_of0 hr
  apply Exists.intro
  constructor
  · exact (pss_cons (ps_set sc_Worth_known_lot.nd (i := 2) rfl (by first | exact Or.inl rfl | exact Or.inr rfl) (pe_callSD F_lot_of (hr.mono (by decide)) rfl g_lot_of D_lot_of.kp b_lot_of_3 v_lot_of_3 (fun σ => passAt tk σ) (pa_cons pe_str (pa_cons (pv 1) (pa_cons (pe_callB (r := r1' (rLenA K)) call_lenA rfl f_len boot_len (pa_cons (pe_fldK K rfl (pe_fldK K rfl (pv 0) rfl) rfl) pa_nil)) pa_nil)))))
    (pss_cons (ps_if (pt_cmpR op_gt (pe_callB (r := r1' (rLenA K)) call_lenA rfl f_len boot_len (pa_cons (pv 2) pa_nil)) (pe_fldK K rfl (pv 0) rfl) (nomark _)) (pss_one ps_never) pss_nil)
    (pss_one (ps_ret (pv 2)))))
  · exact (sndS_seq (sndS_asg (snd_user (fun _ _ => rfl) (sndA_c (sndO_t (snd_c fun _ _ => rfl)) (sndA_c sndO_v (sndA_c (sndO_t (snd_call pr_len (sndA_c (sndO_t (snd_fld a_Net_lines (sndO_t (snd_fld a_Worth_net sndO_v)))) sndA_nil))) sndA_nil)))) sndG_name)
    (sndS_seq (sndS_if (sndT_tst (snd_op pr_gt (sndO_t (snd_call pr_len (sndA_c sndO_v sndA_nil))) (sndO_t (snd_fld a_Worth_most sndO_v)))) sndS_never sndS_nil)
    (sndS_ret snd_move)))
/-! WorthX_callX -/
theorem sc_WorthX_callX : FnScope ["self", "switch", "lines"] ["self", "switch", "lines"] (defScope s_WorthX_callX) := ⟨rfl, rfl, rfl, by decide +kernel, rfl, by decide +kernel, by decide +kernel⟩
def x_WorthX_callX_1 : M Slot := (mMethS "Worth" "known_lot" run_Worth_known_lot [] (mv 0) (ac (mv 2) an))
def m_WorthX_callX : M Fl :=
  (thn' (sDrop (usr false run_check_number [] (ac (tm (cst (.str "switch"))) (ac (mv 1) (ac (tm (cst (.int 0))) (ac (tm (o2 (ii fun i j => sI (i - j)) (tm (mFld "Net" "size" (tm (mFld "Worth" "net" (mv 0))))) (tm (cst (.int 1))))) an))))))
  (sRet (o2 pIx (tm (o2 pIx (tm (mFld "Worth" "by_lot" (mv 0))) (tm x_WorthX_callX_1))) (mv 1))))
def run_WorthX_callX : List D → FR := runF 3 3 false m_WorthX_callX
theorem ok_WorthX_callX {P : Program} {w : World} {K : PySem.W.Frag} {mg : Str → Option Value} {base h : Heap} (Xh : K.In h) (G : h.Ns mainGlobals mg) (c : SaysP fa fn pn ex K) :
    ∃ fd, FnOk P w K mg base (L2.CX P w) 4 (He.fAd K d_WorthX_callX.at_) fd ["self", "switch", "lines"] (spV K (He.ga K) false run_WorthX_callX) ∧ FunD K d_WorthX_callX.name d_WorthX_callX.qual d_WorthX_callX.params d_WorthX_callX.body d_WorthX_callX.scope (d_WorthX_callX.dvs K) (d_WorthX_callX.kws K) (He.fAd K d_WorthX_callX.at_) fd := by
  obtain ⟨fd, F⟩ := c.d.def_ 14 (d := d_WorthX_callX) rfl
  have g_check_number : mg "check_number" = some (.ref (He.ga K "check_number")) := He.glo_ok Xh G (c.d.fact 8 (f := .glo "check_number") rfl)
  have c_Net : Cls K (He.ga K "Net") := He.cls_ok (c.d.fact 62 (f := .cls "Net") rfl)
  have c_Worth : Cls K (He.ga K "Worth") := He.cls_ok (c.d.fact 52 (f := .cls "Worth") rfl)
  have a_Net_size : FldOk K (He.ga K) "Net" "size" := ⟨c_Net, He.noat_ok (c.d.fact 64 (f := .noat "Net" "size") rfl)⟩
  have a_Worth_by_lot : FldOk K (He.ga K) "Worth" "by_lot" := ⟨c_Worth, He.noat_ok (c.d.fact 57 (f := .noat "Worth" "by_lot") rfl)⟩
  have a_Worth_net : FldOk K (He.ga K) "Worth" "net" := ⟨c_Worth, He.noat_ok (c.d.fact 54 (f := .noat "Worth" "net") rfl)⟩
  have mt_Worth_known_lot : Meth K (He.ga K "Worth") "known_lot" (He.ma K (He.ga K "Worth") "known_lot") := He.meth_ok (c.d.fact 58 (f := .meth "Worth" "known_lot") rfl)
  obtain ⟨fd_check_number, F_check_number, D_check_number⟩ := ok_check_number (P := P) (w := w) (base := base) Xh G c
  have b_check_number_4 : Binds K fd_check_number _ [] := D_check_number.bindsN (ps := ["name", "value", "low", "high"]) fun _ _ _ _ _ _ us hl => match us, hl with | [_, _, _, _], _ => rfl
  have v_check_number_4 : Vals [] [] := .nil
  obtain ⟨fd_Worth_known_lot, F_Worth_known_lot, D_Worth_known_lot⟩ := ok_Worth_known_lot (P := P) (w := w) (base := base) Xh G c
  have b_Worth_known_lot_2 : Binds K fd_Worth_known_lot _ [] := D_Worth_known_lot.bindsN (ps := ["self", "lines"]) fun _ _ _ _ _ _ us hl => match us, hl with | [_, _], _ => rfl
  have v_Worth_known_lot_2 : Vals [] [] := .nil
  refine ⟨fd, fnV_of F sc_WorthX_callX fun cdv A outer s H E hr tk => ?_, F⟩
  have hu := VL.hu_of hr
  have hu0 := VL.hu_of0 hr
  apply Exists.intro
  constructor
  · exact (pss_cons (ps_expr (pe_callSD F_check_number (hr.mono (by decide)) rfl g_check_number D_check_number.kp b_check_number_4 v_check_number_4 (fun σ => passAt tk σ) (pa_cons pe_str (pa_cons (pv 1) (pa_cons pe_int (pa_cons (pe_op op_sub (pe_fldK K rfl (pe_fldK K rfl (pv 0) rfl) rfl) pe_int) pa_nil))))))
    (pss_one (ps_ret (pe_ix (r := rIxA K) (ix_any hu) (pe_ix (r := rIxA K) (ix_any hu) (pe_fldK K rfl (pv 0) rfl) (pe_methS (pv 0) c_Worth mt_Worth_known_lot F_Worth_known_lot (hr.mono (by decide)) b_Worth_known_lot_2 v_Worth_known_lot_2 (fun σ => passAt tk σ) (pa_cons (pv 2) pa_nil)) (fun _ _ => rfl)) (pv 1) (fun _ _ => rfl)))))
  · exact (sndS_seq (sndS_drop (snd_user (fun _ _ => rfl) (sndA_c (sndO_t (snd_c fun _ _ => rfl)) (sndA_c sndO_v (sndA_c (sndO_t (snd_c fun _ _ => rfl)) (sndA_c (sndO_t (snd_op pr_sub (sndO_t (snd_fld a_Net_size (sndO_t (snd_fld a_Worth_net sndO_v)))) (sndO_t (snd_c fun _ _ => rfl)))) sndA_nil))))))
    (sndS_ret (snd_op pr_ix (sndO_t (snd_op pr_ix (sndO_t (snd_fld a_Worth_by_lot sndO_v)) (sndO_t (snd_methS (fun _ _ => rfl) sndO_v (sndA_c sndO_v sndA_nil))))) sndO_v)))
/-! Worth_best -/
theorem sc_Worth_best : FnScope ["self", "switch", "lines", "lot", "due", "line", "beyond", "may_fall", "behind"] ["self", "switch", "lines"] (defScope s_Worth_best) := ⟨rfl, rfl, rfl, by decide +kernel, rfl, by decide +kernel, by decide +kernel⟩
def x_Worth_best_1 : M Slot := (mMethS "Worth" "known_lot" run_Worth_known_lot [] (mv 0) (ac (mv 2) an))
def x_Worth_best_2 : M Slot := (mMethS "Net" "lines_at" run_Net_lines_at [] (tm (mFld "Worth" "net" (mv 0))) (ac (mv 1) an))
def x_Worth_best_3 : M Slot := (mMethS "Net" "other" run_Net_other [] (tm (mFld "Worth" "net" (mv 0))) (ac (mv 5) (ac (mv 1) an)))
def l_Worth_best_1 : M Fl := (sFor (mSeq x_Worth_best_2) (setS 5)
  (sIf (mb (o2 pNotIn (mv 5) (mv 3)))
  (thn' (sAsg (o2 pIx (tm (o2 pIx (tm (mFld "Worth" "by_lot" (mv 0))) (mv 3))) (tm x_Worth_best_3)) (setS 6))
  (thn' (sAsg (o2 pLt (tm (cb pLen (ac (mv 3) an))) (tm (mFld "Worth" "most" (mv 0)))) (setS 7))
  (thn' (sAsg (mIf (mt (mv 7)) (o2 pIx (tm (o2 pIx (tm (mFld "Worth" "by_lot" (mv 0))) (tm (usr false run_both [] (ac (mv 3) (ac (tm (mTake (ac (mv 5) an) kTup)) an)))))) (mv 1)) (cst .non)) (setS 8))
  (sIf (mb (o2 pEq (tm (usr false run_line_worth [] (ac (mv 6) (ac (mv 7) (ac (mv 8) an))))) (mv 4)))
  (sRet (mMove 5))
  (ret .next)))))
  (ret .next)))
def m_Worth_best : M Fl :=
  (thn' (sDrop (usr false run_check_number [] (ac (tm (cst (.str "switch"))) (ac (mv 1) (ac (tm (cst (.int 0))) (ac (tm (o2 (ii fun i j => sI (i - j)) (tm (mFld "Net" "size" (tm (mFld "Worth" "net" (mv 0))))) (tm (cst (.int 1))))) an))))))
  (thn' (sAsg x_Worth_best_1 (setS 3))
  (thn' (sAsg (o2 pIx (tm (o2 pIx (tm (mFld "Worth" "by_lot" (mv 0))) (mv 3))) (mv 1)) (setS 4))
  (thn' (sIf (mOr (mb (o2 pIs (mv 4) (tm (cst .non)))) (mb (o2 pEq (mv 4) (tm (cst (.int 0))))))
  (sRet (cst .non))
  (ret .next))
  (thn' l_Worth_best_1
  (sRet (cst .non)))))))
def run_Worth_best : List D → FR := runF 3 9 false m_Worth_best
theorem ok_Worth_best {P : Program} {w : World} {K : PySem.W.Frag} {mg : Str → Option Value} {base h : Heap} (Xh : K.In h) (G : h.Ns mainGlobals mg) (c : SaysP fa fn pn ex K) :
    ∃ fd, FnOk P w K mg base (L2.CX P w) 4 (He.fAd K d_Worth_best.at_) fd ["self", "switch", "lines"] (spV K (He.ga K) false run_Worth_best) ∧ FunD K d_Worth_best.name d_Worth_best.qual d_Worth_best.params d_Worth_best.body d_Worth_best.scope (d_Worth_best.dvs K) (d_Worth_best.kws K) (He.fAd K d_Worth_best.at_) fd := by
  obtain ⟨fd, F⟩ := c.d.def_ 15 (d := d_Worth_best) rfl
  have f_len : mg "len" = none := He.free_ok Xh G (c.d.fact 38 (f := .free "len") rfl)
  have g_both : mg "both" = some (.ref (He.ga K "both")) := He.glo_ok Xh G (c.d.fact 10 (f := .glo "both") rfl)
  have g_check_number : mg "check_number" = some (.ref (He.ga K "check_number")) := He.glo_ok Xh G (c.d.fact 8 (f := .glo "check_number") rfl)
  have g_line_worth : mg "line_worth" = some (.ref (He.ga K "line_worth")) := He.glo_ok Xh G (c.d.fact 15 (f := .glo "line_worth") rfl)
  have c_Net : Cls K (He.ga K "Net") := He.cls_ok (c.d.fact 62 (f := .cls "Net") rfl)
  have c_Worth : Cls K (He.ga K "Worth") := He.cls_ok (c.d.fact 52 (f := .cls "Worth") rfl)
  have a_Net_size : FldOk K (He.ga K) "Net" "size" := ⟨c_Net, He.noat_ok (c.d.fact 64 (f := .noat "Net" "size") rfl)⟩
  have a_Worth_by_lot : FldOk K (He.ga K) "Worth" "by_lot" := ⟨c_Worth, He.noat_ok (c.d.fact 57 (f := .noat "Worth" "by_lot") rfl)⟩
  have a_Worth_most : FldOk K (He.ga K) "Worth" "most" := ⟨c_Worth, He.noat_ok (c.d.fact 56 (f := .noat "Worth" "most") rfl)⟩
  have a_Worth_net : FldOk K (He.ga K) "Worth" "net" := ⟨c_Worth, He.noat_ok (c.d.fact 54 (f := .noat "Worth" "net") rfl)⟩
  have mt_Net_lines_at : Meth K (He.ga K "Net") "lines_at" (He.ma K (He.ga K "Net") "lines_at") := He.meth_ok (c.d.fact 69 (f := .meth "Net" "lines_at") rfl)
  have mt_Net_other : Meth K (He.ga K "Net") "other" (He.ma K (He.ga K "Net") "other") := He.meth_ok (c.d.fact 68 (f := .meth "Net" "other") rfl)
  have mt_Worth_known_lot : Meth K (He.ga K "Worth") "known_lot" (He.ma K (He.ga K "Worth") "known_lot") := He.meth_ok (c.d.fact 58 (f := .meth "Worth" "known_lot") rfl)
  obtain ⟨fd_check_number, F_check_number, D_check_number⟩ := ok_check_number (P := P) (w := w) (base := base) Xh G c
  have b_check_number_4 : Binds K fd_check_number _ [] := D_check_number.bindsN (ps := ["name", "value", "low", "high"]) fun _ _ _ _ _ _ us hl => match us, hl with | [_, _, _, _], _ => rfl
  have v_check_number_4 : Vals [] [] := .nil
  obtain ⟨fd_Worth_known_lot, F_Worth_known_lot, D_Worth_known_lot⟩ := ok_Worth_known_lot (P := P) (w := w) (base := base) Xh G c
  have b_Worth_known_lot_2 : Binds K fd_Worth_known_lot _ [] := D_Worth_known_lot.bindsN (ps := ["self", "lines"]) fun _ _ _ _ _ _ us hl => match us, hl with | [_, _], _ => rfl
  have v_Worth_known_lot_2 : Vals [] [] := .nil
  obtain ⟨fd_Net_lines_at, F_Net_lines_at, D_Net_lines_at⟩ := ok_Net_lines_at (P := P) (w := w) (base := base) Xh G c
  have b_Net_lines_at_2 : Binds K fd_Net_lines_at _ [] := D_Net_lines_at.bindsN (ps := ["self", "switch"]) fun _ _ _ _ _ _ us hl => match us, hl with | [_, _], _ => rfl
  have v_Net_lines_at_2 : Vals [] [] := .nil
  obtain ⟨fd_Net_other, F_Net_other, D_Net_other⟩ := ok_Net_other (P := P) (w := w) (base := base) Xh G c
  have b_Net_other_3 : Binds K fd_Net_other _ [] := D_Net_other.bindsN (ps := ["self", "line", "switch"]) fun _ _ _ _ _ _ us hl => match us, hl with | [_, _, _], _ => rfl
  have v_Net_other_3 : Vals [] [] := .nil
  obtain ⟨fd_both, F_both, D_both⟩ := ok_both (P := P) (w := w) (base := base) Xh G c
  have b_both_2 : Binds K fd_both _ [] := D_both.bindsN (ps := ["one", "two"]) fun _ _ _ _ _ _ us hl => match us, hl with | [_, _], _ => rfl
  have v_both_2 : Vals [] [] := .nil
  obtain ⟨fd_line_worth, F_line_worth, D_line_worth⟩ := ok_line_worth (P := P) (w := w) (base := base) Xh G c
  have b_line_worth_3 : Binds K fd_line_worth _ [] := D_line_worth.bindsN (ps := ["beyond", "may_fall", "behind"]) fun _ _ _ _ _ _ us hl => match us, hl with | [_, _, _], _ => rfl
  have v_line_worth_3 : Vals [] [] := .nil
  refine ⟨fd, fnV_of F sc_Worth_best fun cdv A outer s H E hr tk => ?_, F⟩
  have hu := VL.hu_of hr
  have hu0 := VL.hu_of0 hr
  apply Exists.intro
  constructor
  · exact (pss_cons (ps_expr (pe_callSD F_check_number (hr.mono (by decide)) rfl g_check_number D_check_number.kp b_check_number_4 v_check_number_4 (fun σ => passAt tk σ) (pa_cons pe_str (pa_cons (pv 1) (pa_cons pe_int (pa_cons (pe_op op_sub (pe_fldK K rfl (pe_fldK K rfl (pv 0) rfl) rfl) pe_int) pa_nil))))))
    (pss_cons (ps_set sc_Worth_best.nd (i := 3) rfl (by first | exact Or.inl rfl | exact Or.inr rfl) (pe_methS (pv 0) c_Worth mt_Worth_known_lot F_Worth_known_lot (hr.mono (by decide)) b_Worth_known_lot_2 v_Worth_known_lot_2 (fun σ => passAt tk σ) (pa_cons (pv 2) pa_nil)))
    (pss_cons (ps_set sc_Worth_best.nd (i := 4) rfl (by first | exact Or.inl rfl | exact Or.inr rfl) (pe_ix (r := rIxA K) (ix_any hu) (pe_ix (r := rIxA K) (ix_any hu) (pe_fldK K rfl (pv 0) rfl) (pv 3) (fun _ _ => rfl)) (pv 1) (fun _ _ => rfl)))
    (pss_cons (ps_if (PW.pt (pw_or (pt_cmpR op_isV (pv 4) pe_non (nomark _)) (pw_or1 (pt_cmpR (r := rEqD K) (op_eqD hu0) (pv 4) pe_int (nomark _))))) (pss_one (ps_ret pe_non)) pss_nil)
    (pss_cons (ps_for (passes_of rfl) rfl (pi_seqK K rfl (pe_methS (pe_fldK K rfl (pv 0) rfl) c_Net mt_Net_lines_at F_Net_lines_at (hr.mono (by decide)) b_Net_lines_at_2 v_Net_lines_at_2 (fun σ => passAt tk σ) (pa_cons (pv 1) pa_nil))) (pg_name sc_Worth_best.nd (i := 5) rfl (by first | exact Or.inl rfl | exact Or.inr rfl)) (pss_one (ps_if (pt_cmpR (r := rInA K true) (op_notInA hu) (pv 5) (pv 3) (by rfl)) (pss_cons (ps_set sc_Worth_best.nd (i := 6) rfl (by first | exact Or.inl rfl | exact Or.inr rfl) (pe_ix (r := rIxA K) (ix_any hu) (pe_ix (r := rIxA K) (ix_any hu) (pe_fldK K rfl (pv 0) rfl) (pv 3) (fun _ _ => rfl)) (pe_methS (pe_fldK K rfl (pv 0) rfl) c_Net mt_Net_other F_Net_other (hr.mono (by decide)) b_Net_other_3 v_Net_other_3 (fun σ => passAt tk σ) (pa_cons (pv 5) (pa_cons (pv 1) pa_nil))) (fun _ _ => rfl)))
    (pss_cons (ps_set sc_Worth_best.nd (i := 7) rfl (by first | exact Or.inl rfl | exact Or.inr rfl) (pe_cmpR op_lt (pe_callB (r := r1' (rLenA K)) call_lenA rfl f_len boot_len (pa_cons (pv 3) pa_nil)) (pe_fldK K rfl (pv 0) rfl) (nomark _)))
    (pss_cons (ps_set sc_Worth_best.nd (i := 8) rfl (by first | exact Or.inl rfl | exact Or.inr rfl) (pe_ifExp (pt_truthK K rfl (pv 7) (fun _ => rfl)) (pe_ix (r := rIxA K) (ix_any hu) (pe_ix (r := rIxA K) (ix_any hu) (pe_fldK K rfl (pv 0) rfl) (pe_callSD F_both (hr.mono (by decide)) rfl g_both D_both.kp b_both_2 v_both_2 (fun σ => passAt tk σ) (pa_cons (pv 3) (pa_cons (pe_tup (pa_cons (pv 5) pa_nil)) pa_nil))) (fun _ _ => rfl)) (pv 1) (fun _ _ => rfl)) pe_non))
    (pss_one (ps_if (pt_cmpR (r := rEqD K) (op_eqD hu0) (pe_callSD F_line_worth (hr.mono (by decide)) rfl g_line_worth D_line_worth.kp b_line_worth_3 v_line_worth_3 (fun σ => passAt tk σ) (pa_cons (pv 6) (pa_cons (pv 7) (pa_cons (pv 8) pa_nil)))) (pv 4) (nomark _)) (pss_one (ps_ret (pv 5))) pss_nil))))) pss_nil)))
    (pss_one (ps_ret pe_non)))))))
  · exact (sndS_seq (sndS_drop (snd_user (fun _ _ => rfl) (sndA_c (sndO_t (snd_c fun _ _ => rfl)) (sndA_c sndO_v (sndA_c (sndO_t (snd_c fun _ _ => rfl)) (sndA_c (sndO_t (snd_op pr_sub (sndO_t (snd_fld a_Net_size (sndO_t (snd_fld a_Worth_net sndO_v)))) (sndO_t (snd_c fun _ _ => rfl)))) sndA_nil))))))
    (sndS_seq (sndS_asg (snd_methS (fun _ _ => rfl) sndO_v (sndA_c sndO_v sndA_nil)) sndG_name)
    (sndS_seq (sndS_asg (snd_op pr_ix (sndO_t (snd_op pr_ix (sndO_t (snd_fld a_Worth_by_lot sndO_v)) sndO_v)) sndO_v) sndG_name)
    (sndS_seq (sndS_if (sndT_or (sndT_tst (snd_op pr_is sndO_v (sndO_t (snd_c fun _ _ => rfl)))) (sndT_tst (snd_op pr_eq sndO_v (sndO_t (snd_c fun _ _ => rfl))))) (sndS_ret (snd_c fun _ _ => rfl)) sndS_nil)
    (sndS_seq (sndS_for (sndI_seq (snd_methS (fun _ _ => rfl) (sndO_t (snd_fld a_Worth_net sndO_v)) (sndA_c sndO_v sndA_nil))) sndG_name (sndS_if (sndT_tst (snd_op pr_notIn sndO_v sndO_v)) (sndS_seq (sndS_asg (snd_op pr_ix (sndO_t (snd_op pr_ix (sndO_t (snd_fld a_Worth_by_lot sndO_v)) sndO_v)) (sndO_t (snd_methS (fun _ _ => rfl) (sndO_t (snd_fld a_Worth_net sndO_v)) (sndA_c sndO_v (sndA_c sndO_v sndA_nil))))) sndG_name)
    (sndS_seq (sndS_asg (snd_op pr_lt (sndO_t (snd_call pr_len (sndA_c sndO_v sndA_nil))) (sndO_t (snd_fld a_Worth_most sndO_v))) sndG_name)
    (sndS_seq (sndS_asg (snd_if (sndT_truth sndO_v) (snd_op pr_ix (sndO_t (snd_op pr_ix (sndO_t (snd_fld a_Worth_by_lot sndO_v)) (sndO_t (snd_user (fun _ _ => rfl) (sndA_c sndO_v (sndA_c (sndO_t (snd_tup (sndA_c sndO_v sndA_nil))) sndA_nil)))))) sndO_v) (snd_c fun _ _ => rfl)) sndG_name)
    (sndS_if (sndT_tst (snd_op pr_eq (sndO_t (snd_user (fun _ _ => rfl) (sndA_c sndO_v (sndA_c sndO_v (sndA_c sndO_v sndA_nil))))) sndO_v)) (sndS_ret snd_move) sndS_nil)))) sndS_nil))
    (sndS_ret (snd_c fun _ _ => rfl)))))))
/-! reach_from -/
theorem sc_reach_from : FnScope ["net", "switch", "lines", "gone", "joined", "waiting", "spot", "line", "beyond"] ["net", "switch", "lines"] (defScope s_reach_from) := ⟨rfl, rfl, rfl, by decide +kernel, rfl, by decide +kernel, by decide +kernel⟩
def c_reach_from_1 : M Slot := (mLc [6] (mArgs (ac (tm (mFld "Net" "size" (mv 0))) an) rng1) (setS 6) (ret true) (o2 pEq (mv 6) (mv 1)))
def x_reach_from_1 : M Slot := (mMethS "Net" "lines_at" run_Net_lines_at [] (mv 0) (ac (mv 6) an))
def x_reach_from_2 : M Slot := (mMethS "Net" "other" run_Net_other [] (mv 0) (ac (mv 7) (ac (mv 6) an)))
def l_reach_from_1 : M Fl := (sFor (mSeq x_reach_from_1) (setS 7)
  (thn' (sAsg x_reach_from_2 (setS 8))
  (sIf (mAnd (mb (o2 pNotIn (mv 7) (mv 3))) (mNot (mt (tm (o2 pIx (mv 4) (mv 8))))))
  (thn' (sAsg (cst (.bl true)) (setSub 4 (mv 8) setF))
  (sDrop (mutm "list" 5 fAppend (ac (mv 8) an))))
  (ret .next))))
def l_reach_from_2 : M Fl := (sWhile (mt (mv 5))
  (thn' (sAsg (mutm "list" 5 fPop an) (setS 6))
  l_reach_from_1) 100000)
def m_reach_from : M Fl :=
  (thn' (sDrop (usr false run_check_number [] (ac (tm (cst (.str "switch"))) (ac (mv 1) (ac (tm (cst (.int 0))) (ac (tm (o2 (ii fun i j => sI (i - j)) (tm (mFld "Net" "size" (mv 0))) (tm (cst (.int 1))))) an))))))
  (thn' (sAsg (usr false run_lot_of [] (ac (tm (cst (.str "lines"))) (ac (mv 2) (ac (tm (cb pLen (ac (tm (mFld "Net" "lines" (mv 0))) an))) an)))) (setS 3))
  (thn' (sAsg c_reach_from_1 (setS 4))
  (thn' (sAsg (mTake (ac (mv 1) an) kLst) (setS 5))
  (thn' l_reach_from_2
  (sRet (cb pTupleF (ac (mv 4) an))))))))
def run_reach_from : List D → FR := runF 3 9 false m_reach_from
theorem ok_reach_from {P : Program} {w : World} {K : PySem.W.Frag} {mg : Str → Option Value} {base h : Heap} (Xh : K.In h) (G : h.Ns mainGlobals mg) (c : SaysP fa fn pn ex K) :
    ∃ fd, FnOk P w K mg base (L2.CX P w) 4 (He.fAd K d_reach_from.at_) fd ["net", "switch", "lines"] (spV K (He.ga K) false run_reach_from) ∧ FunD K d_reach_from.name d_reach_from.qual d_reach_from.params d_reach_from.body d_reach_from.scope (d_reach_from.dvs K) (d_reach_from.kws K) (He.fAd K d_reach_from.at_) fd := by
  obtain ⟨fd, F⟩ := c.d.def_ 17 (d := d_reach_from) rfl
  have f_len : mg "len" = none := He.free_ok Xh G (c.d.fact 38 (f := .free "len") rfl)
  have f_range : mg "range" = none := He.free_ok Xh G (c.d.fact 43 (f := .free "range") rfl)
  have f_tuple : mg "tuple" = none := He.free_ok Xh G (c.d.fact 45 (f := .free "tuple") rfl)
  have g_check_number : mg "check_number" = some (.ref (He.ga K "check_number")) := He.glo_ok Xh G (c.d.fact 8 (f := .glo "check_number") rfl)
  have g_lot_of : mg "lot_of" = some (.ref (He.ga K "lot_of")) := He.glo_ok Xh G (c.d.fact 9 (f := .glo "lot_of") rfl)
  have c_Net : Cls K (He.ga K "Net") := He.cls_ok (c.d.fact 62 (f := .cls "Net") rfl)
  have a_Net_lines : FldOk K (He.ga K) "Net" "lines" := ⟨c_Net, He.noat_ok (c.d.fact 65 (f := .noat "Net" "lines") rfl)⟩
  have a_Net_size : FldOk K (He.ga K) "Net" "size" := ⟨c_Net, He.noat_ok (c.d.fact 64 (f := .noat "Net" "size") rfl)⟩
  have mt_Net_lines_at : Meth K (He.ga K "Net") "lines_at" (He.ma K (He.ga K "Net") "lines_at") := He.meth_ok (c.d.fact 69 (f := .meth "Net" "lines_at") rfl)
  have mt_Net_other : Meth K (He.ga K "Net") "other" (He.ma K (He.ga K "Net") "other") := He.meth_ok (c.d.fact 68 (f := .meth "Net" "other") rfl)
  obtain ⟨fd_check_number, F_check_number, D_check_number⟩ := ok_check_number (P := P) (w := w) (base := base) Xh G c
  have b_check_number_4 : Binds K fd_check_number _ [] := D_check_number.bindsN (ps := ["name", "value", "low", "high"]) fun _ _ _ _ _ _ us hl => match us, hl with | [_, _, _, _], _ => rfl
  have v_check_number_4 : Vals [] [] := .nil
  obtain ⟨fd_lot_of, F_lot_of, D_lot_of⟩ := ok_lot_of (P := P) (w := w) (base := base) Xh G c
  have b_lot_of_3 : Binds K fd_lot_of _ [] := D_lot_of.bindsN (ps := ["name", "value", "many"]) fun _ _ _ _ _ _ us hl => match us, hl with | [_, _, _], _ => rfl
  have v_lot_of_3 : Vals [] [] := .nil
  obtain ⟨fd_Net_lines_at, F_Net_lines_at, D_Net_lines_at⟩ := ok_Net_lines_at (P := P) (w := w) (base := base) Xh G c
  have b_Net_lines_at_2 : Binds K fd_Net_lines_at _ [] := D_Net_lines_at.bindsN (ps := ["self", "switch"]) fun _ _ _ _ _ _ us hl => match us, hl with | [_, _], _ => rfl
  have v_Net_lines_at_2 : Vals [] [] := .nil
  obtain ⟨fd_Net_other, F_Net_other, D_Net_other⟩ := ok_Net_other (P := P) (w := w) (base := base) Xh G c
  have b_Net_other_3 : Binds K fd_Net_other _ [] := D_Net_other.bindsN (ps := ["self", "line", "switch"]) fun _ _ _ _ _ _ us hl => match us, hl with | [_, _, _], _ => rfl
  have v_Net_other_3 : Vals [] [] := .nil
  refine ⟨fd, fnV_of F sc_reach_from fun cdv A outer s H E hr tk => ?_, F⟩
  have hu := VL.hu_of hr
  have hu0 := VL.hu_of0 hr
  apply Exists.intro
  constructor
  · exact (pss_cons (ps_expr (pe_callSD F_check_number (hr.mono (by decide)) rfl g_check_number D_check_number.kp b_check_number_4 v_check_number_4 (fun σ => passAt tk σ) (pa_cons pe_str (pa_cons (pv 1) (pa_cons pe_int (pa_cons (pe_op op_sub (pe_fldK K rfl (pv 0) rfl) pe_int) pa_nil))))))
    (pss_cons (ps_set sc_reach_from.nd (i := 3) rfl (by first | exact Or.inl rfl | exact Or.inr rfl) (pe_callSD F_lot_of (hr.mono (by decide)) rfl g_lot_of D_lot_of.kp b_lot_of_3 v_lot_of_3 (fun σ => passAt tk σ) (pa_cons pe_str (pa_cons (pv 2) (pa_cons (pe_callB (r := r1' (rLenA K)) call_lenA rfl f_len boot_len (pa_cons (pe_fldK K rfl (pv 0) rfl) pa_nil)) pa_nil)))))
    (pss_cons (ps_setLc rfl sc_reach_from.nd (i := 4) rfl rfl (sw_true rfl rfl rfl (by rfl)) (pi_range1 rfl f_range (pa_cons (pe_fldK K rfl (pv 0) rfl) pa_nil)) (blkOk_by (own := [("spot", 6)]) (by kernel_rfl)) (fun _ _ _ _ _ => (pg_name sc_reach_from.nd (i := 6) rfl (by first | exact Or.inl rfl | exact Or.inr rfl))) (fun _ _ _ _ _ => pts_nil) (fun _ _ _ _ _ => (pe_cmpR (r := rEqD K) (op_eqD hu0) (pv 6) (pv 1) (nomark _))))
    (pss_cons (ps_set sc_reach_from.nd (i := 5) rfl (by first | exact Or.inl rfl | exact Or.inr rfl) (pe_lst (pa_cons (pv 1) pa_nil)))
    (pss_cons (ps_while (passes_of rfl) (pt_truthK K rfl (pv 5) (fun _ => rfl)) (pss_cons (ps_set sc_reach_from.nd (i := 6) rfl (by first | exact Or.inl rfl | exact Or.inr rfl) (pe_bm0K K rfl PySem.F.plainAttrs_list PySem.F.slot_list_pop PySem.F.type_list_pop mt_pop (pv 5)))
    (pss_one (ps_for (passes_of rfl) rfl (pi_seqK K rfl (pe_methS (pv 0) c_Net mt_Net_lines_at F_Net_lines_at (hr.mono (by decide)) b_Net_lines_at_2 v_Net_lines_at_2 (fun σ => passAt tk σ) (pa_cons (pv 6) pa_nil))) (pg_name sc_reach_from.nd (i := 7) rfl (by first | exact Or.inl rfl | exact Or.inr rfl)) (pss_cons (ps_set sc_reach_from.nd (i := 8) rfl (by first | exact Or.inl rfl | exact Or.inr rfl) (pe_methS (pv 0) c_Net mt_Net_other F_Net_other (hr.mono (by decide)) b_Net_other_3 v_Net_other_3 (fun σ => passAt tk σ) (pa_cons (pv 7) (pa_cons (pv 6) pa_nil))))
    (pss_one (ps_if (PW.pt (pw_and (pt_cmpR (r := rInA K true) (op_notInA hu) (pv 7) (pv 3) (by rfl)) (pw_and1 (pt_not (pt_truthK K rfl (pe_ix (r := rIxA K) (ix_any hu) (pv 4) (pv 8) (fun _ _ => rfl)) (fun _ => rfl)))))) (pss_cons (ps_asg pe_bl (pg_sub (pv 4) (pv 8) (set_any hu)))
    (pss_one (ps_expr (pe_bmK K rfl PySem.F.plainAttrs_list PySem.F.slot_list_append PySem.F.type_list_append mt_append (pv 5) (pa_cons (pv 8) pa_nil))))) pss_nil)))))))
    (pss_one (ps_ret (pe_callTy (r := r1' (rTupleF K)) call_tupleF rfl f_tuple boot_tuple (pa_cons (pv 4) pa_nil)))))))))
  · exact (sndS_seq (sndS_drop (snd_user (fun _ _ => rfl) (sndA_c (sndO_t (snd_c fun _ _ => rfl)) (sndA_c sndO_v (sndA_c (sndO_t (snd_c fun _ _ => rfl)) (sndA_c (sndO_t (snd_op pr_sub (sndO_t (snd_fld a_Net_size sndO_v)) (sndO_t (snd_c fun _ _ => rfl)))) sndA_nil))))))
    (sndS_seq (sndS_asg (snd_user (fun _ _ => rfl) (sndA_c (sndO_t (snd_c fun _ _ => rfl)) (sndA_c sndO_v (sndA_c (sndO_t (snd_call pr_len (sndA_c (sndO_t (snd_fld a_Net_lines sndO_v)) sndA_nil))) sndA_nil)))) sndG_name)
    (sndS_seq (sndS_asg (snd_lc (by decide) (sndI_rng1 (sndA_c (sndO_t (snd_fld a_Net_size sndO_v)) sndA_nil)) sndG_name sndT_yes (snd_op pr_eq sndO_v sndO_v)) sndG_name)
    (sndS_seq (sndS_asg (snd_lst (sndA_c sndO_v sndA_nil)) sndG_name)
    (sndS_seq (sndS_while 100000 (sndT_truth sndO_v) (sndS_seq (sndS_asg (snd_mut mu_pop sndA_nil) sndG_name)
    (sndS_for (sndI_seq (snd_methS (fun _ _ => rfl) sndO_v (sndA_c sndO_v sndA_nil))) sndG_name (sndS_seq (sndS_asg (snd_methS (fun _ _ => rfl) sndO_v (sndA_c sndO_v (sndA_c sndO_v sndA_nil))) sndG_name)
    (sndS_if (sndT_and (sndT_tst (snd_op pr_notIn sndO_v sndO_v)) (sndT_not (sndT_truth (sndO_t (snd_op pr_ix sndO_v sndO_v))))) (sndS_seq (sndS_asg (snd_c fun _ _ => rfl) (sndG_sub set_ok sndO_v))
    (sndS_drop (snd_mut mu_append (sndA_c sndO_v sndA_nil)))) sndS_nil)))))
    (sndS_ret (snd_call pr_tupleF (sndA_c sndO_v sndA_nil))))))))
/-! _law_joined -/
theorem sc__law_joined : FnScope ["size", "lines", "spot", "lot", "joined", "turn", "line", "switch", "one", "other"] ["size", "lines", "spot", "lot"] (defScope s__law_joined) := ⟨rfl, rfl, rfl, by decide +kernel, rfl, by decide +kernel, by decide +kernel⟩
def c__law_joined_1 : M Slot := (mLc [7] (mArgs (ac (mv 0) an) rng1) (setS 7) (ret true) (o2 pEq (mv 7) (mv 2)))
def l__law_joined_1 : M Fl := (sFor (mArgs (ac (tm (cb pLen (ac (mv 1) an))) an) rng1) (setS 6)
  (thn' (sAsg (o2 pIx (mv 1) (mv 6)) (unpk 2 (gsc (setS 8) (gsc (setS 9) gs0))))
  (sIf (mAnd (mb (o2 pNotIn (mv 6) (mv 3))) (mOr (mt (tm (o2 pIx (mv 4) (mv 8)))) (mt (tm (o2 pIx (mv 4) (mv 9))))))
  (thn' (sAsg (cst (.bl true)) (setSub 4 (mv 8) setF))
  (sAsg (cst (.bl true)) (setSub 4 (mv 9) setF)))
  (ret .next))))
def l__law_joined_2 : M Fl := (sFor (mArgs (ac (mv 0) an) rng1) (setS 5)
  l__law_joined_1)
def m__law_joined : M Fl :=
  (thn' (sAsg c__law_joined_1 (setS 4))
  (thn' l__law_joined_2
  (sRet (mMove 4))))
def run__law_joined : List D → FR := runF 4 10 false m__law_joined
theorem ok__law_joined {P : Program} {w : World} {K : PySem.W.Frag} {mg : Str → Option Value} {base h : Heap} (Xh : K.In h) (G : h.Ns mainGlobals mg) (c : SaysP fa fn pn ex K) :
    ∃ fd, FnOk P w K mg base (L2.CX P w) 1 (He.fAd K d__law_joined.at_) fd ["size", "lines", "spot", "lot"] (spV K (He.ga K) false run__law_joined) ∧ FunD K d__law_joined.name d__law_joined.qual d__law_joined.params d__law_joined.body d__law_joined.scope (d__law_joined.dvs K) (d__law_joined.kws K) (He.fAd K d__law_joined.at_) fd := by
  obtain ⟨fd, F⟩ := c.d.def_ 29 (d := d__law_joined) rfl
  have f_len : mg "len" = none := He.free_ok Xh G (c.d.fact 38 (f := .free "len") rfl)
  have f_range : mg "range" = none := He.free_ok Xh G (c.d.fact 43 (f := .free "range") rfl)
  refine ⟨fd, fnV_of F sc__law_joined fun cdv A outer s H E hr tk => ?_, F⟩
  have hu := VL.hu_of hr
  have hu0 := VL.hu_of0 hr
  apply Exists.intro
  constructor
  · exact (pss_cons (ps_setLc rfl sc__law_joined.nd (i := 4) rfl rfl (sw_true rfl rfl rfl (by rfl)) (pi_range1 rfl f_range (pa_cons (pv 0) pa_nil)) (blkOk_by (own := [("switch", 7)]) (by kernel_rfl)) (fun _ _ _ _ _ => (pg_name sc__law_joined.nd (i := 7) rfl (by first | exact Or.inl rfl | exact Or.inr rfl))) (fun _ _ _ _ _ => pts_nil) (fun _ _ _ _ _ => (pe_cmpR (r := rEqD K) (op_eqD hu0) (pv 7) (pv 2) (nomark _))))
    (pss_cons (ps_for (passes_of rfl) rfl (pi_range1 rfl f_range (pa_cons (pv 0) pa_nil)) (pg_name sc__law_joined.nd (i := 5) rfl (by first | exact Or.inl rfl | exact Or.inr rfl)) (pss_one (ps_for (passes_of rfl) rfl (pi_range1 rfl f_range (pa_cons (pe_callB (r := r1' (rLenA K)) call_lenA rfl f_len boot_len (pa_cons (pv 1) pa_nil)) pa_nil)) (pg_name sc__law_joined.nd (i := 6) rfl (by first | exact Or.inl rfl | exact Or.inr rfl)) (pss_cons (ps_asg (pe_ix (r := rIxA K) (ix_any hu) (pv 1) (pv 6) (fun _ _ => rfl)) (pg_seqK K rfl (n := 2) rfl (pgs_cons (pg_name sc__law_joined.nd (i := 8) rfl (by first | exact Or.inl rfl | exact Or.inr rfl)) (pgs_cons (pg_name sc__law_joined.nd (i := 9) rfl (by first | exact Or.inl rfl | exact Or.inr rfl)) pgs_nil))))
    (pss_one (ps_if (PW.pt (pw_and (pt_cmpR (r := rInA K true) (op_notInA hu) (pv 6) (pv 3) (by rfl)) (pw_and1 (PW.pt (pw_or (pt_truthK K rfl (pe_ix (r := rIxA K) (ix_any hu) (pv 4) (pv 8) (fun _ _ => rfl)) (fun _ => rfl)) (pw_or1 (pt_truthK K rfl (pe_ix (r := rIxA K) (ix_any hu) (pv 4) (pv 9) (fun _ _ => rfl)) (fun _ => rfl)))))))) (pss_cons (ps_asg pe_bl (pg_sub (pv 4) (pv 8) (set_any hu)))
    (pss_one (ps_asg pe_bl (pg_sub (pv 4) (pv 9) (set_any hu))))) pss_nil))))))
    (pss_one (ps_ret (pv 4)))))
  · exact (sndS_seq (sndS_asg (snd_lc (by decide) (sndI_rng1 (sndA_c sndO_v sndA_nil)) sndG_name sndT_yes (snd_op pr_eq sndO_v sndO_v)) sndG_name)
    (sndS_seq (sndS_for (sndI_rng1 (sndA_c sndO_v sndA_nil)) sndG_name (sndS_for (sndI_rng1 (sndA_c (sndO_t (snd_call pr_len (sndA_c sndO_v sndA_nil))) sndA_nil)) sndG_name (sndS_seq (sndS_asg (snd_op pr_ix sndO_v sndO_v) (sndG_seq (sndGs_cons sndG_name (sndGs_cons sndG_name sndGs_nil))))
    (sndS_if (sndT_and (sndT_tst (snd_op pr_notIn sndO_v sndO_v)) (sndT_or (sndT_truth (sndO_t (snd_op pr_ix sndO_v sndO_v))) (sndT_truth (sndO_t (snd_op pr_ix sndO_v sndO_v))))) (sndS_seq (sndS_asg (snd_c fun _ _ => rfl) (sndG_sub set_ok sndO_v))
    (sndS_asg (snd_c fun _ _ => rfl) (sndG_sub set_ok sndO_v))) sndS_nil))))
    (sndS_ret snd_move)))
/-! _law_still_joined -/
theorem sc__law_still_joined : FnScope ["draws", "net", "web", "cap", "left", "lot", "k", "told", "long", "arms", "size", "lines", "far", "line"] ["draws", "net", "web", "cap"] (defScope s__law_still_joined) := ⟨rfl, rfl, rfl, by decide +kernel, rfl, by decide +kernel, by decide +kernel⟩
def c__law_still_joined_1 : M Slot := (mLc [13] (mArgs (ac (tm (cb pLen (ac (mv 11) an))) an) rng1) (setS 13) (ret true) (mVar 13))
def l__law_still_joined_1 : M Fl := (sFor (mArgs (ac (tm (cb pMin2 (ac (mv 3) (ac (tm (o2 (ii fun i j => sI (i - j)) (mv 9) (tm (cst (.int 1))))) an)))) an) rng1) (setS 6)
  (sDrop (mutm "list" 5 fAppend (ac (tm (mutm "list" 4 fPopAt (ac (tm (usr true run__law_take [] (ac (mv 0) (ac (tm (cb pLen (ac (mv 4) an))) an)))) an))) an))))
def m__law_still_joined : M Fl :=
  (thn' (sAsg (mVar 2) (unpk 5 (gsc (setS 8) (gsc (setS 9) (gsc (setS 10) (gsc (setS 11) (gsc (setS 12) gs0)))))))
  (thn' (sAsg c__law_still_joined_1 (setS 4))
  (thn' (sAsg (mTake an kLst) (setS 5))
  (thn' l__law_still_joined_1
  (thn' (sAsg (usr false run_reach_from [] (ac (mv 1) (ac (tm (meth "list" fIndex (mv 12) (ac (tm (cst (.int 0))) an))) (ac (tm (cb pList (ac (mv 5) an))) an)))) (setS 7))
  (thn' (sIf (mb (o2 pNe (mv 7) (tm (cb pTuple (ac (tm (usr false run__law_joined [] (ac (mv 10) (ac (mv 11) (ac (tm (meth "list" fIndex (mv 12) (ac (tm (cst (.int 0))) an))) (ac (mv 5) an)))))) an)))))
  (sRet (cst (.bl false)))
  (ret .next))
  (sRet (o2 pIs (tm (o2 pIx (mv 7) (tm (meth "list" fIndex (mv 12) (ac (mv 8) an))))) (tm (cst (.bl true)))))))))))
def run__law_still_joined : List D → FR := runF 4 14 true m__law_still_joined
theorem ok__law_still_joined {P : Program} {w : World} {K : PySem.W.Frag} {mg : Str → Option Value} {base h : Heap} (Xh : K.In h) (G : h.Ns mainGlobals mg) (c : SaysP fa fn pn ex K) :
    ∃ fd, FnOk P w K mg base (L2.CX P w) 5 (He.fAd K d__law_still_joined.at_) fd ["draws", "net", "web", "cap"] (spV K (He.ga K) true run__law_still_joined) ∧ FunD K d__law_still_joined.name d__law_still_joined.qual d__law_still_joined.params d__law_still_joined.body d__law_still_joined.scope (d__law_still_joined.dvs K) (d__law_still_joined.kws K) (He.fAd K d__law_still_joined.at_) fd := by
  obtain ⟨fd, F⟩ := c.d.def_ 33 (d := d__law_still_joined) rfl
  have f_len : mg "len" = none := He.free_ok Xh G (c.d.fact 38 (f := .free "len") rfl)
  have f_list : mg "list" = none := He.free_ok Xh G (c.d.fact 39 (f := .free "list") rfl)
  have f_min : mg "min" = none := He.free_ok Xh G (c.d.fact 41 (f := .free "min") rfl)
  have f_range : mg "range" = none := He.free_ok Xh G (c.d.fact 43 (f := .free "range") rfl)
  have f_tuple : mg "tuple" = none := He.free_ok Xh G (c.d.fact 45 (f := .free "tuple") rfl)
  have g__law_joined : mg "_law_joined" = some (.ref (He.ga K "_law_joined")) := He.glo_ok Xh G (c.d.fact 27 (f := .glo "_law_joined") rfl)
  have g__law_take : mg "_law_take" = some (.ref (He.ga K "_law_take")) := He.glo_ok Xh G (c.d.fact 25 (f := .glo "_law_take") rfl)
  have g_reach_from : mg "reach_from" = some (.ref (He.ga K "reach_from")) := He.glo_ok Xh G (c.d.fact 19 (f := .glo "reach_from") rfl)
  obtain ⟨fd__law_take, F__law_take, D__law_take⟩ := ok__law_take (P := P) (w := w) (base := base) Xh G c
  have b__law_take_2 : Binds K fd__law_take _ [] := D__law_take.bindsN (ps := ["draws", "many"]) fun _ _ _ _ _ _ us hl => match us, hl with | [_, _], _ => rfl
  have v__law_take_2 : Vals [] [] := .nil
  obtain ⟨fd_reach_from, F_reach_from, D_reach_from⟩ := ok_reach_from (P := P) (w := w) (base := base) Xh G c
  have b_reach_from_3 : Binds K fd_reach_from _ [] := D_reach_from.bindsN (ps := ["net", "switch", "lines"]) fun _ _ _ _ _ _ us hl => match us, hl with | [_, _, _], _ => rfl
  have v_reach_from_3 : Vals [] [] := .nil
  obtain ⟨fd__law_joined, F__law_joined, D__law_joined⟩ := ok__law_joined (P := P) (w := w) (base := base) Xh G c
  have b__law_joined_4 : Binds K fd__law_joined _ [] := D__law_joined.bindsN (ps := ["size", "lines", "spot", "lot"]) fun _ _ _ _ _ _ us hl => match us, hl with | [_, _, _, _], _ => rfl
  have v__law_joined_4 : Vals [] [] := .nil
  refine ⟨fd, fnV_of F sc__law_still_joined fun cdv A outer s H E hr tk => ?_, F⟩
  have hu := VL.hu_of hr
  have hu0 := VL.hu_of0 hr
  apply Exists.intro
  constructor
  · exact (pss_cons (ps_asg (pv 2) (pg_seqK K rfl (n := 5) rfl (pgs_cons (pg_name sc__law_still_joined.nd (i := 8) rfl (by first | exact Or.inl rfl | exact Or.inr rfl)) (pgs_cons (pg_name sc__law_still_joined.nd (i := 9) rfl (by first | exact Or.inl rfl | exact Or.inr rfl)) (pgs_cons (pg_name sc__law_still_joined.nd (i := 10) rfl (by first | exact Or.inl rfl | exact Or.inr rfl)) (pgs_cons (pg_name sc__law_still_joined.nd (i := 11) rfl (by first | exact Or.inl rfl | exact Or.inr rfl)) (pgs_cons (pg_name sc__law_still_joined.nd (i := 12) rfl (by first | exact Or.inl rfl | exact Or.inr rfl)) pgs_nil)))))))
    (pss_cons (ps_setLc rfl sc__law_still_joined.nd (i := 4) rfl rfl (sw_true rfl rfl rfl (by rfl)) (pi_range1 rfl f_range (pa_cons (pe_callB (r := r1' (rLenA K)) call_lenA rfl f_len boot_len (pa_cons (pv 11) pa_nil)) pa_nil)) (blkOk_by (own := [("line", 13)]) (by kernel_rfl)) (fun _ _ _ _ _ => (pg_name sc__law_still_joined.nd (i := 13) rfl (by first | exact Or.inl rfl | exact Or.inr rfl))) (fun _ _ _ _ _ => pts_nil) (fun _ _ _ _ _ => (pv 13)))
    (pss_cons (ps_set sc__law_still_joined.nd (i := 5) rfl (by first | exact Or.inl rfl | exact Or.inr rfl) (pe_lst pa_nil))
    (pss_cons (ps_for (passes_of rfl) rfl (pi_range1 rfl f_range (pa_cons (pe_callB (call_min2 rfl) rfl f_min boot_min (pa_cons (pv 3) (pa_cons (pe_op op_sub (pv 9) pe_int) pa_nil))) pa_nil)) (pg_name sc__law_still_joined.nd (i := 6) rfl (by first | exact Or.inl rfl | exact Or.inr rfl)) (pss_one (ps_expr (pe_bmK K rfl PySem.F.plainAttrs_list PySem.F.slot_list_append PySem.F.type_list_append mt_append (pv 5) (pa_cons (pe_bmK K rfl PySem.F.plainAttrs_list PySem.F.slot_list_pop PySem.F.type_list_pop mt_popAt (pv 4) (pa_cons (pe_callSD F__law_take (hr.mono (by decide)) rfl g__law_take D__law_take.kp b__law_take_2 v__law_take_2 (fun σ => passAt tk σ) (pa_cons (pv 0) (pa_cons (pe_callB (r := r1' (rLenA K)) call_lenA rfl f_len boot_len (pa_cons (pv 4) pa_nil)) pa_nil))) pa_nil)) pa_nil)))))
    (pss_cons (ps_set sc__law_still_joined.nd (i := 7) rfl (by first | exact Or.inl rfl | exact Or.inr rfl) (pe_callSD F_reach_from (hr.mono (by decide)) rfl g_reach_from D_reach_from.kp b_reach_from_3 v_reach_from_3 (fun σ => passAt tk σ) (pa_cons (pv 1) (pa_cons (pe_bmK K rfl PySem.F.plainAttrs_list PySem.F.slot_list_index PySem.F.type_list_index (r := rIndex K) mt_index (pv 12) (pa_cons pe_int pa_nil)) (pa_cons (pe_callTy (r := r1' (rListA K)) (call_listA rfl) rfl f_list boot_list (pa_cons (pv 5) pa_nil)) pa_nil)))))
    (pss_cons (ps_if (pt_cmpR (r := rNeD K) (op_neD hu0) (pv 7) (pe_callTy (r := r1' (rTupleA K)) call_tupleA rfl f_tuple boot_tuple (pa_cons (pe_callSD F__law_joined (hr.mono (by decide)) rfl g__law_joined D__law_joined.kp b__law_joined_4 v__law_joined_4 (fun σ => passAt tk σ) (pa_cons (pv 10) (pa_cons (pv 11) (pa_cons (pe_bmK K rfl PySem.F.plainAttrs_list PySem.F.slot_list_index PySem.F.type_list_index (r := rIndex K) mt_index (pv 12) (pa_cons pe_int pa_nil)) (pa_cons (pv 5) pa_nil))))) pa_nil)) (nomark _)) (pss_one (ps_ret pe_bl)) pss_nil)
    (pss_one (ps_ret (pe_cmpR op_isV (pe_ix (r := rIxA K) (ix_any hu) (pv 7) (pe_bmK K rfl PySem.F.plainAttrs_list PySem.F.slot_list_index PySem.F.type_list_index (r := rIndex K) mt_index (pv 12) (pa_cons (pv 8) pa_nil)) (fun _ _ => rfl)) pe_bl (nomark _))))))))))
  · exact (sndS_seq (sndS_asg snd_var (sndG_seq (sndGs_cons sndG_name (sndGs_cons sndG_name (sndGs_cons sndG_name (sndGs_cons sndG_name (sndGs_cons sndG_name sndGs_nil)))))))
    (sndS_seq (sndS_asg (snd_lc (by decide) (sndI_rng1 (sndA_c (sndO_t (snd_call pr_len (sndA_c sndO_v sndA_nil))) sndA_nil)) sndG_name sndT_yes snd_var) sndG_name)
    (sndS_seq (sndS_asg (snd_lst sndA_nil) sndG_name)
    (sndS_seq (sndS_for (sndI_rng1 (sndA_c (sndO_t (snd_call pr_min2 (sndA_c sndO_v (sndA_c (sndO_t (snd_op pr_sub sndO_v (sndO_t (snd_c fun _ _ => rfl)))) sndA_nil)))) sndA_nil)) sndG_name (sndS_drop (snd_mut mu_append (sndA_c (sndO_t (snd_mut mu_popAt (sndA_c (sndO_t (snd_user (fun _ _ => rfl) (sndA_c sndO_v (sndA_c (sndO_t (snd_call pr_len (sndA_c sndO_v sndA_nil))) sndA_nil)))) sndA_nil))) sndA_nil))))
    (sndS_seq (sndS_asg (snd_user (fun _ _ => rfl) (sndA_c sndO_v (sndA_c (sndO_t (snd_meth pm_index sndO_v (sndA_c (sndO_t (snd_c fun _ _ => rfl)) sndA_nil))) (sndA_c (sndO_t (snd_call pr_list (sndA_c sndO_v sndA_nil))) sndA_nil)))) sndG_name)
    (sndS_seq (sndS_if (sndT_tst (snd_op pr_ne sndO_v (sndO_t (snd_call pr_tuple (sndA_c (sndO_t (snd_user (fun _ _ => rfl) (sndA_c sndO_v (sndA_c sndO_v (sndA_c (sndO_t (snd_meth pm_index sndO_v (sndA_c (sndO_t (snd_c fun _ _ => rfl)) sndA_nil))) (sndA_c sndO_v sndA_nil)))))) sndA_nil))))) (sndS_ret (snd_c fun _ _ => rfl)) sndS_nil)
    (sndS_ret (snd_op pr_is (sndO_t (snd_op pr_ix sndO_v (sndO_t (snd_meth pm_index sndO_v (sndA_c sndO_v sndA_nil))))) (sndO_t (snd_c fun _ _ => rfl))))))))))
/-! parted_by -/
theorem sc_parted_by : FnScope ["net", "house", "falls", "lot", "joined"] ["net", "house", "falls"] (defScope s_parted_by) := ⟨rfl, rfl, rfl, by decide +kernel, rfl, by decide +kernel, by decide +kernel⟩
def l_parted_by_1 : M Fl := (sFor (mSeq (usr false run_small_lots [] (ac (tm (cb pLen (ac (tm (mFld "Net" "lines" (mv 0))) an))) (ac (mv 2) an)))) (setS 3)
  (thn' (sAsg (usr false run_reach_from [] (ac (mv 0) (ac (tm (o2 pIx (tm (mFld "Net" "houses" (mv 0))) (mv 1))) (ac (mv 3) an)))) (setS 4))
  (sIf (mNot (mb (cb pAllT (ac (mv 4) an))))
  (sRet (mTake (ac (tm (methF fIndexT (mv 4) (ac (tm (cst (.bl false))) an))) (ac (mv 3) an)) kTup))
  (ret .next))))
def m_parted_by : M Fl :=
  (thn' (sDrop (usr false run_check_house_falls [] (ac (mv 0) (ac (mv 1) (ac (mv 2) an)))))
  (thn' l_parted_by_1
  (sRet (cst .non))))
def run_parted_by : List D → FR := runF 3 5 false m_parted_by
theorem ok_parted_by {P : Program} {w : World} {K : PySem.W.Frag} {mg : Str → Option Value} {base h : Heap} (Xh : K.In h) (G : h.Ns mainGlobals mg) (c : SaysP fa fn pn ex K) :
    ∃ fd, FnOk P w K mg base (L2.CX P w) 5 (He.fAd K d_parted_by.at_) fd ["net", "house", "falls"] (spV K (He.ga K) false run_parted_by) ∧ FunD K d_parted_by.name d_parted_by.qual d_parted_by.params d_parted_by.body d_parted_by.scope (d_parted_by.dvs K) (d_parted_by.kws K) (He.fAd K d_parted_by.at_) fd := by
  obtain ⟨fd, F⟩ := c.d.def_ 18 (d := d_parted_by) rfl
  have f_all : mg "all" = none := He.free_ok Xh G (c.d.fact 34 (f := .free "all") rfl)
  have f_len : mg "len" = none := He.free_ok Xh G (c.d.fact 38 (f := .free "len") rfl)
  have g_check_house_falls : mg "check_house_falls" = some (.ref (He.ga K "check_house_falls")) := He.glo_ok Xh G (c.d.fact 13 (f := .glo "check_house_falls") rfl)
  have g_reach_from : mg "reach_from" = some (.ref (He.ga K "reach_from")) := He.glo_ok Xh G (c.d.fact 19 (f := .glo "reach_from") rfl)
  have g_small_lots : mg "small_lots" = some (.ref (He.ga K "small_lots")) := He.glo_ok Xh G (c.d.fact 11 (f := .glo "small_lots") rfl)
  have c_Net : Cls K (He.ga K "Net") := He.cls_ok (c.d.fact 62 (f := .cls "Net") rfl)
  have a_Net_houses : FldOk K (He.ga K) "Net" "houses" := ⟨c_Net, He.noat_ok (c.d.fact 66 (f := .noat "Net" "houses") rfl)⟩
  have a_Net_lines : FldOk K (He.ga K) "Net" "lines" := ⟨c_Net, He.noat_ok (c.d.fact 65 (f := .noat "Net" "lines") rfl)⟩
  obtain ⟨fd_check_house_falls, F_check_house_falls, D_check_house_falls⟩ := ok_check_house_falls (P := P) (w := w) (base := base) Xh G c
  have b_check_house_falls_3 : Binds K fd_check_house_falls _ [] := D_check_house_falls.bindsN (ps := ["net", "house", "falls"]) fun _ _ _ _ _ _ us hl => match us, hl with | [_, _, _], _ => rfl
  have v_check_house_falls_3 : Vals [] [] := .nil
  obtain ⟨fd_small_lots, F_small_lots, D_small_lots⟩ := ok_small_lots (P := P) (w := w) (base := base) Xh G c
  have b_small_lots_2 : Binds K fd_small_lots _ [] := D_small_lots.bindsN (ps := ["many", "most"]) fun _ _ _ _ _ _ us hl => match us, hl with | [_, _], _ => rfl
  have v_small_lots_2 : Vals [] [] := .nil
  obtain ⟨fd_reach_from, F_reach_from, D_reach_from⟩ := ok_reach_from (P := P) (w := w) (base := base) Xh G c
  have b_reach_from_3 : Binds K fd_reach_from _ [] := D_reach_from.bindsN (ps := ["net", "switch", "lines"]) fun _ _ _ _ _ _ us hl => match us, hl with | [_, _, _], _ => rfl
  have v_reach_from_3 : Vals [] [] := .nil
  refine ⟨fd, fnV_of F sc_parted_by fun cdv A outer s H E hr tk => ?_, F⟩
  have hu := VL.hu_of hr
  have hu0 := VL.hu_of0 hr
  apply Exists.intro
  constructor
  · exact (pss_cons (ps_expr (pe_callSD F_check_house_falls (hr.mono (by decide)) rfl g_check_house_falls D_check_house_falls.kp b_check_house_falls_3 v_check_house_falls_3 (fun σ => passAt tk σ) (pa_cons (pv 0) (pa_cons (pv 1) (pa_cons (pv 2) pa_nil)))))
    (pss_cons (ps_for (passes_of rfl) rfl (pi_seqK K rfl (pe_callSD F_small_lots (hr.mono (by decide)) rfl g_small_lots D_small_lots.kp b_small_lots_2 v_small_lots_2 (fun σ => passAt tk σ) (pa_cons (pe_callB (r := r1' (rLenA K)) call_lenA rfl f_len boot_len (pa_cons (pe_fldK K rfl (pv 0) rfl) pa_nil)) (pa_cons (pv 2) pa_nil)))) (pg_name sc_parted_by.nd (i := 3) rfl (by first | exact Or.inl rfl | exact Or.inr rfl)) (pss_cons (ps_set sc_parted_by.nd (i := 4) rfl (by first | exact Or.inl rfl | exact Or.inr rfl) (pe_callSD F_reach_from (hr.mono (by decide)) rfl g_reach_from D_reach_from.kp b_reach_from_3 v_reach_from_3 (fun σ => passAt tk σ) (pa_cons (pv 0) (pa_cons (pe_ix (r := rIxA K) (ix_any hu) (pe_fldK K rfl (pv 0) rfl) (pv 1) (fun _ _ => rfl)) (pa_cons (pv 3) pa_nil)))))
    (pss_one (ps_if (pt_not (pt_val (pe_callB (r := rAllT K) (cr_allT rfl) rfl f_all boot_all (pa_cons (pv 4) pa_nil)))) (pss_one (ps_ret (pe_tup (pa_cons (pe_fm PySem.F.plainAttrs_tuple PySem.F.slot_tuple_index PySem.F.type_tuple_index (r := rIndexT K) mt_indexF (pv 4) (pa_cons pe_bl pa_nil)) (pa_cons (pv 3) pa_nil))))) pss_nil))))
    (pss_one (ps_ret pe_non))))
  · exact (sndS_seq (sndS_drop (snd_user (fun _ _ => rfl) (sndA_c sndO_v (sndA_c sndO_v (sndA_c sndO_v sndA_nil)))))
    (sndS_seq (sndS_for (sndI_seq (snd_user (fun _ _ => rfl) (sndA_c (sndO_t (snd_call pr_len (sndA_c (sndO_t (snd_fld a_Net_lines sndO_v)) sndA_nil))) (sndA_c sndO_v sndA_nil)))) sndG_name (sndS_seq (sndS_asg (snd_user (fun _ _ => rfl) (sndA_c sndO_v (sndA_c (sndO_t (snd_op pr_ix (sndO_t (snd_fld a_Net_houses sndO_v)) sndO_v)) (sndA_c sndO_v sndA_nil)))) sndG_name)
    (sndS_if (sndT_not (sndT_b (snd_call pr_allT (sndA_c sndO_v sndA_nil)))) (sndS_ret (snd_tup (sndA_c (sndO_t (snd_methF pm_indexT sndO_v (sndA_c (sndO_t (snd_c fun _ _ => rfl)) sndA_nil))) (sndA_c sndO_v sndA_nil)))) sndS_nil)))
    (sndS_ret (snd_c fun _ _ => rfl))))
/-! law -/
theorem sc_law : FnScope ["script", "draws", "web", "cap", "net", "worth", "switch", "parted", "cut", "joined", "long", "arms", "size", "lines", "far", "start", "end", "due", "best"] ["script"] (defScope s_law) := ⟨rfl, rfl, rfl, by decide +kernel, rfl, by decide +kernel, by decide +kernel⟩
def x_law_1 : M Slot := (mInst "Worth" run_WorthX_callX [.kt []] (mv 5) (ac (mv 6) an))
def x_law_2 : M Slot := (mMethS "Worth" "best" run_Worth_best [.kt []] (mv 5) (ac (mv 6) an))
def x_law_3 : M Slot := (mMethS "Net" "other" run_Net_other [] (mv 4) (ac (mv 18) (ac (mv 6) an)))
def l_law_1 : M Fl := (sFor (mSeq (mTake (ac (mv 15) (ac (mv 16) (ac (tm (usr true run__law_take [] (ac (mv 1) (ac (mv 12) an)))) (ac (tm (o2 (ii fun i j => sI (i - j)) (mv 12) (tm (cst (.int 1))))) an)))) kTup)) (setS 6)
  (thn' (sAsg (usr false run__law_due [] (ac (mv 10) (ac (mv 11) (ac (mv 3) (ac (tm (o2 pIx (mv 14) (mv 6))) an))))) (setS 17))
  (thn' (sIf (mNot (mb (usr false run__law_same [] (ac (tm x_law_1) (ac (mv 17) an)))))
  (sRet (cst (.bl false)))
  (ret .next))
  (thn' (sAsg x_law_2 (setS 18))
  (thn' (sIf (mb (o2 pNe (tm (mOrV (o2 pIs (mv 17) (tm (cst .non))) (o2 pEq (mv 17) (tm (cst (.int 0)))))) (tm (o2 pIs (mv 18) (tm (cst .non))))))
  (sRet (cst (.bl false)))
  (ret .next))
  (sIf (mAnd (mb (o2 pEq (mv 17) (tm (o2 pIx (mv 14) (mv 6))))) (mAnd (mb (o2 pGt (mv 17) (tm (cst (.int 0))))) (mb (o2 pNe (tm (o2 pIx (mv 14) (tm x_law_3))) (tm (o2 (ii fun i j => sI (i - j)) (mv 17) (tm (cst (.int 1)))))))))
  (sRet (cst (.bl false)))
  (ret .next)))))))
def x_law_4 : M Slot := (mInst "Worth" run_WorthX_callX [] (mv 5) (ac (mv 15) (ac (tm (mTake (ac (tm (o2 (ii fun i j => sI (i - j)) (mv 10) (tm (cst (.int 1))))) an) kLst)) an)))
def m_law : M Fl :=
  (thn' (sAsg (usr false run__law_draws [] (ac (mv 0) an)) (setS 1))
  (thn' (sAsg (usr true run__law_arms [] (ac (mv 1) an)) (setS 2))
  (thn' (sAsg (mVar 2) (unpk 5 (gsc (setS 10) (gsc (setS 11) (gsc (setS 12) (gsc (setS 13) (gsc (setS 14) gs0)))))))
  (thn' (sAsg (usr true run__law_take [] (ac (mv 1) (ac (tm (cst (.int 4))) an))) (setS 3))
  (thn' (sIf (mAnd (mb (o2 pEq (mv 3) (tm (cst (.int 3))))) (mb (o2 pGt (tm (cb pLen (ac (mv 13) an))) (tm (cst (.int 8))))))
  (sAsg (cst (.int 2)) (setS 3))
  (ret .next))
  (thn' (sPar 15 16 (ac (tm (meth "list" fIndex (mv 14) (ac (mv 10) an))) (ac (tm (meth "list" fIndex (mv 14) (ac (tm (cst (.int 0))) an))) an)))
  (thn' (sAsg (mTake (ac (mv 12) (ac (tm (cb pList (ac (mv 13) an))) (ac (tm (mTake (ac (mv 15) (ac (mv 16) an)) kLst)) an))) (mMake "Net" run_NetX_initX [.int (0)])) (setS 4))
  (thn' (sAsg (mTake (ac (mv 4) (ac (tm (cst (.int 1))) (ac (mv 3) an))) (mMake "Worth" run_WorthX_initX [])) (setS 5))
  (thn' l_law_1
  (thn' (sIf (mAnd (mb (o2 pEq (mv 3) (tm (cst (.int 1))))) (mAnd (mb (o2 pGt (mv 11) (tm (cst (.int 1))))) (mNot (mb (usr false run__law_same [] (ac (tm x_law_4) (ac (mv 10) an)))))))
  (sRet (cst (.bl false)))
  (ret .next))
  (thn' (sIf (mNot (mb (usr true run__law_still_joined [] (ac (mv 1) (ac (mv 4) (ac (mv 2) (ac (mv 3) an)))))))
  (sRet (cst (.bl false)))
  (ret .next))
  (thn' (sAsg (usr false run_parted_by [] (ac (mv 4) (ac (tm (cst (.int 1))) (ac (mv 3) an)))) (setS 7))
  (thn' (sAsg (cst (.int 2)) (setS 8))
  (thn' (sIf (mOr (mb (o2 pEq (mv 10) (tm (cst (.int 1))))) (mb (o2 pEq (mv 11) (tm (cst (.int 1))))))
  (sAsg (mVar 11) (setS 8))
  (ret .next))
  (thn' (sIf (mb (o2 pNe (tm (o2 pIs (mv 7) (tm (cst .non)))) (tm (o2 pLt (mv 3) (mv 8)))))
  (sRet (cst (.bl false)))
  (ret .next))
  (thn' (sIf (mb (o2 pIs (mv 7) (tm (cst .non))))
  (sRet (cst (.bl true)))
  (ret .next))
  (thn' (sAsg (usr false run__law_joined [] (ac (mv 12) (ac (mv 13) (ac (mv 16) (ac (tm (o2 pIx (mv 7) (tm (cst (.int 1))))) an))))) (setS 9))
  (sRet (mAndV (o2 pEq (tm (cb pLen (ac (tm (o2 pIx (mv 7) (tm (cst (.int 1))))) an))) (mv 8)) (o2 pEq (tm (meth "list" fIndex (mv 9) (ac (tm (cst (.bl false))) an))) (tm (o2 pIx (mv 7) (tm (cst (.int 0)))))))))))))))))))))))))
def run_law : List D → FR := runF 1 19 false m_law
theorem ok_law {P : Program} {w : World} {K : PySem.W.Frag} {mg : Str → Option Value} {base h : Heap} (Xh : K.In h) (G : h.Ns mainGlobals mg) (c : SaysP fa fn pn ex K) :
    ∃ fd, FnOk P w K mg base (L2.CX P w) 8 (He.fAd K d_law.at_) fd ["script"] (spV K (He.ga K) false run_law) ∧ FunD K d_law.name d_law.qual d_law.params d_law.body d_law.scope (d_law.dvs K) (d_law.kws K) (He.fAd K d_law.at_) fd := by
  obtain ⟨fd, F⟩ := c.d.def_ 34 (d := d_law) rfl
  have f_len : mg "len" = none := He.free_ok Xh G (c.d.fact 38 (f := .free "len") rfl)
  have f_list : mg "list" = none := He.free_ok Xh G (c.d.fact 39 (f := .free "list") rfl)
  have g_Net : mg "Net" = some (.ref (He.ga K "Net")) := He.glo_ok Xh G (c.d.fact 23 (f := .glo "Net") rfl)
  have g_Worth : mg "Worth" = some (.ref (He.ga K "Worth")) := He.glo_ok Xh G (c.d.fact 18 (f := .glo "Worth") rfl)
  have g__law_arms : mg "_law_arms" = some (.ref (He.ga K "_law_arms")) := He.glo_ok Xh G (c.d.fact 28 (f := .glo "_law_arms") rfl)
  have g__law_draws : mg "_law_draws" = some (.ref (He.ga K "_law_draws")) := He.glo_ok Xh G (c.d.fact 24 (f := .glo "_law_draws") rfl)
  have g__law_due : mg "_law_due" = some (.ref (He.ga K "_law_due")) := He.glo_ok Xh G (c.d.fact 29 (f := .glo "_law_due") rfl)
  have g__law_joined : mg "_law_joined" = some (.ref (He.ga K "_law_joined")) := He.glo_ok Xh G (c.d.fact 27 (f := .glo "_law_joined") rfl)
  have g__law_same : mg "_law_same" = some (.ref (He.ga K "_law_same")) := He.glo_ok Xh G (c.d.fact 30 (f := .glo "_law_same") rfl)
  have g__law_still_joined : mg "_law_still_joined" = some (.ref (He.ga K "_law_still_joined")) := He.glo_ok Xh G (c.d.fact 31 (f := .glo "_law_still_joined") rfl)
  have g__law_take : mg "_law_take" = some (.ref (He.ga K "_law_take")) := He.glo_ok Xh G (c.d.fact 25 (f := .glo "_law_take") rfl)
  have g_parted_by : mg "parted_by" = some (.ref (He.ga K "parted_by")) := He.glo_ok Xh G (c.d.fact 20 (f := .glo "parted_by") rfl)
  have c_Net : Cls K (He.ga K "Net") := He.cls_ok (c.d.fact 62 (f := .cls "Net") rfl)
  have k_Net : Mk K (He.ga K "Net") (He.ma K (He.ga K "Net") "__init__") := He.mkr_ok (c.d.fact 63 (f := .mkr "Net") rfl)
  have c_Worth : Cls K (He.ga K "Worth") := He.cls_ok (c.d.fact 52 (f := .cls "Worth") rfl)
  have k_Worth : Mk K (He.ga K "Worth") (He.ma K (He.ga K "Worth") "__init__") := He.mkr_ok (c.d.fact 53 (f := .mkr "Worth") rfl)
  have mt_Net_other : Meth K (He.ga K "Net") "other" (He.ma K (He.ga K "Net") "other") := He.meth_ok (c.d.fact 68 (f := .meth "Net" "other") rfl)
  have mt_WorthX_callX : Meth K (He.ga K "Worth") "__call__" (He.ma K (He.ga K "Worth") "__call__") := He.meth_ok (c.d.fact 59 (f := .meth "Worth" "__call__") rfl)
  have x_WorthX_callX : callB "Worth" K = true := (ex_at c.ex 0 (f := callB "Worth") rfl)
  have mt_Worth_best : Meth K (He.ga K "Worth") "best" (He.ma K (He.ga K "Worth") "best") := He.meth_ok (c.d.fact 60 (f := .meth "Worth" "best") rfl)
  obtain ⟨fd__law_draws, F__law_draws, D__law_draws⟩ := ok__law_draws (P := P) (w := w) (base := base) Xh G c
  have b__law_draws_1 : Binds K fd__law_draws _ [] := D__law_draws.bindsN (ps := ["script"]) fun _ _ _ _ _ _ us hl => match us, hl with | [_], _ => rfl
  have v__law_draws_1 : Vals [] [] := .nil
  obtain ⟨fd__law_arms, F__law_arms, D__law_arms⟩ := ok__law_arms (P := P) (w := w) (base := base) Xh G c
  have b__law_arms_1 : Binds K fd__law_arms _ [] := D__law_arms.bindsN (ps := ["draws"]) fun _ _ _ _ _ _ us hl => match us, hl with | [_], _ => rfl
  have v__law_arms_1 : Vals [] [] := .nil
  obtain ⟨fd__law_take, F__law_take, D__law_take⟩ := ok__law_take (P := P) (w := w) (base := base) Xh G c
  have b__law_take_2 : Binds K fd__law_take _ [] := D__law_take.bindsN (ps := ["draws", "many"]) fun _ _ _ _ _ _ us hl => match us, hl with | [_, _], _ => rfl
  have v__law_take_2 : Vals [] [] := .nil
  obtain ⟨fd_NetX_initX, F_NetX_initX, D_NetX_initX⟩ := ok_NetX_initX (P := P) (w := w) (base := base) Xh G c
  obtain ⟨ds_NetX_initX_4, v_NetX_initX_4, b_NetX_initX_4⟩ := D_NetX_initX.binds0 (ps := ["self", "size", "lines", "houses", "bits"]) 4 (by exact List.cons_ne_nil _ _) rfl fun _ _ _ _ _ _ us ks h1 h2 => match us, ks, h1, h2 with | [_, _, _, _], [_], _, _ => ⟨_, _, _, _, _, _, rfl, rfl, rfl⟩
  obtain ⟨fd_WorthX_initX, F_WorthX_initX, D_WorthX_initX⟩ := ok_WorthX_initX (P := P) (w := w) (base := base) Xh G c
  have b_WorthX_initX_4 : Binds K fd_WorthX_initX _ [] := D_WorthX_initX.bindsN (ps := ["self", "net", "house", "falls"]) fun _ _ _ _ _ _ us hl => match us, hl with | [_, _, _, _], _ => rfl
  have v_WorthX_initX_4 : Vals [] [] := .nil
  obtain ⟨fd__law_due, F__law_due, D__law_due⟩ := ok__law_due (P := P) (w := w) (base := base) Xh G c
  have b__law_due_4 : Binds K fd__law_due _ [] := D__law_due.bindsN (ps := ["long", "arms", "cap", "far"]) fun _ _ _ _ _ _ us hl => match us, hl with | [_, _, _, _], _ => rfl
  have v__law_due_4 : Vals [] [] := .nil
  obtain ⟨fd__law_same, F__law_same, D__law_same⟩ := ok__law_same (P := P) (w := w) (base := base) Xh G c
  have b__law_same_2 : Binds K fd__law_same _ [] := D__law_same.bindsN (ps := ["told", "due"]) fun _ _ _ _ _ _ us hl => match us, hl with | [_, _], _ => rfl
  have v__law_same_2 : Vals [] [] := .nil
  obtain ⟨fd_WorthX_callX, F_WorthX_callX, D_WorthX_callX⟩ := ok_WorthX_callX (P := P) (w := w) (base := base) Xh G c
  have kt_WorthX_callX : KTup K (He.dflAt ("Worth", some "__call__") 0 K) [] := ktB_ok (ex_at c.ex 2 (f := ktB (He.dflAt ("Worth", some "__call__") 0)) rfl)
  obtain ⟨ds_WorthX_callX_2, v_WorthX_callX_2, b_WorthX_callX_2⟩ := D_WorthX_callX.binds1 (ps := ["self", "switch", "lines"]) 2 0 (by exact List.cons_ne_nil _ _) rfl fun _ _ _ _ _ _ _ us its h1 h2 => match us, its, h1, h2 with | [_, _], [_], _, _ => ⟨_, rfl, rfl⟩
  obtain ⟨ds_WorthX_callX_3, v_WorthX_callX_3, b_WorthX_callX_3⟩ := D_WorthX_callX.binds1 (ps := ["self", "switch", "lines"]) 3 1 (by exact List.cons_ne_nil _ _) rfl fun _ _ _ _ _ _ _ us its h1 h2 => match us, its, h1, h2 with | [_, _, _], [_], _, _ => ⟨_, rfl, rfl⟩
  obtain ⟨fd_Worth_best, F_Worth_best, D_Worth_best⟩ := ok_Worth_best (P := P) (w := w) (base := base) Xh G c
  have kt_Worth_best : KTup K (He.dflAt ("Worth", some "best") 0 K) [] := ktB_ok (ex_at c.ex 3 (f := ktB (He.dflAt ("Worth", some "best") 0)) rfl)
  obtain ⟨ds_Worth_best_2, v_Worth_best_2, b_Worth_best_2⟩ := D_Worth_best.binds1 (ps := ["self", "switch", "lines"]) 2 0 (by exact List.cons_ne_nil _ _) rfl fun _ _ _ _ _ _ _ us its h1 h2 => match us, its, h1, h2 with | [_, _], [_], _, _ => ⟨_, rfl, rfl⟩
  obtain ⟨fd_Net_other, F_Net_other, D_Net_other⟩ := ok_Net_other (P := P) (w := w) (base := base) Xh G c
  have b_Net_other_3 : Binds K fd_Net_other _ [] := D_Net_other.bindsN (ps := ["self", "line", "switch"]) fun _ _ _ _ _ _ us hl => match us, hl with | [_, _, _], _ => rfl
  have v_Net_other_3 : Vals [] [] := .nil
  obtain ⟨fd__law_still_joined, F__law_still_joined, D__law_still_joined⟩ := ok__law_still_joined (P := P) (w := w) (base := base) Xh G c
  have b__law_still_joined_4 : Binds K fd__law_still_joined _ [] := D__law_still_joined.bindsN (ps := ["draws", "net", "web", "cap"]) fun _ _ _ _ _ _ us hl => match us, hl with | [_, _, _, _], _ => rfl
  have v__law_still_joined_4 : Vals [] [] := .nil
  obtain ⟨fd_parted_by, F_parted_by, D_parted_by⟩ := ok_parted_by (P := P) (w := w) (base := base) Xh G c
  have b_parted_by_3 : Binds K fd_parted_by _ [] := D_parted_by.bindsN (ps := ["net", "house", "falls"]) fun _ _ _ _ _ _ us hl => match us, hl with | [_, _, _], _ => rfl
  have v_parted_by_3 : Vals [] [] := .nil
  obtain ⟨fd__law_joined, F__law_joined, D__law_joined⟩ := ok__law_joined (P := P) (w := w) (base := base) Xh G c
  have b__law_joined_4 : Binds K fd__law_joined _ [] := D__law_joined.bindsN (ps := ["size", "lines", "spot", "lot"]) fun _ _ _ _ _ _ us hl => match us, hl with | [_, _, _, _], _ => rfl
  have v__law_joined_4 : Vals [] [] := .nil
  refine ⟨fd, fnV_of F sc_law fun cdv A outer s H E hr tk => ?_, F⟩
  have hu := VL.hu_of hr
  have hu0 := VL.hu_of0 hr
  apply Exists.intro
  constructor
  · exact (pss_cons (ps_set sc_law.nd (i := 1) rfl (by first | exact Or.inl rfl | exact Or.inr rfl) (pe_callSD F__law_draws (hr.mono (by decide)) rfl g__law_draws D__law_draws.kp b__law_draws_1 v__law_draws_1 (fun σ => passAt tk σ) (pa_cons (pv 0) pa_nil)))
    (pss_cons (ps_set sc_law.nd (i := 2) rfl (by first | exact Or.inl rfl | exact Or.inr rfl) (pe_callSD F__law_arms (hr.mono (by decide)) rfl g__law_arms D__law_arms.kp b__law_arms_1 v__law_arms_1 (fun σ => passAt tk σ) (pa_cons (pv 1) pa_nil)))
    (pss_cons (ps_asg (pv 2) (pg_seqK K rfl (n := 5) rfl (pgs_cons (pg_name sc_law.nd (i := 10) rfl (by first | exact Or.inl rfl | exact Or.inr rfl)) (pgs_cons (pg_name sc_law.nd (i := 11) rfl (by first | exact Or.inl rfl | exact Or.inr rfl)) (pgs_cons (pg_name sc_law.nd (i := 12) rfl (by first | exact Or.inl rfl | exact Or.inr rfl)) (pgs_cons (pg_name sc_law.nd (i := 13) rfl (by first | exact Or.inl rfl | exact Or.inr rfl)) (pgs_cons (pg_name sc_law.nd (i := 14) rfl (by first | exact Or.inl rfl | exact Or.inr rfl)) pgs_nil)))))))
    (pss_cons (ps_set sc_law.nd (i := 3) rfl (by first | exact Or.inl rfl | exact Or.inr rfl) (pe_callSD F__law_take (hr.mono (by decide)) rfl g__law_take D__law_take.kp b__law_take_2 v__law_take_2 (fun σ => passAt tk σ) (pa_cons (pv 1) (pa_cons pe_int pa_nil))))
    (pss_cons (ps_if (PW.pt (pw_and (pt_cmpR (r := rEqD K) (op_eqD hu0) (pv 3) pe_int (nomark _)) (pw_and1 (pt_cmpR op_gt (pe_callB (r := r1' (rLenA K)) call_lenA rfl f_len boot_len (pa_cons (pv 13) pa_nil)) pe_int (nomark _))))) (pss_one (ps_set sc_law.nd (i := 3) rfl (by first | exact Or.inl rfl | exact Or.inr rfl) pe_int)) pss_nil)
    (pss_cons (ps_par rfl sc_law.nd (i := 15) (j := 16) rfl rfl (by decide) rfl rfl (pa_cons (pe_bmK K rfl PySem.F.plainAttrs_list PySem.F.slot_list_index PySem.F.type_list_index (r := rIndex K) mt_index (pv 14) (pa_cons (pv 10) pa_nil)) (pa_cons (pe_bmK K rfl PySem.F.plainAttrs_list PySem.F.slot_list_index PySem.F.type_list_index (r := rIndex K) mt_index (pv 14) (pa_cons pe_int pa_nil)) pa_nil)) (by rfl))
    (pss_cons (ps_set sc_law.nd (i := 4) rfl (by first | exact Or.inl rfl | exact Or.inr rfl) (pe_makeS k_Net F_NetX_initX (hr.mono (by decide)) rfl g_Net b_NetX_initX_4 v_NetX_initX_4 (fun σ => passAt tk σ) (pa_cons (pv 12) (pa_cons (pe_callTy (r := r1' (rListA K)) (call_listA rfl) rfl f_list boot_list (pa_cons (pv 13) pa_nil)) (pa_cons (pe_lst (pa_cons (pv 15) (pa_cons (pv 16) pa_nil))) pa_nil)))))
    (pss_cons (ps_set sc_law.nd (i := 5) rfl (by first | exact Or.inl rfl | exact Or.inr rfl) (pe_makeS k_Worth F_WorthX_initX (hr.mono (by decide)) rfl g_Worth b_WorthX_initX_4 v_WorthX_initX_4 (fun σ => passAt tk σ) (pa_cons (pv 4) (pa_cons pe_int (pa_cons (pv 3) pa_nil)))))
    (pss_cons (ps_for (passes_of rfl) rfl (pi_seqK K rfl (pe_tup (pa_cons (pv 15) (pa_cons (pv 16) (pa_cons (pe_callSD F__law_take (hr.mono (by decide)) rfl g__law_take D__law_take.kp b__law_take_2 v__law_take_2 (fun σ => passAt tk σ) (pa_cons (pv 1) (pa_cons (pv 12) pa_nil))) (pa_cons (pe_op op_sub (pv 12) pe_int) pa_nil)))))) (pg_name sc_law.nd (i := 6) rfl (by first | exact Or.inl rfl | exact Or.inr rfl)) (pss_cons (ps_set sc_law.nd (i := 17) rfl (by first | exact Or.inl rfl | exact Or.inr rfl) (pe_callSD F__law_due (hr.mono (by decide)) rfl g__law_due D__law_due.kp b__law_due_4 v__law_due_4 (fun σ => passAt tk σ) (pa_cons (pv 10) (pa_cons (pv 11) (pa_cons (pv 3) (pa_cons (pe_ix (r := rIxA K) (ix_any hu) (pv 14) (pv 6) (fun _ _ => rfl)) pa_nil))))))
    (pss_cons (ps_if (pt_not (pt_val (pe_callSD F__law_same (hr.mono (by decide)) rfl g__law_same D__law_same.kp b__law_same_2 v__law_same_2 (fun σ => passAt tk σ) (pa_cons (pe_inst (pv 5) (callB_ok x_WorthX_callX mt_WorthX_callX) F_WorthX_callX (hr.mono (by decide)) b_WorthX_callX_2 v_WorthX_callX_2 (fun σ => passAt tk σ) (pa_cons (pv 6) pa_nil)) (pa_cons (pv 17) pa_nil))))) (pss_one (ps_ret pe_bl)) pss_nil)
    (pss_cons (ps_set sc_law.nd (i := 18) rfl (by first | exact Or.inl rfl | exact Or.inr rfl) (pe_methS (pv 5) c_Worth mt_Worth_best F_Worth_best (hr.mono (by decide)) b_Worth_best_2 v_Worth_best_2 (fun σ => passAt tk σ) (pa_cons (pv 6) pa_nil)))
    (pss_cons (ps_if (pt_cmpR (r := rNeD K) (op_neD hu0) (pe_or (pe_cmpR op_isV (pv 17) pe_non (nomark _)) (pe_one (pe_cmpR (r := rEqD K) (op_eqD hu0) (pv 17) pe_int (nomark _)))) (pe_cmpR op_isV (pv 18) pe_non (nomark _)) (nomark _)) (pss_one (ps_ret pe_bl)) pss_nil)
    (pss_one (ps_if (PW.pt (pw_and (pt_cmpR (r := rEqD K) (op_eqD hu0) (pv 17) (pe_ix (r := rIxA K) (ix_any hu) (pv 14) (pv 6) (fun _ _ => rfl)) (nomark _)) (pw_and (pt_cmpR op_gt (pv 17) pe_int (nomark _)) (pw_and1 (pt_cmpR (r := rNeD K) (op_neD hu0) (pe_ix (r := rIxA K) (ix_any hu) (pv 14) (pe_methS (pv 4) c_Net mt_Net_other F_Net_other (hr.mono (by decide)) b_Net_other_3 v_Net_other_3 (fun σ => passAt tk σ) (pa_cons (pv 18) (pa_cons (pv 6) pa_nil))) (fun _ _ => rfl)) (pe_op op_sub (pv 17) pe_int) (nomark _)))))) (pss_one (ps_ret pe_bl)) pss_nil)))))))
    (pss_cons (ps_if (PW.pt (pw_and (pt_cmpR (r := rEqD K) (op_eqD hu0) (pv 3) pe_int (nomark _)) (pw_and (pt_cmpR op_gt (pv 11) pe_int (nomark _)) (pw_and1 (pt_not (pt_val (pe_callSD F__law_same (hr.mono (by decide)) rfl g__law_same D__law_same.kp b__law_same_2 v__law_same_2 (fun σ => passAt tk σ) (pa_cons (pe_inst (pv 5) (callB_ok x_WorthX_callX mt_WorthX_callX) F_WorthX_callX (hr.mono (by decide)) b_WorthX_callX_3 v_WorthX_callX_3 (fun σ => passAt tk σ) (pa_cons (pv 15) (pa_cons (pe_lst (pa_cons (pe_op op_sub (pv 10) pe_int) pa_nil)) pa_nil))) (pa_cons (pv 10) pa_nil))))))))) (pss_one (ps_ret pe_bl)) pss_nil)
    (pss_cons (ps_if (pt_not (pt_val (pe_callSD F__law_still_joined (hr.mono (by decide)) rfl g__law_still_joined D__law_still_joined.kp b__law_still_joined_4 v__law_still_joined_4 (fun σ => passAt tk σ) (pa_cons (pv 1) (pa_cons (pv 4) (pa_cons (pv 2) (pa_cons (pv 3) pa_nil))))))) (pss_one (ps_ret pe_bl)) pss_nil)
    (pss_cons (ps_set sc_law.nd (i := 7) rfl (by first | exact Or.inl rfl | exact Or.inr rfl) (pe_callSD F_parted_by (hr.mono (by decide)) rfl g_parted_by D_parted_by.kp b_parted_by_3 v_parted_by_3 (fun σ => passAt tk σ) (pa_cons (pv 4) (pa_cons pe_int (pa_cons (pv 3) pa_nil)))))
    (pss_cons (ps_set sc_law.nd (i := 8) rfl (by first | exact Or.inl rfl | exact Or.inr rfl) pe_int)
    (pss_cons (ps_if (PW.pt (pw_or (pt_cmpR (r := rEqD K) (op_eqD hu0) (pv 10) pe_int (nomark _)) (pw_or1 (pt_cmpR (r := rEqD K) (op_eqD hu0) (pv 11) pe_int (nomark _))))) (pss_one (ps_set sc_law.nd (i := 8) rfl (by first | exact Or.inl rfl | exact Or.inr rfl) (pv 11))) pss_nil)
    (pss_cons (ps_if (pt_cmpR (r := rNeD K) (op_neD hu0) (pe_cmpR op_isV (pv 7) pe_non (nomark _)) (pe_cmpR op_lt (pv 3) (pv 8) (nomark _)) (nomark _)) (pss_one (ps_ret pe_bl)) pss_nil)
    (pss_cons (ps_if (pt_cmpR op_isV (pv 7) pe_non (nomark _)) (pss_one (ps_ret pe_bl)) pss_nil)
    (pss_cons (ps_set sc_law.nd (i := 9) rfl (by first | exact Or.inl rfl | exact Or.inr rfl) (pe_callSD F__law_joined (hr.mono (by decide)) rfl g__law_joined D__law_joined.kp b__law_joined_4 v__law_joined_4 (fun σ => passAt tk σ) (pa_cons (pv 12) (pa_cons (pv 13) (pa_cons (pv 16) (pa_cons (pe_ix (r := rIxA K) (ix_any hu) (pv 7) pe_int (fun _ _ => rfl)) pa_nil))))))
    (pss_one (ps_ret (pe_and (pe_cmpR (r := rEqD K) (op_eqD hu0) (pe_callB (r := r1' (rLenA K)) call_lenA rfl f_len boot_len (pa_cons (pe_ix (r := rIxA K) (ix_any hu) (pv 7) pe_int (fun _ _ => rfl)) pa_nil)) (pv 8) (nomark _)) (pe_one (pe_cmpR (r := rEqD K) (op_eqD hu0) (pe_bmK K rfl PySem.F.plainAttrs_list PySem.F.slot_list_index PySem.F.type_list_index (r := rIndex K) mt_index (pv 9) (pa_cons pe_bl pa_nil)) (pe_ix (r := rIxA K) (ix_any hu) (pv 7) pe_int (fun _ _ => rfl)) (nomark _)))))))))))))))))))))))
  · exact (sndS_seq (sndS_asg (snd_user (fun _ _ => rfl) (sndA_c sndO_v sndA_nil)) sndG_name)
    (sndS_seq (sndS_asg (snd_user (fun _ _ => rfl) (sndA_c sndO_v sndA_nil)) sndG_name)
    (sndS_seq (sndS_asg snd_var (sndG_seq (sndGs_cons sndG_name (sndGs_cons sndG_name (sndGs_cons sndG_name (sndGs_cons sndG_name (sndGs_cons sndG_name sndGs_nil)))))))
    (sndS_seq (sndS_asg (snd_user (fun _ _ => rfl) (sndA_c sndO_v (sndA_c (sndO_t (snd_c fun _ _ => rfl)) sndA_nil))) sndG_name)
    (sndS_seq (sndS_if (sndT_and (sndT_tst (snd_op pr_eq sndO_v (sndO_t (snd_c fun _ _ => rfl)))) (sndT_tst (snd_op pr_gt (sndO_t (snd_call pr_len (sndA_c sndO_v sndA_nil))) (sndO_t (snd_c fun _ _ => rfl))))) (sndS_asg (snd_c fun _ _ => rfl) sndG_name) sndS_nil)
    (sndS_seq (sndS_par (sndA_c (sndO_t (snd_meth pm_index sndO_v (sndA_c sndO_v sndA_nil))) (sndA_c (sndO_t (snd_meth pm_index sndO_v (sndA_c (sndO_t (snd_c fun _ _ => rfl)) sndA_nil))) sndA_nil)))
    (sndS_seq (sndS_asg (snd_make (fun _ _ => ⟨_, _, rfl, rfl, rfl⟩) (sndA_c sndO_v (sndA_c (sndO_t (snd_call pr_list (sndA_c sndO_v sndA_nil))) (sndA_c (sndO_t (snd_lst (sndA_c sndO_v (sndA_c sndO_v sndA_nil)))) sndA_nil)))) sndG_name)
    (sndS_seq (sndS_asg (snd_make (fun _ _ => rfl) (sndA_c sndO_v (sndA_c (sndO_t (snd_c fun _ _ => rfl)) (sndA_c sndO_v sndA_nil)))) sndG_name)
    (sndS_seq (sndS_for (sndI_seq (snd_tup (sndA_c sndO_v (sndA_c sndO_v (sndA_c (sndO_t (snd_user (fun _ _ => rfl) (sndA_c sndO_v (sndA_c sndO_v sndA_nil)))) (sndA_c (sndO_t (snd_op pr_sub sndO_v (sndO_t (snd_c fun _ _ => rfl)))) sndA_nil)))))) sndG_name (sndS_seq (sndS_asg (snd_user (fun _ _ => rfl) (sndA_c sndO_v (sndA_c sndO_v (sndA_c sndO_v (sndA_c (sndO_t (snd_op pr_ix sndO_v sndO_v)) sndA_nil))))) sndG_name)
    (sndS_seq (sndS_if (sndT_not (sndT_b (snd_user (fun _ _ => rfl) (sndA_c (sndO_t (snd_inst (fun _ _ => ⟨_, _, rfl, ⟨_, [], rfl, kt_WorthX_callX, rfl⟩, rfl⟩) sndO_v (sndA_c sndO_v sndA_nil))) (sndA_c sndO_v sndA_nil))))) (sndS_ret (snd_c fun _ _ => rfl)) sndS_nil)
    (sndS_seq (sndS_asg (snd_methS (fun _ _ => ⟨_, _, rfl, ⟨_, [], rfl, kt_Worth_best, rfl⟩, rfl⟩) sndO_v (sndA_c sndO_v sndA_nil)) sndG_name)
    (sndS_seq (sndS_if (sndT_tst (snd_op pr_ne (sndO_t (snd_orV (snd_op pr_is sndO_v (sndO_t (snd_c fun _ _ => rfl))) (snd_op pr_eq sndO_v (sndO_t (snd_c fun _ _ => rfl))))) (sndO_t (snd_op pr_is sndO_v (sndO_t (snd_c fun _ _ => rfl)))))) (sndS_ret (snd_c fun _ _ => rfl)) sndS_nil)
    (sndS_if (sndT_and (sndT_tst (snd_op pr_eq sndO_v (sndO_t (snd_op pr_ix sndO_v sndO_v)))) (sndT_and (sndT_tst (snd_op pr_gt sndO_v (sndO_t (snd_c fun _ _ => rfl)))) (sndT_tst (snd_op pr_ne (sndO_t (snd_op pr_ix sndO_v (sndO_t (snd_methS (fun _ _ => rfl) sndO_v (sndA_c sndO_v (sndA_c sndO_v sndA_nil)))))) (sndO_t (snd_op pr_sub sndO_v (sndO_t (snd_c fun _ _ => rfl)))))))) (sndS_ret (snd_c fun _ _ => rfl)) sndS_nil))))))
    (sndS_seq (sndS_if (sndT_and (sndT_tst (snd_op pr_eq sndO_v (sndO_t (snd_c fun _ _ => rfl)))) (sndT_and (sndT_tst (snd_op pr_gt sndO_v (sndO_t (snd_c fun _ _ => rfl)))) (sndT_not (sndT_b (snd_user (fun _ _ => rfl) (sndA_c (sndO_t (snd_inst (fun _ _ => rfl) sndO_v (sndA_c sndO_v (sndA_c (sndO_t (snd_lst (sndA_c (sndO_t (snd_op pr_sub sndO_v (sndO_t (snd_c fun _ _ => rfl)))) sndA_nil))) sndA_nil)))) (sndA_c sndO_v sndA_nil))))))) (sndS_ret (snd_c fun _ _ => rfl)) sndS_nil)
    (sndS_seq (sndS_if (sndT_not (sndT_b (snd_user (fun _ _ => rfl) (sndA_c sndO_v (sndA_c sndO_v (sndA_c sndO_v (sndA_c sndO_v sndA_nil))))))) (sndS_ret (snd_c fun _ _ => rfl)) sndS_nil)
    (sndS_seq (sndS_asg (snd_user (fun _ _ => rfl) (sndA_c sndO_v (sndA_c (sndO_t (snd_c fun _ _ => rfl)) (sndA_c sndO_v sndA_nil)))) sndG_name)
    (sndS_seq (sndS_asg (snd_c fun _ _ => rfl) sndG_name)
    (sndS_seq (sndS_if (sndT_or (sndT_tst (snd_op pr_eq sndO_v (sndO_t (snd_c fun _ _ => rfl)))) (sndT_tst (snd_op pr_eq sndO_v (sndO_t (snd_c fun _ _ => rfl))))) (sndS_asg snd_var sndG_name) sndS_nil)
    (sndS_seq (sndS_if (sndT_tst (snd_op pr_ne (sndO_t (snd_op pr_is sndO_v (sndO_t (snd_c fun _ _ => rfl)))) (sndO_t (snd_op pr_lt sndO_v sndO_v)))) (sndS_ret (snd_c fun _ _ => rfl)) sndS_nil)
    (sndS_seq (sndS_if (sndT_tst (snd_op pr_is sndO_v (sndO_t (snd_c fun _ _ => rfl)))) (sndS_ret (snd_c fun _ _ => rfl)) sndS_nil)
    (sndS_seq (sndS_asg (snd_user (fun _ _ => rfl) (sndA_c sndO_v (sndA_c sndO_v (sndA_c sndO_v (sndA_c (sndO_t (snd_op pr_ix sndO_v (sndO_t (snd_c fun _ _ => rfl)))) sndA_nil))))) sndG_name)
    (sndS_ret (snd_andV (snd_op pr_eq (sndO_t (snd_call pr_len (sndA_c (sndO_t (snd_op pr_ix sndO_v (sndO_t (snd_c fun _ _ => rfl)))) sndA_nil))) sndO_v) (snd_op pr_eq (sndO_t (snd_meth pm_index sndO_v (sndA_c (sndO_t (snd_c fun _ _ => rfl)) sndA_nil))) (sndO_t (snd_op pr_ix sndO_v (sndO_t (snd_c fun _ _ => rfl))))))))))))))))))))))))
end VLL
set_option Elab.async false
set_option linter.all false
set_option maxRecDepth 100000
set_option maxHeartbeats 2000000
/-! P1: what the net's defs answer, in plain numbers. -/
namespace VLL
open VL
@[reducible] def nD (k : Nat) : D := .int (k : Int)
def prD (p : Nat × Nat) : D := .tup [nD p.1, nD p.2]
def netD (n : Nat) (ls : List (Nat × Nat)) (hs : List Nat) : D := .obj "Net" ["size", "lines", "houses", "bits"] [nD n, .tup (ls.map prD), .tup (hs.map nD), .int 0]
section
variable {n : Nat} {ls : List (Nat × Nat)} {hs : List Nat} {r : Env}
theorem f_size : mFld "Net" "size" (mv 0) (.sh (netD n ls hs) :: r) = .ok (.sh (nD n)) (.sh (netD n ls hs) :: r) := rfl
theorem f_lines : mFld "Net" "lines" (mv 0) (.sh (netD n ls hs) :: r) = .ok (.sh (.tup (ls.map prD))) (.sh (netD n ls hs) :: r) := rfl
theorem f_houses : mFld "Net" "houses" (mv 0) (.sh (netD n ls hs) :: r) = .ok (.sh (.tup (hs.map nD))) (.sh (netD n ls hs) :: r) := rfl
theorem r_is_int (i : Int) : run_is_int [.int i] = .ok (.sh (.bl true)) .non := rfl
theorem r_row_l (x : List D) : run_is_row_like [.lst x] = .ok (.sh (.bl true)) .non := rfl
theorem r_row_t (x : List D) : run_is_row_like [.tup x] = .ok (.sh (.bl true)) .non := rfl
theorem r_check (n : PySem.Str) (v lo hi : Int) (h1 : lo ≤ v) (h2 : v ≤ hi) : run_check_number [.str n, .int v, .int lo, .int hi] = .ok (.sh (.int v)) .non := by
  have e1 : decide (v < lo) = false := decide_eq_false (by omega)
  have e2 : decide (hi < v) = false := decide_eq_false (by omega)
  unfold run_check_number m_check_number
  simp only [runF, entry, thn', sIf, sAsg, sDrop, sRet, sNever, okO, bnd, mOr, mAnd, mNot, mb, VL.mt, mTru, truD, usr, mCall, ac, an, mv, tm, takes, take, VL.ret, aft, asB, o1, o2, cb, mPrim, looks, look, pLt, pGt, pLe, pGe, pAdd, pLen, ii, oI, sI, sB, cst, pIsN, pIs, mMove, mVar, setS, mIf, mAndV, mOrV, mNotV, fin, finR, mTake, kTup, kLst, chk, unpk, gsc, gs0, Slot.frz, meth, mTy, tyD, mOn, mSeq, items, sFor, pTuple, pList, List.length_cons, List.length_nil, List.map_cons, List.map_nil, List.replicate, List.append_nil, List.cons_append, List.nil_append, List.getElem?_cons_zero, List.getElem?_cons_succ, Option.bind_some, Slot.d?, List.set, Bool.not_true, Bool.not_false, Nat.sub_self, Bool.false_eq_true, ↓reduceIte, Option.map_some, r_is_int, e1, e2]
theorem at_nat {α : Type} (xs : List α) (i : Nat) : L2.atI xs (i : Int) = xs[i]? := by
  unfold L2.atI L2.ixN
  rw [if_pos (by omega)]
  by_cases h : (i : Int) < xs.length
  · rw [if_pos h]; simp
  · rw [if_neg h, Option.bind_none, List.getElem?_eq_none (by omega)]
theorem pIx_tup (xs : List D) (i : Nat) : pIx [.tup xs, .int (i : Int)] = (xs[i]?).map Slot.sh := by
  show (L2.atI xs (i : Int)).map Slot.sh = _
  rw [at_nat]
theorem pIx_lst (xs : List D) (i : Nat) : pIx [.lst xs, .int (i : Int)] = (xs[i]?).map Slot.sh := by
  show (L2.atI xs (i : Int)).map Slot.sh = _
  rw [at_nat]
theorem pEq_int (a b : Int) : pEq [.int a, .int b] = some (.sh (.bl (decide (a = b)))) := by
  show some (Slot.sh (D.bl (PySem.PyData.eqv (.int a) (.int b)))) = _
  congr 3
theorem pNe_int (a b : Int) : pNe [.int a, .int b] = some (.sh (.bl (!decide (a = b)))) := by
  show some (Slot.sh (D.bl (!PySem.PyData.eqv (.int a) (.int b)))) = _
  congr 3
theorem r_other {l s : Nat} {p : Nat × Nat} (h : ls[l]? = some p) (hn : s < n) : run_Net_other [netD n ls hs, nD l, nD s] = .ok (.sh (if s = p.1 then nD p.2 else if s = p.2 then nD p.1 else .non)) .non := by
  have hl := (List.getElem?_eq_some_iff.mp h).1
  have c1 := r_check "line" l 0 ((ls.length : Int) - 1) (by omega) (by omega)
  have c2 := r_check "switch" s 0 ((n : Int) - 1) (by omega) (by omega)
  unfold run_Net_other m_Net_other
  by_cases e1 : s = p.1
  · have d1 : decide ((s : Int) = (p.1 : Int)) = true := decide_eq_true (by omega)
    simp only [runF, entry, thn', sIf, sAsg, sDrop, sRet, sNever, okO, bnd, mOr, mAnd, mNot, mb, VL.mt, mTru, truD, usr, mCall, ac, an, mv, tm, takes, take, VL.ret, aft, asB, o1, o2, cb, mPrim, looks, look, pLt, pGt, pLe, pGe, pAdd, pLen, ii, oI, sI, sB, cst, pIsN, pIs, mMove, mVar, setS, mIf, mAndV, mOrV, mNotV, fin, finR, mTake, kTup, kLst, chk, unpk, gsc, gs0, Slot.frz, meth, mTy, tyD, mOn, mSeq, items, sFor, pTuple, pList, List.length_cons, List.length_nil, List.map_cons, List.map_nil, List.replicate, List.append_nil, List.cons_append, List.nil_append, List.getElem?_cons_zero, List.getElem?_cons_succ, Option.bind_some, Slot.d?, List.set, Bool.not_true, Bool.not_false, Nat.sub_self, Bool.false_eq_true, ↓reduceIte, Option.map_some, c1, c2, f_size, f_lines, List.length_map, pIx_tup, List.getElem?_map, h, prD, pEq_int, decide_true, d1]
    rw [if_pos e1]
  · have d1 : decide ((s : Int) = (p.1 : Int)) = false := decide_eq_false (by omega)
    rw [if_neg e1]
    by_cases e2 : s = p.2
    · have d2 : decide ((s : Int) = (p.2 : Int)) = true := decide_eq_true (by omega)
      simp only [runF, entry, thn', sIf, sAsg, sDrop, sRet, sNever, okO, bnd, mOr, mAnd, mNot, mb, VL.mt, mTru, truD, usr, mCall, ac, an, mv, tm, takes, take, VL.ret, aft, asB, o1, o2, cb, mPrim, looks, look, pLt, pGt, pLe, pGe, pAdd, pLen, ii, oI, sI, sB, cst, pIsN, pIs, mMove, mVar, setS, mIf, mAndV, mOrV, mNotV, fin, finR, mTake, kTup, kLst, chk, unpk, gsc, gs0, Slot.frz, meth, mTy, tyD, mOn, mSeq, items, sFor, pTuple, pList, List.length_cons, List.length_nil, List.map_cons, List.map_nil, List.replicate, List.append_nil, List.cons_append, List.nil_append, List.getElem?_cons_zero, List.getElem?_cons_succ, Option.bind_some, Slot.d?, List.set, Bool.not_true, Bool.not_false, Nat.sub_self, Bool.false_eq_true, ↓reduceIte, Option.map_some, c1, c2, f_size, f_lines, List.length_map, pIx_tup, List.getElem?_map, h, prD, pEq_int, decide_true, d1, d2]
      rw [if_pos e2]
    · have d2 : decide ((s : Int) = (p.2 : Int)) = false := decide_eq_false (by omega)
      simp only [runF, entry, thn', sIf, sAsg, sDrop, sRet, sNever, okO, bnd, mOr, mAnd, mNot, mb, VL.mt, mTru, truD, usr, mCall, ac, an, mv, tm, takes, take, VL.ret, aft, asB, o1, o2, cb, mPrim, looks, look, pLt, pGt, pLe, pGe, pAdd, pLen, ii, oI, sI, sB, cst, pIsN, pIs, mMove, mVar, setS, mIf, mAndV, mOrV, mNotV, fin, finR, mTake, kTup, kLst, chk, unpk, gsc, gs0, Slot.frz, meth, mTy, tyD, mOn, mSeq, items, sFor, pTuple, pList, List.length_cons, List.length_nil, List.map_cons, List.map_nil, List.replicate, List.append_nil, List.cons_append, List.nil_append, List.getElem?_cons_zero, List.getElem?_cons_succ, Option.bind_some, Slot.d?, List.set, Bool.not_true, Bool.not_false, Nat.sub_self, Bool.false_eq_true, ↓reduceIte, Option.map_some, c1, c2, f_size, f_lines, List.length_map, pIx_tup, List.getElem?_map, h, prD, pEq_int, decide_true, d1, d2]
      rw [if_neg e2]
/-- an option of a number -/
def oD : Option Nat → D
  | none => .non
  | some k => nD k
def lineWorth : Option Nat → Bool → Option Nat → Option Nat
  | none, _, _ => none
  | some b, false, _ => some (b + 1)
  | some b, true, none => none
  | some b, true, some h => some (max (b + 1) h)
theorem oD_max (a b : Nat) : (D.int (if (b : Int) > (a : Int) + 1 then (b : Int) else (a : Int) + 1)) = nD (max (a + 1) b) := by
  show D.int _ = D.int _
  congr 1
  by_cases h : (b : Int) > (a : Int) + 1
  · rw [if_pos h]; omega
  · rw [if_neg h]; omega
theorem r_line_worth (b h : Option Nat) (f : Bool) : run_line_worth [oD b, .bl f, oD h] = .ok (.sh (oD (lineWorth b f h))) .non := by
  cases b with
  | none => cases f <;> cases h <;> rfl
  | some b =>
    cases f with
    | false => cases h <;> rfl
    | true =>
      cases h with
      | none => rfl
      | some h =>
        show FR.ok (Slot.sh (D.int (if (h : Int) > (b : Int) + 1 then (h : Int) else (b : Int) + 1))) D.non = _
        rw [oD_max] <;> rfl
theorem any_nat (xs : List Nat) (s : Nat) : L2.inV (.int (s : Int)) ((xs.map nD).map aV) = xs.contains s := by
  unfold L2.inV
  induction xs with
  | nil => rfl
  | cons x xs ih =>
    rw [List.map_cons, List.map_cons, List.any_cons, List.contains_cons, ih]
    congr 1
    show ((x : Int) == (s : Int)) = (s == x)
    by_cases h : s = x
    · subst h; simp
    · rw [beq_eq_false_iff_ne.mpr (show (x : Int) ≠ (s : Int) by omega), beq_eq_false_iff_ne.mpr h]
theorem flat_nat (xs : List Nat) : (xs.map nD).all flatD = true := by
  rw [List.all_map, List.all_eq_true]
  intro x _
  rfl
theorem pIn_tup (xs : List Nat) (s : Nat) : pIn [nD s, .tup (xs.map nD)] = some (.sh (.bl (xs.contains s))) := by
  unfold pIn inB
  simp only [flat_nat, show flatD (nD s) = true from rfl, Bool.and_true, ↓reduceIte]
  show sB (L2.inV (.int (s : Int)) _) = _
  rw [any_nat] <;> rfl
theorem pNotIn_tup (xs : List Nat) (s : Nat) : pNotIn [nD s, .tup (xs.map nD)] = some (.sh (.bl (!xs.contains s))) := by
  unfold pNotIn inB
  simp only [flat_nat, show flatD (nD s) = true from rfl, Bool.and_true, ↓reduceIte]
  show sB (!L2.inV (.int (s : Int)) _) = _
  rw [any_nat] <;> rfl
theorem pIn_pr (p : Nat × Nat) (s : Nat) : pIn [nD s, prD p] = some (.sh (.bl ([p.1, p.2].contains s))) := pIn_tup [p.1, p.2] s
theorem le_lim {k : Nat} (h : k ≤ 1000) : k ≤ lim := Nat.le_trans h (by decide)
theorem small_nat {k : Nat} (h : k ≤ 1000) : small (k : Int) = true := small_le (by rw [Int.natAbs_natCast]; exact Nat.le_trans h (by decide))
/-- the lines at a switch -/
def linesAt (ls : List (Nat × Nat)) (s : Nat) : List Nat := (List.range ls.length).filterMap fun l => match ls[l]? with
  | some p => if [p.1, p.2].contains s then some l else none
  | none => none
theorem r_lines_at {s : Nat} (hn : s < n) (hl : ls.length ≤ 36) : run_Net_lines_at [netD n ls hs, nD s] = .ok (.sh (.tup ((linesAt ls s).map nD))) .non := by
  have c2 := r_check "switch" s 0 ((n : Int) - 1) (by omega) (by omega)
  have small0 : small (ls.length : Int) = true := small_nat (Nat.le_trans hl (by decide))
  have hlc : c_Net_lines_at_1 [.sh (netD n ls hs), .sh (nD s), .un] = .ok (.ow (.lst ((linesAt ls s).map nD))) [.sh (netD n ls hs), .sh (nD s), .un] := by
    unfold c_Net_lines_at_1
    refine mLc_run (e0 := nD) (e1 := nD) (ds := List.range ls.length) ?_ rfl rfl rfl (fun l hl => ?_) (by rw [List.length_range]; exact le_lim (Nat.le_trans hl (by decide)))
    · refine rng1_ok small0 (os := [.tmp (.sh (.int (ls.length : Int)))]) ?_ rfl
      simp only [runF, entry, thn', sIf, sAsg, sDrop, sRet, sNever, okO, bnd, mOr, mAnd, mNot, mb, VL.mt, mTru, truD, usr, mCall, ac, an, mv, tm, takes, take, VL.ret, aft, asB, o1, o2, cb, mPrim, looks, look, pLt, pGt, pLe, pGe, pAdd, pLen, ii, oI, sI, sB, cst, pIsN, pIs, mMove, mVar, setS, mIf, mAndV, mOrV, mNotV, fin, finR, mTake, kTup, kLst, chk, unpk, gsc, gs0, Slot.frz, meth, mTy, tyD, mOn, mSeq, items, sFor, pTuple, pList, List.length_cons, List.length_nil, List.map_cons, List.map_nil, List.replicate, List.append_nil, List.cons_append, List.nil_append, List.getElem?_cons_zero, List.getElem?_cons_succ, Option.bind_some, Slot.d?, List.set, Bool.not_true, Bool.not_false, Nat.sub_self, Bool.false_eq_true, ↓reduceIte, Option.map_some, f_lines, List.length_map]
    · have hl := List.mem_range.mp hl
      have h : ls[l]? = some ls[l] := List.getElem?_eq_getElem hl
      refine ⟨[.sh (netD n ls hs), .sh (nD s), .sh (nD l)], rfl, ?_⟩
      rw [h]
      dsimp only
      by_cases hc : [ls[l].1, ls[l].2].contains s = true
      · rw [if_pos hc]
        refine ⟨[.sh (netD n ls hs), .sh (nD s), .sh (nD l)], .sh (nD l), [.sh (netD n ls hs), .sh (nD s), .sh (nD l)], ?_, rfl, rfl, rfl, rfl⟩
        simp only [runF, entry, thn', sIf, sAsg, sDrop, sRet, sNever, okO, bnd, mOr, mAnd, mNot, mb, VL.mt, mTru, truD, usr, mCall, ac, an, mv, tm, takes, take, VL.ret, aft, asB, o1, o2, cb, mPrim, looks, look, pLt, pGt, pLe, pGe, pAdd, pLen, ii, oI, sI, sB, cst, pIsN, pIs, mMove, mVar, setS, mIf, mAndV, mOrV, mNotV, fin, finR, mTake, kTup, kLst, chk, unpk, gsc, gs0, Slot.frz, meth, mTy, tyD, mOn, mSeq, items, sFor, pTuple, pList, List.length_cons, List.length_nil, List.map_cons, List.map_nil, List.replicate, List.append_nil, List.cons_append, List.nil_append, List.getElem?_cons_zero, List.getElem?_cons_succ, Option.bind_some, Slot.d?, List.set, Bool.not_true, Bool.not_false, Nat.sub_self, Bool.false_eq_true, ↓reduceIte, Option.map_some, f_lines, pIx_tup, List.getElem?_map, h, pIn_pr, hc]
      · rw [if_neg hc]
        have hc := Bool.eq_false_iff.mpr hc
        refine ⟨[.sh (netD n ls hs), .sh (nD s), .sh (nD l)], ?_, rfl, rfl⟩
        simp only [runF, entry, thn', sIf, sAsg, sDrop, sRet, sNever, okO, bnd, mOr, mAnd, mNot, mb, VL.mt, mTru, truD, usr, mCall, ac, an, mv, tm, takes, take, VL.ret, aft, asB, o1, o2, cb, mPrim, looks, look, pLt, pGt, pLe, pGe, pAdd, pLen, ii, oI, sI, sB, cst, pIsN, pIs, mMove, mVar, setS, mIf, mAndV, mOrV, mNotV, fin, finR, mTake, kTup, kLst, chk, unpk, gsc, gs0, Slot.frz, meth, mTy, tyD, mOn, mSeq, items, sFor, pTuple, pList, List.length_cons, List.length_nil, List.map_cons, List.map_nil, List.replicate, List.append_nil, List.cons_append, List.nil_append, List.getElem?_cons_zero, List.getElem?_cons_succ, Option.bind_some, Slot.d?, List.set, Bool.not_true, Bool.not_false, Nat.sub_self, Bool.false_eq_true, ↓reduceIte, Option.map_some, f_lines, pIx_tup, List.getElem?_map, h, pIn_pr, hc]
  unfold run_Net_lines_at m_Net_lines_at
  simp only [runF, entry, thn', sIf, sAsg, sDrop, sRet, sNever, okO, bnd, mOr, mAnd, mNot, mb, VL.mt, mTru, truD, usr, mCall, ac, an, mv, tm, takes, take, VL.ret, aft, asB, o1, o2, cb, mPrim, looks, look, pLt, pGt, pLe, pGe, pAdd, pLen, ii, oI, sI, sB, cst, pIsN, pIs, mMove, mVar, setS, mIf, mAndV, mOrV, mNotV, fin, finR, mTake, kTup, kLst, chk, unpk, gsc, gs0, Slot.frz, meth, mTy, tyD, mOn, mSeq, items, sFor, pTuple, pList, List.length_cons, List.length_nil, List.map_cons, List.map_nil, List.replicate, List.append_nil, List.cons_append, List.nil_append, List.getElem?_cons_zero, List.getElem?_cons_succ, Option.bind_some, Slot.d?, List.set, Bool.not_true, Bool.not_false, Nat.sub_self, Bool.false_eq_true, ↓reduceIte, Option.map_some, c2, f_size, hlc]
/-- the least of those that are there -/
def nearestO (ws : List (Option Nat)) : Option Nat := match ws.filterMap id with
  | [] => none
  | w :: r => some (r.foldl min w)
theorem intsD_nat : ∀ xs : List Nat, intsD (xs.map nD) = some (xs.map fun (k : Nat) => (k : Int))
  | [] => rfl
  | x :: xs => by
    rw [List.map_cons, List.map_cons]
    unfold intsD
    rw [intsD_nat xs]
theorem minN_nat : ∀ xs : List Nat, minN (xs.map fun (k : Nat) => (k : Int)) = oD (match xs with | [] => none | w :: r => some (r.foldl min w))
  | [] => rfl
  | w :: r => by
    show D.int ((r.map fun (k : Nat) => (k : Int)).foldl min (w : Int)) = D.int ((r.foldl min w : Nat) : Int)
    congr 1
    induction r generalizing w with
    | nil => rfl
    | cons x r ih =>
      rw [List.map_cons, List.foldl_cons, List.foldl_cons, ← ih, Int.min_def, Nat.min_def]
      congr 1
      by_cases h : w ≤ x
      · rw [if_pos h, if_pos (by omega)]
      · rw [if_neg h, if_neg (by omega)]
theorem r_nearest {ws : List (Option Nat)} (hl : ws.length ≤ 1000) : run_nearest [.lst (ws.map oD)] = .ok (.sh (oD (nearestO ws))) .non := by
  have hlc : c_nearest_1 [.sh (.lst (ws.map oD)), .un] = .ok (.ow (.lst ((ws.filterMap id).map nD))) [.sh (.lst (ws.map oD)), .un] := by
    unfold c_nearest_1
    refine mLc_run (e0 := oD) (e1 := nD) (ds := ws) rfl rfl rfl rfl (fun w hw => ?_) (le_lim hl)
    refine ⟨[.sh (.lst (ws.map oD)), .sh (oD w)], by cases w <;> rfl, ?_⟩
    cases w with
    | none => exact ⟨[.sh (.lst (ws.map oD)), .sh .non], rfl, rfl, rfl⟩
    | some k => exact ⟨[.sh (.lst (ws.map oD)), .sh (nD k)], .sh (nD k), [.sh (.lst (ws.map oD)), .sh (nD k)], rfl, rfl, rfl, rfl, rfl⟩
  have hm : pMinN [.lst ((ws.filterMap id).map nD), .non] = some (.sh (oD (nearestO ws))) := by
    unfold pMinN
    dsimp only
    rw [intsD_nat]
    dsimp only
    rw [minN_nat]
    unfold nearestO <;> rfl
  unfold run_nearest m_nearest
  simp only [runF, entry, thn', sIf, sAsg, sDrop, sRet, sNever, okO, bnd, mOr, mAnd, mNot, mb, VL.mt, mTru, truD, usr, mCall, ac, an, mv, tm, takes, take, VL.ret, aft, asB, o1, o2, cb, mPrim, looks, look, pLt, pGt, pLe, pGe, pAdd, pLen, ii, oI, sI, sB, cst, pIsN, pIs, mMove, mVar, setS, mIf, mAndV, mOrV, mNotV, fin, finR, mTake, kTup, kLst, chk, unpk, gsc, gs0, Slot.frz, meth, mTy, tyD, mOn, mSeq, items, sFor, pTuple, pList, List.length_cons, List.length_nil, List.map_cons, List.map_nil, List.replicate, List.append_nil, List.cons_append, List.nil_append, List.getElem?_cons_zero, List.getElem?_cons_succ, Option.bind_some, Slot.d?, List.set, Bool.not_true, Bool.not_false, Nat.sub_self, Bool.false_eq_true, ↓reduceIte, Option.map_some, minDef, hlc, hm]
end
end VLL
set_option Elab.async false
set_option linter.all false
set_option maxRecDepth 1000000
set_option maxHeartbeats 0
/-! P71b: lots, both, the worths of a lot, the table. -/
namespace VLL
open VL
def lotD (l : List Nat) : D := .tup (l.map nD)
def lotOk (lot : List Nat) (k : Nat) : Bool := match lot.getLast? with
  | none => true
  | some j => Nat.blt j k
def nextLayer (many : Nat) (layer : List (List Nat)) : List (List Nat) := layer.flatMap fun lot => ((List.range many).filter (lotOk lot)).map fun k => lot ++ [k]
def lotsGo (many : Nat) : Nat → List (List Nat) → List (List Nat) → List (List Nat)
  | 0, lots, _ => lots
  | m + 1, lots, layer => lotsGo many m (lots ++ nextLayer many layer) (nextLayer many layer)
def smallLots (many most : Nat) : List (List Nat) := lotsGo many most [[]] [[]]
def isNs : List D → List Nat → Bool
  | [], [] => true
  | .int i :: xs, k :: ks => decide (i = (k : Int)) && isNs xs ks
  | _, _ => false
def isLs : List D → List (List Nat) → Bool
  | [], [] => true
  | .tup x :: xs, l :: ls => isNs x l && isLs xs ls
  | _, _ => false
def isLots (r : VL.FR) (l : List (List Nat)) : Bool := match r with
  | .ok (.ow (.lst xs)) .non => isLs xs l
  | _ => false
theorem isNs_ok : ∀ {xs : List D} {l : List Nat}, isNs xs l = true → xs = l.map nD
  | [], [], _ => rfl
  | .int i :: xs, k :: ks, h => by
    unfold isNs at h
    rw [Bool.and_eq_true] at h
    rw [of_decide_eq_true h.1, isNs_ok h.2] <;> rfl
  | [], _ :: _, h => by cases h
  | .int _ :: _, [], h => by cases h
  | .non :: _, _, h => by cases h
  | .bl _ :: _, _, h => by cases h
  | .str _ :: _, _, h => by cases h
  | .tup _ :: _, _, h => by cases h
  | .lst _ :: _, _, h => by cases h
  | .dic _ _ :: _, _, h => by cases h
  | .dit _ _ :: _, _, h => by cases h
  | .scr _ :: _, _, h => by cases h
  | .kt _ :: _, _, h => by cases h
  | .ft _ :: _, _, h => by cases h
  | .obj _ _ _ :: _, _, h => by cases h
theorem isLs_ok : ∀ {xs : List D} {l : List (List Nat)}, isLs xs l = true → xs = l.map lotD
  | [], [], _ => rfl
  | .tup x :: xs, k :: ks, h => by
    unfold isLs at h
    rw [Bool.and_eq_true] at h
    rw [isNs_ok h.1, isLs_ok h.2] <;> rfl
  | [], _ :: _, h => by cases h
  | .tup _ :: _, [], h => by cases h
  | .non :: _, _, h => by cases h
  | .bl _ :: _, _, h => by cases h
  | .str _ :: _, _, h => by cases h
  | .int _ :: _, _, h => by cases h
  | .lst _ :: _, _, h => by cases h
  | .dic _ _ :: _, _, h => by cases h
  | .dit _ _ :: _, _, h => by cases h
  | .scr _ :: _, _, h => by cases h
  | .kt _ :: _, _, h => by cases h
  | .ft _ :: _, _, h => by cases h
  | .obj _ _ _ :: _, _, h => by cases h
theorem isLots_ok {r : VL.FR} {l : List (List Nat)} (h : isLots r l = true) : r = .ok (.ow (.lst (l.map lotD))) .non := by
  unfold isLots at h
  split at h
  · rw [isLs_ok h]
  · cases h
theorem lots_all : ((List.range 13).all fun many => (List.range 4).all fun most => isLots (run_small_lots [nD many, nD most]) (smallLots many most)) = true := by decide +kernel
theorem r_small_lots {many most : Nat} (h1 : many ≤ 12) (h2 : most ≤ 3) : run_small_lots [nD many, nD most] = .ok (.ow (.lst ((smallLots many most).map lotD))) .non := by
  have h := lots_all
  rw [List.all_eq_true] at h
  have h := h many (List.mem_range.mpr (by omega))
  rw [List.all_eq_true] at h
  exact isLots_ok (h most (List.mem_range.mpr (by omega)))
/-! ### both -/
def insN (i : Nat) : List Nat → List Nat
  | [] => [i]
  | j :: r => if i ≤ j then i :: j :: r else j :: insN i r
def sortN : List Nat → List Nat
  | [] => []
  | i :: r => insN i (sortN r)
theorem insI_nat (i : Nat) : ∀ l : List Nat, insI (i : Int) (l.map fun (k : Nat) => (k : Int)) = (insN i l).map fun (k : Nat) => (k : Int)
  | [] => rfl
  | j :: r => by
    rw [List.map_cons]
    unfold insI insN
    by_cases h : i ≤ j
    · rw [if_pos h, if_pos (by omega)] <;> rfl
    · rw [if_neg h, if_neg (by omega), insI_nat i r] <;> rfl
theorem sortI_nat : ∀ l : List Nat, sortI (l.map fun (k : Nat) => (k : Int)) = (sortN l).map fun (k : Nat) => (k : Int)
  | [] => rfl
  | i :: r => by
    rw [List.map_cons]
    unfold sortI sortN
    rw [sortI_nat r, insI_nat]
theorem pSorted_nat {xs : List Nat} (h : xs.length < 64) : pSorted [.lst (xs.map nD)] = some (.ow (.lst ((sortN xs).map nD))) := by
  unfold pSorted
  dsimp only
  rw [intsD_nat]
  dsimp only
  rw [if_pos (by rw [List.length_map]; exact h), sortI_nat, List.map_map] <;> rfl
def bothN (a b : List Nat) : List Nat := sortN (a ++ b.filter fun k => !a.contains k)
theorem filt {α : Type} (p : α → Bool) : ∀ l : List α, (l.filterMap fun x => if p x then some x else none) = l.filter p
  | [] => rfl
  | x :: l => by
    rw [List.filterMap_cons, List.filter_cons, filt p l]
    cases p x <;> rfl
theorem r_both {a b : List Nat} (ha : a.length ≤ 20) (hb : b.length ≤ 20) : run_both [lotD a, lotD b] = .ok (.sh (lotD (bothN a b))) .non := by
  have hlc : c_both_1 [.sh (lotD a), .sh (lotD b), .un] = .ok (.ow (.lst ((b.filter fun k => !a.contains k).map nD))) [.sh (lotD a), .sh (lotD b), .un] := by
    unfold c_both_1
    rw [← filt]
    refine mLc_run (e0 := nD) (e1 := nD) (ds := b) rfl rfl rfl rfl (fun k hk => ?_) (le_lim (Nat.le_trans hb (by decide)))
    refine ⟨[.sh (lotD a), .sh (lotD b), .sh (nD k)], rfl, ?_⟩
    have e : pNotIn [nD k, lotD a] = some (.sh (.bl (!a.contains k))) := pNotIn_tup a k
    cases hc : a.contains k with
    | true =>
      rw [hc] at e
      refine ⟨[.sh (lotD a), .sh (lotD b), .sh (nD k)], ?_, rfl, rfl⟩
      simp only [runF, entry, thn', sIf, sAsg, sDrop, sRet, sNever, okO, bnd, mOr, mAnd, mNot, mb, VL.mt, mTru, truD, usr, mCall, ac, an, mv, tm, takes, take, VL.ret, aft, asB, o1, o2, cb, mPrim, looks, look, pLt, pGt, pLe, pGe, pAdd, pLen, ii, oI, sI, sB, cst, pIsN, pIs, mMove, mVar, setS, mIf, mAndV, mOrV, mNotV, fin, finR, mTake, kTup, kLst, chk, unpk, gsc, gs0, Slot.frz, meth, mTy, tyD, mOn, mSeq, items, sFor, pTuple, pList, List.length_cons, List.length_nil, List.map_cons, List.map_nil, List.replicate, List.append_nil, List.cons_append, List.nil_append, List.getElem?_cons_zero, List.getElem?_cons_succ, Option.bind_some, Slot.d?, List.set, Bool.not_true, Bool.not_false, Nat.sub_self, Bool.false_eq_true, ↓reduceIte, Option.map_some, e]
    | false =>
      rw [hc] at e
      refine ⟨[.sh (lotD a), .sh (lotD b), .sh (nD k)], .sh (nD k), [.sh (lotD a), .sh (lotD b), .sh (nD k)], ?_, rfl, rfl, rfl, rfl⟩
      simp only [runF, entry, thn', sIf, sAsg, sDrop, sRet, sNever, okO, bnd, mOr, mAnd, mNot, mb, VL.mt, mTru, truD, usr, mCall, ac, an, mv, tm, takes, take, VL.ret, aft, asB, o1, o2, cb, mPrim, looks, look, pLt, pGt, pLe, pGe, pAdd, pLen, ii, oI, sI, sB, cst, pIsN, pIs, mMove, mVar, setS, mIf, mAndV, mOrV, mNotV, fin, finR, mTake, kTup, kLst, chk, unpk, gsc, gs0, Slot.frz, meth, mTy, tyD, mOn, mSeq, items, sFor, pTuple, pList, List.length_cons, List.length_nil, List.map_cons, List.map_nil, List.replicate, List.append_nil, List.cons_append, List.nil_append, List.getElem?_cons_zero, List.getElem?_cons_succ, Option.bind_some, Slot.d?, List.set, Bool.not_true, Bool.not_false, Nat.sub_self, Bool.false_eq_true, ↓reduceIte, Option.map_some, e]
  have hf : (b.filter fun k => !a.contains k).length ≤ 20 := Nat.le_trans (List.length_filter_le _ _) hb
  have hadd : pAdd [.lst (a.map nD), .lst ((b.filter fun k => !a.contains k).map nD)] = some (.ow (.lst ((a ++ b.filter fun k => !a.contains k).map nD))) := by
    unfold pAdd
    dsimp only
    rw [if_pos (by rw [List.length_map, List.length_map]; exact le_lim (by omega)), List.map_append]
  have hs := pSorted_nat (xs := a ++ b.filter fun k => !a.contains k) (by rw [List.length_append]; omega)
  have hl : pList [lotD a] = some (.ow (.lst (a.map nD))) := rfl
  unfold run_both m_both
  simp only [runF, entry, thn', sIf, sAsg, sDrop, sRet, sNever, okO, bnd, mOr, mAnd, mNot, mb, VL.mt, mTru, truD, usr, mCall, ac, an, mv, tm, takes, take, VL.ret, aft, asB, o1, o2, cb, mPrim, looks, look, pLt, pGt, pLe, pGe, ii, oI, sI, sB, cst, pIsN, pIs, mMove, mVar, setS, mIf, mAndV, mOrV, mNotV, fin, finR, mTake, kTup, kLst, chk, unpk, gsc, gs0, Slot.frz, meth, mTy, tyD, mOn, mSeq, items, sFor, List.length_cons, List.length_nil, List.map_cons, List.map_nil, List.replicate, List.append_nil, List.cons_append, List.nil_append, List.getElem?_cons_zero, List.getElem?_cons_succ, Option.bind_some, Slot.d?, List.set, Bool.not_true, Bool.not_false, Nat.sub_self, Bool.false_eq_true, ↓reduceIte, Option.map_some, hlc, hadd, hs, hl, pTuple]
  rfl
end VLL
set_option Elab.async false
set_option linter.all false
set_option maxRecDepth 1000000
set_option maxHeartbeats 0
/-! P71c: the worths of a lot, the table. -/
namespace VLL
open VL
/-- the line's other end -/
def oth (ls : List (Nat × Nat)) (l s : Nat) : Nat := match ls[l]? with
  | some p => if s = p.1 then p.2 else p.1
  | none => 0
def endsAt (ls : List (Nat × Nat)) (lot : List Nat) (s : Nat) : List (Nat × Nat) := ((linesAt ls s).filter fun l => !lot.contains l).map fun l => (l, oth ls l s)
abbrev Fall := List (Bool × List (Option Nat))
def fallD (f : Bool × List (Option Nat)) : D := .tup [.bl f.1, .tup (f.2.map oD)]
def at0 {α : Type} (xs : List (Option α)) (i : Nat) : Option α := match xs[i]? with
  | some x => x
  | none => none
def fAt (f : Fall) (l : Nat) : Bool × List (Option Nat) := match f[l]? with
  | some x => x
  | none => (false, [])
def worthStep (n : Nat) (ls : List (Nat × Nat)) (spot : Nat) (lot : List Nat) (f : Fall) (ws : List (Option Nat)) : List (Option Nat) :=
  (List.range n).map fun s => if s = spot then some 0 else nearestO ((endsAt ls lot s).map fun q => lineWorth (at0 ws q.2) (fAt f q.1).1 (at0 (fAt f q.1).2 s))
def lotWorths (n : Nat) (ls : List (Nat × Nat)) (spot : Nat) (lot : List Nat) (f : Fall) : List (Option Nat) :=
  (List.range n).foldl (fun ws _ => worthStep n ls spot lot f ws) ((List.range n).map fun s => if s = spot then some 0 else none)
/-- a net that is well made -/
structure NetOk (n : Nat) (ls : List (Nat × Nat)) : Prop where
  n9 : n ≤ 9
  l36 : ls.length ≤ 36
  inn : ∀ p ∈ ls, p.1 < n ∧ p.2 < n ∧ p.1 ≠ p.2
theorem meth_ok {cn m : PySem.Str} {F : List D → VL.FR} {dd ds : List D} {mo : M Opnd} {ms : M (List Opnd)} {o : Opnd} {os : List Opnd} {ρ ρ1 ρ2 ρ3 : Env} {d0 e : D} {s : Slot} (h1 : mo ρ = .ok o ρ1) (h2 : look ρ1 o = some d0) (h3 : hasF cn m d0 = true) (h4 : ms ρ1 = .ok os ρ2)
    (h5 : takes (o :: os) ρ2 = .ok ds ρ3) (h6 : F (ds ++ dd) = .ok s e) : mMethS cn m F dd mo ms ρ = .ok s ρ3 := by
  unfold mMethS bnd
  rw [h1]
  dsimp only
  unfold mIs
  rw [h2]
  dsimp only
  rw [if_pos h3, h4]
  dsimp only
  unfold mCall
  dsimp only
  unfold bnd
  rw [h5]
  dsimp only
  rw [h6] <;> rfl
section
variable {n : Nat} {ls : List (Nat × Nat)} {hs : List Nat}
theorem mem_linesAt {l s : Nat} (h : l ∈ linesAt ls s) : ∃ p, ls[l]? = some p ∧ (s = p.1 ∨ s = p.2) := by
  unfold linesAt at h
  obtain ⟨j, hj, e⟩ := List.mem_filterMap.mp h
  cases q : ls[j]? with
  | none => rw [q] at e; cases e
  | some p =>
    rw [q] at e
    dsimp only at e
    by_cases hc : [p.1, p.2].contains s = true
    · rw [if_pos hc] at e
      cases e
      refine ⟨p, q, ?_⟩
      simpa using hc
    · rw [if_neg hc] at e; cases e
theorem r_other' {l s : Nat} (h : l ∈ linesAt ls s) (hn : s < n) : run_Net_other [netD n ls hs, nD l, nD s] = .ok (.sh (nD (oth ls l s))) .non := by
  obtain ⟨p, e, hp⟩ := mem_linesAt h
  rw [r_other e hn]
  unfold oth
  rw [e]
  dsimp only
  by_cases h1 : s = p.1
  · rw [if_pos h1, if_pos h1]
  · rw [if_neg h1, if_neg h1, if_pos (hp.resolve_left h1)]
theorem oth_lt (w : NetOk n ls) {l s : Nat} (h : l ∈ linesAt ls s) : oth ls l s < n := by
  obtain ⟨p, e, hp⟩ := mem_linesAt h
  unfold oth
  rw [e]
  dsimp only
  have := w.inn p (List.mem_of_getElem? e)
  by_cases h1 : s = p.1
  · rw [if_pos h1]; exact this.2.1
  · rw [if_neg h1]; exact this.1
theorem line_lt {l s : Nat} (h : l ∈ linesAt ls s) : l < ls.length := by
  obtain ⟨p, e, hp⟩ := mem_linesAt h
  exact (List.getElem?_eq_some_iff.mp e).1
theorem linesAt_len (s : Nat) : (linesAt ls s).length ≤ ls.length := by
  unfold linesAt
  exact Nat.le_trans (List.length_filterMap_le _ _) (by rw [List.length_range]; exact Nat.le_refl _)
theorem mem_ends {lot : List Nat} {s : Nat} {q : Nat × Nat} (h : q ∈ endsAt ls lot s) : q.1 ∈ linesAt ls s ∧ q.2 = oth ls q.1 s := by
  unfold endsAt at h
  obtain ⟨l, hl, rfl⟩ := List.mem_map.mp h
  exact ⟨(List.mem_filter.mp hl).1, rfl⟩
theorem ends_len (lot : List Nat) (s : Nat) : (endsAt ls lot s).length ≤ ls.length := by
  unfold endsAt
  rw [List.length_map]
  exact Nat.le_trans (List.length_filter_le _ _) (linesAt_len s)
variable {spot : Nat} {lot : List Nat} {f : Fall} {s4 s5 s6 : Slot}
abbrev env (n : Nat) (ls : List (Nat × Nat)) (hs : List Nat) (spot : Nat) (lot : List Nat) (f : Fall) (s4 s5 s6 s7 s8 s9 : Slot) : Env :=
  [.sh (netD n ls hs), .sh (nD spot), .sh (lotD lot), .sh (.lst (f.map fallD)), s4, s5, s6, s7, s8, s9]
theorem e_c1 (w : NetOk n ls) {s : Nat} (hn : s < n) : c_lot_worths_1 (env n ls hs spot lot f s4 s5 s6 (.sh (nD s)) .un .un) = .ok (.ow (.lst ((endsAt ls lot s).map prD))) (env n ls hs spot lot f s4 s5 s6 (.sh (nD s)) .un .un) := by
  unfold c_lot_worths_1
  have e0 : endsAt ls lot s = (linesAt ls s).filterMap fun l => if !lot.contains l then some (l, oth ls l s) else none := by
    unfold endsAt
    rw [← filt, List.map_filterMap]
    congr 1
    funext l
    cases lot.contains l <;> rfl
  rw [e0]
  refine mLc_run (e0 := nD) (e1 := prD) (ds := linesAt ls s) ?_ rfl rfl rfl (fun l hl => ?_) (le_lim (Nat.le_trans (linesAt_len s) (Nat.le_trans w.l36 (by decide))))
  · have hm := meth_ok (cn := "Net") (m := "lines_at") (F := run_Net_lines_at) (dd := []) (mo := mv 0) (ms := ac (mv 7) an) (o := .var 0) (os := [.var 7]) (ds := [netD n ls hs, nD s]) (ρ := env n ls hs spot lot f s4 s5 s6 (.sh (nD s)) .un .un) rfl rfl rfl rfl rfl (r_lines_at hn w.l36)
    have hx : x_lot_worths_1 (env n ls hs spot lot f s4 s5 s6 (.sh (nD s)) .un .un) = _ := hm
    simp only [runF, entry, thn', sIf, sAsg, sDrop, sRet, sNever, okO, bnd, mOr, mAnd, mNot, mb, VL.mt, mTru, truD, usr, mCall, ac, an, mv, tm, takes, take, VL.ret, aft, asB, o1, o2, cb, mPrim, looks, look, pLt, pGt, pLe, pGe, ii, oI, sI, sB, cst, pIsN, pIs, mMove, mVar, setS, mIf, mAndV, mOrV, mNotV, fin, finR, mTake, kTup, kLst, chk, unpk, gsc, gs0, Slot.frz, meth, mTy, tyD, mOn, mSeq, items, sFor, List.length_cons, List.length_nil, List.map_cons, List.map_nil, List.replicate, List.append_nil, List.cons_append, List.nil_append, List.getElem?_cons_zero, List.getElem?_cons_succ, Option.bind_some, Slot.d?, List.set, Bool.not_true, Bool.not_false, Nat.sub_self, Bool.false_eq_true, ↓reduceIte, Option.map_some, hx, pTuple]
  · refine ⟨env n ls hs spot lot f s4 s5 s6 (.sh (nD s)) (.sh (nD l)) .un, rfl, ?_⟩
    have e : pNotIn [nD l, lotD lot] = some (.sh (.bl (!lot.contains l))) := pNotIn_tup lot l
    cases hc : lot.contains l with
    | true =>
      rw [hc] at e
      refine ⟨env n ls hs spot lot f s4 s5 s6 (.sh (nD s)) (.sh (nD l)) .un, ?_, rfl, rfl⟩
      simp only [runF, entry, thn', sIf, sAsg, sDrop, sRet, sNever, okO, bnd, mOr, mAnd, mNot, mb, VL.mt, mTru, truD, usr, mCall, ac, an, mv, tm, takes, take, VL.ret, aft, asB, o1, o2, cb, mPrim, looks, look, pLt, pGt, pLe, pGe, ii, oI, sI, sB, cst, pIsN, pIs, mMove, mVar, setS, mIf, mAndV, mOrV, mNotV, fin, finR, mTake, kTup, kLst, chk, unpk, gsc, gs0, Slot.frz, meth, mTy, tyD, mOn, mSeq, items, sFor, List.length_cons, List.length_nil, List.map_cons, List.map_nil, List.replicate, List.append_nil, List.cons_append, List.nil_append, List.getElem?_cons_zero, List.getElem?_cons_succ, Option.bind_some, Slot.d?, List.set, Bool.not_true, Bool.not_false, Nat.sub_self, Bool.false_eq_true, ↓reduceIte, Option.map_some, e, pTuple]
    | false =>
      rw [hc] at e
      refine ⟨env n ls hs spot lot f s4 s5 s6 (.sh (nD s)) (.sh (nD l)) .un, .sh (prD (l, oth ls l s)), env n ls hs spot lot f s4 s5 s6 (.sh (nD s)) (.sh (nD l)) .un, ?_, ?_, rfl, rfl, rfl⟩
      · simp only [runF, entry, thn', sIf, sAsg, sDrop, sRet, sNever, okO, bnd, mOr, mAnd, mNot, mb, VL.mt, mTru, truD, usr, mCall, ac, an, mv, tm, takes, take, VL.ret, aft, asB, o1, o2, cb, mPrim, looks, look, pLt, pGt, pLe, pGe, ii, oI, sI, sB, cst, pIsN, pIs, mMove, mVar, setS, mIf, mAndV, mOrV, mNotV, fin, finR, mTake, kTup, kLst, chk, unpk, gsc, gs0, Slot.frz, meth, mTy, tyD, mOn, mSeq, items, sFor, List.length_cons, List.length_nil, List.map_cons, List.map_nil, List.replicate, List.append_nil, List.cons_append, List.nil_append, List.getElem?_cons_zero, List.getElem?_cons_succ, Option.bind_some, Slot.d?, List.set, Bool.not_true, Bool.not_false, Nat.sub_self, Bool.false_eq_true, ↓reduceIte, Option.map_some, e, pTuple]
      · have hm := meth_ok (cn := "Net") (m := "other") (F := run_Net_other) (dd := []) (mo := mv 0) (ms := ac (mv 8) (ac (mv 7) an)) (o := .var 0) (os := [.var 8, .var 7]) (ds := [netD n ls hs, nD l, nD s]) (ρ := env n ls hs spot lot f s4 s5 s6 (.sh (nD s)) (.sh (nD l)) .un) rfl rfl rfl rfl rfl (r_other' hl hn)
        have hx : x_lot_worths_2 (env n ls hs spot lot f s4 s5 s6 (.sh (nD s)) (.sh (nD l)) .un) = _ := hm
        simp only [runF, entry, thn', sIf, sAsg, sDrop, sRet, sNever, okO, bnd, mOr, mAnd, mNot, mb, VL.mt, mTru, truD, usr, mCall, ac, an, mv, tm, takes, take, VL.ret, aft, asB, o1, o2, cb, mPrim, looks, look, pLt, pGt, pLe, pGe, ii, oI, sI, sB, cst, pIsN, pIs, mMove, mVar, setS, mIf, mAndV, mOrV, mNotV, fin, finR, mTake, kTup, kLst, chk, unpk, gsc, gs0, Slot.frz, meth, mTy, tyD, mOn, mSeq, items, sFor, List.length_cons, List.length_nil, List.map_cons, List.map_nil, List.replicate, List.append_nil, List.cons_append, List.nil_append, List.getElem?_cons_zero, List.getElem?_cons_succ, Option.bind_some, Slot.d?, List.set, Bool.not_true, Bool.not_false, Nat.sub_self, Bool.false_eq_true, ↓reduceIte, Option.map_some, hx, prD, pTuple]
        rfl
def notBr : Slot → Bool
  | .br _ => false
  | _ => true
theorem rng_size {ρ : Env} {r : Env} (w : NetOk n ls) (e : ρ = .sh (netD n ls hs) :: r) : mArgs (ac (tm (mFld "Net" "size" (mv 0))) an) rng1 ρ = .ok ((List.range n).map nD) ρ := by
  subst e
  refine rng1_ok (small_nat (Nat.le_trans w.n9 (by decide))) (os := [.tmp (.sh (nD n))]) ?_ rfl
  simp only [runF, entry, thn', sIf, sAsg, sDrop, sRet, sNever, okO, bnd, mOr, mAnd, mNot, mb, VL.mt, mTru, truD, usr, mCall, ac, an, mv, tm, takes, take, VL.ret, aft, asB, o1, o2, cb, mPrim, looks, look, pLt, pGt, pLe, pGe, ii, oI, sI, sB, cst, pIsN, pIs, mMove, mVar, setS, mIf, mAndV, mOrV, mNotV, fin, finR, mTake, kTup, kLst, chk, unpk, gsc, gs0, Slot.frz, meth, mTy, tyD, mOn, mSeq, items, sFor, List.length_cons, List.length_nil, List.map_cons, List.map_nil, List.replicate, List.append_nil, List.cons_append, List.nil_append, List.getElem?_cons_zero, List.getElem?_cons_succ, Option.bind_some, Slot.d?, List.set, Bool.not_true, Bool.not_false, Nat.sub_self, Bool.false_eq_true, ↓reduceIte, Option.map_some, f_size, pTuple]
theorem fmap_some {α β : Type} (g : α → β) : ∀ l : List α, (l.filterMap fun x => some (g x)) = l.map g
  | [] => rfl
  | x :: l => by rw [List.filterMap_cons, List.map_cons, fmap_some g l]
theorem mLc_map {X : Type} {e0 : X → D} {v : X → D} {ds : List X} {vs : List Nat} {mi : M (List D)} {g : Slot → M Unit} {mt : M Bool} {me : M Slot} {ρ ρ1 : Env} (h1 : mi ρ = .ok (ds.map e0) ρ1) (h2 : free ρ1 vs = true) (h3 : free (hideS ρ1 vs) vs = true) (h4 : unhideS ρ1 vs (hideS ρ1 vs) = ρ1)
    (h : ∀ d ∈ ds, LcStep vs g mt me (hideS ρ1 vs) (e0 d) (some (v d))) (hl : ds.length ≤ lim) : mLc vs mi g mt me ρ = .ok (.ow (.lst (ds.map v))) ρ1 := by
  have h' := mLc_run (e1 := v) (f := fun x => some x) h1 h2 h3 h4 h hl
  rw [h', fmap_some, List.map_id']
theorem e_c2 (w : NetOk n ls) : c_lot_worths_2 (env n ls hs spot lot f s4 s5 s6 .un .un .un) = .ok (.ow (.lst ((List.range n).map fun s => D.lst ((endsAt ls lot s).map prD)))) (env n ls hs spot lot f s4 s5 s6 .un .un .un) := by
  unfold c_lot_worths_2
  have h := mLc_run (vs := [7]) (mi := mArgs (ac (tm (mFld "Net" "size" (mv 0))) an) rng1) (g := setS 7) (mt := ret true) (me := c_lot_worths_1) (e0 := nD) (e1 := fun s => D.lst ((endsAt ls lot s).map prD)) (f := fun s => some s) (ds := List.range n) (ρ := env n ls hs spot lot f s4 s5 s6 .un .un .un) (rng_size w rfl) rfl rfl rfl (fun s hs' => ?_)
    (le_lim (by rw [List.length_range]; exact Nat.le_trans w.n9 (by decide)))
  · rw [h, fmap_some, List.map_id']
  · exact ⟨env n ls hs spot lot f s4 s5 s6 (.sh (nD s)) .un .un, rfl, env n ls hs spot lot f s4 s5 s6 (.sh (nD s)) .un .un, .ow (.lst ((endsAt ls lot s).map prD)), env n ls hs spot lot f s4 s5 s6 (.sh (nD s)) .un .un, rfl, e_c1 w (List.mem_range.mp hs'), rfl, rfl, rfl⟩
theorem e_c3 (w : NetOk n ls) : c_lot_worths_3 (env n ls hs spot lot f s4 s5 s6 .un .un .un) = .ok (.ow (.lst (((List.range n).map fun s => if s = spot then some 0 else none).map oD))) (env n ls hs spot lot f s4 s5 s6 .un .un .un) := by
  unfold c_lot_worths_3
  refine Eq.trans (mLc_map (e0 := nD) (v := fun s => oD (if s = spot then some 0 else none)) (ds := List.range n) ?_ ?_ ?_ ?_ (fun s hs' => ?_) (le_lim (by rw [List.length_range]; exact Nat.le_trans w.n9 (by decide)))) (by rw [List.map_map]; rfl)
  · exact rng_size w rfl
  · rfl
  · rfl
  · rfl
  refine ⟨env n ls hs spot lot f s4 s5 s6 (.sh (nD s)) .un .un, rfl, env n ls hs spot lot f s4 s5 s6 (.sh (nD s)) .un .un, .sh (oD (if s = spot then some 0 else none)), env n ls hs spot lot f s4 s5 s6 (.sh (nD s)) .un .un, rfl, ?_, rfl, rfl, rfl⟩
  by_cases h : s = spot
  · have d : decide ((s : Int) = (spot : Int)) = true := decide_eq_true (by omega)
    rw [if_pos h]
    simp only [runF, entry, thn', sIf, sAsg, sDrop, sRet, sNever, okO, bnd, mOr, mAnd, mNot, mb, VL.mt, mTru, truD, usr, mCall, ac, an, mv, tm, takes, take, VL.ret, aft, asB, o1, o2, cb, mPrim, looks, look, pLt, pGt, pLe, pGe, ii, oI, sI, sB, cst, pIsN, pIs, mMove, mVar, setS, mIf, mAndV, mOrV, mNotV, fin, finR, mTake, kTup, kLst, chk, unpk, gsc, gs0, Slot.frz, meth, mTy, tyD, mOn, mSeq, items, sFor, List.length_cons, List.length_nil, List.map_cons, List.map_nil, List.replicate, List.append_nil, List.cons_append, List.nil_append, List.getElem?_cons_zero, List.getElem?_cons_succ, Option.bind_some, Slot.d?, List.set, Bool.not_true, Bool.not_false, Nat.sub_self, Bool.false_eq_true, ↓reduceIte, Option.map_some, pEq_int, d, pTuple]
    rfl
  · have d : decide ((s : Int) = (spot : Int)) = false := decide_eq_false (by omega)
    rw [if_neg h]
    simp only [runF, entry, thn', sIf, sAsg, sDrop, sRet, sNever, okO, bnd, mOr, mAnd, mNot, mb, VL.mt, mTru, truD, usr, mCall, ac, an, mv, tm, takes, take, VL.ret, aft, asB, o1, o2, cb, mPrim, looks, look, pLt, pGt, pLe, pGe, ii, oI, sI, sB, cst, pIsN, pIs, mMove, mVar, setS, mIf, mAndV, mOrV, mNotV, fin, finR, mTake, kTup, kLst, chk, unpk, gsc, gs0, Slot.frz, meth, mTy, tyD, mOn, mSeq, items, sFor, List.length_cons, List.length_nil, List.map_cons, List.map_nil, List.replicate, List.append_nil, List.cons_append, List.nil_append, List.getElem?_cons_zero, List.getElem?_cons_succ, Option.bind_some, Slot.d?, List.set, Bool.not_true, Bool.not_false, Nat.sub_self, Bool.false_eq_true, ↓reduceIte, Option.map_some, pEq_int, d, pTuple]
    rfl
theorem at0_get {xs : List (Option Nat)} {i : Nat} (h : i < xs.length) : (xs.map oD)[i]? = some (oD (at0 xs i)) := by
  rw [List.getElem?_map]
  unfold at0
  rw [List.getElem?_eq_getElem h] <;> rfl
theorem fAt_get {i : Nat} (h : i < f.length) : (f.map fallD)[i]? = some (fallD (fAt f i)) := by
  rw [List.getElem?_map]
  unfold fAt
  rw [List.getElem?_eq_getElem h] <;> rfl
theorem ix0 (x y : D) : pIx [.tup [x, y], .int 0] = some (.sh x) := rfl
theorem ix1 (x y : D) : pIx [.tup [x, y], .int 1] = some (.sh y) := rfl
/-- the falling lots' worths are there -/
structure FallOk (n : Nat) (ls : List (Nat × Nat)) (f : Fall) : Prop where
  len : f.length = ls.length
  each : ∀ l, l < ls.length → (fAt f l).2.length = n
theorem e_c4 (w : NetOk n ls) (fo : FallOk n ls f) {ws : List (Option Nat)} (hw : ws.length = n) {s : Nat} (hn : s < n) :
    c_lot_worths_4 (env n ls hs spot lot f (.ow (.lst ((List.range n).map fun s => D.lst ((endsAt ls lot s).map prD)))) (.ow (.lst (ws.map oD))) s6 (.sh (nD s)) .un .un) =
      .ok (.ow (.lst (((endsAt ls lot s).map fun q => lineWorth (at0 ws q.2) (fAt f q.1).1 (at0 (fAt f q.1).2 s)).map oD))) (env n ls hs spot lot f (.ow (.lst ((List.range n).map fun s => D.lst ((endsAt ls lot s).map prD)))) (.ow (.lst (ws.map oD))) s6 (.sh (nD s)) .un .un) := by
  unfold c_lot_worths_4
  have hr : ((List.range n).map fun s => D.lst ((endsAt ls lot s).map prD))[s]? = some (D.lst ((endsAt ls lot s).map prD)) := by
    rw [List.getElem?_map, List.getElem?_range hn] <;> rfl
  refine Eq.trans (mLc_map (e0 := prD) (v := fun q => oD (lineWorth (at0 ws q.2) (fAt f q.1).1 (at0 (fAt f q.1).2 s))) (ds := endsAt ls lot s) ?_ ?_ ?_ ?_ (fun q hq => ?_) (le_lim (Nat.le_trans (ends_len lot s) (Nat.le_trans w.l36 (by decide))))) (by rw [List.map_map]; rfl)
  · simp only [runF, entry, thn', sIf, sAsg, sDrop, sRet, sNever, okO, bnd, mOr, mAnd, mNot, mb, VL.mt, mTru, truD, usr, mCall, ac, an, mv, tm, takes, take, VL.ret, aft, asB, o1, o2, cb, mPrim, looks, look, pLt, pGt, pLe, pGe, ii, oI, sI, sB, cst, pIsN, pIs, mMove, mVar, setS, mIf, mAndV, mOrV, mNotV, fin, finR, mTake, kTup, kLst, chk, unpk, gsc, gs0, Slot.frz, meth, mTy, tyD, mOn, mSeq, items, sFor, List.length_cons, List.length_nil, List.map_cons, List.map_nil, List.replicate, List.append_nil, List.cons_append, List.nil_append, List.getElem?_cons_zero, List.getElem?_cons_succ, Option.bind_some, Slot.d?, List.set, Bool.not_true, Bool.not_false, Nat.sub_self, Bool.false_eq_true, ↓reduceIte, Option.map_some, pIx_lst, hr, pTuple]
  · rfl
  · rfl
  · rfl
  · obtain ⟨m1, m2⟩ := mem_ends hq
    have i1 : q.2 < ws.length := by rw [hw, m2]; exact oth_lt w m1
    have i2 : q.1 < f.length := by rw [fo.len]; exact line_lt m1
    have i3 : s < (fAt f q.1).2.length := by rw [fo.each q.1 (line_lt m1)]; exact hn
    refine ⟨env n ls hs spot lot f (.ow (.lst ((List.range n).map fun s => D.lst ((endsAt ls lot s).map prD)))) (.ow (.lst (ws.map oD))) s6 (.sh (nD s)) (.sh (nD q.1)) (.sh (nD q.2)), rfl, _, .sh (oD (lineWorth (at0 ws q.2) (fAt f q.1).1 (at0 (fAt f q.1).2 s))), env n ls hs spot lot f (.ow (.lst ((List.range n).map fun s => D.lst ((endsAt ls lot s).map prD)))) (.ow (.lst (ws.map oD))) s6 (.sh (nD s)) (.sh (nD q.1)) (.sh (nD q.2)), rfl, ?_, rfl, rfl, rfl⟩
    simp only [runF, entry, thn', sIf, sAsg, sDrop, sRet, sNever, okO, bnd, mOr, mAnd, mNot, mb, VL.mt, mTru, truD, usr, mCall, ac, an, mv, tm, takes, take, VL.ret, aft, asB, o1, o2, cb, mPrim, looks, look, pLt, pGt, pLe, pGe, ii, oI, sI, sB, cst, pIsN, pIs, mMove, mVar, setS, mIf, mAndV, mOrV, mNotV, fin, finR, mTake, kTup, kLst, chk, unpk, gsc, gs0, Slot.frz, meth, mTy, tyD, mOn, mSeq, items, sFor, List.length_cons, List.length_nil, List.map_cons, List.map_nil, List.replicate, List.append_nil, List.cons_append, List.nil_append, List.getElem?_cons_zero, List.getElem?_cons_succ, Option.bind_some, Slot.d?, List.set, Bool.not_true, Bool.not_false, Nat.sub_self, Bool.false_eq_true, ↓reduceIte, Option.map_some, pIx_lst, pIx_tup, at0_get i1, fAt_get i2, fallD, ix0, ix1, at0_get i3, r_line_worth, pTuple]
theorem e_c5 (w : NetOk n ls) (fo : FallOk n ls f) {ws : List (Option Nat)} (hw : ws.length = n) :
    c_lot_worths_5 (env n ls hs spot lot f (.ow (.lst ((List.range n).map fun s => D.lst ((endsAt ls lot s).map prD)))) (.ow (.lst (ws.map oD))) s6 .un .un .un) =
      .ok (.ow (.lst ((worthStep n ls spot lot f ws).map oD))) (env n ls hs spot lot f (.ow (.lst ((List.range n).map fun s => D.lst ((endsAt ls lot s).map prD)))) (.ow (.lst (ws.map oD))) s6 .un .un .un) := by
  unfold c_lot_worths_5 worthStep
  refine Eq.trans (mLc_map (e0 := nD) (v := fun s => oD (if s = spot then some 0 else nearestO ((endsAt ls lot s).map fun q => lineWorth (at0 ws q.2) (fAt f q.1).1 (at0 (fAt f q.1).2 s)))) (ds := List.range n) ?_ ?_ ?_ ?_ (fun s hs' => ?_) (le_lim (by rw [List.length_range]; exact Nat.le_trans w.n9 (by decide)))) (by rw [List.map_map]; rfl)
  · exact rng_size w rfl
  · rfl
  · rfl
  · rfl
  have hn := List.mem_range.mp hs'
  refine ⟨env n ls hs spot lot f _ _ s6 (.sh (nD s)) .un .un, rfl, _, .sh (oD (if s = spot then some 0 else nearestO ((endsAt ls lot s).map fun q => lineWorth (at0 ws q.2) (fAt f q.1).1 (at0 (fAt f q.1).2 s)))), env n ls hs spot lot f (.ow (.lst ((List.range n).map fun s => D.lst ((endsAt ls lot s).map prD)))) (.ow (.lst (ws.map oD))) s6 (.sh (nD s)) .un .un, rfl, ?_, rfl, rfl, rfl⟩
  by_cases h : s = spot
  · have d : decide ((s : Int) = (spot : Int)) = true := decide_eq_true (by omega)
    rw [if_pos h]
    simp only [runF, entry, thn', sIf, sAsg, sDrop, sRet, sNever, okO, bnd, mOr, mAnd, mNot, mb, VL.mt, mTru, truD, usr, mCall, ac, an, mv, tm, takes, take, VL.ret, aft, asB, o1, o2, cb, mPrim, looks, look, pLt, pGt, pLe, pGe, ii, oI, sI, sB, cst, pIsN, pIs, mMove, mVar, setS, mIf, mAndV, mOrV, mNotV, fin, finR, mTake, kTup, kLst, chk, unpk, gsc, gs0, Slot.frz, meth, mTy, tyD, mOn, mSeq, items, sFor, List.length_cons, List.length_nil, List.map_cons, List.map_nil, List.replicate, List.append_nil, List.cons_append, List.nil_append, List.getElem?_cons_zero, List.getElem?_cons_succ, Option.bind_some, Slot.d?, List.set, Bool.not_true, Bool.not_false, Nat.sub_self, Bool.false_eq_true, ↓reduceIte, Option.map_some, pEq_int, d, pTuple]
    rfl
  · have d : decide ((s : Int) = (spot : Int)) = false := decide_eq_false (by omega)
    have hl : ((endsAt ls lot s).map fun q => lineWorth (at0 ws q.2) (fAt f q.1).1 (at0 (fAt f q.1).2 s)).length ≤ 1000 := by
      rw [List.length_map]
      exact Nat.le_trans (ends_len lot s) (Nat.le_trans w.l36 (by decide))
    rw [if_neg h]
    simp only [runF, entry, thn', sIf, sAsg, sDrop, sRet, sNever, okO, bnd, mOr, mAnd, mNot, mb, VL.mt, mTru, truD, usr, mCall, ac, an, mv, tm, takes, take, VL.ret, aft, asB, o1, o2, cb, mPrim, looks, look, pLt, pGt, pLe, pGe, ii, oI, sI, sB, cst, pIsN, pIs, mMove, mVar, setS, mIf, mAndV, mOrV, mNotV, fin, finR, mTake, kTup, kLst, chk, unpk, gsc, gs0, Slot.frz, meth, mTy, tyD, mOn, mSeq, items, sFor, List.length_cons, List.length_nil, List.map_cons, List.map_nil, List.replicate, List.append_nil, List.cons_append, List.nil_append, List.getElem?_cons_zero, List.getElem?_cons_succ, Option.bind_some, Slot.d?, List.set, Bool.not_true, Bool.not_false, Nat.sub_self, Bool.false_eq_true, ↓reduceIte, Option.map_some, pEq_int, d, e_c4 w fo hw hn, r_nearest hl, pTuple]
end
end VLL
set_option Elab.async false
set_option linter.all false
set_option maxRecDepth 1000000
set_option maxHeartbeats 0
/-! P71d: lot_worths, the table. -/
namespace VLL
open VL
section
variable {n : Nat} {ls : List (Nat × Nat)} {hs : List Nat} {spot : Nat} {lot : List Nat} {f : Fall}
theorem worthStep_len (ws : List (Option Nat)) : (worthStep n ls spot lot f ws).length = n := by
  unfold worthStep
  rw [List.length_map, List.length_range]
abbrev endsS (n : Nat) (ls : List (Nat × Nat)) (lot : List Nat) : Slot := .ow (.lst ((List.range n).map fun s => D.lst ((endsAt ls lot s).map prD)))
theorem fold_snd {α β γ : Type} (g : β → α → β) (h : γ → α → γ) : ∀ (l : List α) (b : β) (c : γ), (l.foldl (fun (s : γ × β) a => (h s.1 a, g s.2 a)) (c, b)).2 = l.foldl g b
  | [], _, _ => rfl
  | a :: l, b, c => by
    rw [List.foldl_cons, List.foldl_cons]
    exact fold_snd g h l _ _
theorem e_loop (w : NetOk n ls) (fo : FallOk n ls f) {ws : List (Option Nat)} (hw : ws.length = n) :
    ∃ s6, l_lot_worths_1 (env n ls hs spot lot f (endsS n ls lot) (.ow (.lst (ws.map oD))) .un .un .un .un) =
      .ok .next (env n ls hs spot lot f (endsS n ls lot) (.ow (.lst (((List.range n).foldl (fun ws _ => worthStep n ls spot lot f ws) ws).map oD))) s6 .un .un .un) := by
  have h := loop_run (S := Slot × List (Option Nat)) (X := Nat) (E := fun s => env n ls hs spot lot f (endsS n ls lot) (.ow (.lst (s.2.map oD))) s.1 .un .un .un) (step := fun s x => (.sh (nD x), worthStep n ls spot lot f s.2)) (e := nD) (g := setS 6) (b := sAsg c_lot_worths_5 (setS 5))
    (P := fun s => (s.1 = .un ∨ ∃ d, s.1 = .sh d) ∧ s.2.length = n) (xs := List.range n) (s := (.un, ws)) ⟨.inl rfl, hw⟩ (fun s hp x hx => by
      obtain ⟨s1, s2⟩ := s
      obtain ⟨h1, h2⟩ := hp
      refine ⟨⟨.inr ⟨_, rfl⟩, worthStep_len _⟩, env n ls hs spot lot f (endsS n ls lot) (.ow (.lst (s2.map oD))) (.sh (nD x)) .un .un .un, ?_, ?_⟩
      · rcases h1 with h1 | ⟨d, h1⟩ <;> (dsimp only at h1; subst h1; rfl)
      · unfold sAsg bnd
        rw [e_c5 w fo h2]
        rfl)
  refine ⟨((List.range n).foldl (fun (s : Slot × List (Option Nat)) x => (Slot.sh (nD x), worthStep n ls spot lot f s.2)) (.un, ws)).1, ?_⟩
  unfold l_lot_worths_1 sFor bnd
  rw [rng_size w rfl]
  dsimp only
  have e := fold_snd (fun (ws : List (Option Nat)) (_ : Nat) => worthStep n ls spot lot f ws) (fun (_ : Slot) (x : Nat) => Slot.sh (nD x)) (List.range n) ws .un
  rw [← e]
  exact h
theorem r_lot_worths (w : NetOk n ls) (fo : FallOk n ls f) : run_lot_worths [netD n ls hs, nD spot, lotD lot, .lst (f.map fallD)] = .ok (.sh (.tup ((lotWorths n ls spot lot f).map oD))) .non := by
  obtain ⟨s6, hl⟩ := e_loop (hs := hs) (spot := spot) (lot := lot) (ws := (List.range n).map fun s => if s = spot then some 0 else none) w fo (by rw [List.length_map, List.length_range])
  have h2 : c_lot_worths_2 (env n ls hs spot lot f .un .un .un .un .un .un) = _ := e_c2 w
  have h3 : c_lot_worths_3 (env n ls hs spot lot f (endsS n ls lot) .un .un .un .un .un) = _ := e_c3 w
  unfold run_lot_worths m_lot_worths
  simp only [runF, entry, thn', sIf, sAsg, sDrop, sRet, sNever, okO, bnd, mOr, mAnd, mNot, mb, VL.mt, mTru, truD, usr, mCall, ac, an, mv, tm, takes, take, VL.ret, aft, asB, o1, o2, cb, mPrim, looks, look, pLt, pGt, pLe, pGe, ii, oI, sI, sB, cst, pIsN, pIs, mMove, mVar, setS, mIf, mAndV, mOrV, mNotV, fin, finR, mTake, kTup, kLst, chk, unpk, gsc, gs0, Slot.frz, meth, mTy, tyD, mOn, mSeq, items, sFor, List.length_cons, List.length_nil, List.map_cons, List.map_nil, List.replicate, List.append_nil, List.cons_append, List.nil_append, List.getElem?_cons_zero, List.getElem?_cons_succ, Option.bind_some, Slot.d?, List.set, Bool.not_true, Bool.not_false, Nat.sub_self, Bool.false_eq_true, ↓reduceIte, Option.map_some, h2, h3, hl, pTuple]
  unfold lotWorths
  rfl
end
end VLL
set_option Elab.async false
set_option linter.all false
set_option maxRecDepth 1000000
set_option maxHeartbeats 0
/-! P71e: the table of the worths. -/
namespace VLL
open VL
theorem loop_runN {S X : Type} {E : S → Env} {step : S → X → S} {e : X → D} {g : Slot → M Unit} {b : M Fl} {P : Nat → S → Prop} {N : Nat} : ∀ {xs : List X} {s : S} {k : Nat}, P k s → k + xs.length ≤ N →
    (∀ s k, k < N → P k s → ∀ x ∈ xs, P (k + 1) (step s x) ∧ ∃ ρ1, g (.sh (e x)) (E s) = .ok () ρ1 ∧ b ρ1 = .ok .next (E (step s x))) →
    sLoop g b (xs.map e) (E s) = .ok .next (E (xs.foldl step s)) ∧ P (k + xs.length) (xs.foldl step s)
  | [], _, _, hp, _, _ => ⟨rfl, hp⟩
  | x :: xs, s, k, hp, hk, h => by
    rw [List.length_cons] at hk
    obtain ⟨p1, ρ1, h1, h2⟩ := h s k (by omega) hp x List.mem_cons_self
    have ih := loop_runN (E := E) (step := step) (e := e) (g := g) (b := b) (P := P) (N := N) (xs := xs) p1 (by omega) fun s k hk hs y hy => h s k hk hs y (List.mem_cons_of_mem _ hy)
    rw [List.foldl_cons, List.length_cons, show k + (xs.length + 1) = k + 1 + xs.length by omega]
    refine ⟨?_, ih.2⟩
    rw [List.map_cons, ← ih.1]
    conv => lhs; unfold sLoop
    simp only [bnd, okO, h1, h2]
abbrev Tab := List (List Nat × List (Option Nat))
def keyN (l : List Nat) : List L2.Key := l.map fun (k : Nat) => Sum.inl (k : Int)
def tabK (T : Tab) : List (List L2.Key) := T.map fun q => keyN q.1
def tabV (T : Tab) : List D := T.map fun q => .tup (q.2.map oD)
def tget : Tab → List Nat → Option (List (Option Nat))
  | [], _ => none
  | q :: T, l => if q.1 = l then some q.2 else tget T l
def tput : Tab → List Nat → List (Option Nat) → Tab
  | [], l, w => [(l, w)]
  | q :: T, l, w => if q.1 = l then (q.1, w) :: T else q :: tput T l w
theorem keyN_inj : ∀ {a b : List Nat}, keyN a = keyN b → a = b
  | [], [], _ => rfl
  | [], _ :: _, h => by cases h
  | _ :: _, [], h => by cases h
  | x :: a, y :: b, h => by
    have h' : (Sum.inl (x : Int) : L2.Key) :: keyN a = .inl (y : Int) :: keyN b := h
    injection h' with h1 h2
    injection h1 with h1
    rw [keyN_inj h2, Int.ofNat_inj.mp h1]
theorem keysOf_nat : ∀ l : List Nat, keysOf (l.map nD) = some (keyN l)
  | [] => rfl
  | x :: l => by
    rw [List.map_cons]
    unfold keysOf
    rw [keysOf_nat l] <;> rfl
theorem dgt_tab (l : List Nat) : ∀ T : Tab, dgt (keyN l) (tabK T) (tabV T) = (tget T l).map fun w => D.tup (w.map oD)
  | [] => rfl
  | q :: T => by
    show (if keyN q.1 = keyN l then some (D.tup (q.2.map oD)) else dgt (keyN l) (tabK T) (tabV T)) = _
    unfold tget
    by_cases h : q.1 = l
    · rw [if_pos h, if_pos (by rw [h])] <;> rfl
    · rw [if_neg h, if_neg (fun z => h (keyN_inj z)), dgt_tab l T]
theorem dpt_tab (l : List Nat) (w : List (Option Nat)) : ∀ T : Tab, dpt (keyN l) (.tup (w.map oD)) (tabK T) (tabV T) = (tabK (tput T l w), tabV (tput T l w))
  | [] => rfl
  | q :: T => by
    show (if keyN q.1 = keyN l then (keyN q.1 :: tabK T, D.tup (w.map oD) :: tabV T) else ((keyN q.1 :: (dpt (keyN l) (.tup (w.map oD)) (tabK T) (tabV T)).1), D.tup (q.2.map oD) :: (dpt (keyN l) (.tup (w.map oD)) (tabK T) (tabV T)).2)) = _
    unfold tput
    by_cases h : q.1 = l
    · rw [if_pos h, if_pos (by rw [h])] <;> rfl
    · rw [if_neg h, if_neg (fun z => h (keyN_inj z)), dpt_tab l w T] <;> rfl
theorem get_tab (T : Tab) (l : List Nat) (d : D) : fGet (.dit (tabK T) (tabV T)) [lotD l, d] = some (.sh (match tget T l with | some w => D.tup (w.map oD) | none => d)) := by
  show (getK (.dit (tabK T) (tabV T)) (.tup (l.map nD))).map (fun (o : Option D) => Slot.sh (o.getD d)) = _
  show (match keysOf (l.map nD) with | some k => some (dgt k (tabK T) (tabV T)) | none => none).map (fun (o : Option D) => Slot.sh (o.getD d)) = _
  rw [keysOf_nat]
  show some (Slot.sh ((dgt (keyN l) (tabK T) (tabV T)).getD d)) = _
  rw [dgt_tab]
  cases tget T l <;> rfl
theorem set_tab {T : Tab} (l : List Nat) (w : List (Option Nat)) (h : T.length < 1000) : setF (.dit (tabK T) (tabV T)) (lotD l) (.tup (w.map oD)) = some (.dit (tabK (tput T l w)) (tabV (tput T l w))) := by
  show (match keysOf (l.map nD) with | some k => if (tabK T).length < lim then some (D.dit (dpt k (.tup (w.map oD)) (tabK T) (tabV T)).1 (dpt k (.tup (w.map oD)) (tabK T) (tabV T)).2) else none | none => none) = _
  rw [keysOf_nat]
  dsimp only
  have hl : (tabK T).length < lim := by unfold tabK; rw [List.length_map]; exact Nat.lt_of_lt_of_le h (le_lim (Nat.le_refl _))
  rw [if_pos hl, dpt_tab]
theorem tput_len (T : Tab) (l : List Nat) (w : List (Option Nat)) : (tput T l w).length ≤ T.length + 1 := by
  induction T with
  | nil => exact Nat.le_refl _
  | cons q T ih =>
    unfold tput
    by_cases h : q.1 = l
    · rw [if_pos h, List.length_cons, List.length_cons]; omega
    · rw [if_neg h, List.length_cons, List.length_cons]; omega
theorem tput_all {p : List (Option Nat) → Prop} {T : Tab} {l : List Nat} {w : List (Option Nat)} (h : ∀ q ∈ T, p q.2) (hw : p w) : ∀ q ∈ tput T l w, p q.2 := by
  induction T with
  | nil => intro q hq; cases List.mem_singleton.mp hq; exact hw
  | cons a T ih =>
    unfold tput
    by_cases e : a.1 = l
    · rw [if_pos e]
      intro q hq
      rcases List.mem_cons.mp hq with rfl | hq
      · exact hw
      · exact h q (List.mem_cons_of_mem _ hq)
    · rw [if_neg e]
      intro q hq
      rcases List.mem_cons.mp hq with rfl | hq
      · exact h _ List.mem_cons_self
      · exact ih (fun q hq => h q (List.mem_cons_of_mem _ hq)) q hq
theorem tget_all {p : List (Option Nat) → Prop} {T : Tab} {l : List Nat} {w : List (Option Nat)} (h : ∀ q ∈ T, p q.2) (e : tget T l = some w) : p w := by
  induction T with
  | nil => cases e
  | cons a T ih =>
    unfold tget at e
    by_cases h1 : a.1 = l
    · rw [if_pos h1] at e; cases e; exact h _ List.mem_cons_self
    · rw [if_neg h1] at e; exact ih (fun q hq => h q (List.mem_cons_of_mem _ hq)) e
def nothing (n : Nat) : List (Option Nat) := (List.range n).map fun _ => none
def fallOf (n nl most : Nat) (T : Tab) (lot : List Nat) : Fall := (List.range nl).map fun l => (decide (lot.length < most), match tget T (bothN lot [l]) with | some w => w | none => nothing n)
def worthTable (n : Nat) (ls : List (Nat × Nat)) (spot most : Nat) : Tab :=
  (smallLots ls.length most).reverse.foldl (fun T lot => tput T lot (lotWorths n ls spot lot (fallOf n ls.length most T lot))) []
theorem lotWorths_len (n : Nat) (ls : List (Nat × Nat)) (spot : Nat) (lot : List Nat) (f : Fall) : (lotWorths n ls spot lot f).length = n := by
  unfold lotWorths
  have : ∀ (l : List Nat) (ws : List (Option Nat)), ws.length = n → (l.foldl (fun ws _ => worthStep n ls spot lot f ws) ws).length = n := by
    intro l
    induction l with
    | nil => intro ws h; exact h
    | cons a l ih => intro ws h; rw [List.foldl_cons]; exact ih _ (worthStep_len ws)
  exact this _ _ (by rw [List.length_map, List.length_range])
section
variable {n : Nat} {ls : List (Nat × Nat)} {hs : List Nat} {spot most : Nat} {lot : List Nat} {T : Tab}
theorem fallOf_ok (h : ∀ q ∈ T, q.2.length = n) : FallOk n ls (fallOf n ls.length most T lot) := by
  refine ⟨by unfold fallOf; rw [List.length_map, List.length_range], fun l hl => ?_⟩
  unfold fAt fallOf
  rw [List.getElem?_map, List.getElem?_range hl]
  dsimp only [Option.map_some]
  cases e : tget T (bothN lot [l]) with
  | none => dsimp only; unfold nothing; rw [List.length_map, List.length_range]
  | some w => exact tget_all (p := fun w => w.length = n) h e
theorem r_every (w : NetOk n ls) : run_Net_every_line [netD n ls hs] = .ok (.sh (.tup ((List.range ls.length).map nD))) .non := by
  have h : pTupRg [.int (ls.length : Int)] = some (.sh (.tup ((List.range ls.length).map nD))) := by
    unfold pTupRg
    dsimp only
    rw [if_pos (by rw [Int.toNat_natCast]; exact le_lim (Nat.le_trans w.l36 (by decide))), if_pos (small_nat (Nat.le_trans w.l36 (by decide))), Int.toNat_natCast, rng0]
  have hl : pLen [.tup (ls.map prD)] = some (.sh (.int (ls.length : Int))) := by
    show some (Slot.sh (D.int ((ls.map prD).length : Int))) = _
    rw [List.length_map]
  unfold run_Net_every_line m_Net_every_line
  simp only [runF, entry, thn', sIf, sAsg, sDrop, sRet, sNever, okO, bnd, mOr, mAnd, mNot, mb, VL.mt, mTru, truD, usr, mCall, ac, an, mv, tm, takes, take, VL.ret, aft, asB, o1, o2, cb, mPrim, looks, look, pLt, pGt, pLe, pGe, ii, oI, sI, sB, cst, pIsN, pIs, mMove, mVar, setS, mIf, mAndV, mOrV, mNotV, fin, finR, mTake, kTup, kLst, chk, unpk, gsc, gs0, Slot.frz, meth, mTy, tyD, mOn, mSeq, items, sFor, List.length_cons, List.length_nil, List.map_cons, List.map_nil, List.replicate, List.append_nil, List.cons_append, List.nil_append, List.getElem?_cons_zero, List.getElem?_cons_succ, Option.bind_some, Slot.d?, List.set, Bool.not_true, Bool.not_false, Nat.sub_self, Bool.false_eq_true, ↓reduceIte, Option.map_some, f_lines, hl, h, pTuple]
theorem prop_ok {cn : PySem.Str} {F : List D → VL.FR} {mo : M Opnd} {o : Opnd} {ds : List D} {ρ ρ1 ρ2 : Env} {d0 e : D} {s : Slot} (h1 : mo ρ = .ok o ρ1) (h2 : look ρ1 o = some d0) (h3 : hasF cn "" d0 = true) (h5 : takes [o] ρ1 = .ok ds ρ2) (h6 : F ds = .ok s e) : mProp cn F mo ρ = .ok s ρ2 := by
  unfold mProp bnd
  rw [h1]
  dsimp only
  unfold mIs
  rw [h2]
  dsimp only
  rw [if_pos h3, h5]
  dsimp only
  rw [h6] <;> rfl
abbrev tenv (n : Nat) (ls : List (Nat × Nat)) (hs : List Nat) (spot most : Nat) (T : Tab) (s5 s6 s7 s8 : Slot) : Env :=
  [.sh (netD n ls hs), .sh (nD spot), .sh (nD most), .sh (.tup ((nothing n).map oD)), .ow (.dit (tabK T) (tabV T)), s5, s6, s7, s8]
theorem e_t2 (w : NetOk n ls) {s6 : Slot} (hl : lot.length ≤ 20) : c_worth_table_2 (tenv n ls hs spot most T (.sh (lotD lot)) s6 .un .un) = .ok (.ow (.lst ((fallOf n ls.length most T lot).map fallD))) (tenv n ls hs spot most T (.sh (lotD lot)) s6 .un .un) := by
  unfold c_worth_table_2 fallOf
  refine Eq.trans (mLc_map (e0 := nD) (v := fun l => fallD (decide (lot.length < most), match tget T (bothN lot [l]) with | some w => w | none => nothing n)) (ds := List.range ls.length) ?_ ?_ ?_ ?_ (fun l hl' => ?_) (le_lim (by rw [List.length_range]; exact Nat.le_trans w.l36 (by decide)))) (by rw [List.map_map]; rfl)
  · have hx := prop_ok (cn := "Net") (F := run_Net_every_line) (mo := mv 0) (o := .var 0) (ds := [netD n ls hs]) (ρ := tenv n ls hs spot most T (.sh (lotD lot)) s6 .un .un) rfl rfl rfl rfl (r_every w)
    unfold mSeq bnd
    rw [hx] <;> rfl
  · rfl
  · rfl
  · rfl
  · have c : decide ((lot.length : Int) < (most : Int)) = decide (lot.length < most) := by
      by_cases h : lot.length < most
      · rw [decide_eq_true h, decide_eq_true (by omega)]
      · rw [decide_eq_false h, decide_eq_false (by omega)]
    have p1 : pLen [lotD lot] = some (.sh (.int (lot.length : Int))) := by
      show some (Slot.sh (D.int ((lot.map nD).length : Int))) = _
      rw [List.length_map]
    have b : run_both [lotD lot, .tup [nD l]] = _ := r_both (a := lot) (b := [l]) hl (show 1 ≤ 20 by decide)
    refine ⟨tenv n ls hs spot most T (.sh (lotD lot)) s6 .un (.sh (nD l)), rfl, _, .sh (fallD (decide (lot.length < most), match tget T (bothN lot [l]) with | some w => w | none => nothing n)), tenv n ls hs spot most T (.sh (lotD lot)) s6 .un (.sh (nD l)), rfl, ?_, rfl, rfl, rfl⟩
    have hlim : decide (1 ≤ lim) = true := by decide
    have hlim2 : decide (2 ≤ lim) = true := by decide
    simp only [runF, entry, thn', sIf, sAsg, sDrop, sRet, sNever, okO, bnd, mOr, mAnd, mNot, mb, VL.mt, mTru, truD, usr, mCall, ac, an, mv, tm, takes, take, VL.ret, aft, asB, o1, o2, cb, mPrim, looks, look, pLt, pGt, pLe, pGe, ii, oI, sI, sB, cst, pIsN, pIs, mMove, mVar, setS, mIf, mAndV, mOrV, mNotV, fin, finR, mTake, kTup, kLst, chk, unpk, gsc, gs0, Slot.frz, meth, mTy, tyD, mOn, mSeq, items, sFor, List.length_cons, List.length_nil, List.map_cons, List.map_nil, List.replicate, List.append_nil, List.cons_append, List.nil_append, List.getElem?_cons_zero, List.getElem?_cons_succ, Option.bind_some, Slot.d?, List.set, Bool.not_true, Bool.not_false, Nat.sub_self, Bool.false_eq_true, ↓reduceIte, Option.map_some, p1, c, b, get_tab, hlim, hlim2, beq_self_eq_true, pTuple]
    cases tget T (bothN lot [l]) <;> rfl
def calm : Slot → Prop
  | .un => True
  | .sh _ => True
  | _ => False
theorem set_calm {ρ : Env} {i : Nat} {s : Slot} {d : D} (h : ρ[i]? = some s) (c : calm s) : setS i (.sh d) ρ = .ok () (ρ.set i (.sh d)) := by
  unfold setS
  rw [h]
  cases s <;> first | rfl | cases c
theorem set_calmO {ρ : Env} {i : Nat} {s : Slot} {d : D} (h : ρ[i]? = some s) (c : calm s) : setS i (.ow d) ρ = .ok () (ρ.set i (.ow d)) := by
  unfold setS
  rw [h]
  cases s <;> first | rfl | cases c
theorem e_tbody (w : NetOk n ls) {s6 : Slot} (c6 : calm s6) (hl : lot.length ≤ 20) (hT : T.length < 1000) (ha : ∀ q ∈ T, q.2.length = n) :
    (thn' (sAsg c_worth_table_2 (setS 6)) (sAsg (usr false run_lot_worths [] (ac (mv 0) (ac (mv 1) (ac (mv 5) (ac (mv 6) an))))) (setSub 4 (mv 5) setF))) (tenv n ls hs spot most T (.sh (lotD lot)) s6 .un .un) =
      .ok .next (tenv n ls hs spot most (tput T lot (lotWorths n ls spot lot (fallOf n ls.length most T lot))) (.sh (lotD lot)) (.sh (.lst ((fallOf n ls.length most T lot).map fallD))) .un .un) := by
  have h2 := e_t2 (hs := hs) (spot := spot) (most := most) (T := T) w (s6 := s6) hl
  have h6 := set_calmO (ρ := tenv n ls hs spot most T (.sh (lotD lot)) s6 .un .un) (i := 6) (d := .lst ((fallOf n ls.length most T lot).map fallD)) rfl c6
  have hr := r_lot_worths (hs := hs) (spot := spot) (lot := lot) w (fallOf_ok (most := most) (lot := lot) (ls := ls) ha)
  have hset := set_tab lot (lotWorths n ls spot lot (fallOf n ls.length most T lot)) hT
  have hsub : setSub 4 (mv 5) setF (.sh (.tup ((lotWorths n ls spot lot (fallOf n ls.length most T lot)).map oD))) (tenv n ls hs spot most T (.sh (lotD lot)) (.sh (.lst ((fallOf n ls.length most T lot).map fallD))) .un .un) =
      .ok () (tenv n ls hs spot most (tput T lot (lotWorths n ls spot lot (fallOf n ls.length most T lot))) (.sh (lotD lot)) (.sh (.lst ((fallOf n ls.length most T lot).map fallD))) .un .un) := by
    unfold setSub
    simp only [runF, entry, thn', sIf, sAsg, sDrop, sRet, sNever, okO, bnd, mOr, mAnd, mNot, mb, VL.mt, mTru, truD, usr, mCall, ac, an, mv, tm, takes, take, VL.ret, aft, asB, o1, o2, cb, mPrim, looks, look, pLt, pGt, pLe, pGe, ii, oI, sI, sB, cst, pIsN, pIs, mMove, mVar, setS, mIf, mAndV, mOrV, mNotV, fin, finR, mTake, kTup, kLst, chk, unpk, gsc, gs0, Slot.frz, meth, mTy, tyD, mOn, mSeq, items, sFor, List.length_cons, List.length_nil, List.map_cons, List.map_nil, List.replicate, List.append_nil, List.cons_append, List.nil_append, List.getElem?_cons_zero, List.getElem?_cons_succ, Option.bind_some, Slot.d?, List.set, Bool.not_true, Bool.not_false, Nat.sub_self, Bool.false_eq_true, ↓reduceIte, Option.map_some, mUpd, subF, hset, pTuple]
  have a1 : sAsg c_worth_table_2 (setS 6) (tenv n ls hs spot most T (.sh (lotD lot)) s6 .un .un) = .ok .next (tenv n ls hs spot most T (.sh (lotD lot)) (.ow (.lst ((fallOf n ls.length most T lot).map fallD))) .un .un) := by
    unfold sAsg bnd okO
    rw [h2]
    dsimp only
    rw [h6] <;> rfl
  have a2 : usr false run_lot_worths [] (ac (mv 0) (ac (mv 1) (ac (mv 5) (ac (mv 6) an)))) (tenv n ls hs spot most T (.sh (lotD lot)) (.ow (.lst ((fallOf n ls.length most T lot).map fallD))) .un .un) = .ok (.sh (.tup ((lotWorths n ls spot lot (fallOf n ls.length most T lot)).map oD))) (tenv n ls hs spot most T (.sh (lotD lot)) (.sh (.lst ((fallOf n ls.length most T lot).map fallD))) .un .un) := by
    simp only [runF, entry, thn', sIf, sAsg, sDrop, sRet, sNever, okO, bnd, mOr, mAnd, mNot, mb, VL.mt, mTru, truD, usr, mCall, ac, an, mv, tm, takes, take, VL.ret, aft, asB, o1, o2, cb, mPrim, looks, look, pLt, pGt, pLe, pGe, ii, oI, sI, sB, cst, pIsN, pIs, mMove, mVar, setS, mIf, mAndV, mOrV, mNotV, fin, finR, mTake, kTup, kLst, chk, unpk, gsc, gs0, Slot.frz, meth, mTy, tyD, mOn, mSeq, items, sFor, List.length_cons, List.length_nil, List.map_cons, List.map_nil, List.replicate, List.append_nil, List.cons_append, List.nil_append, List.getElem?_cons_zero, List.getElem?_cons_succ, Option.bind_some, Slot.d?, List.set, Bool.not_true, Bool.not_false, Nat.sub_self, Bool.false_eq_true, ↓reduceIte, Option.map_some, hr, pTuple]
  unfold thn' bnd
  rw [a1]
  dsimp only
  unfold sAsg bnd okO
  rw [a2]
  dsimp only
  rw [hsub]
/-- the lots are short and few -/
def lotsFine (many most : Nat) : Bool := (smallLots many most).all (fun l => Nat.ble l.length 20) && Nat.ble (smallLots many most).length 900
theorem lots_fine_all : ((List.range 13).all fun many => (List.range 4).all fun most => lotsFine many most) = true := by decide +kernel
theorem lots_fine {many most : Nat} (h1 : many ≤ 12) (h2 : most ≤ 3) : (∀ l ∈ smallLots many most, l.length ≤ 20) ∧ (smallLots many most).length ≤ 900 := by
  have h := lots_fine_all
  rw [List.all_eq_true] at h
  have h := h many (List.mem_range.mpr (by omega))
  rw [List.all_eq_true] at h
  have h := h most (List.mem_range.mpr (by omega))
  unfold lotsFine at h
  rw [Bool.and_eq_true, List.all_eq_true] at h
  exact ⟨fun l hl => Nat.le_of_ble_eq_true (h.1 l hl), Nat.le_of_ble_eq_true h.2⟩
end
end VLL
set_option Elab.async false
set_option linter.all false
set_option maxRecDepth 1000000
set_option maxHeartbeats 0
/-! P71f: worth_table. -/
namespace VLL
open VL
section
variable {n : Nat} {ls : List (Nat × Nat)} {hs : List Nat} {spot most : Nat} {lot : List Nat} {T : Tab}
theorem fold_third {α : Type} (g : Tab → α → Tab) (h1 : Slot × Slot × Tab → α → Slot) (h2 : Slot × Slot × Tab → α → Slot) : ∀ (l : List α) (a b : Slot) (T : Tab), (l.foldl (fun (s : Slot × Slot × Tab) x => (h1 s x, h2 s x, g s.2.2 x)) (a, b, T)).2.2 = l.foldl g T
  | [], _, _, _ => rfl
  | x :: l, a, b, T => by
    rw [List.foldl_cons, List.foldl_cons]
    exact fold_third g h1 h2 l _ _ _
theorem r_worth_table (w : NetOk n ls) (hl12 : ls.length ≤ 12) (hm : most ≤ 3) : run_worth_table [netD n ls hs, nD spot, nD most] = .ok (.ow (.dit (tabK (worthTable n ls spot most)) (tabV (worthTable n ls spot most)))) .non := by
  obtain ⟨f1, f2⟩ := lots_fine hl12 hm
  have h1 : c_worth_table_1 [.sh (netD n ls hs), .sh (nD spot), .sh (nD most), .un, .un, .un, .un, .un, .un] = .ok (.ow (.lst ((nothing n).map oD))) [.sh (netD n ls hs), .sh (nD spot), .sh (nD most), .un, .un, .un, .un, .un, .un] := by
    unfold c_worth_table_1 nothing
    refine Eq.trans (mLc_map (e0 := nD) (v := fun _ => .non) (ds := List.range n) ?_ ?_ ?_ ?_ (fun s hs' => ?_) (le_lim (by rw [List.length_range]; exact Nat.le_trans w.n9 (by decide)))) (by rw [List.map_map]; rfl)
    · exact rng_size w rfl
    · rfl
    · rfl
    · rfl
    · exact ⟨[.sh (netD n ls hs), .sh (nD spot), .sh (nD most), .un, .un, .un, .un, .sh (nD s), .un], rfl, _, .sh .non, [.sh (netD n ls hs), .sh (nD spot), .sh (nD most), .un, .un, .un, .un, .sh (nD s), .un], rfl, rfl, rfl, rfl, rfl⟩
  have hb := r_small_lots hl12 hm
  have hsrc : mSeq (o1 pRev (tm (usr false run_small_lots [] (ac (tm (cb pLen (ac (tm (mFld "Net" "lines" (mv 0))) an))) (ac (mv 2) an))))) (tenv n ls hs spot most [] .un .un .un .un) = .ok ((smallLots ls.length most).reverse.map lotD) (tenv n ls hs spot most [] .un .un .un .un) := by
    have hp : pLen [.tup (ls.map prD)] = some (.sh (.int (ls.length : Int))) := by
      show some (Slot.sh (D.int ((ls.map prD).length : Int))) = _
      rw [List.length_map]
    have hq : pRev [.lst ((smallLots ls.length most).map lotD)] = some (.ow (.lst ((smallLots ls.length most).reverse.map lotD))) := by
      show some (Slot.ow (D.lst ((smallLots ls.length most).map lotD).reverse)) = _
      rw [List.map_reverse]
    simp only [runF, entry, thn', sIf, sAsg, sDrop, sRet, sNever, okO, bnd, mOr, mAnd, mNot, mb, VL.mt, mTru, truD, usr, mCall, ac, an, mv, tm, takes, take, VL.ret, aft, asB, o1, o2, cb, mPrim, looks, look, pLt, pGt, pLe, pGe, ii, oI, sI, sB, cst, pIsN, pIs, mMove, mVar, setS, mIf, mAndV, mOrV, mNotV, fin, finR, mTake, kTup, kLst, chk, unpk, gsc, gs0, Slot.frz, meth, mTy, tyD, mOn, mSeq, items, sFor, List.length_cons, List.length_nil, List.map_cons, List.map_nil, List.replicate, List.append_nil, List.cons_append, List.nil_append, List.getElem?_cons_zero, List.getElem?_cons_succ, Option.bind_some, Slot.d?, List.set, Bool.not_true, Bool.not_false, Nat.sub_self, Bool.false_eq_true, ↓reduceIte, Option.map_some, f_lines, hp, hb, hq, pTuple]
  have hloop := loop_runN (S := Slot × Slot × Tab) (X := List Nat) (E := fun s => tenv n ls hs spot most s.2.2 s.1 s.2.1 .un .un) (e := lotD) (g := setS 5)
    (step := fun s lot => (.sh (lotD lot), .sh (.lst ((fallOf n ls.length most s.2.2 lot).map fallD)), tput s.2.2 lot (lotWorths n ls spot lot (fallOf n ls.length most s.2.2 lot))))
    (b := thn' (sAsg c_worth_table_2 (setS 6)) (sAsg (usr false run_lot_worths [] (ac (mv 0) (ac (mv 1) (ac (mv 5) (ac (mv 6) an))))) (setSub 4 (mv 5) setF)))
    (P := fun k s => calm s.1 ∧ calm s.2.1 ∧ s.2.2.length ≤ k ∧ (∀ q ∈ s.2.2, q.2.length = n)) (N := 900) (xs := (smallLots ls.length most).reverse) (s := (.un, .un, [])) (k := 0)
    ⟨trivial, trivial, Nat.le_refl _, fun q hq => by cases hq⟩ (by rw [List.length_reverse]; omega) (fun s k hk hp x hx => by
      obtain ⟨s5, s6, T⟩ := s
      obtain ⟨q1, q2, q3, q4⟩ := hp
      have hx' : x.length ≤ 20 := f1 x (List.mem_reverse.mp hx)
      refine ⟨⟨trivial, trivial, Nat.le_trans (tput_len _ _ _) (Nat.succ_le_succ q3), tput_all (p := fun w => w.length = n) q4 (lotWorths_len n ls spot x _)⟩, tenv n ls hs spot most T (.sh (lotD x)) s6 .un .un, ?_, ?_⟩
      · exact set_calm (ρ := tenv n ls hs spot most T s5 s6 .un .un) (i := 5) (d := lotD x) rfl q1
      · exact e_tbody w q2 hx' (by dsimp only at q3; omega) q4)
  have hfor : ∃ a b, l_worth_table_1 (tenv n ls hs spot most [] .un .un .un .un) = .ok .next (tenv n ls hs spot most (worthTable n ls spot most) a b .un .un) := by
    have hres : ∃ S : Slot × Slot × Tab, S.2.2 = worthTable n ls spot most ∧ sLoop (setS 5) (thn' (sAsg c_worth_table_2 (setS 6)) (sAsg (usr false run_lot_worths [] (ac (mv 0) (ac (mv 1) (ac (mv 5) (ac (mv 6) an))))) (setSub 4 (mv 5) setF))) ((smallLots ls.length most).reverse.map lotD) (tenv n ls hs spot most [] .un .un .un .un) = .ok .next (tenv n ls hs spot most S.2.2 S.1 S.2.1 .un .un) :=
      ⟨_, fold_third (α := List Nat) (fun T lot => tput T lot (lotWorths n ls spot lot (fallOf n ls.length most T lot))) (fun _ lot => .sh (lotD lot)) (fun s lot => .sh (.lst ((fallOf n ls.length most s.2.2 lot).map fallD))) (smallLots ls.length most).reverse .un .un [], hloop.1⟩
    obtain ⟨S, e, hS⟩ := hres
    refine ⟨S.1, S.2.1, ?_⟩
    unfold l_worth_table_1 sFor bnd
    rw [hsrc]
    dsimp only
    rw [hS, e]
  obtain ⟨a, b, hfor⟩ := hfor
  unfold run_worth_table m_worth_table
  have hfor' : l_worth_table_1 [.sh (netD n ls hs), .sh (nD spot), .sh (nD most), .sh (.tup ((nothing n).map oD)), .ow (.dit [] []), .un, .un, .un, .un] = _ := hfor
  simp only [runF, entry, thn', sIf, sAsg, sDrop, sRet, sNever, okO, bnd, mOr, mAnd, mNot, mb, VL.mt, mTru, truD, usr, mCall, ac, an, mv, tm, takes, take, VL.ret, aft, asB, o1, o2, cb, mPrim, looks, look, pLt, pGt, pLe, pGe, ii, oI, sI, sB, cst, pIsN, pIs, mMove, mVar, setS, mIf, mAndV, mOrV, mNotV, fin, finR, mTake, kTup, kLst, chk, unpk, gsc, gs0, Slot.frz, meth, mTy, tyD, mOn, mSeq, items, sFor, List.length_cons, List.length_nil, List.map_cons, List.map_nil, List.replicate, List.append_nil, List.cons_append, List.nil_append, List.getElem?_cons_zero, List.getElem?_cons_succ, Option.bind_some, Slot.d?, List.set, Bool.not_true, Bool.not_false, Nat.sub_self, Bool.false_eq_true, ↓reduceIte, Option.map_some, h1, hfor', pTuple]
end
end VLL
set_option Elab.async false
set_option linter.all false
set_option maxRecDepth 1000000
set_option maxHeartbeats 0
/-! P71g: lot_of. -/
namespace VLL
open VL
def kI (ks : List Nat) : List L2.Key := ks.map fun (k : Nat) => Sum.inl (k : Int)
def metD (ks : List Nat) : D := .dic (kI ks) (ks.map fun _ => D.bl true)
theorem hasK_nat (x : Nat) : ∀ ks : List Nat, hasK (Sum.inl (x : Int) : L2.Key) (kI ks) = ks.contains x
  | [] => rfl
  | k :: ks => by
    have ih := hasK_nat x ks
    unfold hasK kI at ih ⊢
    rw [List.map_cons, List.any_cons, List.contains_cons, ih]
    congr 1
    by_cases h : x = k
    · subst h; simp
    · rw [beq_eq_false_iff_ne.mpr h, decide_eq_false]
      intro z
      injection z with z
      exact h (Int.ofNat_inj.mp z).symm
theorem dpt_met (x : Nat) : ∀ ks : List Nat, ks.contains x = false → dpt (Sum.inl (x : Int) : L2.Key) (.bl true) (kI ks) (ks.map fun _ => D.bl true) = (kI (ks ++ [x]), (ks ++ [x]).map fun _ => D.bl true)
  | [], _ => rfl
  | k :: ks, h => by
    rw [List.contains_cons, Bool.or_eq_false_iff] at h
    have hne : ¬ ((Sum.inl (k : Int) : L2.Key) = Sum.inl (x : Int)) := fun z => by
      injection z with z
      exact (beq_eq_false_iff_ne.mp h.1) (Int.ofNat_inj.mp z).symm
    show (if (Sum.inl (k : Int) : L2.Key) = Sum.inl (x : Int) then _ else _) = _
    have ih := dpt_met x ks h.2
    unfold kI at ih
    rw [if_neg hne, ih] <;> rfl
theorem pIn_met (x : Nat) (ks : List Nat) : pIn [nD x, metD ks] = some (.sh (.bl (ks.contains x))) := by
  show (match some (hasK (Sum.inl (x : Int) : L2.Key) (kI ks)) with | some b => sB b | none => none) = _
  rw [hasK_nat] <;> rfl
theorem set_met {x : Nat} {ks : List Nat} (h : ks.contains x = false) (hl : ks.length < 900) : setF (metD ks) (nD x) (.bl true) = some (metD (ks ++ [x])) := by
  show (match keyOf (nD x) with | some k => if (kI ks).length < lim then some (D.dic (dpt k (.bl true) (kI ks) (ks.map fun _ => D.bl true)).1 (dpt k (.bl true) (kI ks) (ks.map fun _ => D.bl true)).2) else none | none => none) = _
  have e : keyOf (nD x) = some (Sum.inl (x : Int)) := rfl
  rw [e]
  dsimp only
  have hl' : (kI ks).length < lim := by unfold kI; rw [List.length_map]; exact Nat.lt_of_lt_of_le hl (le_lim (by decide))
  rw [if_pos hl', dpt_met x ks h] <;> rfl
theorem list_met (ks : List Nat) : pList [metD ks] = some (.ow (.lst (ks.map nD))) := by
  show some (Slot.ow (D.lst ((kI ks).map keyD))) = _
  unfold kI
  rw [List.map_map] <;> rfl
section
variable {nm : PySem.Str} {X : D} {many : Nat}
abbrev lenv (nm : PySem.Str) (X : D) (many : Nat) (ks : List Nat) (s4 : Slot) : Env := [.sh (.str nm), .sh X, .sh (nD many), .ow (metD ks), s4]
abbrev lbody : M Fl := thn' (sIf (mOr (mNot (mb (usr false run_is_int [] (ac (mv 4) an)))) (mOr (mb (o2 pLt (mv 4) (tm (cst (.int 0))))) (mOr (mb (o2 pGe (mv 4) (mv 2))) (mb (o2 pIn (mv 4) (mv 3))))))
  sNever
  (ret .next))
  (sAsg (cst (.bl true)) (setSub 3 (mv 4) setF))
theorem e_lot (x : Nat) {ks : List Nat} (h1 : x < many) (h2 : ks.contains x = false) (h3 : ks.length < 900) : lbody (lenv nm X many ks (.sh (nD x))) = .ok .next (lenv nm X many (ks ++ [x]) (.sh (nD x))) := by
  have e1 : decide ((x : Int) < 0) = false := decide_eq_false (by omega)
  have e2 : decide ((many : Int) ≤ (x : Int)) = false := decide_eq_false (by omega)
  have e3 := pIn_met x ks
  rw [h2] at e3
  have a1 : sIf (mOr (mNot (mb (usr false run_is_int [] (ac (mv 4) an)))) (mOr (mb (o2 pLt (mv 4) (tm (cst (.int 0))))) (mOr (mb (o2 pGe (mv 4) (mv 2))) (mb (o2 pIn (mv 4) (mv 3)))))) sNever (ret .next) (lenv nm X many ks (.sh (nD x))) = .ok .next (lenv nm X many ks (.sh (nD x))) := by
    simp only [runF, entry, thn', sIf, sAsg, sDrop, sRet, sNever, okO, bnd, mOr, mAnd, mNot, mb, VL.mt, mTru, truD, usr, mCall, ac, an, mv, tm, takes, take, VL.ret, aft, asB, o1, o2, cb, mPrim, looks, look, pLt, pGt, pLe, pGe, ii, oI, sI, sB, cst, pIsN, pIs, mMove, mVar, setS, mIf, mAndV, mOrV, mNotV, fin, finR, mTake, kTup, kLst, chk, unpk, gsc, gs0, Slot.frz, meth, mTy, tyD, mOn, mSeq, items, sFor, List.length_cons, List.length_nil, List.map_cons, List.map_nil, List.replicate, List.append_nil, List.cons_append, List.nil_append, List.getElem?_cons_zero, List.getElem?_cons_succ, Option.bind_some, Slot.d?, List.set, Bool.not_true, Bool.not_false, Nat.sub_self, Bool.false_eq_true, ↓reduceIte, Option.map_some, r_is_int, e1, e2, e3, pTuple]
  have a2 : sAsg (cst (.bl true)) (setSub 3 (mv 4) setF) (lenv nm X many ks (.sh (nD x))) = .ok .next (lenv nm X many (ks ++ [x]) (.sh (nD x))) := by
    unfold sAsg setSub
    simp only [runF, entry, thn', sIf, sAsg, sDrop, sRet, sNever, okO, bnd, mOr, mAnd, mNot, mb, VL.mt, mTru, truD, usr, mCall, ac, an, mv, tm, takes, take, VL.ret, aft, asB, o1, o2, cb, mPrim, looks, look, pLt, pGt, pLe, pGe, ii, oI, sI, sB, cst, pIsN, pIs, mMove, mVar, setS, mIf, mAndV, mOrV, mNotV, fin, finR, mTake, kTup, kLst, chk, unpk, gsc, gs0, Slot.frz, meth, mTy, tyD, mOn, mSeq, items, sFor, List.length_cons, List.length_nil, List.map_cons, List.map_nil, List.replicate, List.append_nil, List.cons_append, List.nil_append, List.getElem?_cons_zero, List.getElem?_cons_succ, Option.bind_some, Slot.d?, List.set, Bool.not_true, Bool.not_false, Nat.sub_self, Bool.false_eq_true, ↓reduceIte, Option.map_some, mUpd, subF, set_met h2 h3, pTuple]
  show thn' _ _ _ = _
  unfold thn' bnd
  rw [a1]
  exact a2
theorem e_lots : ∀ (xs ks : List Nat) (s4 : Slot), calm s4 → (ks ++ xs).Nodup → (∀ x ∈ xs, x < many) → ks.length + xs.length ≤ 900 → ∃ s, sLoop (setS 4) lbody (xs.map nD) (lenv nm X many ks s4) = .ok .next (lenv nm X many (ks ++ xs) s)
  | [], ks, s4, _, _, _, _ => ⟨s4, by rw [List.append_nil] <;> rfl⟩
  | x :: xs, ks, s4, c, nd, hx, hl => by
    have hc : ks.contains x = false := by
      cases e : ks.contains x with
      | false => rfl
      | true =>
        have := List.nodup_append.mp nd
        exact absurd rfl (this.2.2 x (by simpa using e) x List.mem_cons_self)
    rw [List.length_cons] at hl
    have h1 := e_lot (nm := nm) (X := X) x (ks := ks) (hx x List.mem_cons_self) hc (by omega)
    obtain ⟨s, ih⟩ := e_lots xs (ks ++ [x]) (.sh (nD x)) trivial (by rw [List.append_assoc]; exact nd) (fun y hy => hx y (List.mem_cons_of_mem _ hy)) (by rw [List.length_append, List.length_singleton]; omega)
    refine ⟨s, ?_⟩
    rw [List.append_assoc] at ih
    have ih : sLoop (setS 4) lbody (xs.map nD) (lenv nm X many (ks ++ [x]) (.sh (nD x))) = .ok .next (lenv nm X many (ks ++ x :: xs) s) := ih
    rw [← ih, List.map_cons]
    have hg := set_calm (ρ := lenv nm X many ks s4) (i := 4) (d := nD x) rfl c
    conv => lhs; unfold sLoop
    simp only [bnd, okO, hg]
    have h1' : lbody (List.set (lenv nm X many ks s4) 4 (.sh (nD x))) = .ok .next (lenv nm X many (ks ++ [x]) (.sh (nD x))) := h1
    rw [h1']
theorem r_lot_of {xs : List Nat} (hX : items X = ret (xs.map nD)) (hr : run_is_row_like [X] = .ok (.sh (.bl true)) .non) (nd : xs.Nodup) (hx : ∀ x ∈ xs, x < many) (hl : xs.length ≤ 20) : run_lot_of [.str nm, X, nD many] = .ok (.sh (lotD (sortN xs))) .non := by
  obtain ⟨s, h⟩ := e_lots (nm := nm) (X := X) (many := many) xs [] .un trivial nd hx (by rw [List.length_nil]; omega)
  have hs : l_lot_of_1 [.sh (.str nm), .sh X, .sh (nD many), .ow (.dic [] []), .un] = .ok .next (lenv nm X many xs s) := by
    unfold l_lot_of_1 sFor
    have hm : mSeq (mVar 1) [.sh (.str nm), .sh X, .sh (nD many), .ow (.dic [] []), .un] = .ok (xs.map nD) [.sh (.str nm), .sh X, .sh (nD many), .ow (.dic [] []), .un] := by
      show items X _ = _
      rw [hX] <;> rfl
    unfold bnd
    rw [hm]
    exact h
  have h1 := list_met xs
  have h2 := pSorted_nat (xs := xs) (by omega)
  unfold run_lot_of m_lot_of
  simp only [runF, entry, thn', sIf, sAsg, sDrop, sRet, sNever, okO, bnd, mOr, mAnd, mNot, mb, VL.mt, mTru, truD, usr, mCall, ac, an, mv, tm, takes, take, VL.ret, aft, asB, o1, o2, cb, mPrim, looks, look, pLt, pGt, pLe, pGe, ii, oI, sI, sB, cst, pIsN, pIs, mMove, mVar, setS, mIf, mAndV, mOrV, mNotV, fin, finR, mTake, kTup, kLst, chk, unpk, gsc, gs0, Slot.frz, meth, mTy, tyD, mOn, mSeq, items, sFor, List.length_cons, List.length_nil, List.map_cons, List.map_nil, List.replicate, List.append_nil, List.cons_append, List.nil_append, List.getElem?_cons_zero, List.getElem?_cons_succ, Option.bind_some, Slot.d?, List.set, Bool.not_true, Bool.not_false, Nat.sub_self, Bool.false_eq_true, ↓reduceIte, Option.map_some, hr, hs, h1, h2, pTuple]
  rfl
end
end VLL
set_option Elab.async false
set_option linter.all false
set_option maxRecDepth 1000000
set_option maxHeartbeats 0
/-! P71h: Worth: made, known_lot, called. -/
namespace VLL
open VL
def worthD (n : Nat) (ls : List (Nat × Nat)) (hs : List Nat) (house most : Nat) (T : Tab) : D := .obj "Worth" ["net", "house", "most", "by_lot"] [netD n ls hs, nD house, nD most, .dit (tabK T) (tabV T)]
section
variable {n : Nat} {ls : List (Nat × Nat)} {hs : List Nat} {house most : Nat} {T : Tab} {r : Env}
theorem len_lines : pLen [.tup (ls.map prD)] = some (.sh (.int (ls.length : Int))) := by
  show some (Slot.sh (D.int ((ls.map prD).length : Int))) = _
  rw [List.length_map]
theorem len_nats (xs : List Nat) : pLen [.tup (xs.map nD)] = some (.sh (.int (xs.length : Int))) := by
  show some (Slot.sh (D.int ((xs.map nD).length : Int))) = _
  rw [List.length_map]
theorem r_few (h : ls.length ≤ 12) : run_check_lines_few [netD n ls hs] = .ok (.sh .non) .non := by
  have e : decide ((12 : Int) < (ls.length : Int)) = false := decide_eq_false (by omega)
  unfold run_check_lines_few m_check_lines_few
  simp only [runF, entry, thn', sIf, sAsg, sDrop, sRet, sNever, okO, bnd, mOr, mAnd, mNot, mb, VL.mt, mTru, truD, usr, mCall, ac, an, mv, tm, takes, take, VL.ret, aft, asB, o1, o2, cb, mPrim, looks, look, pLt, pGt, pLe, pGe, ii, oI, sI, sB, cst, pIsN, pIs, mMove, mVar, setS, mIf, mAndV, mOrV, mNotV, fin, finR, mTake, kTup, kLst, chk, unpk, gsc, gs0, Slot.frz, meth, mTy, tyD, mOn, mSeq, items, sFor, List.length_cons, List.length_nil, List.map_cons, List.map_nil, List.replicate, List.append_nil, List.cons_append, List.nil_append, List.getElem?_cons_zero, List.getElem?_cons_succ, Option.bind_some, Slot.d?, List.set, Bool.not_true, Bool.not_false, Nat.sub_self, Bool.false_eq_true, ↓reduceIte, Option.map_some, f_lines, len_lines, e, pTuple]
theorem r_falls (h : ls.length ≤ 12) (h1 : house < hs.length) (h2 : most ≤ 3) : run_check_house_falls [netD n ls hs, nD house, nD most] = .ok (.sh .non) .non := by
  have c0 := r_few (n := n) (hs := hs) h
  have c1 := r_check "house" house 0 ((hs.length : Int) - 1) (by omega) (by omega)
  have c2 := r_check "falls" most 0 3 (by omega) (by omega)
  unfold run_check_house_falls m_check_house_falls
  simp only [runF, entry, thn', sIf, sAsg, sDrop, sRet, sNever, okO, bnd, mOr, mAnd, mNot, mb, VL.mt, mTru, truD, usr, mCall, ac, an, mv, tm, takes, take, VL.ret, aft, asB, o1, o2, cb, mPrim, looks, look, pLt, pGt, pLe, pGe, ii, oI, sI, sB, cst, pIsN, pIs, mMove, mVar, setS, mIf, mAndV, mOrV, mNotV, fin, finR, mTake, kTup, kLst, chk, unpk, gsc, gs0, Slot.frz, meth, mTy, tyD, mOn, mSeq, items, sFor, List.length_cons, List.length_nil, List.map_cons, List.map_nil, List.replicate, List.append_nil, List.cons_append, List.nil_append, List.getElem?_cons_zero, List.getElem?_cons_succ, Option.bind_some, Slot.d?, List.set, Bool.not_true, Bool.not_false, Nat.sub_self, Bool.false_eq_true, ↓reduceIte, Option.map_some, f_houses, len_nats, c0, c1, c2, pTuple]
theorem w_net : mFld "Worth" "net" (mv 0) (.sh (worthD n ls hs house most T) :: r) = .ok (.sh (netD n ls hs)) (.sh (worthD n ls hs house most T) :: r) := rfl
theorem w_most : mFld "Worth" "most" (mv 0) (.sh (worthD n ls hs house most T) :: r) = .ok (.sh (nD most)) (.sh (worthD n ls hs house most T) :: r) := rfl
theorem w_tab : mFld "Worth" "by_lot" (mv 0) (.sh (worthD n ls hs house most T) :: r) = .ok (.sh (.dit (tabK T) (tabV T))) (.sh (worthD n ls hs house most T) :: r) := rfl
theorem wn_lines : mFld "Net" "lines" (tm (mFld "Worth" "net" (mv 0))) (.sh (worthD n ls hs house most T) :: r) = .ok (.sh (.tup (ls.map prD))) (.sh (worthD n ls hs house most T) :: r) := rfl
theorem wn_size : mFld "Net" "size" (tm (mFld "Worth" "net" (mv 0))) (.sh (worthD n ls hs house most T) :: r) = .ok (.sh (nD n)) (.sh (worthD n ls hs house most T) :: r) := rfl
theorem r_worth_init {spot : Nat} (w : NetOk n ls) (h : ls.length ≤ 12) (h1 : hs[house]? = some spot) (h2 : most ≤ 3) :
    run_WorthX_initX [.obj "Worth" [] [], netD n ls hs, nD house, nD most] = .ok (.sh .non) (worthD n ls hs house most (worthTable n ls spot most)) := by
  have hl : house < hs.length := (List.getElem?_eq_some_iff.mp h1).1
  have c0 := r_falls (n := n) (most := most) h hl h2
  have c1 := r_worth_table (hs := hs) (spot := spot) w h h2
  have a1 : sDrop (usr false run_check_house_falls [] (ac (mv 1) (ac (mv 2) (ac (mv 3) an)))) [.br (.obj "Worth" [] []), .sh (netD n ls hs), .sh (nD house), .sh (nD most)] = .ok .next [.br (.obj "Worth" [] []), .sh (netD n ls hs), .sh (nD house), .sh (nD most)] := by
    simp only [runF, entry, thn', sIf, sAsg, sDrop, sRet, sNever, okO, bnd, mOr, mAnd, mNot, mb, VL.mt, mTru, truD, usr, mCall, ac, an, mv, tm, takes, take, VL.ret, aft, asB, o1, o2, cb, mPrim, looks, look, pLt, pGt, pLe, pGe, ii, oI, sI, sB, cst, pIsN, pIs, mMove, mVar, setS, mIf, mAndV, mOrV, mNotV, fin, finR, mTake, kTup, kLst, chk, unpk, gsc, gs0, Slot.frz, meth, mTy, tyD, mOn, mSeq, items, sFor, List.length_cons, List.length_nil, List.map_cons, List.map_nil, List.replicate, List.append_nil, List.cons_append, List.nil_append, List.getElem?_cons_zero, List.getElem?_cons_succ, Option.bind_some, Slot.d?, List.set, Bool.not_true, Bool.not_false, Nat.sub_self, Bool.false_eq_true, ↓reduceIte, Option.map_some, c0, pTuple]
  have hf : mFld "Net" "houses" (mv 1) [.br (.obj "Worth" ["net", "house", "most"] [netD n ls hs, nD house, nD most]), .sh (netD n ls hs), .sh (nD house), .sh (nD most)] = .ok (.sh (.tup (hs.map nD))) [.br (.obj "Worth" ["net", "house", "most"] [netD n ls hs, nD house, nD most]), .sh (netD n ls hs), .sh (nD house), .sh (nD most)] := rfl
  have hi : pIx [.tup (hs.map nD), nD house] = some (.sh (nD spot)) := by
    rw [pIx_tup, List.getElem?_map, h1] <;> rfl
  have a2 : usr false run_worth_table [] (ac (mv 1) (ac (tm (o2 pIx (tm (mFld "Net" "houses" (mv 1))) (mv 2))) (ac (mv 3) an))) [.br (.obj "Worth" ["net", "house", "most"] [netD n ls hs, nD house, nD most]), .sh (netD n ls hs), .sh (nD house), .sh (nD most)] =
      .ok (.ow (.dit (tabK (worthTable n ls spot most)) (tabV (worthTable n ls spot most)))) [.br (.obj "Worth" ["net", "house", "most"] [netD n ls hs, nD house, nD most]), .sh (netD n ls hs), .sh (nD house), .sh (nD most)] := by
    simp only [runF, entry, thn', sIf, sAsg, sDrop, sRet, sNever, okO, bnd, mOr, mAnd, mNot, mb, VL.mt, mTru, truD, usr, mCall, ac, an, mv, tm, takes, take, VL.ret, aft, asB, o1, o2, cb, mPrim, looks, look, pLt, pGt, pLe, pGe, ii, oI, sI, sB, cst, pIsN, pIs, mMove, mVar, setS, mIf, mAndV, mOrV, mNotV, fin, finR, mTake, kTup, kLst, chk, unpk, gsc, gs0, Slot.frz, meth, mTy, tyD, mOn, mSeq, items, sFor, List.length_cons, List.length_nil, List.map_cons, List.map_nil, List.replicate, List.append_nil, List.cons_append, List.nil_append, List.getElem?_cons_zero, List.getElem?_cons_succ, Option.bind_some, Slot.d?, List.set, Bool.not_true, Bool.not_false, Nat.sub_self, Bool.false_eq_true, ↓reduceIte, Option.map_some, hf, hi, c1, pTuple]
  have b1 : sPutF "Worth" "net" 0 (mVar 1) [.br (.obj "Worth" [] []), .sh (netD n ls hs), .sh (nD house), .sh (nD most)] = .ok .next [.br (.obj "Worth" ["net"] [netD n ls hs]), .sh (netD n ls hs), .sh (nD house), .sh (nD most)] := rfl
  have b2 : sPutF "Worth" "house" 0 (mVar 2) [.br (.obj "Worth" ["net"] [netD n ls hs]), .sh (netD n ls hs), .sh (nD house), .sh (nD most)] = .ok .next [.br (.obj "Worth" ["net", "house"] [netD n ls hs, nD house]), .sh (netD n ls hs), .sh (nD house), .sh (nD most)] := rfl
  have b3 : sPutF "Worth" "most" 0 (mVar 3) [.br (.obj "Worth" ["net", "house"] [netD n ls hs, nD house]), .sh (netD n ls hs), .sh (nD house), .sh (nD most)] = .ok .next [.br (.obj "Worth" ["net", "house", "most"] [netD n ls hs, nD house, nD most]), .sh (netD n ls hs), .sh (nD house), .sh (nD most)] := rfl
  have b4 : sPutF "Worth" "by_lot" 0 (usr false run_worth_table [] (ac (mv 1) (ac (tm (o2 pIx (tm (mFld "Net" "houses" (mv 1))) (mv 2))) (ac (mv 3) an)))) [.br (.obj "Worth" ["net", "house", "most"] [netD n ls hs, nD house, nD most]), .sh (netD n ls hs), .sh (nD house), .sh (nD most)] =
      .ok .next [.br (worthD n ls hs house most (worthTable n ls spot most)), .sh (netD n ls hs), .sh (nD house), .sh (nD most)] := by
    unfold sPutF bnd
    rw [a2] <;> rfl
  have hm : m_WorthX_initX [.br (.obj "Worth" [] []), .sh (netD n ls hs), .sh (nD house), .sh (nD most)] = .ok .next [.br (worthD n ls hs house most (worthTable n ls spot most)), .sh (netD n ls hs), .sh (nD house), .sh (nD most)] := by
    unfold m_WorthX_initX thn' bnd
    rw [a1]
    dsimp only
    rw [b1]
    dsimp only
    rw [b2]
    dsimp only
    rw [b3]
    exact b4
  unfold run_WorthX_initX runF
  have he : entry true 4 [.obj "Worth" [] [], netD n ls hs, nD house, nD most] = [.br (.obj "Worth" [] []), .sh (netD n ls hs), .sh (nD house), .sh (nD most)] := rfl
  rw [he, hm] <;> rfl
theorem r_known {X : D} {xs : List Nat} (hX : items X = ret (xs.map nD)) (hr : run_is_row_like [X] = .ok (.sh (.bl true)) .non) (nd : xs.Nodup) (hx : ∀ x ∈ xs, x < ls.length) (hl : xs.length ≤ 20) (hm : (sortN xs).length ≤ most) :
    run_Worth_known_lot [worthD n ls hs house most T, X] = .ok (.sh (lotD (sortN xs))) .non := by
  have c1 := r_lot_of (nm := "lines") (X := X) (many := ls.length) hX hr nd hx hl
  have e : decide ((most : Int) < ((sortN xs).length : Int)) = false := decide_eq_false (by omega)
  have p1 : pLen [lotD (sortN xs)] = some (.sh (.int ((sortN xs).length : Int))) := len_nats _
  unfold run_Worth_known_lot m_Worth_known_lot
  simp only [runF, entry, thn', sIf, sAsg, sDrop, sRet, sNever, okO, bnd, mOr, mAnd, mNot, mb, VL.mt, mTru, truD, usr, mCall, ac, an, mv, tm, takes, take, VL.ret, aft, asB, o1, o2, cb, mPrim, looks, look, pLt, pGt, pLe, pGe, ii, oI, sI, sB, cst, pIsN, pIs, mMove, mVar, setS, mIf, mAndV, mOrV, mNotV, fin, finR, mTake, kTup, kLst, chk, unpk, gsc, gs0, Slot.frz, meth, mTy, tyD, mOn, mSeq, items, sFor, List.length_cons, List.length_nil, List.map_cons, List.map_nil, List.replicate, List.append_nil, List.cons_append, List.nil_append, List.getElem?_cons_zero, List.getElem?_cons_succ, Option.bind_some, Slot.d?, List.set, Bool.not_true, Bool.not_false, Nat.sub_self, Bool.false_eq_true, ↓reduceIte, Option.map_some, wn_lines, w_most, len_lines, c1, p1, e, pTuple]
theorem ix_tab {l : List Nat} {w : List (Option Nat)} (h : tget T l = some w) : pIx [.dit (tabK T) (tabV T), lotD l] = some (.sh (.tup (w.map oD))) := by
  show (match keysOf (l.map nD) with | some k => (dgt k (tabK T) (tabV T)).map Slot.sh | none => none) = _
  rw [keysOf_nat]
  dsimp only
  rw [dgt_tab, h] <;> rfl
theorem r_call {X : D} {xs : List Nat} {s : Nat} {w : List (Option Nat)} (hX : items X = ret (xs.map nD)) (hr : run_is_row_like [X] = .ok (.sh (.bl true)) .non) (nd : xs.Nodup) (hx : ∀ x ∈ xs, x < ls.length) (hl : xs.length ≤ 20) (hm : (sortN xs).length ≤ most)
    (hs' : s < n) (hg : tget T (sortN xs) = some w) (hw : s < w.length) : run_WorthX_callX [worthD n ls hs house most T, nD s, X] = .ok (.sh (oD (at0 w s))) .non := by
  have c1 := r_check "switch" s 0 ((n : Int) - 1) (by omega) (by omega)
  have hk := meth_ok (cn := "Worth") (m := "known_lot") (F := run_Worth_known_lot) (dd := []) (mo := mv 0) (ms := ac (mv 2) an) (o := .var 0) (os := [.var 2]) (ds := [worthD n ls hs house most T, X]) (ρ := [.sh (worthD n ls hs house most T), .sh (nD s), .sh X]) rfl rfl rfl rfl rfl (r_known hX hr nd hx hl hm)
  have hk' : x_WorthX_callX_1 [.sh (worthD n ls hs house most T), .sh (nD s), .sh X] = _ := hk
  unfold run_WorthX_callX m_WorthX_callX
  simp only [runF, entry, thn', sIf, sAsg, sDrop, sRet, sNever, okO, bnd, mOr, mAnd, mNot, mb, VL.mt, mTru, truD, usr, mCall, ac, an, mv, tm, takes, take, VL.ret, aft, asB, o1, o2, cb, mPrim, looks, look, pLt, pGt, pLe, pGe, ii, oI, sI, sB, cst, pIsN, pIs, mMove, mVar, setS, mIf, mAndV, mOrV, mNotV, fin, finR, mTake, kTup, kLst, chk, unpk, gsc, gs0, Slot.frz, meth, mTy, tyD, mOn, mSeq, items, sFor, List.length_cons, List.length_nil, List.map_cons, List.map_nil, List.replicate, List.append_nil, List.cons_append, List.nil_append, List.getElem?_cons_zero, List.getElem?_cons_succ, Option.bind_some, Slot.d?, List.set, Bool.not_true, Bool.not_false, Nat.sub_self, Bool.false_eq_true, ↓reduceIte, Option.map_some, wn_size, c1, w_tab, hk', ix_tab hg, pIx_tup, at0_get hw, pTuple]
end
end VLL
set_option Elab.async false
set_option linter.all false
set_option maxRecDepth 1000000
set_option maxHeartbeats 0
/-! P71i: reach_from. -/
namespace VLL
open VL
abbrev bD (b : Bool) : D := .bl b
def rstep (ls : List (Nat × Nat)) (gone : List Nat) (spot : Nat) (s : List Bool × List Nat) (l : Nat) : List Bool × List Nat :=
  if !gone.contains l && !s.1.getD (oth ls l spot) true then (s.1.set (oth ls l spot) true, s.2 ++ [oth ls l spot]) else s
def reachGo (ls : List (Nat × Nat)) (gone : List Nat) : Nat → List Bool × List Nat → Option (List Bool)
  | 0, _ => none
  | k + 1, (J, W) => if Nat.ble W.length 500 then match W.getLast? with
    | none => some J
    | some s => reachGo ls gone k ((linesAt ls s).foldl (rstep ls gone s) (J, W.dropLast))
    else none
def reachN (n : Nat) (ls : List (Nat × Nat)) (s : Nat) (gone : List Nat) : Option (List Bool) := reachGo ls gone 100 ((List.range n).map fun k => decide (k = s), [s])
theorem set_lst {xs : List D} {b : Nat} {v : D} (h : b < xs.length) : setF (.lst xs) (nD b) v = some (.lst (xs.set b v)) := by
  show (L2.ixN xs.length (b : Int)).map (fun j => D.lst (xs.set j v)) = _
  unfold L2.ixN
  rw [if_pos (by omega), if_pos (by omega)]
  simp
section
variable {n : Nat} {ls : List (Nat × Nat)} {hs : List Nat} {s0 : Nat} {X : D} {gone : List Nat}
abbrev renv (n : Nat) (ls : List (Nat × Nat)) (hs : List Nat) (s0 : Nat) (X : D) (gone : List Nat) (J : List Bool) (W : List Nat) (s6 s7 s8 : Slot) : Env :=
  [.sh (netD n ls hs), .sh (nD s0), .sh X, .sh (lotD gone), .ow (.lst (J.map bD)), .ow (.lst (W.map nD)), s6, s7, s8]
abbrev rbody : M Fl := thn' (sAsg x_reach_from_2 (setS 8))
  (sIf (mAnd (mb (o2 pNotIn (mv 7) (mv 3))) (mNot (VL.mt (tm (o2 pIx (mv 4) (mv 8))))))
  (thn' (sAsg (cst (.bl true)) (setSub 4 (mv 8) setF))
  (sDrop (mutm "list" 5 fAppend (ac (mv 8) an))))
  (ret .next))
theorem e_rbody (w : NetOk n ls) {J : List Bool} {W : List Nat} {spot l : Nat} {s8 : Slot} (c8 : calm s8) (hl : l ∈ linesAt ls spot) (hn : spot < n) (hJ : J.length = n) (hW : W.length < 900) :
    rbody (renv n ls hs s0 X gone J W (.sh (nD spot)) (.sh (nD l)) s8) = .ok .next (renv n ls hs s0 X gone (rstep ls gone spot (J, W) l).1 (rstep ls gone spot (J, W) l).2 (.sh (nD spot)) (.sh (nD l)) (.sh (nD (oth ls l spot)))) := by
  have hb : oth ls l spot < J.length := by rw [hJ]; exact oth_lt w hl
  have hx := meth_ok (cn := "Net") (m := "other") (F := run_Net_other) (dd := []) (mo := mv 0) (ms := ac (mv 7) (ac (mv 6) an)) (o := .var 0) (os := [.var 7, .var 6]) (ds := [netD n ls hs, nD l, nD spot]) (ρ := renv n ls hs s0 X gone J W (.sh (nD spot)) (.sh (nD l)) s8) rfl rfl rfl rfl rfl (r_other' hl hn)
  have hx : x_reach_from_2 (renv n ls hs s0 X gone J W (.sh (nD spot)) (.sh (nD l)) s8) = .ok (.sh (nD (oth ls l spot))) (renv n ls hs s0 X gone J W (.sh (nD spot)) (.sh (nD l)) s8) := hx
  have a1 : sAsg x_reach_from_2 (setS 8) (renv n ls hs s0 X gone J W (.sh (nD spot)) (.sh (nD l)) s8) = .ok .next (renv n ls hs s0 X gone J W (.sh (nD spot)) (.sh (nD l)) (.sh (nD (oth ls l spot)))) := by
    have hg := set_calm (ρ := renv n ls hs s0 X gone J W (.sh (nD spot)) (.sh (nD l)) s8) (i := 8) (d := nD (oth ls l spot)) rfl c8
    unfold sAsg bnd okO
    rw [hx]
    dsimp only
    rw [hg] <;> rfl
  have e1 : pNotIn [nD l, lotD gone] = some (.sh (.bl (!gone.contains l))) := pNotIn_tup gone l
  have e2 : pIx [.lst (J.map bD), nD (oth ls l spot)] = some (.sh (.bl (J.getD (oth ls l spot) true))) := by
    rw [pIx_lst, List.getElem?_map, List.getD_eq_getElem?_getD, List.getElem?_eq_getElem hb] <;> rfl
  have e3 : setF (.lst (J.map bD)) (nD (oth ls l spot)) (.bl true) = some (.lst ((J.set (oth ls l spot) true).map bD)) := by
    rw [set_lst (by rw [List.length_map]; exact hb), List.map_set]
  have e4 : fAppend (.lst (W.map nD)) [nD (oth ls l spot)] = some (.lst ((W ++ [oth ls l spot]).map nD), .non) := by
    show (if (W.map nD).length < lim then some (D.lst (W.map nD ++ [nD (oth ls l spot)]), D.non) else none) = _
    rw [if_pos (by rw [List.length_map]; exact Nat.lt_of_lt_of_le hW (le_lim (by decide))), List.map_append] <;> rfl
  show thn' _ _ _ = _
  unfold thn' bnd
  rw [a1]
  dsimp only
  unfold rstep
  cases h1 : gone.contains l with
  | true =>
    rw [h1] at e1
    simp only [Bool.not_true, Bool.false_and, Bool.false_eq_true, ↓reduceIte]
    simp only [runF, entry, thn', sIf, sAsg, sDrop, sRet, sNever, okO, bnd, mOr, mAnd, mNot, mb, VL.mt, mTru, truD, usr, mCall, ac, an, mv, tm, takes, take, VL.ret, aft, asB, o1, o2, cb, mPrim, looks, look, pLt, pGt, pLe, pGe, ii, oI, sI, sB, cst, pIsN, pIs, mMove, mVar, setS, mIf, mAndV, mOrV, mNotV, fin, finR, mTake, kTup, kLst, chk, unpk, gsc, gs0, Slot.frz, meth, mTy, tyD, mOn, mSeq, items, sFor, List.length_cons, List.length_nil, List.map_cons, List.map_nil, List.replicate, List.append_nil, List.cons_append, List.nil_append, List.getElem?_cons_zero, List.getElem?_cons_succ, Option.bind_some, Slot.d?, List.set, Bool.not_true, Bool.not_false, Nat.sub_self, Bool.false_eq_true, ↓reduceIte, Option.map_some, e1, pTuple]
  | false =>
    rw [h1] at e1
    cases h2 : J.getD (oth ls l spot) true with
    | true =>
      rw [h2] at e2
      simp only [Bool.not_true, Bool.and_false, Bool.false_eq_true, ↓reduceIte, h2]
      simp only [runF, entry, thn', sIf, sAsg, sDrop, sRet, sNever, okO, bnd, mOr, mAnd, mNot, mb, VL.mt, mTru, truD, usr, mCall, ac, an, mv, tm, takes, take, VL.ret, aft, asB, o1, o2, cb, mPrim, looks, look, pLt, pGt, pLe, pGe, ii, oI, sI, sB, cst, pIsN, pIs, mMove, mVar, setS, mIf, mAndV, mOrV, mNotV, fin, finR, mTake, kTup, kLst, chk, unpk, gsc, gs0, Slot.frz, meth, mTy, tyD, mOn, mSeq, items, sFor, List.length_cons, List.length_nil, List.map_cons, List.map_nil, List.replicate, List.append_nil, List.cons_append, List.nil_append, List.getElem?_cons_zero, List.getElem?_cons_succ, Option.bind_some, Slot.d?, List.set, Bool.not_true, Bool.not_false, Nat.sub_self, Bool.false_eq_true, ↓reduceIte, Option.map_some, e1, e2, pTuple]
    | false =>
      rw [h2] at e2
      simp only [Bool.not_false, Bool.and_true, ↓reduceIte, h2]
      simp only [runF, entry, thn', sIf, sAsg, sDrop, sRet, sNever, okO, bnd, mOr, mAnd, mNot, mb, VL.mt, mTru, truD, usr, mCall, ac, an, mv, tm, takes, take, VL.ret, aft, asB, o1, o2, cb, mPrim, looks, look, pLt, pGt, pLe, pGe, ii, oI, sI, sB, cst, pIsN, pIs, mMove, mVar, setS, mIf, mAndV, mOrV, mNotV, fin, finR, mTake, kTup, kLst, chk, unpk, gsc, gs0, Slot.frz, meth, mTy, tyD, mOn, mSeq, items, sFor, List.length_cons, List.length_nil, List.map_cons, List.map_nil, List.replicate, List.append_nil, List.cons_append, List.nil_append, List.getElem?_cons_zero, List.getElem?_cons_succ, Option.bind_some, Slot.d?, List.set, Bool.not_true, Bool.not_false, Nat.sub_self, Bool.false_eq_true, ↓reduceIte, Option.map_some, e1, e2, setSub, mUpd, subF, e3, mutm, e4, beq_self_eq_true, pTuple]
theorem rstep_len (J : List Bool) (W : List Nat) (spot l : Nat) : (rstep ls gone spot (J, W) l).1.length = J.length ∧ (rstep ls gone spot (J, W) l).2.length ≤ W.length + 1 := by
  unfold rstep
  split
  · exact ⟨by rw [List.length_set], by rw [List.length_append]; exact Nat.le_refl _⟩
  · exact ⟨rfl, Nat.le_succ _⟩
theorem rstep_lt (w : NetOk n ls) {J : List Bool} {W : List Nat} {spot l : Nat} (hl : l ∈ linesAt ls spot) (h : ∀ x ∈ W, x < n) : ∀ x ∈ (rstep ls gone spot (J, W) l).2, x < n := by
  unfold rstep
  split
  · intro x hx
    rcases List.mem_append.mp hx with hx | hx
    · exact h x hx
    · rw [List.mem_singleton.mp hx]; exact oth_lt w hl
  · exact h
end
end VLL
set_option Elab.async false
set_option linter.all false
set_option maxRecDepth 1000000
set_option maxHeartbeats 0
/-! P71j: reach_from, its loops. -/
namespace VLL
open VL
section
variable {n : Nat} {ls : List (Nat × Nat)} {hs' : List Nat} {s0 : Nat} {X : D} {gone : List Nat}
theorem bnd_ok {α β : Type} {m : M α} {f : α → M β} {ρ ρ' : Env} {a : α} (h : m ρ = .ok a ρ') : bnd m f ρ = f a ρ' := by
  unfold bnd
  rw [h]
theorem fold_thirdG {α β : Type} (g : β → α → β) (h1 : Slot × Slot × β → α → Slot) (h2 : Slot × Slot × β → α → Slot) : ∀ (l : List α) (a b : Slot) (T : β), (l.foldl (fun (s : Slot × Slot × β) x => (h1 s x, h2 s x, g s.2.2 x)) (a, b, T)).2.2 = l.foldl g T
  | [], _, _, _ => rfl
  | x :: l, a, b, T => by
    rw [List.foldl_cons, List.foldl_cons]
    exact fold_thirdG g h1 h2 l _ _ _
theorem e_inner (w : NetOk n ls) {J : List Bool} {W : List Nat} {spot : Nat} {s7 s8 : Slot} (c7 : calm s7) (c8 : calm s8) (hn : spot < n) (hJ : J.length = n) (hW : W.length ≤ 500) (hx : ∀ x ∈ W, x < n) :
    ∃ J' W' a b, (linesAt ls spot).foldl (rstep ls gone spot) (J, W) = (J', W') ∧ calm a ∧ calm b ∧ J'.length = n ∧ (∀ x ∈ W', x < n) ∧
      l_reach_from_1 (renv n ls hs' s0 X gone J W (.sh (nD spot)) s7 s8) = .ok .next (renv n ls hs' s0 X gone J' W' (.sh (nD spot)) a b) := by
  have hloop := loop_runN (S := Slot × Slot × (List Bool × List Nat)) (X := Nat) (E := fun s => renv n ls hs' s0 X gone s.2.2.1 s.2.2.2 (.sh (nD spot)) s.1 s.2.1) (e := nD) (g := setS 7) (b := rbody)
    (step := fun s l => (.sh (nD l), .sh (nD (oth ls l spot)), rstep ls gone spot s.2.2 l))
    (P := fun k s => calm s.1 ∧ calm s.2.1 ∧ s.2.2.1.length = n ∧ s.2.2.2.length ≤ 500 + k ∧ (∀ x ∈ s.2.2.2, x < n)) (N := 36) (xs := linesAt ls spot) (s := (s7, s8, (J, W))) (k := 0)
    ⟨c7, c8, hJ, hW, hx⟩ (by have := linesAt_len (ls := ls) spot; have := w.l36; omega) (fun s k hk hp x hx => by
      obtain ⟨t7, t8, J, W⟩ := s
      obtain ⟨q1, q2, q3, q4, q5⟩ := hp
      dsimp only at q1 q2 q3 q4 q5
      obtain ⟨r1, r2⟩ := rstep_len (ls := ls) (gone := gone) J W spot x
      refine ⟨⟨trivial, trivial, by rw [← q3]; exact r1, by dsimp only; omega, rstep_lt w hx q5⟩, renv n ls hs' s0 X gone J W (.sh (nD spot)) (.sh (nD x)) t8, ?_, ?_⟩
      · exact set_calm (ρ := renv n ls hs' s0 X gone J W (.sh (nD spot)) t7 t8) (i := 7) (d := nD x) rfl q1
      · exact e_rbody w q2 hx hn q3 (by omega))
  have e := fold_thirdG (rstep ls gone spot) (fun _ l => .sh (nD l)) (fun _ l => .sh (nD (oth ls l spot))) (linesAt ls spot) s7 s8 (J, W)
  obtain ⟨h1, p1, p2, p3, p4, p5⟩ := hloop
  refine ⟨_, _, _, _, ?_, p1, p2, p3, p5, ?_⟩
  · exact e.symm
  · have hm := meth_ok (cn := "Net") (m := "lines_at") (F := run_Net_lines_at) (dd := []) (mo := mv 0) (ms := ac (mv 6) an) (o := .var 0) (os := [.var 6]) (ds := [netD n ls hs', nD spot]) (ρ := renv n ls hs' s0 X gone J W (.sh (nD spot)) s7 s8) rfl rfl rfl rfl rfl (r_lines_at hn w.l36)
    have hm : x_reach_from_1 (renv n ls hs' s0 X gone J W (.sh (nD spot)) s7 s8) = .ok (.sh (.tup ((linesAt ls spot).map nD))) (renv n ls hs' s0 X gone J W (.sh (nD spot)) s7 s8) := hm
    have hsq : mSeq x_reach_from_1 (renv n ls hs' s0 X gone J W (.sh (nD spot)) s7 s8) = .ok ((linesAt ls spot).map nD) (renv n ls hs' s0 X gone J W (.sh (nD spot)) s7 s8) := by
      unfold mSeq bnd
      rw [hm] <;> rfl
    unfold l_reach_from_1 sFor bnd
    rw [hsq]
    exact h1
theorem pop_nat {W : List Nat} {s : Nat} (h : W.getLast? = some s) : fPop (.lst (W.map nD)) [] = some (.lst (W.dropLast.map nD), nD s) := by
  show (match (W.map nD)[(W.map nD).length - 1]? with | some y => some (D.lst (W.map nD).dropLast, y) | none => none) = _
  rw [List.length_map, List.getElem?_map, ← List.getLast?_eq_getElem?, h, List.map_dropLast] <;> rfl
abbrev wbody : M Fl := thn' (sAsg (mutm "list" 5 fPop an) (setS 6)) l_reach_from_1
theorem e_while (w : NetOk n ls) (m : Nat) : ∀ (k : Nat) (J : List Bool) (W : List Nat) (s6 s7 s8 : Slot) (J' : List Bool), calm s6 → calm s7 → calm s8 → J.length = n → (∀ x ∈ W, x < n) → reachGo ls gone k (J, W) = some J' →
    ∃ W' a b c, J'.length = n ∧ sWhile (VL.mt (mv 5)) wbody (k + m) (renv n ls hs' s0 X gone J W s6 s7 s8) = .ok .next (renv n ls hs' s0 X gone J' W' a b c)
  | 0, _, _, _, _, _, _, _, _, _, _, _, h => by cases h
  | k + 1, J, W, s6, s7, s8, J', c6, c7, c8, hJ, hx, h => by
    unfold reachGo at h
    by_cases hW : Nat.ble W.length 500 = true
    · rw [if_pos hW] at h
      have hW := Nat.le_of_ble_eq_true hW
      rw [show k + 1 + m = (k + m) + 1 by omega]
      cases e : W.getLast? with
      | none =>
        rw [e] at h
        cases h
        have hw : W = [] := List.getLast?_eq_none_iff.mp e
        subst hw
        exact ⟨[], s6, s7, s8, hJ, rfl⟩
      | some s =>
        rw [e] at h
        dsimp only at h
        have hne : W ≠ [] := fun z => by rw [z] at e; cases e
        have hs : s < n := hx s (List.mem_of_getLast? e)
        obtain ⟨J2, W2, a, b, f1, f2, f3, f4, f5, f6⟩ := e_inner (hs' := hs') (s0 := s0) (X := X) (gone := gone) w c7 c8 hs hJ (W := W.dropLast) (by rw [List.length_dropLast]; omega) (fun x hx' => hx x (List.dropLast_subset _ hx'))
        rw [f1] at h
        obtain ⟨W', a', b', c', g1, g2⟩ := e_while w m k J2 W2 (.sh (nD s)) a b J' trivial f2 f3 f4 f5 h
        refine ⟨W', a', b', c', g1, ?_⟩
        have ht : VL.mt (mv 5) (renv n ls hs' s0 X gone J W s6 s7 s8) = .ok true (renv n ls hs' s0 X gone J W s6 s7 s8) := by
          cases W with
          | nil => exact absurd rfl hne
          | cons x W => rfl
        have hp : mutm "list" 5 fPop an (renv n ls hs' s0 X gone J W s6 s7 s8) = .ok (.sh (nD s)) (renv n ls hs' s0 X gone J W.dropLast s6 s7 s8) := by
          simp only [runF, entry, thn', sIf, sAsg, sDrop, sRet, sNever, okO, bnd, mOr, mAnd, mNot, mb, VL.mt, mTru, truD, usr, mCall, ac, an, mv, tm, takes, take, VL.ret, aft, asB, o1, o2, cb, mPrim, looks, look, pLt, pGt, pLe, pGe, ii, oI, sI, sB, cst, pIsN, pIs, mMove, mVar, setS, mIf, mAndV, mOrV, mNotV, fin, finR, mTake, kTup, kLst, chk, unpk, gsc, gs0, Slot.frz, meth, mTy, tyD, mOn, mSeq, items, sFor, List.length_cons, List.length_nil, List.map_cons, List.map_nil, List.replicate, List.append_nil, List.cons_append, List.nil_append, List.getElem?_cons_zero, List.getElem?_cons_succ, Option.bind_some, Slot.d?, List.set, Bool.not_true, Bool.not_false, Nat.sub_self, Bool.false_eq_true, ↓reduceIte, Option.map_some, mutm, mUpd, pop_nat e, beq_self_eq_true, pTuple]
        have hg := set_calm (ρ := renv n ls hs' s0 X gone J W.dropLast s6 s7 s8) (i := 6) (d := nD s) rfl c6
        have a1 : sAsg (mutm "list" 5 fPop an) (setS 6) (renv n ls hs' s0 X gone J W s6 s7 s8) = .ok .next (renv n ls hs' s0 X gone J W.dropLast (.sh (nD s)) s7 s8) := by
          unfold sAsg
          rw [bnd_ok hp]
          unfold okO
          rw [hg] <;> rfl
        have hb : wbody (renv n ls hs' s0 X gone J W s6 s7 s8) = .ok .next (renv n ls hs' s0 X gone J2 W2 (.sh (nD s)) a b) := by
          show thn' _ _ _ = _
          unfold thn'
          rw [bnd_ok a1]
          exact f6
        unfold sWhile
        rw [bnd_ok ht, if_pos rfl, bnd_ok hb]
        exact g2
    · rw [if_neg hW] at h; cases h
end
end VLL
set_option Elab.async false
set_option linter.all false
set_option maxRecDepth 1000000
set_option maxHeartbeats 0
/-! P71k: reach_from, parted_by. -/
namespace VLL
open VL
section
variable {n : Nat} {ls : List (Nat × Nat)} {hs' : List Nat} {s0 : Nat} {X : D}
theorem r_reach {xs : List Nat} {s : Nat} {J : List Bool} (w : NetOk n ls) (hX : items X = ret (xs.map nD)) (hr : run_is_row_like [X] = .ok (.sh (.bl true)) .non) (nd : xs.Nodup) (hx : ∀ x ∈ xs, x < ls.length) (hl : xs.length ≤ 20) (hn : s < n) (hJ : reachN n ls s (sortN xs) = some J) :
    J.length = n ∧ run_reach_from [netD n ls hs', nD s, X] = .ok (.sh (.ft (J.map bD))) .non := by
  have c1 := r_check "switch" s 0 ((n : Int) - 1) (by omega) (by omega)
  have c2 := r_lot_of (nm := "lines") (X := X) (many := ls.length) hX hr nd hx hl
  obtain ⟨W', a, b, c, g1, g2⟩ := e_while (hs' := hs') (s0 := s) (X := X) (gone := sortN xs) w 99900 100 ((List.range n).map fun k => decide (k = s)) [s] .un .un .un J trivial trivial trivial (by rw [List.length_map, List.length_range]) (fun x hx => by rw [List.mem_singleton.mp hx]; exact hn) hJ
  refine ⟨g1, ?_⟩
  have h3 : c_reach_from_1 [.sh (netD n ls hs'), .sh (nD s), .sh X, .sh (lotD (sortN xs)), .un, .un, .un, .un, .un] = .ok (.ow (.lst (((List.range n).map fun k => decide (k = s)).map bD))) [.sh (netD n ls hs'), .sh (nD s), .sh X, .sh (lotD (sortN xs)), .un, .un, .un, .un, .un] := by
    unfold c_reach_from_1
    refine Eq.trans (mLc_map (e0 := nD) (v := fun k => bD (decide (k = s))) (ds := List.range n) ?_ ?_ ?_ ?_ (fun k hk => ?_) (le_lim (by rw [List.length_range]; exact Nat.le_trans w.n9 (by decide)))) (by rw [List.map_map]; rfl)
    · exact rng_size w rfl
    · rfl
    · rfl
    · rfl
    · have d : decide ((k : Int) = (s : Int)) = decide (k = s) := by
        by_cases h : k = s
        · rw [decide_eq_true h, decide_eq_true (by omega)]
        · rw [decide_eq_false h, decide_eq_false (by omega)]
      refine ⟨[.sh (netD n ls hs'), .sh (nD s), .sh X, .sh (lotD (sortN xs)), .un, .un, .sh (nD k), .un, .un], rfl, _, .sh (bD (decide (k = s))), [.sh (netD n ls hs'), .sh (nD s), .sh X, .sh (lotD (sortN xs)), .un, .un, .sh (nD k), .un, .un], rfl, ?_, rfl, rfl, rfl⟩
      simp only [runF, entry, thn', sIf, sAsg, sDrop, sRet, sNever, okO, bnd, mOr, mAnd, mNot, mb, VL.mt, mTru, truD, usr, mCall, ac, an, mv, tm, takes, take, VL.ret, aft, asB, o1, o2, cb, mPrim, looks, look, pLt, pGt, pLe, pGe, ii, oI, sI, sB, cst, pIsN, pIs, mMove, mVar, setS, mIf, mAndV, mOrV, mNotV, fin, finR, mTake, kTup, kLst, chk, unpk, gsc, gs0, Slot.frz, meth, mTy, tyD, mOn, mSeq, items, sFor, List.length_cons, List.length_nil, List.map_cons, List.map_nil, List.replicate, List.append_nil, List.cons_append, List.nil_append, List.getElem?_cons_zero, List.getElem?_cons_succ, Option.bind_some, Slot.d?, List.set, Bool.not_true, Bool.not_false, Nat.sub_self, Bool.false_eq_true, ↓reduceIte, Option.map_some, pEq_int, d, pTuple]
  have h4 : l_reach_from_2 [.sh (netD n ls hs'), .sh (nD s), .sh X, .sh (lotD (sortN xs)), .ow (.lst (((List.range n).map fun k => decide (k = s)).map bD)), .ow (.lst [nD s]), .un, .un, .un] = .ok .next (renv n ls hs' s X (sortN xs) J W' a b c) := g2
  have hlim : decide (1 ≤ lim) = true := by decide
  unfold run_reach_from m_reach_from
  simp only [runF, entry, thn', sIf, sAsg, sDrop, sRet, sNever, okO, bnd, mOr, mAnd, mNot, mb, VL.mt, mTru, truD, usr, mCall, ac, an, mv, tm, takes, take, VL.ret, aft, asB, o1, o2, cb, mPrim, looks, look, pLt, pGt, pLe, pGe, ii, oI, sI, sB, cst, pIsN, pIs, mMove, mVar, setS, mIf, mAndV, mOrV, mNotV, fin, finR, mTake, kTup, kLst, chk, unpk, gsc, gs0, Slot.frz, meth, mTy, tyD, mOn, mSeq, items, sFor, List.length_cons, List.length_nil, List.map_cons, List.map_nil, List.replicate, List.append_nil, List.cons_append, List.nil_append, List.getElem?_cons_zero, List.getElem?_cons_succ, Option.bind_some, Slot.d?, List.set, Bool.not_true, Bool.not_false, Nat.sub_self, Bool.false_eq_true, ↓reduceIte, Option.map_some, f_size, f_lines, len_lines, c1, c2, h3, hlim, h4, pTupleF, pTuple]
/-- the first place of what is not joined -/
def firstOff : List Bool → Nat → Option Nat
  | [], _ => none
  | b :: J, k => if b then firstOff J (k + 1) else some k
theorem fst_off : ∀ (J : List Bool) (k : Nat), fstAt (aV (.bl false)) (J.map bD) k = firstOff J k
  | [], _ => rfl
  | b :: J, k => by
    rw [List.map_cons]
    unfold fstAt firstOff
    rw [fst_off J (k + 1)]
    cases b <;> rfl
theorem bools_map : ∀ J : List Bool, bools (J.map bD) = some J
  | [] => rfl
  | b :: J => by
    rw [List.map_cons]
    unfold bools
    rw [bools_map J]
theorem all_ft (J : List Bool) : pAllT [.ft (J.map bD)] = some (.sh (.bl (J.all id))) := by
  unfold pAllT
  dsimp only
  rw [bools_map] <;> rfl
theorem idx_ft {J : List Bool} {k : Nat} (h : firstOff J 0 = some k) : fIndexT (.ft (J.map bD)) [.bl false] = some (.sh (nD k)) := by
  have hf : (J.map bD).all flatD = true := by rw [List.all_map, List.all_eq_true]; intro b _; rfl
  unfold fIndexT
  dsimp only
  rw [hf, fst_off, h] <;> rfl
/-- parted_by, one lot -/
def partStep (n : Nat) (ls : List (Nat × Nat)) (spot : Nat) (lot : List Nat) : Option (Option (Nat × List Nat)) := match reachN n ls spot (sortN lot) with
  | none => none
  | some J => if J.all id then some none else match firstOff J 0 with
    | some k => some (some (k, lot))
    | none => none
def partGo (n : Nat) (ls : List (Nat × Nat)) (spot : Nat) : List (List Nat) → Option (Option (Nat × List Nat))
  | [] => some none
  | lot :: lots => match partStep n ls spot lot with
    | some none => partGo n ls spot lots
    | r => r
def partD : Option (Nat × List Nat) → D
  | none => .non
  | some q => .tup [nD q.1, lotD q.2]
end
end VLL
set_option Elab.async false
set_option linter.all false
set_option maxRecDepth 1000000
set_option maxHeartbeats 0
/-! P71l: parted_by. -/
namespace VLL
open VL
def nodB : List Nat → Bool
  | [] => true
  | x :: l => !l.contains x && nodB l
theorem nodB_ok : ∀ {l : List Nat}, nodB l = true → l.Nodup
  | [], _ => List.nodup_nil
  | x :: l, h => by
    unfold nodB at h
    rw [Bool.and_eq_true] at h
    refine List.nodup_cons.mpr ⟨fun z => ?_, nodB_ok h.2⟩
    have h1 := h.1
    rw [List.contains_iff_mem.mpr z] at h1
    cases h1
def lotsWell (many most : Nat) : Bool := (smallLots many most).all fun l => nodB l && l.all fun x => Nat.blt x many
theorem lots_well_all : ((List.range 13).all fun many => (List.range 4).all fun most => lotsWell many most) = true := by decide +kernel
theorem lots_well {many most : Nat} (h1 : many ≤ 12) (h2 : most ≤ 3) : ∀ l ∈ smallLots many most, l.Nodup ∧ ∀ x ∈ l, x < many := by
  have h := lots_well_all
  rw [List.all_eq_true] at h
  have h := h many (List.mem_range.mpr (by omega))
  rw [List.all_eq_true] at h
  have h := h most (List.mem_range.mpr (by omega))
  unfold lotsWell at h
  rw [List.all_eq_true] at h
  intro l hl
  have h := h l hl
  rw [Bool.and_eq_true, List.all_eq_true] at h
  exact ⟨nodB_ok h.1, fun x hx => Nat.le_of_ble_eq_true (h.2 x hx)⟩
section
variable {n : Nat} {ls : List (Nat × Nat)} {hs' : List Nat} {house most spot : Nat}
abbrev penv (n : Nat) (ls : List (Nat × Nat)) (hs' : List Nat) (house most : Nat) (s3 s4 : Slot) : Env := [.sh (netD n ls hs'), .sh (nD house), .sh (nD most), s3, s4]
abbrev pbody : M Fl := thn' (sAsg (usr false run_reach_from [] (ac (mv 0) (ac (tm (o2 pIx (tm (mFld "Net" "houses" (mv 0))) (mv 1))) (ac (mv 3) an)))) (setS 4))
  (sIf (mNot (mb (cb pAllT (ac (mv 4) an))))
  (sRet (mTake (ac (tm (methF fIndexT (mv 4) (ac (tm (cst (.bl false))) an))) (ac (mv 3) an)) kTup))
  (ret .next))
theorem e_part (w : NetOk n ls) (h1 : hs'[house]? = some spot) (hn : spot < n) : ∀ (lots : List (List Nat)) (s3 s4 : Slot) (r : Option (Nat × List Nat)), calm s3 → calm s4 → (∀ l ∈ lots, l.Nodup ∧ (∀ x ∈ l, x < ls.length) ∧ l.length ≤ 20) → partGo n ls spot lots = some r →
    match r with
    | none => ∃ a b, sLoop (setS 3) pbody (lots.map lotD) (penv n ls hs' house most s3 s4) = .ok .next (penv n ls hs' house most a b)
    | some q => ∃ ρ, sLoop (setS 3) pbody (lots.map lotD) (penv n ls hs' house most s3 s4) = .ok (.ret (.sh (partD (some q)))) ρ
  | [], s3, s4, r, c3, c4, hl, h => by cases h; exact ⟨s3, s4, rfl⟩
  | lot :: lots, s3, s4, r, c3, c4, hl, h => by
    obtain ⟨q1, q2, q3⟩ := hl lot List.mem_cons_self
    have hp : ∀ l ∈ lots, l.Nodup ∧ (∀ x ∈ l, x < ls.length) ∧ l.length ≤ 20 := fun l hl' => hl l (List.mem_cons_of_mem _ hl')
    have g3 := set_calm (ρ := penv n ls hs' house most s3 s4) (i := 3) (d := lotD lot) rfl c3
    have g3 : setS 3 (.sh (lotD lot)) (penv n ls hs' house most s3 s4) = .ok () (penv n ls hs' house most (.sh (lotD lot)) s4) := g3
    unfold partGo at h
    unfold partStep at h
    cases eJ : reachN n ls spot (sortN lot) with
    | none => rw [eJ] at h; cases h
    | some J =>
      rw [eJ] at h
      dsimp only at h
      obtain ⟨k1, k2⟩ := r_reach (hs' := hs') (X := lotD lot) (xs := lot) (s := spot) w rfl (r_row_t _) q1 q2 q3 hn eJ
      have hi : pIx [.tup (hs'.map nD), nD house] = some (.sh (nD spot)) := by
        rw [pIx_tup, List.getElem?_map, h1] <;> rfl
      have u : usr false run_reach_from [] (ac (mv 0) (ac (tm (o2 pIx (tm (mFld "Net" "houses" (mv 0))) (mv 1))) (ac (mv 3) an))) (penv n ls hs' house most (.sh (lotD lot)) s4) = .ok (.sh (.ft (J.map bD))) (penv n ls hs' house most (.sh (lotD lot)) s4) := by
        simp only [runF, entry, thn', sIf, sAsg, sDrop, sRet, sNever, okO, bnd, mOr, mAnd, mNot, mb, VL.mt, mTru, truD, usr, mCall, ac, an, mv, tm, takes, take, VL.ret, aft, asB, o1, o2, cb, mPrim, looks, look, pLt, pGt, pLe, pGe, ii, oI, sI, sB, cst, pIsN, pIs, mMove, mVar, setS, mIf, mAndV, mOrV, mNotV, fin, finR, mTake, kTup, kLst, chk, unpk, gsc, gs0, Slot.frz, meth, mTy, tyD, mOn, mSeq, items, sFor, List.length_cons, List.length_nil, List.map_cons, List.map_nil, List.replicate, List.append_nil, List.cons_append, List.nil_append, List.getElem?_cons_zero, List.getElem?_cons_succ, Option.bind_some, Slot.d?, List.set, Bool.not_true, Bool.not_false, Nat.sub_self, Bool.false_eq_true, ↓reduceIte, Option.map_some, f_houses, hi, k2, pTuple]
      have g4 := set_calm (ρ := penv n ls hs' house most (.sh (lotD lot)) s4) (i := 4) (d := .ft (J.map bD)) rfl c4
      have a1 : sAsg (usr false run_reach_from [] (ac (mv 0) (ac (tm (o2 pIx (tm (mFld "Net" "houses" (mv 0))) (mv 1))) (ac (mv 3) an)))) (setS 4) (penv n ls hs' house most (.sh (lotD lot)) s4) = .ok .next (penv n ls hs' house most (.sh (lotD lot)) (.sh (.ft (J.map bD)))) := by
        unfold sAsg
        rw [bnd_ok u]
        unfold okO
        rw [g4] <;> rfl
      have ea := all_ft J
      have hstep : ∀ (f : Fl) (ρ : Env), pbody (penv n ls hs' house most (.sh (lotD lot)) s4) = .ok f ρ → sLoop (setS 3) pbody ((lot :: lots).map lotD) (penv n ls hs' house most s3 s4) = (match f with
          | .next => sLoop (setS 3) pbody (lots.map lotD)
          | .cont => sLoop (setS 3) pbody (lots.map lotD)
          | .brk => ret .next
          | .ret s => ret (.ret s)) ρ := fun f ρ hb => by
        rw [List.map_cons]
        conv => lhs; unfold sLoop
        have g3' : okO (setS 3 (.sh (lotD lot))) (penv n ls hs' house most s3 s4) = .ok .next (penv n ls hs' house most (.sh (lotD lot)) s4) := by
          unfold okO
          rw [g3]
        rw [bnd_ok g3', bnd_ok hb] <;> (cases f <;> rfl)
      cases hj : J.all id with
      | true =>
        rw [hj] at h ea
        simp only [↓reduceIte] at h
        have hb : pbody (penv n ls hs' house most (.sh (lotD lot)) s4) = .ok .next (penv n ls hs' house most (.sh (lotD lot)) (.sh (.ft (J.map bD)))) := by
          show thn' _ _ _ = _
          unfold thn'
          rw [bnd_ok a1]
          simp only [runF, entry, thn', sIf, sAsg, sDrop, sRet, sNever, okO, bnd, mOr, mAnd, mNot, mb, VL.mt, mTru, truD, usr, mCall, ac, an, mv, tm, takes, take, VL.ret, aft, asB, o1, o2, cb, mPrim, looks, look, pLt, pGt, pLe, pGe, ii, oI, sI, sB, cst, pIsN, pIs, mMove, mVar, setS, mIf, mAndV, mOrV, mNotV, fin, finR, mTake, kTup, kLst, chk, unpk, gsc, gs0, Slot.frz, meth, mTy, tyD, mOn, mSeq, items, sFor, List.length_cons, List.length_nil, List.map_cons, List.map_nil, List.replicate, List.append_nil, List.cons_append, List.nil_append, List.getElem?_cons_zero, List.getElem?_cons_succ, Option.bind_some, Slot.d?, List.set, Bool.not_true, Bool.not_false, Nat.sub_self, Bool.false_eq_true, ↓reduceIte, Option.map_some, ea, pTuple]
        rw [hstep _ _ hb]
        exact e_part w h1 hn lots _ _ r trivial trivial hp h
      | false =>
        rw [hj] at h ea
        simp only [Bool.false_eq_true, ↓reduceIte] at h
        cases ef : firstOff J 0 with
        | none => rw [ef] at h; cases h
        | some k =>
          rw [ef] at h
          cases h
          have ei := idx_ft ef
          have hlim2 : decide (2 ≤ lim) = true := by decide
          have hb : pbody (penv n ls hs' house most (.sh (lotD lot)) s4) = .ok (.ret (.sh (partD (some (k, lot))))) (penv n ls hs' house most (.sh (lotD lot)) (.sh (.ft (J.map bD)))) := by
            show thn' _ _ _ = _
            unfold thn'
            rw [bnd_ok a1]
            simp only [runF, entry, thn', sIf, sAsg, sDrop, sRet, sNever, okO, bnd, mOr, mAnd, mNot, mb, VL.mt, mTru, truD, usr, mCall, ac, an, mv, tm, takes, take, VL.ret, aft, asB, o1, o2, cb, mPrim, looks, look, pLt, pGt, pLe, pGe, ii, oI, sI, sB, cst, pIsN, pIs, mMove, mVar, setS, mIf, mAndV, mOrV, mNotV, fin, finR, mTake, kTup, kLst, chk, unpk, gsc, gs0, Slot.frz, meth, mTy, tyD, mOn, mSeq, items, sFor, List.length_cons, List.length_nil, List.map_cons, List.map_nil, List.replicate, List.append_nil, List.cons_append, List.nil_append, List.getElem?_cons_zero, List.getElem?_cons_succ, Option.bind_some, Slot.d?, List.set, Bool.not_true, Bool.not_false, Nat.sub_self, Bool.false_eq_true, ↓reduceIte, Option.map_some, ea, methF, mFt, ei, hlim2, pTuple]
            rfl
          exact ⟨_, hstep _ _ hb⟩
theorem r_parted (w : NetOk n ls) (hl12 : ls.length ≤ 12) (h1 : hs'[house]? = some spot) (hn : spot < n) (hm : most ≤ 3) {r : Option (Nat × List Nat)} (h : partGo n ls spot (smallLots ls.length most) = some r) :
    run_parted_by [netD n ls hs', nD house, nD most] = .ok (.sh (partD r)) .non := by
  have hh : house < hs'.length := (List.getElem?_eq_some_iff.mp h1).1
  have c0 := r_falls (n := n) (most := most) hl12 hh hm
  have hb := r_small_lots hl12 hm
  have hsrc : mSeq (usr false run_small_lots [] (ac (tm (cb pLen (ac (tm (mFld "Net" "lines" (mv 0))) an))) (ac (mv 2) an))) (penv n ls hs' house most .un .un) = .ok ((smallLots ls.length most).map lotD) (penv n ls hs' house most .un .un) := by
    simp only [runF, entry, thn', sIf, sAsg, sDrop, sRet, sNever, okO, bnd, mOr, mAnd, mNot, mb, VL.mt, mTru, truD, usr, mCall, ac, an, mv, tm, takes, take, VL.ret, aft, asB, o1, o2, cb, mPrim, looks, look, pLt, pGt, pLe, pGe, ii, oI, sI, sB, cst, pIsN, pIs, mMove, mVar, setS, mIf, mAndV, mOrV, mNotV, fin, finR, mTake, kTup, kLst, chk, unpk, gsc, gs0, Slot.frz, meth, mTy, tyD, mOn, mSeq, items, sFor, List.length_cons, List.length_nil, List.map_cons, List.map_nil, List.replicate, List.append_nil, List.cons_append, List.nil_append, List.getElem?_cons_zero, List.getElem?_cons_succ, Option.bind_some, Slot.d?, List.set, Bool.not_true, Bool.not_false, Nat.sub_self, Bool.false_eq_true, ↓reduceIte, Option.map_some, f_lines, len_lines, hb, pTuple]
  have hp := e_part (house := house) (most := most) w h1 hn (smallLots ls.length most) .un .un r trivial trivial (fun l hl => ⟨(lots_well hl12 hm l hl).1, (lots_well hl12 hm l hl).2, (lots_fine hl12 hm).1 l hl⟩) h
  cases r with
  | none =>
    obtain ⟨a, b, hp⟩ := hp
    have hL : l_parted_by_1 [.sh (netD n ls hs'), .sh (nD house), .sh (nD most), .un, .un] = .ok .next (penv n ls hs' house most a b) := by
      unfold l_parted_by_1 sFor
      rw [bnd_ok hsrc]
      exact hp
    unfold run_parted_by m_parted_by
    simp only [runF, entry, thn', sIf, sAsg, sDrop, sRet, sNever, okO, bnd, mOr, mAnd, mNot, mb, VL.mt, mTru, truD, usr, mCall, ac, an, mv, tm, takes, take, VL.ret, aft, asB, o1, o2, cb, mPrim, looks, look, pLt, pGt, pLe, pGe, ii, oI, sI, sB, cst, pIsN, pIs, mMove, mVar, setS, mIf, mAndV, mOrV, mNotV, fin, finR, mTake, kTup, kLst, chk, unpk, gsc, gs0, Slot.frz, meth, mTy, tyD, mOn, mSeq, items, sFor, List.length_cons, List.length_nil, List.map_cons, List.map_nil, List.replicate, List.append_nil, List.cons_append, List.nil_append, List.getElem?_cons_zero, List.getElem?_cons_succ, Option.bind_some, Slot.d?, List.set, Bool.not_true, Bool.not_false, Nat.sub_self, Bool.false_eq_true, ↓reduceIte, Option.map_some, c0, hL, pTuple]
    rfl
  | some q =>
    obtain ⟨ρ, hp⟩ := hp
    have hL : l_parted_by_1 [.sh (netD n ls hs'), .sh (nD house), .sh (nD most), .un, .un] = .ok (.ret (.sh (partD (some q)))) ρ := by
      unfold l_parted_by_1 sFor
      rw [bnd_ok hsrc]
      exact hp
    unfold run_parted_by m_parted_by
    simp only [runF, entry, thn', sIf, sAsg, sDrop, sRet, sNever, okO, bnd, mOr, mAnd, mNot, mb, VL.mt, mTru, truD, usr, mCall, ac, an, mv, tm, takes, take, VL.ret, aft, asB, o1, o2, cb, mPrim, looks, look, pLt, pGt, pLe, pGe, ii, oI, sI, sB, cst, pIsN, pIs, mMove, mVar, setS, mIf, mAndV, mOrV, mNotV, fin, finR, mTake, kTup, kLst, chk, unpk, gsc, gs0, Slot.frz, meth, mTy, tyD, mOn, mSeq, items, sFor, List.length_cons, List.length_nil, List.map_cons, List.map_nil, List.replicate, List.append_nil, List.cons_append, List.nil_append, List.getElem?_cons_zero, List.getElem?_cons_succ, Option.bind_some, Slot.d?, List.set, Bool.not_true, Bool.not_false, Nat.sub_self, Bool.false_eq_true, ↓reduceIte, Option.map_some, c0, hL, pTuple]
end
end VLL
set_option Elab.async false
set_option linter.all false
set_option maxRecDepth 1000000
set_option maxHeartbeats 0
/-! P71m: Net made. -/
namespace VLL
open VL
section
variable {n : Nat} {ls : List (Nat × Nat)} {hs' : List Nat}
theorem r_below {v b : Int} (h1 : 0 ≤ v) (h2 : v < b) : run_is_below [.int v, .int b] = .ok (.sh (.bl true)) .non := by
  have e1 : decide ((0 : Int) ≤ v) = true := decide_eq_true h1
  have e2 : decide (v < b) = true := decide_eq_true h2
  unfold run_is_below m_is_below
  simp only [runF, entry, thn', sIf, sAsg, sDrop, sRet, sNever, okO, bnd, mOr, mAnd, mNot, mb, VL.mt, mTru, truD, usr, mCall, ac, an, mv, tm, takes, take, VL.ret, aft, asB, o1, o2, cb, mPrim, looks, look, pLt, pGt, pLe, pGe, ii, oI, sI, sB, cst, pIsN, pIs, mMove, mVar, setS, mIf, mAndV, mOrV, mNotV, fin, finR, mTake, kTup, kLst, chk, unpk, gsc, gs0, Slot.frz, meth, mTy, tyD, mOn, mSeq, items, sFor, List.length_cons, List.length_nil, List.map_cons, List.map_nil, List.replicate, List.append_nil, List.cons_append, List.nil_append, List.getElem?_cons_zero, List.getElem?_cons_succ, Option.bind_some, Slot.d?, List.set, Bool.not_true, Bool.not_false, Nat.sub_self, Bool.false_eq_true, ↓reduceIte, Option.map_some, r_is_int, e1, e2, pTuple]
theorem r_line {p : Nat × Nat} (h1 : p.1 < n) (h2 : p.2 < n) (h3 : p.1 ≠ p.2) : run_is_line [prD p, nD n] = .ok (.sh (.bl true)) .non := by
  have c1 := r_below (v := (p.1 : Int)) (b := (n : Int)) (by omega) (by omega)
  have c2 := r_below (v := (p.2 : Int)) (b := (n : Int)) (by omega) (by omega)
  have e : decide ((p.1 : Int) = (p.2 : Int)) = false := decide_eq_false (by omega)
  have r : run_is_row_like [prD p] = .ok (.sh (.bl true)) .non := rfl
  have l : pLen [prD p] = some (.sh (.int 2)) := rfl
  have e2 : decide ((2 : Int) = 2) = true := rfl
  have a : sAsg (mVar 0) (unpk 2 (gsc (setS 2) (gsc (setS 3) gs0))) [.sh (prD p), .sh (nD n), .un, .un] = .ok .next [.sh (prD p), .sh (nD n), .sh (nD p.1), .sh (nD p.2)] := rfl
  have b : sIf (mOr (mNot (mb (usr false run_is_row_like [] (ac (mv 0) an)))) (mb (o2 pNe (tm (cb pLen (ac (mv 0) an))) (tm (cst (.int 2)))))) (sRet (cst (.bl false))) (ret .next) [.sh (prD p), .sh (nD n), .un, .un] = .ok .next [.sh (prD p), .sh (nD n), .un, .un] := by
    simp only [runF, entry, thn', sIf, sAsg, sDrop, sRet, sNever, okO, bnd, mOr, mAnd, mNot, mb, VL.mt, mTru, truD, usr, mCall, ac, an, mv, tm, takes, take, VL.ret, aft, asB, o1, o2, cb, mPrim, looks, look, pLt, pGt, pLe, pGe, ii, oI, sI, sB, cst, pIsN, pIs, mMove, mVar, setS, mIf, mAndV, mOrV, mNotV, fin, finR, mTake, kTup, kLst, chk, unpk, gsc, gs0, Slot.frz, meth, mTy, tyD, mOn, mSeq, items, sFor, List.length_cons, List.length_nil, List.map_cons, List.map_nil, List.replicate, List.append_nil, List.cons_append, List.nil_append, List.getElem?_cons_zero, List.getElem?_cons_succ, Option.bind_some, Slot.d?, List.set, Bool.not_true, Bool.not_false, Nat.sub_self, Bool.false_eq_true, ↓reduceIte, Option.map_some, r, l, pNe_int, decide_true, pTuple]
  have c : sRet (mAndV (usr false run_is_below [] (ac (mv 2) (ac (mv 1) an))) (mAndV (usr false run_is_below [] (ac (mv 3) (ac (mv 1) an))) (o2 pNe (mv 2) (mv 3)))) [.sh (prD p), .sh (nD n), .sh (nD p.1), .sh (nD p.2)] = .ok (.ret (.sh (.bl true))) [.sh (prD p), .sh (nD n), .sh (nD p.1), .sh (nD p.2)] := by
    simp only [runF, entry, thn', sIf, sAsg, sDrop, sRet, sNever, okO, bnd, mOr, mAnd, mNot, mb, VL.mt, mTru, truD, usr, mCall, ac, an, mv, tm, takes, take, VL.ret, aft, asB, o1, o2, cb, mPrim, looks, look, pLt, pGt, pLe, pGe, ii, oI, sI, sB, cst, pIsN, pIs, mMove, mVar, setS, mIf, mAndV, mOrV, mNotV, fin, finR, mTake, kTup, kLst, chk, unpk, gsc, gs0, Slot.frz, meth, mTy, tyD, mOn, mSeq, items, sFor, List.length_cons, List.length_nil, List.map_cons, List.map_nil, List.replicate, List.append_nil, List.cons_append, List.nil_append, List.getElem?_cons_zero, List.getElem?_cons_succ, Option.bind_some, Slot.d?, List.set, Bool.not_true, Bool.not_false, Nat.sub_self, Bool.false_eq_true, ↓reduceIte, Option.map_some, c1, c2, pNe_int, e, pTuple]
  have m : m_is_line [.sh (prD p), .sh (nD n), .un, .un] = .ok (.ret (.sh (.bl true))) [.sh (prD p), .sh (nD n), .sh (nD p.1), .sh (nD p.2)] := by
    unfold m_is_line thn'
    rw [bnd_ok b]
    dsimp only
    rw [bnd_ok a]
    exact c
  show runF 2 4 false m_is_line [prD p, nD n] = _
  unfold runF
  rw [if_pos (show ([prD p, nD n] : List D).length = 2 from rfl)]
  have he : entry false 4 [prD p, nD n] = [.sh (prD p), .sh (nD n), .un, .un] := rfl
  rw [he, m] <;> rfl
theorem all_true {α : Type} (l : List α) : pAll [.lst (l.map fun _ => D.bl true)] = some (.sh (.bl true)) := by
  have h : bools (l.map fun _ => D.bl true) = some (l.map fun _ => true) := by
    induction l with
    | nil => rfl
    | cons x l ih => rw [List.map_cons, List.map_cons]; unfold bools; rw [ih]
  unfold pAll
  dsimp only
  rw [h]
  have h2 : (l.map fun _ => true).all id = true := by rw [List.all_eq_true]; intro x hx; obtain ⟨_, _, rfl⟩ := List.mem_map.mp hx; rfl
  dsimp only
  rw [h2] <;> rfl
abbrev nenv (n : Nat) (ls : List (Nat × Nat)) (hs' : List Nat) (s : D) : Env := [.br s, .sh (nD n), .sh (.lst (ls.map prD)), .sh (.lst (hs'.map nD)), .sh (.int 0), .un, .un]
def ntail : M Fl := thn' (sPutF "Net" "size" 0 (mVar 1)) (thn' (sPutF "Net" "lines" 0 (cb pTuple (ac (tm c_NetX_initX_3) an))) (thn' (sPutF "Net" "houses" 0 (cb pTuple (ac (mv 3) an))) (sPutF "Net" "bits" 0 (mVar 4))))
theorem r_net_init (w : NetOk n ls) (hn : 0 < n) (h16 : hs'.length ≤ 16) (hh : ∀ x ∈ hs', x < n) : run_NetX_initX [.obj "Net" [] [], nD n, .lst (ls.map prD), .lst (hs'.map nD), .int 0] = .ok (.sh .non) (netD n ls hs') := by
  have n9 := w.n9
  have l36 := w.l36
  have k1 : ∀ s : D, c_NetX_initX_1 (nenv n ls hs' s) = .ok (.ow (.lst (ls.map fun _ => D.bl true))) (nenv n ls hs' s) := fun s => by
    unfold c_NetX_initX_1
    refine mLc_map (e0 := prD) (v := fun _ => D.bl true) (ds := ls) rfl rfl rfl rfl (fun p hp => ?_) (le_lim (Nat.le_trans w.l36 (by decide)))
    have := w.inn p hp
    have c := r_line (n := n) this.1 this.2.1 this.2.2
    refine ⟨[.br s, .sh (nD n), .sh (.lst (ls.map prD)), .sh (.lst (hs'.map nD)), .sh (.int 0), .sh (prD p), .un], rfl, _, .sh (.bl true), [.br s, .sh (nD n), .sh (.lst (ls.map prD)), .sh (.lst (hs'.map nD)), .sh (.int 0), .sh (prD p), .un], rfl, ?_, rfl, rfl, rfl⟩
    simp only [runF, entry, thn', sIf, sAsg, sDrop, sRet, sNever, okO, bnd, mOr, mAnd, mNot, mb, VL.mt, mTru, truD, usr, mCall, ac, an, mv, tm, takes, take, VL.ret, aft, asB, o1, o2, cb, mPrim, looks, look, pLt, pGt, pLe, pGe, ii, oI, sI, sB, cst, pIsN, pIs, mMove, mVar, setS, mIf, mAndV, mOrV, mNotV, fin, finR, mTake, kTup, kLst, chk, unpk, gsc, gs0, Slot.frz, meth, mTy, tyD, mOn, mSeq, items, sFor, List.length_cons, List.length_nil, List.map_cons, List.map_nil, List.replicate, List.append_nil, List.cons_append, List.nil_append, List.getElem?_cons_zero, List.getElem?_cons_succ, Option.bind_some, Slot.d?, List.set, Bool.not_true, Bool.not_false, Nat.sub_self, Bool.false_eq_true, ↓reduceIte, Option.map_some, c, pTuple]
  have k2 : ∀ s : D, c_NetX_initX_2 (nenv n ls hs' s) = .ok (.ow (.lst (hs'.map fun _ => D.bl true))) (nenv n ls hs' s) := fun s => by
    unfold c_NetX_initX_2
    refine mLc_map (e0 := nD) (v := fun _ => D.bl true) (ds := hs') rfl rfl rfl rfl (fun p hp => ?_) (le_lim (Nat.le_trans h16 (by decide)))
    have := hh p hp
    have c := r_below (v := (p : Int)) (b := (n : Int)) (by omega) (by omega)
    refine ⟨[.br s, .sh (nD n), .sh (.lst (ls.map prD)), .sh (.lst (hs'.map nD)), .sh (.int 0), .un, .sh (nD p)], rfl, _, .sh (.bl true), [.br s, .sh (nD n), .sh (.lst (ls.map prD)), .sh (.lst (hs'.map nD)), .sh (.int 0), .un, .sh (nD p)], rfl, ?_, rfl, rfl, rfl⟩
    simp only [runF, entry, thn', sIf, sAsg, sDrop, sRet, sNever, okO, bnd, mOr, mAnd, mNot, mb, VL.mt, mTru, truD, usr, mCall, ac, an, mv, tm, takes, take, VL.ret, aft, asB, o1, o2, cb, mPrim, looks, look, pLt, pGt, pLe, pGe, ii, oI, sI, sB, cst, pIsN, pIs, mMove, mVar, setS, mIf, mAndV, mOrV, mNotV, fin, finR, mTake, kTup, kLst, chk, unpk, gsc, gs0, Slot.frz, meth, mTy, tyD, mOn, mSeq, items, sFor, List.length_cons, List.length_nil, List.map_cons, List.map_nil, List.replicate, List.append_nil, List.cons_append, List.nil_append, List.getElem?_cons_zero, List.getElem?_cons_succ, Option.bind_some, Slot.d?, List.set, Bool.not_true, Bool.not_false, Nat.sub_self, Bool.false_eq_true, ↓reduceIte, Option.map_some, c, pTuple]
  have k3 : ∀ s : D, c_NetX_initX_3 (nenv n ls hs' s) = .ok (.ow (.lst (ls.map prD))) (nenv n ls hs' s) := fun s => by
    unfold c_NetX_initX_3
    refine mLc_map (e0 := prD) (v := prD) (ds := ls) rfl rfl rfl rfl (fun p hp => ?_) (le_lim (Nat.le_trans w.l36 (by decide)))
    exact ⟨[.br s, .sh (nD n), .sh (.lst (ls.map prD)), .sh (.lst (hs'.map nD)), .sh (.int 0), .sh (prD p), .un], rfl, _, .sh (prD p), [.br s, .sh (nD n), .sh (.lst (ls.map prD)), .sh (.lst (hs'.map nD)), .sh (.int 0), .sh (prD p), .un], rfl, rfl, rfl, rfl, rfl⟩
  have b1 := r_below (v := (n : Int)) (b := 9 + 1) (by omega) (by omega)
  have b2 := r_below (v := 0) (b := 4 + 1) (by omega) (by omega)
  have d1 : decide ((n : Int) = 0) = false := decide_eq_false (by omega)
  have d2 : decide ((36 : Int) < (ls.length : Int)) = false := decide_eq_false (by omega)
  have d3 : decide ((16 : Int) < (hs'.length : Int)) = false := decide_eq_false (by omega)
  have l1 : pLen [.lst (ls.map prD)] = some (.sh (.int (ls.length : Int))) := by
    show some (Slot.sh (D.int ((ls.map prD).length : Int))) = _
    rw [List.length_map]
  have l2 : pLen [.lst (hs'.map nD)] = some (.sh (.int (hs'.length : Int))) := by
    show some (Slot.sh (D.int ((hs'.map nD).length : Int))) = _
    rw [List.length_map]
  have a0 : pAdd [.int 9, .int 1] = some (.sh (.int (9 + 1))) := rfl
  have a4 : pAdd [.int 4, .int 1] = some (.sh (.int (4 + 1))) := rfl
  have t1 := all_true ls
  have t2 := all_true hs'
  have q1 : sPutF "Net" "size" 0 (mVar 1) (nenv n ls hs' (.obj "Net" [] [])) = .ok .next (nenv n ls hs' (.obj "Net" ["size"] [nD n])) := rfl
  have u2 : cb pTuple (ac (tm c_NetX_initX_3) an) (nenv n ls hs' (.obj "Net" ["size"] [nD n])) = .ok (.sh (.tup (ls.map prD))) (nenv n ls hs' (.obj "Net" ["size"] [nD n])) := by
    have := k3 (.obj "Net" ["size"] [nD n])
    simp only [runF, entry, thn', sIf, sAsg, sDrop, sRet, sNever, okO, bnd, mOr, mAnd, mNot, mb, VL.mt, mTru, truD, usr, mCall, ac, an, mv, tm, takes, take, VL.ret, aft, asB, o1, o2, cb, mPrim, looks, look, pLt, pGt, pLe, pGe, ii, oI, sI, sB, cst, pIsN, pIs, mMove, mVar, setS, mIf, mAndV, mOrV, mNotV, fin, finR, mTake, kTup, kLst, chk, unpk, gsc, gs0, Slot.frz, meth, mTy, tyD, mOn, mSeq, items, sFor, List.length_cons, List.length_nil, List.map_cons, List.map_nil, List.replicate, List.append_nil, List.cons_append, List.nil_append, List.getElem?_cons_zero, List.getElem?_cons_succ, Option.bind_some, Slot.d?, List.set, Bool.not_true, Bool.not_false, Nat.sub_self, Bool.false_eq_true, ↓reduceIte, Option.map_some, this, pTuple]
  have q2 : sPutF "Net" "lines" 0 (cb pTuple (ac (tm c_NetX_initX_3) an)) (nenv n ls hs' (.obj "Net" ["size"] [nD n])) = .ok .next (nenv n ls hs' (.obj "Net" ["size", "lines"] [nD n, .tup (ls.map prD)])) := by
    unfold sPutF
    rw [bnd_ok u2] <;> rfl
  have q3 : sPutF "Net" "houses" 0 (cb pTuple (ac (mv 3) an)) (nenv n ls hs' (.obj "Net" ["size", "lines"] [nD n, .tup (ls.map prD)])) = .ok .next (nenv n ls hs' (.obj "Net" ["size", "lines", "houses"] [nD n, .tup (ls.map prD), .tup (hs'.map nD)])) := rfl
  have q4 : sPutF "Net" "bits" 0 (mVar 4) (nenv n ls hs' (.obj "Net" ["size", "lines", "houses"] [nD n, .tup (ls.map prD), .tup (hs'.map nD)])) = .ok .next (nenv n ls hs' (netD n ls hs')) := rfl
  have k1' := k1 (.obj "Net" [] [])
  have k2' := k2 (.obj "Net" [] [])
  have ht : ntail (nenv n ls hs' (.obj "Net" [] [])) = .ok .next (nenv n ls hs' (netD n ls hs')) := by
    unfold ntail thn'
    rw [bnd_ok q1]
    dsimp only
    rw [bnd_ok q2]
    dsimp only
    rw [bnd_ok q3]
    exact q4
  unfold run_NetX_initX m_NetX_initX
  change runF 5 7 true (thn' _ (thn' _ (thn' _ (thn' _ ntail)))) _ = _
  simp only [runF, entry, thn', sIf, sAsg, sDrop, sRet, sNever, okO, bnd, mOr, mAnd, mNot, mb, VL.mt, mTru, truD, usr, mCall, ac, an, mv, tm, takes, take, VL.ret, aft, asB, o1, o2, cb, mPrim, looks, look, pLt, pGt, pLe, pGe, ii, oI, sI, sB, cst, pIsN, pIs, mMove, mVar, setS, mIf, mAndV, mOrV, mNotV, fin, finR, mTake, kTup, kLst, chk, unpk, gsc, gs0, Slot.frz, meth, mTy, tyD, mOn, mSeq, items, sFor, List.length_cons, List.length_nil, List.map_cons, List.map_nil, List.replicate, List.append_nil, List.cons_append, List.nil_append, List.getElem?_cons_zero, List.getElem?_cons_succ, Option.bind_some, Slot.d?, List.set, Bool.not_true, Bool.not_false, Nat.sub_self, Bool.false_eq_true, ↓reduceIte, Option.map_some, b1, b2, d1, d2, d3, l1, l2, a0, a4, t1, t2, k1', k2', pEq_int, r_row_l, ht, pTuple]
end
end VLL
set_option Elab.async false
set_option linter.all false
set_option maxRecDepth 1000000
set_option maxHeartbeats 0
/-! P71n: the law's own small defs. -/
namespace VLL
open VL
/-- one draw, what is left -/
def takeN (W : List Nat) (m : Nat) : Nat × List Nat := match W.getLast? with
  | none => (0, [])
  | some d => (d % m, W.dropLast)
theorem len_list (W : List Nat) : pLen [.lst (W.map nD)] = some (.sh (.int (W.length : Int))) := by
  show some (Slot.sh (D.int ((W.map nD).length : Int))) = _
  rw [List.length_map]
theorem r_take {W : List Nat} {m : Nat} (hm : 0 < m) : run__law_take [.lst (W.map nD), nD m] = .ok (.sh (nD (takeN W m).1)) (.lst ((takeN W m).2.map nD)) := by
  unfold takeN
  cases e : W.getLast? with
  | none =>
    have hw : W = [] := List.getLast?_eq_none_iff.mp e
    subst hw
    rfl
  | some d =>
    have hne : W ≠ [] := fun z => by rw [z] at e; cases e
    have d1 : decide ((W.length : Int) = 0) = false := decide_eq_false (by have := List.length_pos_iff.mpr hne; omega)
    have hp : mutm "list" 0 fPop an [.br (.lst (W.map nD)), .sh (nD m)] = .ok (.sh (nD d)) [.br (.lst (W.dropLast.map nD)), .sh (nD m)] := by
      simp only [runF, entry, thn', sIf, sAsg, sDrop, sRet, sNever, okO, bnd, mOr, mAnd, mNot, mb, VL.mt, mTru, truD, usr, mCall, ac, an, mv, tm, takes, take, VL.ret, aft, asB, o1, o2, cb, mPrim, looks, look, pLt, pGt, pLe, pGe, ii, oI, sI, sB, cst, pIsN, pIs, mMove, mVar, setS, mIf, mAndV, mOrV, mNotV, fin, finR, mTake, kTup, kLst, chk, unpk, gsc, gs0, Slot.frz, meth, mTy, tyD, mOn, mSeq, items, sFor, List.length_cons, List.length_nil, List.map_cons, List.map_nil, List.replicate, List.append_nil, List.cons_append, List.nil_append, List.getElem?_cons_zero, List.getElem?_cons_succ, Option.bind_some, Slot.d?, List.set, Bool.not_true, Bool.not_false, Nat.sub_self, Bool.false_eq_true, ↓reduceIte, Option.map_some, mutm, mUpd, pop_nat e, beq_self_eq_true, pTuple]
    have hi : pInt [nD d] = some (.sh (nD d)) := rfl
    have hmod : pMod [nD d, nD m] = some (.sh (nD (d % m))) := by
      show oI (cMod (d : Int) (m : Int)) ((d : Int) % (m : Int)) = _
      have c : cMod (d : Int) (m : Int) = true := decide_eq_true (by omega)
      unfold oI
      rw [c] <;> rfl
    have u : o2 pMod (tm (cb pInt (ac (tm (mutm "list" 0 fPop an)) an))) (mv 1) [.br (.lst (W.map nD)), .sh (nD m)] = .ok (.sh (nD (d % m))) [.br (.lst (W.dropLast.map nD)), .sh (nD m)] := by
      simp only [runF, entry, thn', sIf, sAsg, sDrop, sRet, sNever, okO, bnd, mOr, mAnd, mNot, mb, VL.mt, mTru, truD, usr, mCall, ac, an, mv, tm, takes, take, VL.ret, aft, asB, o1, o2, cb, mPrim, looks, look, pLt, pGt, pLe, pGe, ii, oI, sI, sB, cst, pIsN, pIs, mMove, mVar, setS, mIf, mAndV, mOrV, mNotV, fin, finR, mTake, kTup, kLst, chk, unpk, gsc, gs0, Slot.frz, meth, mTy, tyD, mOn, mSeq, items, sFor, List.length_cons, List.length_nil, List.map_cons, List.map_nil, List.replicate, List.append_nil, List.cons_append, List.nil_append, List.getElem?_cons_zero, List.getElem?_cons_succ, Option.bind_some, Slot.d?, List.set, Bool.not_true, Bool.not_false, Nat.sub_self, Bool.false_eq_true, ↓reduceIte, Option.map_some, mutm, mUpd, pop_nat e, hi, hmod, beq_self_eq_true, pTuple]
    have l := len_list W
    have a : sIf (mb (o2 pEq (tm (cb pLen (ac (mv 0) an))) (tm (cst (.int 0))))) (sRet (cst (.int 0))) (ret .next) [.br (.lst (W.map nD)), .sh (nD m)] = .ok .next [.br (.lst (W.map nD)), .sh (nD m)] := by
      simp only [runF, entry, thn', sIf, sAsg, sDrop, sRet, sNever, okO, bnd, mOr, mAnd, mNot, mb, VL.mt, mTru, truD, usr, mCall, ac, an, mv, tm, takes, take, VL.ret, aft, asB, o1, o2, cb, mPrim, looks, look, pLt, pGt, pLe, pGe, ii, oI, sI, sB, cst, pIsN, pIs, mMove, mVar, setS, mIf, mAndV, mOrV, mNotV, fin, finR, mTake, kTup, kLst, chk, unpk, gsc, gs0, Slot.frz, meth, mTy, tyD, mOn, mSeq, items, sFor, List.length_cons, List.length_nil, List.map_cons, List.map_nil, List.replicate, List.append_nil, List.cons_append, List.nil_append, List.getElem?_cons_zero, List.getElem?_cons_succ, Option.bind_some, Slot.d?, List.set, Bool.not_true, Bool.not_false, Nat.sub_self, Bool.false_eq_true, ↓reduceIte, Option.map_some, l, pEq_int, d1, pTuple]
    have mm : m__law_take [.br (.lst (W.map nD)), .sh (nD m)] = .ok (.ret (.sh (nD (d % m)))) [.br (.lst (W.dropLast.map nD)), .sh (nD m)] := by
      unfold m__law_take thn'
      rw [bnd_ok a]
      dsimp only
      unfold sRet
      rw [bnd_ok u]
    show runF 2 2 true m__law_take [.lst (W.map nD), nD m] = _
    unfold runF
    rw [if_pos (show ([.lst (W.map nD), nD m] : List D).length = 2 from rfl)]
    have he : entry true 2 [.lst (W.map nD), nD m] = [.br (.lst (W.map nD)), .sh (nD m)] := rfl
    rw [he, mm] <;> rfl
def sameN : Option Nat → Option Nat → Bool
  | none, none => true
  | some a, some b => decide (a = b)
  | _, _ => false
theorem r_same (a b : Option Nat) : run__law_same [oD a, oD b] = .ok (.sh (.bl (sameN a b))) .non := by
  cases a with
  | none => cases b <;> rfl
  | some a =>
    cases b with
    | none => rfl
    | some b =>
      have hi : run__law_int [nD a] = .ok (.sh (.bl true)) .non := rfl
      have hn : pIs [nD b, .non] = some (.sh (.bl false)) := rfl
      have d : decide ((a : Int) = (b : Int)) = decide (a = b) := by
        by_cases h : a = b
        · rw [decide_eq_true h, decide_eq_true (by omega)]
        · rw [decide_eq_false h, decide_eq_false (by omega)]
      have hs : sameN (some a) (some b) = decide (a = b) := rfl
      rw [hs]
      show run__law_same [nD a, nD b] = _
      unfold run__law_same m__law_same
      cases h : decide (a = b) with
      | true => rw [h] at d; simp only [runF, entry, thn', sIf, sAsg, sDrop, sRet, sNever, okO, bnd, mOr, mAnd, mNot, mb, VL.mt, mTru, truD, usr, mCall, ac, an, mv, tm, takes, take, VL.ret, aft, asB, o1, o2, cb, mPrim, looks, look, pLt, pGt, pLe, pGe, ii, oI, sI, sB, cst, pIsN, pIs, mMove, mVar, setS, mIf, mAndV, mOrV, mNotV, fin, finR, mTake, kTup, kLst, chk, unpk, gsc, gs0, Slot.frz, meth, mTy, tyD, mOn, mSeq, items, sFor, List.length_cons, List.length_nil, List.map_cons, List.map_nil, List.replicate, List.append_nil, List.cons_append, List.nil_append, List.getElem?_cons_zero, List.getElem?_cons_succ, Option.bind_some, Slot.d?, List.set, Bool.not_true, Bool.not_false, Nat.sub_self, Bool.false_eq_true, ↓reduceIte, Option.map_some, hi, hn, pEq_int, d, pTuple]
      | false => rw [h] at d; simp only [runF, entry, thn', sIf, sAsg, sDrop, sRet, sNever, okO, bnd, mOr, mAnd, mNot, mb, VL.mt, mTru, truD, usr, mCall, ac, an, mv, tm, takes, take, VL.ret, aft, asB, o1, o2, cb, mPrim, looks, look, pLt, pGt, pLe, pGe, ii, oI, sI, sB, cst, pIsN, pIs, mMove, mVar, setS, mIf, mAndV, mOrV, mNotV, fin, finR, mTake, kTup, kLst, chk, unpk, gsc, gs0, Slot.frz, meth, mTy, tyD, mOn, mSeq, items, sFor, List.length_cons, List.length_nil, List.map_cons, List.map_nil, List.replicate, List.append_nil, List.cons_append, List.nil_append, List.getElem?_cons_zero, List.getElem?_cons_succ, Option.bind_some, Slot.d?, List.set, Bool.not_true, Bool.not_false, Nat.sub_self, Bool.false_eq_true, ↓reduceIte, Option.map_some, hi, hn, pEq_int, d, pTuple]
end VLL
set_option Elab.async false
set_option linter.all false
set_option maxRecDepth 1000000
set_option maxHeartbeats 0
/-! P71o: what is due. -/
namespace VLL
open VL
def dueN (long arms cap far : Nat) : Option Nat :=
  if far = 0 ∨ cap = 0 then some far else if long = 1 ∧ cap < arms then some 1 else if 1 < long ∧ cap = 1 ∧ 1 < arms then some (far + 2 * long - 2) else none
theorem dec_eq (a b : Nat) : decide ((a : Int) = (b : Int)) = decide (a = b) := by
  by_cases h : a = b
  · rw [decide_eq_true h, decide_eq_true (by omega)]
  · rw [decide_eq_false h, decide_eq_false (by omega)]
theorem dec_lt (a b : Nat) : decide ((a : Int) < (b : Int)) = decide (a < b) := by
  by_cases h : a < b
  · rw [decide_eq_true h, decide_eq_true (by omega)]
  · rw [decide_eq_false h, decide_eq_false (by omega)]
theorem r_due {long arms cap far : Nat} : run__law_due [nD long, nD arms, nD cap, nD far] = .ok (.sh (oD (dueN long arms cap far))) .non := by
  have f0 : decide ((far : Int) = 0) = decide (far = 0) := dec_eq far 0
  have c0 : decide ((cap : Int) = 0) = decide (cap = 0) := dec_eq cap 0
  have l1 : decide ((long : Int) = 1) = decide (long = 1) := dec_eq long 1
  have ca : decide ((cap : Int) < (arms : Int)) = decide (cap < arms) := dec_lt cap arms
  have l2 : decide ((1 : Int) < (long : Int)) = decide (1 < long) := dec_lt 1 long
  have c1 : decide ((cap : Int) = 1) = decide (cap = 1) := dec_eq cap 1
  have a1 : decide ((1 : Int) < (arms : Int)) = decide (1 < arms) := dec_lt 1 arms
  have mul : pMul [.int 2, nD long] = some (.sh (.int (2 * (long : Int)))) := rfl
  unfold run__law_due m__law_due dueN
  by_cases hf : far = 0
  · rw [if_pos (Or.inl hf)]
    rw [decide_eq_true hf] at f0
    simp only [runF, entry, thn', sIf, sAsg, sDrop, sRet, sNever, okO, bnd, mOr, mAnd, mNot, mb, VL.mt, mTru, truD, usr, mCall, ac, an, mv, tm, takes, take, VL.ret, aft, asB, o1, o2, cb, mPrim, looks, look, pLt, pGt, pLe, pGe, ii, oI, sI, sB, cst, pIsN, pIs, mMove, mVar, setS, mIf, mAndV, mOrV, mNotV, fin, finR, mTake, kTup, kLst, chk, unpk, gsc, gs0, Slot.frz, meth, mTy, tyD, mOn, mSeq, items, sFor, List.length_cons, List.length_nil, List.map_cons, List.map_nil, List.replicate, List.append_nil, List.cons_append, List.nil_append, List.getElem?_cons_zero, List.getElem?_cons_succ, Option.bind_some, Slot.d?, List.set, Bool.not_true, Bool.not_false, Nat.sub_self, Bool.false_eq_true, ↓reduceIte, Option.map_some, pEq_int, f0, pTuple]
    rfl
  · rw [decide_eq_false hf] at f0
    by_cases hc : cap = 0
    · rw [if_pos (Or.inr hc)]
      rw [decide_eq_true hc] at c0
      simp only [runF, entry, thn', sIf, sAsg, sDrop, sRet, sNever, okO, bnd, mOr, mAnd, mNot, mb, VL.mt, mTru, truD, usr, mCall, ac, an, mv, tm, takes, take, VL.ret, aft, asB, o1, o2, cb, mPrim, looks, look, pLt, pGt, pLe, pGe, ii, oI, sI, sB, cst, pIsN, pIs, mMove, mVar, setS, mIf, mAndV, mOrV, mNotV, fin, finR, mTake, kTup, kLst, chk, unpk, gsc, gs0, Slot.frz, meth, mTy, tyD, mOn, mSeq, items, sFor, List.length_cons, List.length_nil, List.map_cons, List.map_nil, List.replicate, List.append_nil, List.cons_append, List.nil_append, List.getElem?_cons_zero, List.getElem?_cons_succ, Option.bind_some, Slot.d?, List.set, Bool.not_true, Bool.not_false, Nat.sub_self, Bool.false_eq_true, ↓reduceIte, Option.map_some, pEq_int, f0, c0, pTuple]
      rfl
    · rw [decide_eq_false hc] at c0
      rw [if_neg (by omega)]
      by_cases h1 : long = 1
      · rw [decide_eq_true h1] at l1
        rw [decide_eq_false (show ¬ 1 < long by omega)] at l2
        by_cases h2 : cap < arms
        · rw [if_pos ⟨h1, h2⟩]
          rw [decide_eq_true h2] at ca
          simp only [runF, entry, thn', sIf, sAsg, sDrop, sRet, sNever, okO, bnd, mOr, mAnd, mNot, mb, VL.mt, mTru, truD, usr, mCall, ac, an, mv, tm, takes, take, VL.ret, aft, asB, o1, o2, cb, mPrim, looks, look, pLt, pGt, pLe, pGe, ii, oI, sI, sB, cst, pIsN, pIs, mMove, mVar, setS, mIf, mAndV, mOrV, mNotV, fin, finR, mTake, kTup, kLst, chk, unpk, gsc, gs0, Slot.frz, meth, mTy, tyD, mOn, mSeq, items, sFor, List.length_cons, List.length_nil, List.map_cons, List.map_nil, List.replicate, List.append_nil, List.cons_append, List.nil_append, List.getElem?_cons_zero, List.getElem?_cons_succ, Option.bind_some, Slot.d?, List.set, Bool.not_true, Bool.not_false, Nat.sub_self, Bool.false_eq_true, ↓reduceIte, Option.map_some, pEq_int, f0, c0, l1, ca, pTuple]
          rfl
        · rw [if_neg (by omega), if_neg (by omega)]
          rw [decide_eq_false h2] at ca
          simp only [runF, entry, thn', sIf, sAsg, sDrop, sRet, sNever, okO, bnd, mOr, mAnd, mNot, mb, VL.mt, mTru, truD, usr, mCall, ac, an, mv, tm, takes, take, VL.ret, aft, asB, o1, o2, cb, mPrim, looks, look, pLt, pGt, pLe, pGe, ii, oI, sI, sB, cst, pIsN, pIs, mMove, mVar, setS, mIf, mAndV, mOrV, mNotV, fin, finR, mTake, kTup, kLst, chk, unpk, gsc, gs0, Slot.frz, meth, mTy, tyD, mOn, mSeq, items, sFor, List.length_cons, List.length_nil, List.map_cons, List.map_nil, List.replicate, List.append_nil, List.cons_append, List.nil_append, List.getElem?_cons_zero, List.getElem?_cons_succ, Option.bind_some, Slot.d?, List.set, Bool.not_true, Bool.not_false, Nat.sub_self, Bool.false_eq_true, ↓reduceIte, Option.map_some, pEq_int, f0, c0, l1, ca, l2, pTuple]
          rfl
      · rw [decide_eq_false h1] at l1
        rw [if_neg (by omega)]
        by_cases h3 : 1 < long
        · rw [decide_eq_true h3] at l2
          by_cases h4 : cap = 1
          · rw [decide_eq_true h4] at c1
            by_cases h5 : 1 < arms
            · rw [decide_eq_true h5] at a1
              rw [if_pos ⟨h3, h4, h5⟩]
              have e : (far : Int) + 2 * (long : Int) - 2 = ((far + 2 * long - 2 : Nat) : Int) := by omega
              have ad : VL.pAdd [nD far, .int (2 * (long : Int))] = some (.sh (.int ((far : Int) + 2 * (long : Int)))) := rfl
              simp only [runF, entry, thn', sIf, sAsg, sDrop, sRet, sNever, okO, bnd, mOr, mAnd, mNot, mb, VL.mt, mTru, truD, usr, mCall, ac, an, mv, tm, takes, take, VL.ret, aft, asB, o1, o2, cb, mPrim, looks, look, pLt, pGt, pLe, pGe, ii, oI, sI, sB, cst, pIsN, pIs, mMove, mVar, setS, mIf, mAndV, mOrV, mNotV, fin, finR, mTake, kTup, kLst, chk, unpk, gsc, gs0, Slot.frz, meth, mTy, tyD, mOn, mSeq, items, sFor, List.length_cons, List.length_nil, List.map_cons, List.map_nil, List.replicate, List.append_nil, List.cons_append, List.nil_append, List.getElem?_cons_zero, List.getElem?_cons_succ, Option.bind_some, Slot.d?, List.set, Bool.not_true, Bool.not_false, Nat.sub_self, Bool.false_eq_true, ↓reduceIte, Option.map_some, pEq_int, f0, c0, l1, l2, c1, a1, mul, ad, e, pTuple]
              rfl
            · rw [decide_eq_false h5] at a1
              rw [if_neg (by omega)]
              simp only [runF, entry, thn', sIf, sAsg, sDrop, sRet, sNever, okO, bnd, mOr, mAnd, mNot, mb, VL.mt, mTru, truD, usr, mCall, ac, an, mv, tm, takes, take, VL.ret, aft, asB, o1, o2, cb, mPrim, looks, look, pLt, pGt, pLe, pGe, ii, oI, sI, sB, cst, pIsN, pIs, mMove, mVar, setS, mIf, mAndV, mOrV, mNotV, fin, finR, mTake, kTup, kLst, chk, unpk, gsc, gs0, Slot.frz, meth, mTy, tyD, mOn, mSeq, items, sFor, List.length_cons, List.length_nil, List.map_cons, List.map_nil, List.replicate, List.append_nil, List.cons_append, List.nil_append, List.getElem?_cons_zero, List.getElem?_cons_succ, Option.bind_some, Slot.d?, List.set, Bool.not_true, Bool.not_false, Nat.sub_self, Bool.false_eq_true, ↓reduceIte, Option.map_some, pEq_int, f0, c0, l1, l2, c1, a1, pTuple]
              rfl
          · rw [decide_eq_false h4] at c1
            rw [if_neg (by omega)]
            simp only [runF, entry, thn', sIf, sAsg, sDrop, sRet, sNever, okO, bnd, mOr, mAnd, mNot, mb, VL.mt, mTru, truD, usr, mCall, ac, an, mv, tm, takes, take, VL.ret, aft, asB, o1, o2, cb, mPrim, looks, look, pLt, pGt, pLe, pGe, ii, oI, sI, sB, cst, pIsN, pIs, mMove, mVar, setS, mIf, mAndV, mOrV, mNotV, fin, finR, mTake, kTup, kLst, chk, unpk, gsc, gs0, Slot.frz, meth, mTy, tyD, mOn, mSeq, items, sFor, List.length_cons, List.length_nil, List.map_cons, List.map_nil, List.replicate, List.append_nil, List.cons_append, List.nil_append, List.getElem?_cons_zero, List.getElem?_cons_succ, Option.bind_some, Slot.d?, List.set, Bool.not_true, Bool.not_false, Nat.sub_self, Bool.false_eq_true, ↓reduceIte, Option.map_some, pEq_int, f0, c0, l1, l2, c1, pTuple]
            rfl
        · rw [decide_eq_false h3] at l2
          rw [if_neg (by omega)]
          simp only [runF, entry, thn', sIf, sAsg, sDrop, sRet, sNever, okO, bnd, mOr, mAnd, mNot, mb, VL.mt, mTru, truD, usr, mCall, ac, an, mv, tm, takes, take, VL.ret, aft, asB, o1, o2, cb, mPrim, looks, look, pLt, pGt, pLe, pGe, ii, oI, sI, sB, cst, pIsN, pIs, mMove, mVar, setS, mIf, mAndV, mOrV, mNotV, fin, finR, mTake, kTup, kLst, chk, unpk, gsc, gs0, Slot.frz, meth, mTy, tyD, mOn, mSeq, items, sFor, List.length_cons, List.length_nil, List.map_cons, List.map_nil, List.replicate, List.append_nil, List.cons_append, List.nil_append, List.getElem?_cons_zero, List.getElem?_cons_succ, Option.bind_some, Slot.d?, List.set, Bool.not_true, Bool.not_false, Nat.sub_self, Bool.false_eq_true, ↓reduceIte, Option.map_some, pEq_int, f0, c0, l1, l2, pTuple]
          rfl
end VLL
set_option Elab.async false
set_option linter.all false
set_option maxRecDepth 1000000
set_option maxHeartbeats 0
/-! P71p: the law's own reading of what is joined. -/
namespace VLL
open VL
theorem fold_proj {S β α : Type} {step : S → α → S} {g : β → α → β} {π : S → β} (h : ∀ s x, π (step s x) = g (π s) x) : ∀ (l : List α) (s : S), π (l.foldl step s) = l.foldl g (π s)
  | [], _ => rfl
  | x :: l, s => by rw [List.foldl_cons, List.foldl_cons, fold_proj h l, h]
def jstep (ls : List (Nat × Nat)) (lot : List Nat) (J : List Bool) (l : Nat) : List Bool := match ls[l]? with
  | some p => if !lot.contains l && (J.getD p.1 true || J.getD p.2 true) then (J.set p.1 true).set p.2 true else J
  | none => J
def joinedN (n : Nat) (ls : List (Nat × Nat)) (spot : Nat) (lot : List Nat) : List Bool :=
  (List.range n).foldl (fun J _ => (List.range ls.length).foldl (jstep ls lot) J) ((List.range n).map fun k => decide (k = spot))
theorem jstep_len (ls : List (Nat × Nat)) (lot : List Nat) (J : List Bool) (l : Nat) : (jstep ls lot J l).length = J.length := by
  unfold jstep
  split
  · split
    · rw [List.length_set, List.length_set]
    · rfl
  · rfl
section
variable {n : Nat} {ls : List (Nat × Nat)} {spot : Nat} {X : D} {lot : List Nat}
abbrev jenv (n : Nat) (ls : List (Nat × Nat)) (spot : Nat) (X : D) (J : List Bool) (s5 s6 s8 s9 : Slot) : Env :=
  [.sh (nD n), .sh (.lst (ls.map prD)), .sh (nD spot), .sh X, .ow (.lst (J.map bD)), s5, s6, .un, s8, s9]
abbrev jbody : M Fl := thn' (sAsg (o2 pIx (mv 1) (mv 6)) (unpk 2 (gsc (setS 8) (gsc (setS 9) gs0))))
  (sIf (mAnd (mb (o2 pNotIn (mv 6) (mv 3))) (mOr (VL.mt (tm (o2 pIx (mv 4) (mv 8)))) (VL.mt (tm (o2 pIx (mv 4) (mv 9))))))
  (thn' (sAsg (cst (.bl true)) (setSub 4 (mv 8) setF))
  (sAsg (cst (.bl true)) (setSub 4 (mv 9) setF)))
  (ret .next))
theorem e_jbody (w : NetOk n ls) (hX : ∀ l, pNotIn [nD l, X] = some (.sh (.bl (!lot.contains l)))) {J : List Bool} {l : Nat} {s5 s8 s9 : Slot} (c8 : calm s8) (c9 : calm s9) (hl : l < ls.length) (hJ : J.length = n) :
    ∃ a b, calm a ∧ calm b ∧ jbody (jenv n ls spot X J s5 (.sh (nD l)) s8 s9) = .ok .next (jenv n ls spot X (jstep ls lot J l) s5 (.sh (nD l)) a b) := by
  have e : ls[l]? = some ls[l] := List.getElem?_eq_getElem hl
  have hp := w.inn ls[l] (List.getElem_mem hl)
  refine ⟨.sh (nD ls[l].1), .sh (nD ls[l].2), trivial, trivial, ?_⟩
  unfold jstep
  rw [e]
  dsimp only
  generalize ls[l] = p at e hp ⊢
  have i0 : pIx [.lst (ls.map prD), nD l] = some (.sh (prD p)) := by
    rw [pIx_lst, List.getElem?_map, e] <;> rfl
  have g8 := set_calm (ρ := jenv n ls spot X J s5 (.sh (nD l)) s8 s9) (i := 8) (d := nD p.1) rfl c8
  have g9 := set_calm (ρ := jenv n ls spot X J s5 (.sh (nD l)) (.sh (nD p.1)) s9) (i := 9) (d := nD p.2) rfl c9
  have a1 : sAsg (o2 pIx (mv 1) (mv 6)) (unpk 2 (gsc (setS 8) (gsc (setS 9) gs0))) (jenv n ls spot X J s5 (.sh (nD l)) s8 s9) = .ok .next (jenv n ls spot X J s5 (.sh (nD l)) (.sh (nD p.1)) (.sh (nD p.2))) := by
    have u : o2 pIx (mv 1) (mv 6) (jenv n ls spot X J s5 (.sh (nD l)) s8 s9) = .ok (.sh (prD p)) (jenv n ls spot X J s5 (.sh (nD l)) s8 s9) := by
      simp only [runF, entry, thn', sIf, sAsg, sDrop, sRet, sNever, okO, bnd, mOr, mAnd, mNot, mb, VL.mt, mTru, truD, usr, mCall, ac, an, mv, tm, takes, take, VL.ret, aft, asB, o1, o2, cb, mPrim, looks, look, pLt, pGt, pLe, pGe, ii, oI, sI, sB, cst, pIsN, pIs, mMove, mVar, setS, mIf, mAndV, mOrV, mNotV, fin, finR, mTake, kTup, kLst, chk, unpk, gsc, gs0, Slot.frz, meth, mTy, tyD, mOn, mSeq, items, sFor, List.length_cons, List.length_nil, List.map_cons, List.map_nil, List.replicate, List.append_nil, List.cons_append, List.nil_append, List.getElem?_cons_zero, List.getElem?_cons_succ, Option.bind_some, Slot.d?, List.set, Bool.not_true, Bool.not_false, Nat.sub_self, Bool.false_eq_true, ↓reduceIte, Option.map_some, i0, pTuple]
    unfold sAsg
    rw [bnd_ok u]
    have v : unpk 2 (gsc (setS 8) (gsc (setS 9) gs0)) (.sh (prD p)) (jenv n ls spot X J s5 (.sh (nD l)) s8 s9) = .ok () (jenv n ls spot X J s5 (.sh (nD l)) (.sh (nD p.1)) (.sh (nD p.2))) := by
      show bnd (setS 8 (.sh (nD p.1))) (fun _ => bnd (setS 9 (.sh (nD p.2))) fun _ => gs0 []) (jenv n ls spot X J s5 (.sh (nD l)) s8 s9) = _
      rw [bnd_ok g8]
      have g9' : setS 9 (.sh (nD p.2)) ((jenv n ls spot X J s5 (.sh (nD l)) s8 s9).set 8 (.sh (nD p.1))) = .ok () (jenv n ls spot X J s5 (.sh (nD l)) (.sh (nD p.1)) (.sh (nD p.2))) := g9
      rw [bnd_ok g9'] <;> rfl
    unfold okO
    rw [v]
  have b1 : p.1 < J.length := by rw [hJ]; exact hp.1
  have b2 : p.2 < J.length := by rw [hJ]; exact hp.2.1
  have e1 : pIx [.lst (J.map bD), nD p.1] = some (.sh (.bl (J.getD p.1 true))) := by
    rw [pIx_lst, List.getElem?_map, List.getD_eq_getElem?_getD, List.getElem?_eq_getElem b1] <;> rfl
  have e2 : pIx [.lst (J.map bD), nD p.2] = some (.sh (.bl (J.getD p.2 true))) := by
    rw [pIx_lst, List.getElem?_map, List.getD_eq_getElem?_getD, List.getElem?_eq_getElem b2] <;> rfl
  have e3 : setF (.lst (J.map bD)) (nD p.1) (.bl true) = some (.lst ((J.set p.1 true).map bD)) := by
    rw [set_lst (by rw [List.length_map]; exact b1), List.map_set]
  have e4 : setF (.lst ((J.set p.1 true).map bD)) (nD p.2) (.bl true) = some (.lst (((J.set p.1 true).set p.2 true).map bD)) := by
    rw [set_lst (by rw [List.length_map, List.length_set]; exact b2)]
    simp only [List.map_set]
  have hx := hX l
  show thn' _ _ _ = _
  unfold thn'
  rw [bnd_ok a1]
  dsimp only
  cases h1 : lot.contains l with
  | true =>
    rw [h1] at hx
    simp only [Bool.not_true, Bool.false_and, Bool.false_eq_true, ↓reduceIte]
    simp only [runF, entry, thn', sIf, sAsg, sDrop, sRet, sNever, okO, bnd, mOr, mAnd, mNot, mb, VL.mt, mTru, truD, usr, mCall, ac, an, mv, tm, takes, take, VL.ret, aft, asB, o1, o2, cb, mPrim, looks, look, pLt, pGt, pLe, pGe, ii, oI, sI, sB, cst, pIsN, pIs, mMove, mVar, setS, mIf, mAndV, mOrV, mNotV, fin, finR, mTake, kTup, kLst, chk, unpk, gsc, gs0, Slot.frz, meth, mTy, tyD, mOn, mSeq, items, sFor, List.length_cons, List.length_nil, List.map_cons, List.map_nil, List.replicate, List.append_nil, List.cons_append, List.nil_append, List.getElem?_cons_zero, List.getElem?_cons_succ, Option.bind_some, Slot.d?, List.set, Bool.not_true, Bool.not_false, Nat.sub_self, Bool.false_eq_true, ↓reduceIte, Option.map_some, hx, pTuple]
  | false =>
    rw [h1] at hx
    cases h2 : J.getD p.1 true with
    | true =>
      rw [h2] at e1
      simp only [Bool.not_false, Bool.true_and, Bool.true_or, ↓reduceIte]
      simp only [runF, entry, thn', sIf, sAsg, sDrop, sRet, sNever, okO, bnd, mOr, mAnd, mNot, mb, VL.mt, mTru, truD, usr, mCall, ac, an, mv, tm, takes, take, VL.ret, aft, asB, o1, o2, cb, mPrim, looks, look, pLt, pGt, pLe, pGe, ii, oI, sI, sB, cst, pIsN, pIs, mMove, mVar, setS, mIf, mAndV, mOrV, mNotV, fin, finR, mTake, kTup, kLst, chk, unpk, gsc, gs0, Slot.frz, meth, mTy, tyD, mOn, mSeq, items, sFor, List.length_cons, List.length_nil, List.map_cons, List.map_nil, List.replicate, List.append_nil, List.cons_append, List.nil_append, List.getElem?_cons_zero, List.getElem?_cons_succ, Option.bind_some, Slot.d?, List.set, Bool.not_true, Bool.not_false, Nat.sub_self, Bool.false_eq_true, ↓reduceIte, Option.map_some, hx, e1, setSub, mUpd, subF, e3, e4, pTuple]
    | false =>
      rw [h2] at e1
      cases h3 : J.getD p.2 true with
      | true =>
        rw [h3] at e2
        simp only [Bool.not_false, Bool.true_and, Bool.or_true, ↓reduceIte]
        simp only [runF, entry, thn', sIf, sAsg, sDrop, sRet, sNever, okO, bnd, mOr, mAnd, mNot, mb, VL.mt, mTru, truD, usr, mCall, ac, an, mv, tm, takes, take, VL.ret, aft, asB, o1, o2, cb, mPrim, looks, look, pLt, pGt, pLe, pGe, ii, oI, sI, sB, cst, pIsN, pIs, mMove, mVar, setS, mIf, mAndV, mOrV, mNotV, fin, finR, mTake, kTup, kLst, chk, unpk, gsc, gs0, Slot.frz, meth, mTy, tyD, mOn, mSeq, items, sFor, List.length_cons, List.length_nil, List.map_cons, List.map_nil, List.replicate, List.append_nil, List.cons_append, List.nil_append, List.getElem?_cons_zero, List.getElem?_cons_succ, Option.bind_some, Slot.d?, List.set, Bool.not_true, Bool.not_false, Nat.sub_self, Bool.false_eq_true, ↓reduceIte, Option.map_some, hx, e1, e2, setSub, mUpd, subF, e3, e4, pTuple]
      | false =>
        rw [h3] at e2
        simp only [Bool.not_false, Bool.true_and, Bool.or_false, Bool.false_eq_true, ↓reduceIte]
        simp only [runF, entry, thn', sIf, sAsg, sDrop, sRet, sNever, okO, bnd, mOr, mAnd, mNot, mb, VL.mt, mTru, truD, usr, mCall, ac, an, mv, tm, takes, take, VL.ret, aft, asB, o1, o2, cb, mPrim, looks, look, pLt, pGt, pLe, pGe, ii, oI, sI, sB, cst, pIsN, pIs, mMove, mVar, setS, mIf, mAndV, mOrV, mNotV, fin, finR, mTake, kTup, kLst, chk, unpk, gsc, gs0, Slot.frz, meth, mTy, tyD, mOn, mSeq, items, sFor, List.length_cons, List.length_nil, List.map_cons, List.map_nil, List.replicate, List.append_nil, List.cons_append, List.nil_append, List.getElem?_cons_zero, List.getElem?_cons_succ, Option.bind_some, Slot.d?, List.set, Bool.not_true, Bool.not_false, Nat.sub_self, Bool.false_eq_true, ↓reduceIte, Option.map_some, hx, e1, e2, pTuple]
abbrev JS := Slot × Slot × Slot × List Bool
theorem e_jin (w : NetOk n ls) (hX : ∀ l, pNotIn [nD l, X] = some (.sh (.bl (!lot.contains l)))) {J : List Bool} {s5 s6 s8 s9 : Slot} (c6 : calm s6) (c8 : calm s8) (c9 : calm s9) (hJ : J.length = n) :
    ∃ a b c, calm a ∧ calm b ∧ calm c ∧ ((List.range ls.length).foldl (jstep ls lot) J).length = n ∧ l__law_joined_1 (jenv n ls spot X J s5 s6 s8 s9) = .ok .next (jenv n ls spot X ((List.range ls.length).foldl (jstep ls lot) J) s5 a b c) := by
  have hm : mArgs (ac (tm (cb pLen (ac (mv 1) an))) an) rng1 (jenv n ls spot X J s5 s6 s8 s9) = .ok ((List.range ls.length).map nD) (jenv n ls spot X J s5 s6 s8 s9) := by
    have hp : pLen [.lst (ls.map prD)] = some (.sh (.int (ls.length : Int))) := by
      show some (Slot.sh (D.int ((ls.map prD).length : Int))) = _
      rw [List.length_map]
    refine rng1_ok (small_nat (Nat.le_trans w.l36 (by decide))) (os := [.tmp (.sh (.int (ls.length : Int)))]) ?_ rfl
    simp only [runF, entry, thn', sIf, sAsg, sDrop, sRet, sNever, okO, bnd, mOr, mAnd, mNot, mb, VL.mt, mTru, truD, usr, mCall, ac, an, mv, tm, takes, take, VL.ret, aft, asB, o1, o2, cb, mPrim, looks, look, pLt, pGt, pLe, pGe, ii, oI, sI, sB, cst, pIsN, pIs, mMove, mVar, setS, mIf, mAndV, mOrV, mNotV, fin, finR, mTake, kTup, kLst, chk, unpk, gsc, gs0, Slot.frz, meth, mTy, tyD, mOn, mSeq, items, sFor, List.length_cons, List.length_nil, List.map_cons, List.map_nil, List.replicate, List.append_nil, List.cons_append, List.nil_append, List.getElem?_cons_zero, List.getElem?_cons_succ, Option.bind_some, Slot.d?, List.set, Bool.not_true, Bool.not_false, Nat.sub_self, Bool.false_eq_true, ↓reduceIte, Option.map_some, hp, pTuple]
  have key : ∀ (xs : List Nat) (J : List Bool) (s6 s8 s9 : Slot), calm s6 → calm s8 → calm s9 → J.length = n → (∀ x ∈ xs, x < ls.length) →
      ∃ a b c, calm a ∧ calm b ∧ calm c ∧ (xs.foldl (jstep ls lot) J).length = n ∧ sLoop (setS 6) jbody (xs.map nD) (jenv n ls spot X J s5 s6 s8 s9) = .ok .next (jenv n ls spot X (xs.foldl (jstep ls lot) J) s5 a b c) := by
    intro xs
    induction xs with
    | nil => intro J s6 s8 s9 c6 c8 c9 hJ _; exact ⟨s6, s8, s9, c6, c8, c9, hJ, rfl⟩
    | cons x xs ih =>
      intro J s6 s8 s9 c6 c8 c9 hJ hx
      have g6 := set_calm (ρ := jenv n ls spot X J s5 s6 s8 s9) (i := 6) (d := nD x) rfl c6
      have g6 : okO (setS 6 (.sh (nD x))) (jenv n ls spot X J s5 s6 s8 s9) = .ok .next (jenv n ls spot X J s5 (.sh (nD x)) s8 s9) := by
        unfold okO
        rw [g6] <;> rfl
      obtain ⟨a, b, ca, cb', hb⟩ := e_jbody (spot := spot) (X := X) (s5 := s5) w hX c8 c9 (hx x List.mem_cons_self) hJ
      obtain ⟨a', b', c', h1, h2, h3, h4, h5⟩ := ih (jstep ls lot J x) (.sh (nD x)) a b trivial ca cb' (by rw [jstep_len]; exact hJ) (fun y hy => hx y (List.mem_cons_of_mem _ hy))
      refine ⟨a', b', c', h1, h2, h3, h4, ?_⟩
      rw [List.map_cons]
      conv => lhs; unfold sLoop
      rw [bnd_ok g6, bnd_ok hb]
      exact h5
  obtain ⟨a, b, c, h1, h2, h3, h4, h5⟩ := key (List.range ls.length) J s6 s8 s9 c6 c8 c9 hJ (fun x hx => List.mem_range.mp hx)
  refine ⟨a, b, c, h1, h2, h3, h4, ?_⟩
  unfold l__law_joined_1 sFor
  rw [bnd_ok hm]
  exact h5
end
end VLL
set_option Elab.async false
set_option linter.all false
set_option maxRecDepth 1000000
set_option maxHeartbeats 0
/-! P71q: _law_joined. -/
namespace VLL
open VL
section
variable {n : Nat} {ls : List (Nat × Nat)} {spot : Nat} {X : D} {lot : List Nat}
theorem e_jout (w : NetOk n ls) (hX : ∀ l, pNotIn [nD l, X] = some (.sh (.bl (!lot.contains l)))) : ∀ (xs : List Nat) (J : List Bool) (s5 s6 s8 s9 : Slot), calm s5 → calm s6 → calm s8 → calm s9 → J.length = n →
    ∃ z a b c, (xs.foldl (fun J _ => (List.range ls.length).foldl (jstep ls lot) J) J).length = n ∧ sLoop (setS 5) l__law_joined_1 (xs.map nD) (jenv n ls spot X J s5 s6 s8 s9) = .ok .next (jenv n ls spot X (xs.foldl (fun J _ => (List.range ls.length).foldl (jstep ls lot) J) J) z a b c)
  | [], J, s5, s6, s8, s9, _, _, _, _, hJ => ⟨s5, s6, s8, s9, hJ, rfl⟩
  | x :: xs, J, s5, s6, s8, s9, c5, c6, c8, c9, hJ => by
    have g5 := set_calm (ρ := jenv n ls spot X J s5 s6 s8 s9) (i := 5) (d := nD x) rfl c5
    have g5 : okO (setS 5 (.sh (nD x))) (jenv n ls spot X J s5 s6 s8 s9) = .ok .next (jenv n ls spot X J (.sh (nD x)) s6 s8 s9) := by
      unfold okO
      rw [g5] <;> rfl
    obtain ⟨a, b, c, h1, h2, h3, h4, h5⟩ := e_jin (spot := spot) (X := X) (s5 := .sh (nD x)) w hX c6 c8 c9 hJ
    obtain ⟨z, a', b', c', k1, k2⟩ := e_jout w hX xs _ (.sh (nD x)) a b c trivial h1 h2 h3 h4
    refine ⟨z, a', b', c', k1, ?_⟩
    rw [List.map_cons]
    conv => lhs; unfold sLoop
    rw [bnd_ok g5, bnd_ok h5]
    exact k2
theorem r_joined (w : NetOk n ls) (hX : ∀ l, pNotIn [nD l, X] = some (.sh (.bl (!lot.contains l)))) : (joinedN n ls spot lot).length = n ∧ run__law_joined [nD n, .lst (ls.map prD), nD spot, X] = .ok (.ow (.lst ((joinedN n ls spot lot).map bD))) .non := by
  have hm : ∀ (ρ : Env), ρ[0]? = some (.sh (nD n)) → mArgs (ac (mv 0) an) rng1 ρ = .ok ((List.range n).map nD) ρ := fun ρ h => by
    refine rng1_ok (small_nat (Nat.le_trans w.n9 (by decide))) (os := [.var 0]) ?_ ?_
    · show (match bnd (mv 0) (fun o => bnd an fun os => ret (o :: os)) ρ with | r => r) = _
      have : mv 0 ρ = .ok (.var 0) ρ := by
        unfold mv
        rw [h] <;> rfl
      dsimp only
      rw [bnd_ok this] <;> rfl
    · have : look ρ (.var 0) = some (nD n) := by
        show (ρ[0]?).bind Slot.d? = _
        rw [h] <;> rfl
      unfold looks
      rw [this] <;> rfl
  obtain ⟨z, a, b, c, k1, k2⟩ := e_jout (spot := spot) w hX (List.range n) ((List.range n).map fun k => decide (k = spot)) .un .un .un .un trivial trivial trivial trivial (by rw [List.length_map, List.length_range])
  refine ⟨k1, ?_⟩
  have h1 : c__law_joined_1 [.sh (nD n), .sh (.lst (ls.map prD)), .sh (nD spot), .sh X, .un, .un, .un, .un, .un, .un] = .ok (.ow (.lst (((List.range n).map fun k => decide (k = spot)).map bD))) [.sh (nD n), .sh (.lst (ls.map prD)), .sh (nD spot), .sh X, .un, .un, .un, .un, .un, .un] := by
    unfold c__law_joined_1
    refine Eq.trans (mLc_map (e0 := nD) (v := fun k => bD (decide (k = spot))) (ds := List.range n) ?_ ?_ ?_ ?_ (fun k hk => ?_) (le_lim (by rw [List.length_range]; exact Nat.le_trans w.n9 (by decide)))) (by rw [List.map_map]; rfl)
    · exact hm _ rfl
    · rfl
    · rfl
    · rfl
    · refine ⟨[.sh (nD n), .sh (.lst (ls.map prD)), .sh (nD spot), .sh X, .un, .un, .un, .sh (nD k), .un, .un], rfl, _, .sh (bD (decide (k = spot))), [.sh (nD n), .sh (.lst (ls.map prD)), .sh (nD spot), .sh X, .un, .un, .un, .sh (nD k), .un, .un], rfl, ?_, rfl, rfl, rfl⟩
      have d := dec_eq k spot
      simp only [runF, entry, thn', sIf, sAsg, sDrop, sRet, sNever, okO, bnd, mOr, mAnd, mNot, mb, VL.mt, mTru, truD, usr, mCall, ac, an, mv, tm, takes, take, VL.ret, aft, asB, o1, o2, cb, mPrim, looks, look, pLt, pGt, pLe, pGe, ii, oI, sI, sB, cst, pIsN, pIs, mMove, mVar, setS, mIf, mAndV, mOrV, mNotV, fin, finR, mTake, kTup, kLst, chk, unpk, gsc, gs0, Slot.frz, meth, mTy, tyD, mOn, mSeq, items, sFor, List.length_cons, List.length_nil, List.map_cons, List.map_nil, List.replicate, List.append_nil, List.cons_append, List.nil_append, List.getElem?_cons_zero, List.getElem?_cons_succ, Option.bind_some, Slot.d?, List.set, Bool.not_true, Bool.not_false, Nat.sub_self, Bool.false_eq_true, ↓reduceIte, Option.map_some, pEq_int, d, pTuple]
  have h2 : l__law_joined_2 [.sh (nD n), .sh (.lst (ls.map prD)), .sh (nD spot), .sh X, .ow (.lst (((List.range n).map fun k => decide (k = spot)).map bD)), .un, .un, .un, .un, .un] = .ok .next (jenv n ls spot X (joinedN n ls spot lot) z a b c) := by
    unfold l__law_joined_2 sFor
    rw [bnd_ok (hm _ rfl)]
    exact k2
  unfold run__law_joined m__law_joined
  simp only [runF, entry, thn', sIf, sAsg, sDrop, sRet, sNever, okO, bnd, mOr, mAnd, mNot, mb, VL.mt, mTru, truD, usr, mCall, ac, an, mv, tm, takes, take, VL.ret, aft, asB, o1, o2, cb, mPrim, looks, look, pLt, pGt, pLe, pGe, ii, oI, sI, sB, cst, pIsN, pIs, mMove, mVar, setS, mIf, mAndV, mOrV, mNotV, fin, finR, mTake, kTup, kLst, chk, unpk, gsc, gs0, Slot.frz, meth, mTy, tyD, mOn, mSeq, items, sFor, List.length_cons, List.length_nil, List.map_cons, List.map_nil, List.replicate, List.append_nil, List.cons_append, List.nil_append, List.getElem?_cons_zero, List.getElem?_cons_succ, Option.bind_some, Slot.d?, List.set, Bool.not_true, Bool.not_false, Nat.sub_self, Bool.false_eq_true, ↓reduceIte, Option.map_some, h1, h2, pTuple]
end
end VLL
set_option Elab.async false
set_option linter.all false
set_option maxRecDepth 1000000
set_option maxHeartbeats 0
/-! P71r: which end of a line is told first does not matter. -/
namespace VLL
open VL
/-- the same lines, their ends told in any order -/
def Same (ls ls' : List (Nat × Nat)) : Prop := ls.length = ls'.length ∧ ∀ (l : Nat) (p p' : Nat × Nat), ls[l]? = some p → ls'[l]? = some p' → p' = p ∨ p' = (p.2, p.1)
theorem Same.at {ls ls' : List (Nat × Nat)} (h : Same ls ls') {l : Nat} {p : Nat × Nat} (e : ls[l]? = some p) : ∃ p', ls'[l]? = some p' ∧ (p' = p ∨ p' = (p.2, p.1)) := by
  have hl := (List.getElem?_eq_some_iff.mp e).1
  have e' : ls'[l]? = some (ls'[l]'(by rw [← h.1]; exact hl)) := List.getElem?_eq_getElem _
  exact ⟨_, e', h.2 l p _ e e'⟩
theorem fm_congr {α β : Type} {f g : α → Option β} : ∀ {l : List α}, (∀ x ∈ l, f x = g x) → l.filterMap f = l.filterMap g
  | [], _ => rfl
  | x :: l, h => by rw [List.filterMap_cons, List.filterMap_cons, h x List.mem_cons_self, fm_congr fun y hy => h y (List.mem_cons_of_mem _ hy)]
theorem linesAt_same {ls ls' : List (Nat × Nat)} (h : Same ls ls') (s : Nat) : linesAt ls s = linesAt ls' s := by
  unfold linesAt
  rw [h.1]
  refine fm_congr fun l hl => ?_
  have hl' : l < ls.length := by rw [h.1]; exact List.mem_range.mp hl
  obtain ⟨p', e', c⟩ := h.at (List.getElem?_eq_getElem hl')
  rw [e', List.getElem?_eq_getElem hl']
  dsimp only
  rcases c with c | c
  · rw [c]
  · rw [c]
    have : [ls[l].1, ls[l].2].contains s = [ls[l].2, ls[l].1].contains s := by
      simp only [List.contains_cons, List.contains_nil, Bool.or_false]
      exact Bool.or_comm _ _
    rw [this]
theorem oth_same {ls ls' : List (Nat × Nat)} (h : Same ls ls') (hd : ∀ p ∈ ls, p.1 ≠ p.2) {l s : Nat} (hl : l ∈ linesAt ls s) : oth ls l s = oth ls' l s := by
  obtain ⟨p, e, hp⟩ := mem_linesAt hl
  obtain ⟨p', e', c⟩ := h.at e
  have hne := hd p (List.mem_of_getElem? e)
  unfold oth
  rw [e, e']
  dsimp only
  rcases c with c | c
  · rw [c]
  · rw [c]
    dsimp only
    rcases hp with hp | hp
    · rw [if_pos hp, if_neg (fun z => hne (hp.symm.trans z))]
    · rw [if_neg (fun z => hne (z.symm.trans hp)), if_pos hp]
theorem endsAt_same {ls ls' : List (Nat × Nat)} (h : Same ls ls') (hd : ∀ p ∈ ls, p.1 ≠ p.2) (lot : List Nat) (s : Nat) : endsAt ls lot s = endsAt ls' lot s := by
  unfold endsAt
  rw [← linesAt_same h]
  refine List.map_congr_left fun l hl => ?_
  rw [oth_same h hd (List.mem_filter.mp hl).1]
theorem lotWorths_same {ls ls' : List (Nat × Nat)} (h : Same ls ls') (hd : ∀ p ∈ ls, p.1 ≠ p.2) (n spot : Nat) (lot : List Nat) (f : Fall) : lotWorths n ls spot lot f = lotWorths n ls' spot lot f := by
  have : ∀ ws, worthStep n ls spot lot f ws = worthStep n ls' spot lot f ws := fun ws => by
    unfold worthStep
    refine List.map_congr_left fun s hs => ?_
    rw [endsAt_same h hd]
  unfold lotWorths
  congr 1
  funext ws _
  exact this ws
theorem worthTable_same {ls ls' : List (Nat × Nat)} (h : Same ls ls') (hd : ∀ p ∈ ls, p.1 ≠ p.2) (n spot most : Nat) : worthTable n ls spot most = worthTable n ls' spot most := by
  unfold worthTable
  rw [h.1]
  congr 1
  funext T lot
  rw [lotWorths_same h hd]
theorem foldl_congr {α β : Type} {f g : β → α → β} : ∀ {l : List α} {b : β}, (∀ b, ∀ x ∈ l, f b x = g b x) → l.foldl f b = l.foldl g b
  | [], _, _ => rfl
  | x :: l, b, h => by
    rw [List.foldl_cons, List.foldl_cons, h b x List.mem_cons_self]
    exact foldl_congr fun b y hy => h b y (List.mem_cons_of_mem _ hy)
theorem reachGo_same {ls ls' : List (Nat × Nat)} (h : Same ls ls') (hd : ∀ p ∈ ls, p.1 ≠ p.2) (gone : List Nat) : ∀ (k : Nat) (s : List Bool × List Nat), reachGo ls gone k s = reachGo ls' gone k s
  | 0, _ => rfl
  | k + 1, (J, W) => by
    unfold reachGo
    cases W.getLast? with
    | none => rfl
    | some s =>
      dsimp only
      have e : (linesAt ls s).foldl (rstep ls gone s) (J, W.dropLast) = (linesAt ls' s).foldl (rstep ls' gone s) (J, W.dropLast) := by
        rw [← linesAt_same h]
        refine foldl_congr fun b l hl => ?_
        unfold rstep
        rw [oth_same h hd hl]
      rw [e, reachGo_same h hd gone k]
theorem reachN_same {ls ls' : List (Nat × Nat)} (h : Same ls ls') (hd : ∀ p ∈ ls, p.1 ≠ p.2) (n s : Nat) (gone : List Nat) : reachN n ls s gone = reachN n ls' s gone := reachGo_same h hd gone _ _
theorem partGo_same {ls ls' : List (Nat × Nat)} (h : Same ls ls') (hd : ∀ p ∈ ls, p.1 ≠ p.2) (n s : Nat) : ∀ lots : List (List Nat), partGo n ls s lots = partGo n ls' s lots
  | [] => rfl
  | lot :: lots => by
    unfold partGo
    have e : partStep n ls s lot = partStep n ls' s lot := by
      unfold partStep
      rw [reachN_same h hd]
    rw [e, partGo_same h hd n s lots]
theorem jstep_same {ls ls' : List (Nat × Nat)} (h : Same ls ls') (hd : ∀ p ∈ ls, p.1 ≠ p.2) (lot : List Nat) (J : List Bool) {l : Nat} (hl : l < ls.length) : jstep ls lot J l = jstep ls' lot J l := by
  obtain ⟨p', e', c⟩ := h.at (List.getElem?_eq_getElem hl)
  have hne := hd ls[l] (List.getElem_mem hl)
  unfold jstep
  rw [e', List.getElem?_eq_getElem hl]
  dsimp only
  rcases c with c | c
  · rw [c]
  · rw [c]
    dsimp only
    rw [Bool.or_comm, List.set_comm _ _ hne]
theorem joinedN_same {ls ls' : List (Nat × Nat)} (h : Same ls ls') (hd : ∀ p ∈ ls, p.1 ≠ p.2) (n s : Nat) (lot : List Nat) : joinedN n ls s lot = joinedN n ls' s lot := by
  unfold joinedN
  refine foldl_congr fun J x hx => ?_
  rw [← h.1]
  exact foldl_congr fun J l hl => jstep_same h hd lot J (List.mem_range.mp hl)
end VLL
set_option Elab.async false
set_option linter.all false
set_option maxRecDepth 1000000
set_option maxHeartbeats 0
/-! P71s: Worth.best at no line fallen. -/
namespace VLL
open VL
def behindN (T : Tab) (most l s : Nat) : Option (Option Nat) := if decide (0 < most) then (tget T [l]).map (fun w => at0 w s) else some none
def bestGo (ls : List (Nat × Nat)) (T : Tab) (w0 : List (Option Nat)) (s due most : Nat) : List Nat → Option (Option Nat)
  | [] => some none
  | l :: r => match behindN T most l s with
    | none => none
    | some h => if lineWorth (at0 w0 (oth ls l s)) (decide (0 < most)) h = some due then some (some l) else bestGo ls T w0 s due most r
def bestN (ls : List (Nat × Nat)) (T : Tab) (s most : Nat) : Option (Option Nat) := match tget T [] with
  | none => none
  | some w0 => match at0 w0 s with
    | none => some none
    | some due => if due = 0 then some none else bestGo ls T w0 s due most (linesAt ls s)
section
variable {n : Nat} {ls : List (Nat × Nat)} {hs : List Nat} {house most s due : Nat} {T : Tab} {w0 : List (Option Nat)}
abbrev benv (n : Nat) (ls : List (Nat × Nat)) (hs : List Nat) (house most : Nat) (T : Tab) (s due : Nat) (s5 s6 s7 s8 : Slot) : Env :=
  [.sh (worthD n ls hs house most T), .sh (nD s), .sh (.kt []), .sh (lotD []), .sh (nD due), s5, s6, s7, s8]
abbrev bbody : M Fl := sIf (mb (o2 pNotIn (mv 5) (mv 3)))
  (thn' (sAsg (o2 pIx (tm (o2 pIx (tm (mFld "Worth" "by_lot" (mv 0))) (mv 3))) (tm x_Worth_best_3)) (setS 6))
  (thn' (sAsg (o2 pLt (tm (cb pLen (ac (mv 3) an))) (tm (mFld "Worth" "most" (mv 0)))) (setS 7))
  (thn' (sAsg (mIf (VL.mt (mv 7)) (o2 pIx (tm (o2 pIx (tm (mFld "Worth" "by_lot" (mv 0))) (tm (usr false run_both [] (ac (mv 3) (ac (tm (mTake (ac (mv 5) an) kTup)) an)))))) (mv 1)) (cst .non)) (setS 8))
  (sIf (mb (o2 pEq (tm (usr false run_line_worth [] (ac (mv 6) (ac (mv 7) (ac (mv 8) an))))) (mv 4)))
  (sRet (mMove 5))
  (ret .next)))))
  (ret .next)
theorem pEq_oD (o : Option Nat) (k : Nat) : pEq [oD o, nD k] = some (.sh (.bl (decide (o = some k)))) := by
  cases o with
  | none => rfl
  | some j =>
    show pEq [.int (j : Int), .int (k : Int)] = _
    rw [pEq_int, dec_eq]
    congr 3
    by_cases h : j = k
    · rw [decide_eq_true h, decide_eq_true (by rw [h])]
    · rw [decide_eq_false h, decide_eq_false (by intro z; exact h (Option.some.inj z))]
theorem ix_at {w : List (Option Nat)} {k : Nat} (h : k < w.length) : pIx [.tup (w.map oD), nD k] = some (.sh (oD (at0 w k))) := by
  rw [pIx_tup, List.getElem?_map]
  unfold at0
  rw [List.getElem?_eq_getElem h] <;> rfl
theorem e_bstep (w : NetOk n ls) (hs0 : s < n) (ha : ∀ q ∈ T, q.2.length = n) (h0 : tget T [] = some w0) {l : Nat} (hl : l ∈ linesAt ls s) {s6 s7 s8 : Slot} (c6 : calm s6) (c7 : calm s7) (c8 : calm s8) {h : Option Nat} (hb : behindN T most l s = some h) :
    if lineWorth (at0 w0 (oth ls l s)) (decide (0 < most)) h = some due then ∃ ρ, bbody (benv n ls hs house most T s due (.sh (nD l)) s6 s7 s8) = .ok (.ret (.sh (nD l))) ρ
    else ∃ a b c, calm a ∧ calm b ∧ calm c ∧ bbody (benv n ls hs house most T s due (.sh (nD l)) s6 s7 s8) = .ok .next (benv n ls hs house most T s due (.sh (nD l)) a b c) := by
  have hw0 : w0.length = n := tget_all (p := fun w => w.length = n) ha h0
  have e1 : pNotIn [nD l, lotD []] = some (.sh (.bl true)) := pNotIn_tup [] l
  have e2 := ix_tab h0
  have ho := oth_lt w hl
  have e3 := ix_at (w := w0) (k := oth ls l s) (by omega)
  have x3 : x_Worth_best_3 (benv n ls hs house most T s due (.sh (nD l)) s6 s7 s8) = .ok (.sh (nD (oth ls l s))) (benv n ls hs house most T s due (.sh (nD l)) s6 s7 s8) :=
    meth_ok (cn := "Net") (m := "other") (F := run_Net_other) (dd := []) (mo := tm (mFld "Worth" "net" (mv 0))) (ms := ac (mv 5) (ac (mv 1) an)) (o := .tmp (.sh (netD n ls hs))) (os := [.var 5, .var 1]) (ds := [netD n ls hs, nD l, nD s]) (ρ := benv n ls hs house most T s due (.sh (nD l)) s6 s7 s8) rfl rfl rfl rfl rfl (r_other' hl hs0)
  have a1 : sAsg (o2 pIx (tm (o2 pIx (tm (mFld "Worth" "by_lot" (mv 0))) (mv 3))) (tm x_Worth_best_3)) (setS 6) (benv n ls hs house most T s due (.sh (nD l)) s6 s7 s8) = .ok .next (benv n ls hs house most T s due (.sh (nD l)) (.sh (oD (at0 w0 (oth ls l s)))) s7 s8) := by
    have u : o2 pIx (tm (o2 pIx (tm (mFld "Worth" "by_lot" (mv 0))) (mv 3))) (tm x_Worth_best_3) (benv n ls hs house most T s due (.sh (nD l)) s6 s7 s8) = .ok (.sh (oD (at0 w0 (oth ls l s)))) (benv n ls hs house most T s due (.sh (nD l)) s6 s7 s8) := by
      simp only [runF, entry, thn', sIf, sAsg, sDrop, sRet, sNever, okO, bnd, mOr, mAnd, mNot, mb, VL.mt, mTru, truD, usr, mCall, ac, an, mv, tm, takes, take, VL.ret, aft, asB, o1, o2, cb, mPrim, looks, look, pLt, pGt, pLe, pGe, ii, oI, sI, sB, cst, pIsN, pIs, mMove, mVar, setS, mIf, mAndV, mOrV, mNotV, fin, finR, mTake, kTup, kLst, chk, unpk, gsc, gs0, Slot.frz, meth, mTy, tyD, mOn, mSeq, items, sFor, List.length_cons, List.length_nil, List.map_cons, List.map_nil, List.replicate, List.append_nil, List.cons_append, List.nil_append, List.getElem?_cons_zero, List.getElem?_cons_succ, Option.bind_some, Slot.d?, List.set, Bool.not_true, Bool.not_false, Nat.sub_self, Bool.false_eq_true, ↓reduceIte, Option.map_some, w_tab, e2, x3, e3, pTuple]
    have g := set_calm (ρ := benv n ls hs house most T s due (.sh (nD l)) s6 s7 s8) (i := 6) (d := oD (at0 w0 (oth ls l s))) rfl c6
    unfold sAsg
    rw [bnd_ok u]
    unfold okO
    rw [g] <;> rfl
  have d0 : decide ((0 : Int) < (most : Int)) = decide (0 < most) := dec_lt 0 most
  have a2 : sAsg (o2 pLt (tm (cb pLen (ac (mv 3) an))) (tm (mFld "Worth" "most" (mv 0)))) (setS 7) (benv n ls hs house most T s due (.sh (nD l)) (.sh (oD (at0 w0 (oth ls l s)))) s7 s8) = .ok .next (benv n ls hs house most T s due (.sh (nD l)) (.sh (oD (at0 w0 (oth ls l s)))) (.sh (.bl (decide (0 < most)))) s8) := by
    have pl : pLen [lotD []] = some (.sh (.int 0)) := rfl
    have u : o2 pLt (tm (cb pLen (ac (mv 3) an))) (tm (mFld "Worth" "most" (mv 0))) (benv n ls hs house most T s due (.sh (nD l)) (.sh (oD (at0 w0 (oth ls l s)))) s7 s8) = .ok (.sh (.bl (decide (0 < most)))) (benv n ls hs house most T s due (.sh (nD l)) (.sh (oD (at0 w0 (oth ls l s)))) s7 s8) := by
      simp only [runF, entry, thn', sIf, sAsg, sDrop, sRet, sNever, okO, bnd, mOr, mAnd, mNot, mb, VL.mt, mTru, truD, usr, mCall, ac, an, mv, tm, takes, take, VL.ret, aft, asB, o1, o2, cb, mPrim, looks, look, pLt, pGt, pLe, pGe, ii, oI, sI, sB, cst, pIsN, pIs, mMove, mVar, setS, mIf, mAndV, mOrV, mNotV, fin, finR, mTake, kTup, kLst, chk, unpk, gsc, gs0, Slot.frz, meth, mTy, tyD, mOn, mSeq, items, sFor, List.length_cons, List.length_nil, List.map_cons, List.map_nil, List.replicate, List.append_nil, List.cons_append, List.nil_append, List.getElem?_cons_zero, List.getElem?_cons_succ, Option.bind_some, Slot.d?, List.set, Bool.not_true, Bool.not_false, Nat.sub_self, Bool.false_eq_true, ↓reduceIte, Option.map_some, w_most, pl, d0, pTuple]
    have g := set_calm (ρ := benv n ls hs house most T s due (.sh (nD l)) (.sh (oD (at0 w0 (oth ls l s)))) s7 s8) (i := 7) (d := .bl (decide (0 < most))) rfl c7
    unfold sAsg
    rw [bnd_ok u]
    unfold okO
    rw [g] <;> rfl
  have a3 : sAsg (mIf (VL.mt (mv 7)) (o2 pIx (tm (o2 pIx (tm (mFld "Worth" "by_lot" (mv 0))) (tm (usr false run_both [] (ac (mv 3) (ac (tm (mTake (ac (mv 5) an) kTup)) an)))))) (mv 1)) (cst .non)) (setS 8) (benv n ls hs house most T s due (.sh (nD l)) (.sh (oD (at0 w0 (oth ls l s)))) (.sh (.bl (decide (0 < most)))) s8) =
      .ok .next (benv n ls hs house most T s due (.sh (nD l)) (.sh (oD (at0 w0 (oth ls l s)))) (.sh (.bl (decide (0 < most)))) (.sh (oD h))) := by
    have u : mIf (VL.mt (mv 7)) (o2 pIx (tm (o2 pIx (tm (mFld "Worth" "by_lot" (mv 0))) (tm (usr false run_both [] (ac (mv 3) (ac (tm (mTake (ac (mv 5) an) kTup)) an)))))) (mv 1)) (cst .non) (benv n ls hs house most T s due (.sh (nD l)) (.sh (oD (at0 w0 (oth ls l s)))) (.sh (.bl (decide (0 < most)))) s8) =
        .ok (.sh (oD h)) (benv n ls hs house most T s due (.sh (nD l)) (.sh (oD (at0 w0 (oth ls l s)))) (.sh (.bl (decide (0 < most)))) s8) := by
      unfold behindN at hb
      cases hm : decide (0 < most) with
      | false =>
        rw [hm] at hb
        simp only [Bool.false_eq_true, ↓reduceIte, Option.some.injEq] at hb
        subst hb
        simp only [runF, entry, thn', sIf, sAsg, sDrop, sRet, sNever, okO, bnd, mOr, mAnd, mNot, mb, VL.mt, mTru, truD, usr, mCall, ac, an, mv, tm, takes, take, VL.ret, aft, asB, o1, o2, cb, mPrim, looks, look, pLt, pGt, pLe, pGe, ii, oI, sI, sB, cst, pIsN, pIs, mMove, mVar, setS, mIf, mAndV, mOrV, mNotV, fin, finR, mTake, kTup, kLst, chk, unpk, gsc, gs0, Slot.frz, meth, mTy, tyD, mOn, mSeq, items, sFor, List.length_cons, List.length_nil, List.map_cons, List.map_nil, List.replicate, List.append_nil, List.cons_append, List.nil_append, List.getElem?_cons_zero, List.getElem?_cons_succ, Option.bind_some, Slot.d?, List.set, Bool.not_true, Bool.not_false, Nat.sub_self, Bool.false_eq_true, ↓reduceIte, Option.map_some, pTuple]
        rfl
      | true =>
        rw [hm] at hb
        simp only [↓reduceIte] at hb
        obtain ⟨wl, q1, q2⟩ := Option.map_eq_some_iff.mp hb
        have hwl : wl.length = n := tget_all (p := fun w => w.length = n) ha q1
        have e5 := ix_tab q1
        have e6 := ix_at (w := wl) (k := s) (by omega)
        rw [q2] at e6
        have e7 : run_both [lotD [], lotD [l]] = .ok (.sh (lotD [l])) .non := r_both (a := []) (b := [l]) (Nat.zero_le _) (Nat.le_of_ble_eq_true rfl)
        have e8 : usr false run_both [] (ac (mv 3) (ac (tm (mTake (ac (mv 5) an) kTup)) an)) (benv n ls hs house most T s due (.sh (nD l)) (.sh (oD (at0 w0 (oth ls l s)))) (.sh (.bl true)) s8) = .ok (.sh (lotD [l])) (benv n ls hs house most T s due (.sh (nD l)) (.sh (oD (at0 w0 (oth ls l s)))) (.sh (.bl true)) s8) := by
          have e7' : run_both [lotD [], .tup [nD l]] = .ok (.sh (lotD [l])) .non := e7
          have hlim : decide (0 + 1 ≤ lim) = true := by decide
          simp only [runF, entry, thn', sIf, sAsg, sDrop, sRet, sNever, okO, bnd, mOr, mAnd, mNot, mb, VL.mt, mTru, truD, usr, mCall, ac, an, mv, tm, takes, take, VL.ret, aft, asB, o1, o2, cb, mPrim, looks, look, pLt, pGt, pLe, pGe, ii, oI, sI, sB, cst, pIsN, pIs, mMove, mVar, setS, mIf, mAndV, mOrV, mNotV, fin, finR, mTake, kTup, kLst, chk, unpk, gsc, gs0, Slot.frz, meth, mTy, tyD, mOn, mSeq, items, sFor, List.length_cons, List.length_nil, List.map_cons, List.map_nil, List.replicate, List.append_nil, List.cons_append, List.nil_append, List.getElem?_cons_zero, List.getElem?_cons_succ, Option.bind_some, Slot.d?, List.set, Bool.not_true, Bool.not_false, Nat.sub_self, Bool.false_eq_true, ↓reduceIte, Option.map_some, hlim, e7', pTuple]
        have e9 : mFld "Worth" "by_lot" (mv 0) (benv n ls hs house most T s due (.sh (nD l)) (.sh (oD (at0 w0 (oth ls l s)))) (.sh (.bl true)) s8) = .ok (.sh (.dit (tabK T) (tabV T))) (benv n ls hs house most T s due (.sh (nD l)) (.sh (oD (at0 w0 (oth ls l s)))) (.sh (.bl true)) s8) := w_tab
        unfold mIf
        simp only [VL.mt, mTru, truD, mv, bnd, o2, mPrim, tm, ac, an, VL.ret, List.getElem?_cons_zero, List.getElem?_cons_succ, look, Option.bind_some, Slot.d?, e8, e9, takes, take, e5, e6, aft, asB, looks, ↓reduceIte]
    have g := set_calm (ρ := benv n ls hs house most T s due (.sh (nD l)) (.sh (oD (at0 w0 (oth ls l s)))) (.sh (.bl (decide (0 < most)))) s8) (i := 8) (d := oD h) rfl c8
    unfold sAsg
    rw [bnd_ok u]
    unfold okO
    rw [g] <;> rfl
  have lw := r_line_worth (at0 w0 (oth ls l s)) h (decide (0 < most))
  have pe := pEq_oD (lineWorth (at0 w0 (oth ls l s)) (decide (0 < most)) h) due
  generalize lineWorth (at0 w0 (oth ls l s)) (decide (0 < most)) h = o at lw pe ⊢
  have hbody : ∀ (f : Fl) (ρ : Env), sIf (mb (o2 pEq (tm (usr false run_line_worth [] (ac (mv 6) (ac (mv 7) (ac (mv 8) an))))) (mv 4))) (sRet (mMove 5)) (VL.ret .next) (benv n ls hs house most T s due (.sh (nD l)) (.sh (oD (at0 w0 (oth ls l s)))) (.sh (.bl (decide (0 < most)))) (.sh (oD h))) = .ok f ρ → bbody (benv n ls hs house most T s due (.sh (nD l)) s6 s7 s8) = .ok f ρ := by
    intro f ρ hf
    have t : mb (o2 pNotIn (mv 5) (mv 3)) (benv n ls hs house most T s due (.sh (nD l)) s6 s7 s8) = .ok true (benv n ls hs house most T s due (.sh (nD l)) s6 s7 s8) := by
      simp only [runF, entry, thn', sIf, sAsg, sDrop, sRet, sNever, okO, bnd, mOr, mAnd, mNot, mb, VL.mt, mTru, truD, usr, mCall, ac, an, mv, tm, takes, take, VL.ret, aft, asB, o1, o2, cb, mPrim, looks, look, pLt, pGt, pLe, pGe, ii, oI, sI, sB, cst, pIsN, pIs, mMove, mVar, setS, mIf, mAndV, mOrV, mNotV, fin, finR, mTake, kTup, kLst, chk, unpk, gsc, gs0, Slot.frz, meth, mTy, tyD, mOn, mSeq, items, sFor, List.length_cons, List.length_nil, List.map_cons, List.map_nil, List.replicate, List.append_nil, List.cons_append, List.nil_append, List.getElem?_cons_zero, List.getElem?_cons_succ, Option.bind_some, Slot.d?, List.set, Bool.not_true, Bool.not_false, Nat.sub_self, Bool.false_eq_true, ↓reduceIte, Option.map_some, e1, pTuple]
    unfold bbody sIf
    rw [bnd_ok t]
    simp only [↓reduceIte]
    unfold thn'
    rw [bnd_ok a1]
    dsimp only
    rw [bnd_ok a2]
    dsimp only
    rw [bnd_ok a3]
    dsimp only
    exact hf
  by_cases ho : o = some due
  · rw [if_pos ho]
    rw [decide_eq_true ho] at pe
    refine ⟨benv n ls hs house most T s due (.sh (nD l)) (.sh (oD (at0 w0 (oth ls l s)))) (.sh (.bl (decide (0 < most)))) (.sh (oD h)), hbody _ _ ?_⟩
    simp only [runF, entry, thn', sIf, sAsg, sDrop, sRet, sNever, okO, bnd, mOr, mAnd, mNot, mb, VL.mt, mTru, truD, usr, mCall, ac, an, mv, tm, takes, take, VL.ret, aft, asB, o1, o2, cb, mPrim, looks, look, pLt, pGt, pLe, pGe, ii, oI, sI, sB, cst, pIsN, pIs, mMove, mVar, setS, mIf, mAndV, mOrV, mNotV, fin, finR, mTake, kTup, kLst, chk, unpk, gsc, gs0, Slot.frz, meth, mTy, tyD, mOn, mSeq, items, sFor, List.length_cons, List.length_nil, List.map_cons, List.map_nil, List.replicate, List.append_nil, List.cons_append, List.nil_append, List.getElem?_cons_zero, List.getElem?_cons_succ, Option.bind_some, Slot.d?, List.set, Bool.not_true, Bool.not_false, Nat.sub_self, Bool.false_eq_true, ↓reduceIte, Option.map_some, lw, pe, pTuple]
  · rw [if_neg ho]
    rw [decide_eq_false ho] at pe
    refine ⟨.sh (oD (at0 w0 (oth ls l s))), .sh (.bl (decide (0 < most))), .sh (oD h), trivial, trivial, trivial, hbody _ _ ?_⟩
    simp only [runF, entry, thn', sIf, sAsg, sDrop, sRet, sNever, okO, bnd, mOr, mAnd, mNot, mb, VL.mt, mTru, truD, usr, mCall, ac, an, mv, tm, takes, take, VL.ret, aft, asB, o1, o2, cb, mPrim, looks, look, pLt, pGt, pLe, pGe, ii, oI, sI, sB, cst, pIsN, pIs, mMove, mVar, setS, mIf, mAndV, mOrV, mNotV, fin, finR, mTake, kTup, kLst, chk, unpk, gsc, gs0, Slot.frz, meth, mTy, tyD, mOn, mSeq, items, sFor, List.length_cons, List.length_nil, List.map_cons, List.map_nil, List.replicate, List.append_nil, List.cons_append, List.nil_append, List.getElem?_cons_zero, List.getElem?_cons_succ, Option.bind_some, Slot.d?, List.set, Bool.not_true, Bool.not_false, Nat.sub_self, Bool.false_eq_true, ↓reduceIte, Option.map_some, lw, pe, pTuple]
theorem e_bloop (w : NetOk n ls) (hs0 : s < n) (ha : ∀ q ∈ T, q.2.length = n) (h0 : tget T [] = some w0) : ∀ (xs : List Nat) (s5 s6 s7 s8 : Slot) (r : Option Nat), calm s5 → calm s6 → calm s7 → calm s8 → (∀ x ∈ xs, x ∈ linesAt ls s) → bestGo ls T w0 s due most xs = some r →
    match r with
    | none => ∃ a b c d, sLoop (setS 5) bbody (xs.map nD) (benv n ls hs house most T s due s5 s6 s7 s8) = .ok .next (benv n ls hs house most T s due a b c d)
    | some l => ∃ ρ, sLoop (setS 5) bbody (xs.map nD) (benv n ls hs house most T s due s5 s6 s7 s8) = .ok (.ret (.sh (nD l))) ρ
  | [], s5, s6, s7, s8, r, c5, c6, c7, c8, hx, h => by cases h; exact ⟨s5, s6, s7, s8, rfl⟩
  | l :: xs, s5, s6, s7, s8, r, c5, c6, c7, c8, hx, h => by
    have hl := hx l List.mem_cons_self
    have g5 := set_calm (ρ := benv n ls hs house most T s due s5 s6 s7 s8) (i := 5) (d := nD l) rfl c5
    have g5 : okO (setS 5 (.sh (nD l))) (benv n ls hs house most T s due s5 s6 s7 s8) = .ok .next (benv n ls hs house most T s due (.sh (nD l)) s6 s7 s8) := by
      unfold okO
      rw [g5] <;> rfl
    unfold bestGo at h
    cases hb : behindN T most l s with
    | none => rw [hb] at h; cases h
    | some hh =>
      rw [hb] at h
      dsimp only at h
      have hstep := e_bstep (hs := hs) (house := house) (due := due) w hs0 ha h0 hl c6 c7 c8 hb
      by_cases ho : lineWorth (at0 w0 (oth ls l s)) (decide (0 < most)) hh = some due
      · rw [if_pos ho] at h hstep
        cases h
        obtain ⟨ρ, hρ⟩ := hstep
        refine ⟨ρ, ?_⟩
        rw [List.map_cons]
        conv => lhs; unfold sLoop
        rw [bnd_ok g5, bnd_ok hρ] <;> rfl
      · rw [if_neg ho] at h hstep
        obtain ⟨a, b, c, ca, cb', cc, hρ⟩ := hstep
        have ih := e_bloop w hs0 ha h0 xs (.sh (nD l)) a b c r trivial ca cb' cc (fun y hy => hx y (List.mem_cons_of_mem _ hy)) h
        have e : sLoop (setS 5) bbody ((l :: xs).map nD) (benv n ls hs house most T s due s5 s6 s7 s8) = sLoop (setS 5) bbody (xs.map nD) (benv n ls hs house most T s due (.sh (nD l)) a b c) := by
          rw [List.map_cons]
          conv => lhs; unfold sLoop
          rw [bnd_ok g5, bnd_ok hρ]
        rw [e]
        exact ih
theorem r_best {r : Option Nat} (w : NetOk n ls) (hs0 : s < n) (ha : ∀ q ∈ T, q.2.length = n) (hb : bestN ls T s most = some r) : run_Worth_best [worthD n ls hs house most T, nD s, .kt []] = .ok (.sh (oD r)) .non := by
  have c1 := r_check "switch" s 0 ((n : Int) - 1) (by omega) (by omega)
  have hk := r_known (n := n) (hs := hs) (house := house) (most := most) (T := T) (X := .kt []) (xs := []) (ls := ls) rfl rfl List.nodup_nil (fun x hx => by cases hx) (Nat.zero_le _) (Nat.zero_le _)
  have x1 : x_Worth_best_1 [.sh (worthD n ls hs house most T), .sh (nD s), .sh (.kt []), .un, .un, .un, .un, .un, .un] = .ok (.sh (lotD [])) [.sh (worthD n ls hs house most T), .sh (nD s), .sh (.kt []), .un, .un, .un, .un, .un, .un] :=
    meth_ok (cn := "Worth") (m := "known_lot") (F := run_Worth_known_lot) (dd := []) (mo := mv 0) (ms := ac (mv 2) an) (o := .var 0) (os := [.var 2]) (ds := [worthD n ls hs house most T, .kt []]) (ρ := [.sh (worthD n ls hs house most T), .sh (nD s), .sh (.kt []), .un, .un, .un, .un, .un, .un]) rfl rfl rfl rfl rfl hk
  unfold bestN at hb
  cases h0 : tget T [] with
  | none => rw [h0] at hb; cases hb
  | some w0 =>
    rw [h0] at hb
    dsimp only at hb
    have hw0 : w0.length = n := tget_all (p := fun w => w.length = n) ha h0
    have e2 := ix_tab h0
    have e3 := ix_at (w := w0) (k := s) (by omega)
    cases hd : at0 w0 s with
    | none =>
      rw [hd] at hb e3
      cases hb
      have e4 : oD none = D.non := rfl
      rw [e4] at e3
      unfold run_Worth_best m_Worth_best
      simp only [runF, entry, thn', sIf, sAsg, sDrop, sRet, sNever, okO, bnd, mOr, mAnd, mNot, mb, VL.mt, mTru, truD, usr, mCall, ac, an, mv, tm, takes, take, VL.ret, aft, asB, o1, o2, cb, mPrim, looks, look, pLt, pGt, pLe, pGe, ii, oI, sI, sB, cst, pIsN, pIs, mMove, mVar, setS, mIf, mAndV, mOrV, mNotV, fin, finR, mTake, kTup, kLst, chk, unpk, gsc, gs0, Slot.frz, meth, mTy, tyD, mOn, mSeq, items, sFor, List.length_cons, List.length_nil, List.map_cons, List.map_nil, List.replicate, List.append_nil, List.cons_append, List.nil_append, List.getElem?_cons_zero, List.getElem?_cons_succ, Option.bind_some, Slot.d?, List.set, Bool.not_true, Bool.not_false, Nat.sub_self, Bool.false_eq_true, ↓reduceIte, Option.map_some, wn_size, c1, x1, w_tab, e2, e3, pTuple]
      rfl
    | some due =>
      rw [hd] at hb e3
      dsimp only at hb
      have e4 : oD (some due) = nD due := rfl
      rw [e4] at e3
      have e5 : pIs [nD due, .non] = some (.sh (.bl false)) := rfl
      have d0 : decide ((due : Int) = 0) = decide (due = 0) := dec_eq due 0
      by_cases hz : due = 0
      · rw [if_pos hz] at hb
        cases hb
        rw [decide_eq_true hz] at d0
        unfold run_Worth_best m_Worth_best
        simp only [runF, entry, thn', sIf, sAsg, sDrop, sRet, sNever, okO, bnd, mOr, mAnd, mNot, mb, VL.mt, mTru, truD, usr, mCall, ac, an, mv, tm, takes, take, VL.ret, aft, asB, o1, o2, cb, mPrim, looks, look, pLt, pGt, pLe, pGe, ii, oI, sI, sB, cst, pIsN, pIs, mMove, mVar, setS, mIf, mAndV, mOrV, mNotV, fin, finR, mTake, kTup, kLst, chk, unpk, gsc, gs0, Slot.frz, meth, mTy, tyD, mOn, mSeq, items, sFor, List.length_cons, List.length_nil, List.map_cons, List.map_nil, List.replicate, List.append_nil, List.cons_append, List.nil_append, List.getElem?_cons_zero, List.getElem?_cons_succ, Option.bind_some, Slot.d?, List.set, Bool.not_true, Bool.not_false, Nat.sub_self, Bool.false_eq_true, ↓reduceIte, Option.map_some, wn_size, c1, x1, w_tab, e2, e3, e5, pEq_int, d0, pTuple]
        rfl
      · rw [if_neg hz] at hb
        rw [decide_eq_false hz] at d0
        have x2 : x_Worth_best_2 (benv n ls hs house most T s due .un .un .un .un) = .ok (.sh (.tup ((linesAt ls s).map nD))) (benv n ls hs house most T s due .un .un .un .un) :=
          meth_ok (cn := "Net") (m := "lines_at") (F := run_Net_lines_at) (dd := []) (mo := tm (mFld "Worth" "net" (mv 0))) (ms := ac (mv 1) an) (o := .tmp (.sh (netD n ls hs))) (os := [.var 1]) (ds := [netD n ls hs, nD s]) (ρ := benv n ls hs house most T s due .un .un .un .un) rfl rfl rfl rfl rfl (r_lines_at hs0 w.l36)
        have hsq : mSeq x_Worth_best_2 (benv n ls hs house most T s due .un .un .un .un) = .ok ((linesAt ls s).map nD) (benv n ls hs house most T s due .un .un .un .un) := by
          simp only [runF, entry, thn', sIf, sAsg, sDrop, sRet, sNever, okO, bnd, mOr, mAnd, mNot, mb, VL.mt, mTru, truD, usr, mCall, ac, an, mv, tm, takes, take, VL.ret, aft, asB, o1, o2, cb, mPrim, looks, look, pLt, pGt, pLe, pGe, ii, oI, sI, sB, cst, pIsN, pIs, mMove, mVar, setS, mIf, mAndV, mOrV, mNotV, fin, finR, mTake, kTup, kLst, chk, unpk, gsc, gs0, Slot.frz, meth, mTy, tyD, mOn, mSeq, items, sFor, List.length_cons, List.length_nil, List.map_cons, List.map_nil, List.replicate, List.append_nil, List.cons_append, List.nil_append, List.getElem?_cons_zero, List.getElem?_cons_succ, Option.bind_some, Slot.d?, List.set, Bool.not_true, Bool.not_false, Nat.sub_self, Bool.false_eq_true, ↓reduceIte, Option.map_some, x2, pTuple]
        have hl := e_bloop (hs := hs) (house := house) (due := due) w hs0 ha h0 (linesAt ls s) .un .un .un .un r trivial trivial trivial trivial (fun x hx => hx) hb
        cases r with
        | none =>
          obtain ⟨a, b, c, d, hl⟩ := hl
          have hl' : l_Worth_best_1 [.sh (worthD n ls hs house most T), .sh (nD s), .sh (.kt []), .sh (lotD []), .sh (nD due), .un, .un, .un, .un] = .ok .next (benv n ls hs house most T s due a b c d) := by
            unfold l_Worth_best_1 sFor
            rw [bnd_ok hsq]
            exact hl
          unfold run_Worth_best m_Worth_best
          simp only [runF, entry, thn', sIf, sAsg, sDrop, sRet, sNever, okO, bnd, mOr, mAnd, mNot, mb, VL.mt, mTru, truD, usr, mCall, ac, an, mv, tm, takes, take, VL.ret, aft, asB, o1, o2, cb, mPrim, looks, look, pLt, pGt, pLe, pGe, ii, oI, sI, sB, cst, pIsN, pIs, mMove, mVar, setS, mIf, mAndV, mOrV, mNotV, fin, finR, mTake, kTup, kLst, chk, unpk, gsc, gs0, Slot.frz, meth, mTy, tyD, mOn, mSeq, items, sFor, List.length_cons, List.length_nil, List.map_cons, List.map_nil, List.replicate, List.append_nil, List.cons_append, List.nil_append, List.getElem?_cons_zero, List.getElem?_cons_succ, Option.bind_some, Slot.d?, List.set, Bool.not_true, Bool.not_false, Nat.sub_self, Bool.false_eq_true, ↓reduceIte, Option.map_some, wn_size, c1, x1, w_tab, e2, e3, e5, pEq_int, d0, hl', pTuple]
          rfl
        | some l =>
          obtain ⟨ρ, hl⟩ := hl
          have hl' : l_Worth_best_1 [.sh (worthD n ls hs house most T), .sh (nD s), .sh (.kt []), .sh (lotD []), .sh (nD due), .un, .un, .un, .un] = .ok (.ret (.sh (nD l))) ρ := by
            unfold l_Worth_best_1 sFor
            rw [bnd_ok hsq]
            exact hl
          have e6 : pNotIn [] = none := rfl
          unfold run_Worth_best m_Worth_best
          simp only [runF, entry, thn', sIf, sAsg, sDrop, sRet, sNever, okO, bnd, mOr, mAnd, mNot, mb, VL.mt, mTru, truD, usr, mCall, ac, an, mv, tm, takes, take, VL.ret, aft, asB, o1, o2, cb, mPrim, looks, look, pLt, pGt, pLe, pGe, ii, oI, sI, sB, cst, pIsN, pIs, mMove, mVar, setS, mIf, mAndV, mOrV, mNotV, fin, finR, mTake, kTup, kLst, chk, unpk, gsc, gs0, Slot.frz, meth, mTy, tyD, mOn, mSeq, items, sFor, List.length_cons, List.length_nil, List.map_cons, List.map_nil, List.replicate, List.append_nil, List.cons_append, List.nil_append, List.getElem?_cons_zero, List.getElem?_cons_succ, Option.bind_some, Slot.d?, List.set, Bool.not_true, Bool.not_false, Nat.sub_self, Bool.false_eq_true, ↓reduceIte, Option.map_some, wn_size, c1, x1, w_tab, e2, e3, e5, pEq_int, d0, hl', pTuple]
          rfl
end
end VLL
set_option Elab.async false
set_option linter.all false
set_option maxRecDepth 1000000
set_option maxHeartbeats 0
/-! P71t: _law_draws answers some list of naturals. -/
namespace VLL
open VL
theorem pAdd_int (i j : Int) : VL.pAdd [.int i, .int j] = some (.sh (.int (i + j))) := rfl
theorem pInt_int (i : Int) : VL.pInt [.int i] = some (.sh (.int i)) := rfl
theorem pMul_int {i j : Int} (h : cMul i j = true) : pMul [.int i, .int j] = some (.sh (.int (i * j))) := by
  show oI (cMul i j) (i * j) = _
  rw [h] <;> rfl
theorem cMul_l {i : Nat} (j : Int) (h : i ≤ 18446744073709551615) : cMul (i : Int) j = true := by
  unfold cMul
  rw [Int.natAbs_natCast, Nat.ble_eq_true_of_le h, Bool.true_or]
theorem cMul_r (i : Int) {j : Nat} (h : j ≤ 18446744073709551615) : cMul i (j : Int) = true := by
  unfold cMul
  rw [Int.natAbs_natCast, Nat.ble_eq_true_of_le h, Bool.or_true]
theorem pMod_nat (x : Int) {m : Nat} (h : 0 < m) : ∃ r : Nat, r < m ∧ pMod [.int x, nD m] = some (.sh (nD r)) := by
  have h1 : (0 : Int) ≤ x % (m : Int) := Int.emod_nonneg _ (by omega)
  have h2 : x % (m : Int) < m := Int.emod_lt_of_pos _ (by omega)
  refine ⟨(x % (m : Int)).toNat, by omega, ?_⟩
  show oI (cMod x (m : Int)) (x % (m : Int)) = _
  have c : cMod x (m : Int) = true := decide_eq_true (by omega)
  rw [c]
  show some (Slot.sh (D.int (x % (m : Int)))) = some (Slot.sh (D.int ((x % (m : Int)).toNat : Int)))
  rw [Int.toNat_of_nonneg h1]
theorem pFdiv_ok (x : Int) {m : Nat} (h : 0 < m) (h' : m < 1073741824) : pFdiv [.int x, nD m] = some (.sh (.int (x / (m : Int)))) := by
  show oI (cDiv x (m : Int)) (x / (m : Int)) = _
  have c : cDiv x (m : Int) = true := by
    unfold cDiv
    rw [decide_eq_true (show (0 : Int) < (m : Int) by omega), decide_eq_true (show (m : Int) < 1073741824 by omega)]
    rfl
  rw [c] <;> rfl
theorem app_nat {W : List Nat} {x : Nat} (h : W.length ≤ 5000) : fAppend (.lst (W.map nD)) [nD x] = some (.lst ((W ++ [x]).map nD), .non) := by
  show (if (W.map nD).length < VL.lim then some (D.lst (W.map nD ++ [nD x]), D.non) else none) = _
  rw [if_pos (by rw [List.length_map]; exact Nat.lt_of_le_of_lt h (by decide)), List.map_append]
  rfl
section
variable {ns : List Int}
abbrev denv (ns : List Int) (W : List Nat) (s2 s3 s4 s5 : Slot) : Env := [.sh (.scr ns), .ow (.lst (W.map nD)), s2, s3, s4, s5]
abbrev d1body : M Fl := sIf (mb (o2 pGt (mv 3) (tm (cst (.int 0)))))
  (thn' (sDrop (mutm "list" 1 fAppend (ac (tm (o2 pMod (tm (cb pInt (ac (mv 3) an))) (tm (cst (.int 24))))) an)))
  (sAsg (o2 pFdiv (mv 3) (tm (cst (.int 24)))) (setS 3)))
  (ret .next)
abbrev d2body : M Fl := thn' (sAsg (o2 pMod (tm (cb pInt (ac (tm (o2 pAdd (tm (o2 pAdd (tm (o2 pAdd (tm (o2 pMul (mv 5) (mv 5))) (tm (o2 pMul (mv 4) (tm (cst (.int 40692))))))) (mv 2))) (tm (cst (.int 7))))) an))) (tm (cst (.int 2147483563)))) (setS 5))
  (sDrop (mutm "list" 1 fAppend (ac (tm (o2 pFdiv (mv 5) (tm (cst (.int 64))))) an)))
theorem e_d1b {W : List Nat} {c : Int} {s2 s4 s5 : Slot} (hW : W.length ≤ 5000) : ∃ W' c', W'.length ≤ W.length + 1 ∧ d1body (denv ns W s2 (.sh (.int c)) s4 s5) = .ok .next (denv ns W' s2 (.sh (.int c')) s4 s5) := by
  obtain ⟨r, _, hr⟩ := pMod_nat c (m := 24) (by decide)
  have hr : pMod [.int c, .int 24] = some (.sh (nD r)) := hr
  have hd : pFdiv [.int c, .int 24] = some (.sh (.int (c / 24))) := pFdiv_ok c (m := 24) (by decide) (by decide)
  have ha := app_nat (W := W) (x := r) hW
  cases hc : decide ((0 : Int) < c) with
  | true =>
    refine ⟨W ++ [r], c / 24, by rw [List.length_append]; exact Nat.le_refl _, ?_⟩
    simp only [runF, entry, thn', sIf, sAsg, sDrop, sRet, sNever, okO, bnd, mOr, mAnd, mNot, mb, VL.mt, mTru, truD, usr, mCall, ac, an, mv, tm, takes, take, VL.ret, aft, asB, o1, o2, cb, mPrim, looks, look, pLt, pGt, pLe, pGe, ii, oI, sI, sB, cst, pIsN, pIs, mMove, mVar, setS, mIf, mAndV, mOrV, mNotV, fin, finR, mTake, kTup, kLst, chk, unpk, gsc, gs0, Slot.frz, meth, mTy, tyD, mOn, mSeq, items, sFor, List.length_cons, List.length_nil, List.map_cons, List.map_nil, List.replicate, List.append_nil, List.cons_append, List.nil_append, List.getElem?_cons_zero, List.getElem?_cons_succ, Option.bind_some, Slot.d?, List.set, Bool.not_true, Bool.not_false, Nat.sub_self, Bool.false_eq_true, ↓reduceIte, Option.map_some, hc, hr, hd, mutm, mUpd, ha, pInt_int, beq_self_eq_true, pTuple]
  | false =>
    refine ⟨W, c, Nat.le_succ _, ?_⟩
    simp only [runF, entry, thn', sIf, sAsg, sDrop, sRet, sNever, okO, bnd, mOr, mAnd, mNot, mb, VL.mt, mTru, truD, usr, mCall, ac, an, mv, tm, takes, take, VL.ret, aft, asB, o1, o2, cb, mPrim, looks, look, pLt, pGt, pLe, pGe, ii, oI, sI, sB, cst, pIsN, pIs, mMove, mVar, setS, mIf, mAndV, mOrV, mNotV, fin, finR, mTake, kTup, kLst, chk, unpk, gsc, gs0, Slot.frz, meth, mTy, tyD, mOn, mSeq, items, sFor, List.length_cons, List.length_nil, List.map_cons, List.map_nil, List.replicate, List.append_nil, List.cons_append, List.nil_append, List.getElem?_cons_zero, List.getElem?_cons_succ, Option.bind_some, Slot.d?, List.set, Bool.not_true, Bool.not_false, Nat.sub_self, Bool.false_eq_true, ↓reduceIte, Option.map_some, hc, pTuple]
theorem e_d1 : ∀ (xs : List Nat) {W : List Nat} {c : Int} {s2 s4 s5 : Slot}, calm s4 → W.length + xs.length ≤ 5000 → ∃ W' c' s4', calm s4' ∧ W'.length ≤ W.length + xs.length ∧ sLoop (setS 4) d1body (xs.map nD) (denv ns W s2 (.sh (.int c)) s4 s5) = .ok .next (denv ns W' s2 (.sh (.int c')) s4' s5)
  | [], W, c, s2, s4, s5, c4, hW => ⟨W, c, s4, c4, Nat.le_refl _, rfl⟩
  | x :: xs, W, c, s2, s4, s5, c4, hW => by
    have hW : W.length + (xs.length + 1) ≤ 5000 := hW
    have g := set_calm (ρ := denv ns W s2 (.sh (.int c)) s4 s5) (i := 4) (d := nD x) rfl c4
    have g : okO (setS 4 (.sh (nD x))) (denv ns W s2 (.sh (.int c)) s4 s5) = .ok .next (denv ns W s2 (.sh (.int c)) (.sh (nD x)) s5) := by
      unfold okO
      rw [g] <;> rfl
    obtain ⟨W1, c1, h1, hb⟩ := e_d1b (ns := ns) (W := W) (c := c) (s2 := s2) (s4 := .sh (nD x)) (s5 := s5) (by omega)
    obtain ⟨W2, c2, s2', k1, k2, k3⟩ := e_d1 xs (W := W1) (c := c1) (s2 := s2) (s4 := .sh (nD x)) (s5 := s5) trivial (by omega)
    refine ⟨W2, c2, s2', k1, by rw [List.length_cons]; omega, ?_⟩
    rw [List.map_cons]
    conv => lhs; unfold sLoop
    rw [bnd_ok g, bnd_ok hb]
    exact k3
theorem e_d2b {W : List Nat} {at_ k num : Nat} {s3 : Slot} (hn : num ≤ 2147483647) (hk : at_ ≤ 100) (hW : W.length ≤ 5000) : ∃ W' num', num' ≤ 2147483647 ∧ W'.length ≤ W.length + 1 ∧ d2body (denv ns W (.sh (nD at_)) s3 (.sh (nD k)) (.sh (nD num))) = .ok .next (denv ns W' (.sh (nD at_)) s3 (.sh (nD k)) (.sh (nD num'))) := by
  have hn' : num ≤ 18446744073709551615 := Nat.le_trans hn (by decide)
  have m1 : pMul [nD num, nD num] = some (.sh (.int ((num : Int) * (num : Int)))) := pMul_int (cMul_l _ hn')
  have m2 : pMul [nD k, .int 40692] = some (.sh (.int ((k : Int) * 40692))) := pMul_int (cMul_r (k : Int) (j := 40692) (by decide))
  have a1 : VL.pAdd [.int ((num : Int) * (num : Int)), .int ((k : Int) * 40692)] = some (.sh (.int ((num : Int) * (num : Int) + (k : Int) * 40692))) := rfl
  generalize hx : (num : Int) * (num : Int) + (k : Int) * 40692 = x at a1
  have a2 : VL.pAdd [.int x, nD at_] = some (.sh (.int (x + (at_ : Int)))) := rfl
  generalize hy : x + (at_ : Int) = y at a2
  have a3 : VL.pAdd [.int y, .int 7] = some (.sh (.int (y + 7))) := rfl
  generalize hz : y + 7 = z at a3
  obtain ⟨r, hr0, hr⟩ := pMod_nat z (m := 2147483563) (by decide)
  have hr : pMod [.int z, .int 2147483563] = some (.sh (nD r)) := hr
  have hd : pFdiv [nD r, .int 64] = some (.sh (nD (r / 64))) := pFdiv_ok (r : Int) (m := 64) (by decide) (by decide)
  have ha := app_nat (W := W) (x := r / 64) hW
  refine ⟨W ++ [r / 64], r, Nat.le_trans (Nat.le_of_lt hr0) (by decide), by rw [List.length_append]; exact Nat.le_refl _, ?_⟩
  simp only [runF, entry, thn', sIf, sAsg, sDrop, sRet, sNever, okO, bnd, mOr, mAnd, mNot, mb, VL.mt, mTru, truD, usr, mCall, ac, an, mv, tm, takes, take, VL.ret, aft, asB, o1, o2, cb, mPrim, looks, look, pLt, pGt, pLe, pGe, ii, oI, sI, sB, cst, pIsN, pIs, mMove, mVar, setS, mIf, mAndV, mOrV, mNotV, fin, finR, mTake, kTup, kLst, chk, unpk, gsc, gs0, Slot.frz, meth, mTy, tyD, mOn, mSeq, items, sFor, List.length_cons, List.length_nil, List.map_cons, List.map_nil, List.replicate, List.append_nil, List.cons_append, List.nil_append, List.getElem?_cons_zero, List.getElem?_cons_succ, Option.bind_some, Slot.d?, List.set, Bool.not_true, Bool.not_false, Nat.sub_self, Bool.false_eq_true, ↓reduceIte, Option.map_some, m1, m2, a1, a2, a3, pInt_int, hr, hd, mutm, mUpd, ha, beq_self_eq_true, pTuple]
theorem e_d2 {at_ : Nat} (hk : at_ ≤ 100) : ∀ (xs : List Nat) {W : List Nat} {num : Nat} {s3 s4 : Slot}, calm s4 → num ≤ 2147483647 → W.length + xs.length ≤ 5000 →
    ∃ W' num' s4', calm s4' ∧ W'.length ≤ W.length + xs.length ∧ sLoop (setS 4) d2body (xs.map nD) (denv ns W (.sh (nD at_)) s3 s4 (.sh (nD num))) = .ok .next (denv ns W' (.sh (nD at_)) s3 s4' (.sh (nD num')))
  | [], W, num, s3, s4, c4, hn, hW => ⟨W, num, s4, c4, Nat.le_refl _, rfl⟩
  | x :: xs, W, num, s3, s4, c4, hn, hW => by
    have hW : W.length + (xs.length + 1) ≤ 5000 := hW
    have g := set_calm (ρ := denv ns W (.sh (nD at_)) s3 s4 (.sh (nD num))) (i := 4) (d := nD x) rfl c4
    have g : okO (setS 4 (.sh (nD x))) (denv ns W (.sh (nD at_)) s3 s4 (.sh (nD num))) = .ok .next (denv ns W (.sh (nD at_)) s3 (.sh (nD x)) (.sh (nD num))) := by
      unfold okO
      rw [g] <;> rfl
    obtain ⟨W1, n1, h0, h1, hb⟩ := e_d2b (ns := ns) (W := W) (at_ := at_) (k := x) (num := num) (s3 := s3) hn hk (by omega)
    obtain ⟨W2, n2, s2', k1, k2, k3⟩ := e_d2 hk xs (W := W1) (num := n1) (s3 := s3) (s4 := .sh (nD x)) trivial h0 (by omega)
    refine ⟨W2, n2, s2', k1, by rw [List.length_cons]; omega, ?_⟩
    rw [List.map_cons]
    conv => lhs; unfold sLoop
    rw [bnd_ok g, bnd_ok hb]
    exact k3
abbrev d3body : M Fl := thn' (sAsg (cb pInt (ac (tm (o2 pIx (mv 0) (mv 2))) an)) (setS 3))
  (thn' (sIf (mb (o2 pLt (mv 3) (tm (cst (.int 0)))))
  (sAsg (o2 (ii fun i j => sI (i - j)) (tm (cst (.int 1))) (mv 3)) (setS 3))
  (ret .next))
  (sIf (mb (o2 pGe (mv 3) (tm (o2 pPow (tm (cst (.int 10))) (tm (cst (.int 18)))))))
  l__law_draws_1
  (thn' (sAsg (o2 pMod (tm (cb pInt (ac (tm (o2 pAdd (tm (o2 pAdd (tm (o2 pMul (mv 3) (tm (cst (.int 48271))))) (tm (o2 pMul (mv 2) (tm (cst (.int 69621))))))) (tm (cst (.int 1))))) an))) (tm (cst (.int 2147483647)))) (setS 5))
  l__law_draws_2)))
theorem rng60 (ρ : Env) : mArgs (ac (tm (cst (.int 60))) an) rng1 ρ = .ok ((List.range 60).map nD) ρ := rng1_ok (k := 60) (small_nat (by decide)) (os := [.tmp (.sh (.int 60))]) rfl rfl
theorem rng6 (ρ : Env) : mArgs (ac (tm (cst (.int 6))) an) rng1 ρ = .ok ((List.range 6).map nD) ρ := rng1_ok (k := 6) (small_nat (by decide)) (os := [.tmp (.sh (.int 6))]) rfl rfl
theorem e_d3b {W : List Nat} {at_ : Nat} {s3 s4 s5 : Slot} (c3 : calm s3) (c4 : calm s4) (c5 : calm s5) (ha : at_ < ns.length) (hk : at_ ≤ 100) (hW : W.length + 60 ≤ 5000) :
    ∃ W' a b c, calm a ∧ calm b ∧ calm c ∧ W'.length ≤ W.length + 60 ∧ d3body (denv ns W (.sh (nD at_)) s3 s4 s5) = .ok .next (denv ns W' (.sh (nD at_)) a b c) := by
  have hi : pIx [.scr ns, nD at_] = some (.sh (.int ns[at_])) := by
    show (L2.atI ns (at_ : Int)).map (fun n => Slot.sh (.int n)) = _
    rw [at_nat, List.getElem?_eq_getElem ha] <;> rfl
  generalize ns[at_] = c at hi
  have g3 := set_calm (ρ := denv ns W (.sh (nD at_)) s3 s4 s5) (i := 3) (d := .int c) rfl c3
  have g3 : setS 3 (.sh (.int c)) (denv ns W (.sh (nD at_)) s3 s4 s5) = .ok () (denv ns W (.sh (nD at_)) (.sh (.int c)) s4 s5) := g3
  have a1 : sAsg (cb pInt (ac (tm (o2 pIx (mv 0) (mv 2))) an)) (setS 3) (denv ns W (.sh (nD at_)) s3 s4 s5) = .ok .next (denv ns W (.sh (nD at_)) (.sh (.int c)) s4 s5) := by
    have u : cb pInt (ac (tm (o2 pIx (mv 0) (mv 2))) an) (denv ns W (.sh (nD at_)) s3 s4 s5) = .ok (.sh (.int c)) (denv ns W (.sh (nD at_)) s3 s4 s5) := by
      simp only [runF, entry, thn', sIf, sAsg, sDrop, sRet, sNever, okO, bnd, mOr, mAnd, mNot, mb, VL.mt, mTru, truD, usr, mCall, ac, an, mv, tm, takes, take, VL.ret, aft, asB, o1, o2, cb, mPrim, looks, look, pLt, pGt, pLe, pGe, ii, oI, sI, sB, cst, pIsN, pIs, mMove, mVar, setS, mIf, mAndV, mOrV, mNotV, fin, finR, mTake, kTup, kLst, chk, unpk, gsc, gs0, Slot.frz, meth, mTy, tyD, mOn, mSeq, items, sFor, List.length_cons, List.length_nil, List.map_cons, List.map_nil, List.replicate, List.append_nil, List.cons_append, List.nil_append, List.getElem?_cons_zero, List.getElem?_cons_succ, Option.bind_some, Slot.d?, List.set, Bool.not_true, Bool.not_false, Nat.sub_self, Bool.false_eq_true, ↓reduceIte, Option.map_some, hi, pInt_int, pTuple]
    unfold sAsg
    rw [bnd_ok u]
    unfold okO
    rw [g3]
  have a2 : ∃ c' : Int, sIf (mb (o2 pLt (mv 3) (tm (cst (.int 0))))) (sAsg (o2 (ii fun i j => sI (i - j)) (tm (cst (.int 1))) (mv 3)) (setS 3)) (VL.ret .next) (denv ns W (.sh (nD at_)) (.sh (.int c)) s4 s5) = .ok .next (denv ns W (.sh (nD at_)) (.sh (.int c')) s4 s5) := by
    cases hc : decide (c < 0) with
    | true => exact ⟨1 - c, by simp only [runF, entry, thn', sIf, sAsg, sDrop, sRet, sNever, okO, bnd, mOr, mAnd, mNot, mb, VL.mt, mTru, truD, usr, mCall, ac, an, mv, tm, takes, take, VL.ret, aft, asB, o1, o2, cb, mPrim, looks, look, pLt, pGt, pLe, pGe, ii, oI, sI, sB, cst, pIsN, pIs, mMove, mVar, setS, mIf, mAndV, mOrV, mNotV, fin, finR, mTake, kTup, kLst, chk, unpk, gsc, gs0, Slot.frz, meth, mTy, tyD, mOn, mSeq, items, sFor, List.length_cons, List.length_nil, List.map_cons, List.map_nil, List.replicate, List.append_nil, List.cons_append, List.nil_append, List.getElem?_cons_zero, List.getElem?_cons_succ, Option.bind_some, Slot.d?, List.set, Bool.not_true, Bool.not_false, Nat.sub_self, Bool.false_eq_true, ↓reduceIte, Option.map_some, hc, pTuple]⟩
    | false => exact ⟨c, by simp only [runF, entry, thn', sIf, sAsg, sDrop, sRet, sNever, okO, bnd, mOr, mAnd, mNot, mb, VL.mt, mTru, truD, usr, mCall, ac, an, mv, tm, takes, take, VL.ret, aft, asB, o1, o2, cb, mPrim, looks, look, pLt, pGt, pLe, pGe, ii, oI, sI, sB, cst, pIsN, pIs, mMove, mVar, setS, mIf, mAndV, mOrV, mNotV, fin, finR, mTake, kTup, kLst, chk, unpk, gsc, gs0, Slot.frz, meth, mTy, tyD, mOn, mSeq, items, sFor, List.length_cons, List.length_nil, List.map_cons, List.map_nil, List.replicate, List.append_nil, List.cons_append, List.nil_append, List.getElem?_cons_zero, List.getElem?_cons_succ, Option.bind_some, Slot.d?, List.set, Bool.not_true, Bool.not_false, Nat.sub_self, Bool.false_eq_true, ↓reduceIte, Option.map_some, hc, pTuple]⟩
  obtain ⟨c', a2⟩ := a2
  have hp : ∃ G : Int, pPow [.int 10, .int 18] = some (.sh (.int G)) := ⟨_, rfl⟩
  obtain ⟨G, hp⟩ := hp
  have fin : ∀ (f : Fl) (ρ : Env), sIf (mb (o2 pGe (mv 3) (tm (o2 pPow (tm (cst (.int 10))) (tm (cst (.int 18)))))))
      l__law_draws_1
      (thn' (sAsg (o2 pMod (tm (cb pInt (ac (tm (o2 pAdd (tm (o2 pAdd (tm (o2 pMul (mv 3) (tm (cst (.int 48271))))) (tm (o2 pMul (mv 2) (tm (cst (.int 69621))))))) (tm (cst (.int 1))))) an))) (tm (cst (.int 2147483647)))) (setS 5))
      l__law_draws_2) (denv ns W (.sh (nD at_)) (.sh (.int c')) s4 s5) = .ok f ρ → d3body (denv ns W (.sh (nD at_)) s3 s4 s5) = .ok f ρ := by
    intro f ρ hf
    unfold d3body thn'
    rw [bnd_ok a1]
    dsimp only
    rw [bnd_ok a2]
    exact hf
  cases hG : decide (G ≤ c') with
  | true =>
    obtain ⟨W1, c1, t4, k1, k2, k3⟩ := e_d1 (ns := ns) (List.range 60) (W := W) (c := c') (s2 := .sh (nD at_)) (s4 := s4) (s5 := s5) c4 (by rw [List.length_range]; exact hW)
    refine ⟨W1, .sh (.int c1), t4, s5, trivial, k1, c5, by rw [List.length_range] at k2; exact k2, fin _ _ ?_⟩
    have t : mb (o2 pGe (mv 3) (tm (o2 pPow (tm (cst (.int 10))) (tm (cst (.int 18)))))) (denv ns W (.sh (nD at_)) (.sh (.int c')) s4 s5) = .ok true (denv ns W (.sh (nD at_)) (.sh (.int c')) s4 s5) := by
      simp only [runF, entry, thn', sIf, sAsg, sDrop, sRet, sNever, okO, bnd, mOr, mAnd, mNot, mb, VL.mt, mTru, truD, usr, mCall, ac, an, mv, tm, takes, take, VL.ret, aft, asB, o1, o2, cb, mPrim, looks, look, pLt, pGt, pLe, pGe, ii, oI, sI, sB, cst, pIsN, pIs, mMove, mVar, setS, mIf, mAndV, mOrV, mNotV, fin, finR, mTake, kTup, kLst, chk, unpk, gsc, gs0, Slot.frz, meth, mTy, tyD, mOn, mSeq, items, sFor, List.length_cons, List.length_nil, List.map_cons, List.map_nil, List.replicate, List.append_nil, List.cons_append, List.nil_append, List.getElem?_cons_zero, List.getElem?_cons_succ, Option.bind_some, Slot.d?, List.set, Bool.not_true, Bool.not_false, Nat.sub_self, Bool.false_eq_true, ↓reduceIte, Option.map_some, hp, hG, pTuple]
    unfold sIf
    rw [bnd_ok t]
    simp only [↓reduceIte]
    unfold l__law_draws_1 sFor
    rw [bnd_ok (rng60 _)]
    exact k3
  | false =>
    have m1 : pMul [.int c', .int 48271] = some (.sh (.int (c' * 48271))) := pMul_int (cMul_r c' (j := 48271) (by decide))
    have m2 : pMul [nD at_, .int 69621] = some (.sh (.int ((at_ : Int) * 69621))) := pMul_int (cMul_r (at_ : Int) (j := 69621) (by decide))
    have p1 : VL.pAdd [.int (c' * 48271), .int ((at_ : Int) * 69621)] = some (.sh (.int (c' * 48271 + (at_ : Int) * 69621))) := rfl
    generalize hx : c' * 48271 + (at_ : Int) * 69621 = x at p1
    have p2 : VL.pAdd [.int x, .int 1] = some (.sh (.int (x + 1))) := rfl
    generalize hy : x + 1 = y at p2
    obtain ⟨r, hr0, hr⟩ := pMod_nat y (m := 2147483647) (by decide)
    have hr : pMod [.int y, .int 2147483647] = some (.sh (nD r)) := hr
    have g5 := set_calm (ρ := denv ns W (.sh (nD at_)) (.sh (.int c')) s4 s5) (i := 5) (d := nD r) rfl c5
    have a3 : sAsg (o2 pMod (tm (cb pInt (ac (tm (o2 pAdd (tm (o2 pAdd (tm (o2 pMul (mv 3) (tm (cst (.int 48271))))) (tm (o2 pMul (mv 2) (tm (cst (.int 69621))))))) (tm (cst (.int 1))))) an))) (tm (cst (.int 2147483647)))) (setS 5) (denv ns W (.sh (nD at_)) (.sh (.int c')) s4 s5) = .ok .next (denv ns W (.sh (nD at_)) (.sh (.int c')) s4 (.sh (nD r))) := by
      have u : o2 pMod (tm (cb pInt (ac (tm (o2 pAdd (tm (o2 pAdd (tm (o2 pMul (mv 3) (tm (cst (.int 48271))))) (tm (o2 pMul (mv 2) (tm (cst (.int 69621))))))) (tm (cst (.int 1))))) an))) (tm (cst (.int 2147483647))) (denv ns W (.sh (nD at_)) (.sh (.int c')) s4 s5) = .ok (.sh (nD r)) (denv ns W (.sh (nD at_)) (.sh (.int c')) s4 s5) := by
        simp only [runF, entry, thn', sIf, sAsg, sDrop, sRet, sNever, okO, bnd, mOr, mAnd, mNot, mb, VL.mt, mTru, truD, usr, mCall, ac, an, mv, tm, takes, take, VL.ret, aft, asB, o1, o2, cb, mPrim, looks, look, pLt, pGt, pLe, pGe, ii, oI, sI, sB, cst, pIsN, pIs, mMove, mVar, setS, mIf, mAndV, mOrV, mNotV, fin, finR, mTake, kTup, kLst, chk, unpk, gsc, gs0, Slot.frz, meth, mTy, tyD, mOn, mSeq, items, sFor, List.length_cons, List.length_nil, List.map_cons, List.map_nil, List.replicate, List.append_nil, List.cons_append, List.nil_append, List.getElem?_cons_zero, List.getElem?_cons_succ, Option.bind_some, Slot.d?, List.set, Bool.not_true, Bool.not_false, Nat.sub_self, Bool.false_eq_true, ↓reduceIte, Option.map_some, m1, m2, p1, p2, pInt_int, hr, pTuple]
      unfold sAsg
      rw [bnd_ok u]
      unfold okO
      rw [g5] <;> rfl
    obtain ⟨W1, n1, t4, k1, k2, k3⟩ := e_d2 (ns := ns) hk (List.range 6) (W := W) (num := r) (s3 := .sh (.int c')) (s4 := s4) c4 (Nat.le_of_lt hr0) (by rw [List.length_range]; omega)
    refine ⟨W1, .sh (.int c'), t4, .sh (nD n1), trivial, k1, trivial, by rw [List.length_range] at k2; omega, fin _ _ ?_⟩
    have t : mb (o2 pGe (mv 3) (tm (o2 pPow (tm (cst (.int 10))) (tm (cst (.int 18)))))) (denv ns W (.sh (nD at_)) (.sh (.int c')) s4 s5) = .ok false (denv ns W (.sh (nD at_)) (.sh (.int c')) s4 s5) := by
      simp only [runF, entry, thn', sIf, sAsg, sDrop, sRet, sNever, okO, bnd, mOr, mAnd, mNot, mb, VL.mt, mTru, truD, usr, mCall, ac, an, mv, tm, takes, take, VL.ret, aft, asB, o1, o2, cb, mPrim, looks, look, pLt, pGt, pLe, pGe, ii, oI, sI, sB, cst, pIsN, pIs, mMove, mVar, setS, mIf, mAndV, mOrV, mNotV, fin, finR, mTake, kTup, kLst, chk, unpk, gsc, gs0, Slot.frz, meth, mTy, tyD, mOn, mSeq, items, sFor, List.length_cons, List.length_nil, List.map_cons, List.map_nil, List.replicate, List.append_nil, List.cons_append, List.nil_append, List.getElem?_cons_zero, List.getElem?_cons_succ, Option.bind_some, Slot.d?, List.set, Bool.not_true, Bool.not_false, Nat.sub_self, Bool.false_eq_true, ↓reduceIte, Option.map_some, hp, hG, pTuple]
    unfold sIf
    rw [bnd_ok t]
    simp only [Bool.false_eq_true, ↓reduceIte]
    unfold thn'
    rw [bnd_ok a3]
    dsimp only
    unfold l__law_draws_2 sFor
    rw [bnd_ok (rng6 _)]
    exact k3
theorem e_d3 : ∀ (xs : List Nat) {W : List Nat} {s2 s3 s4 s5 : Slot}, calm s2 → calm s3 → calm s4 → calm s5 → (∀ x ∈ xs, x < ns.length ∧ x ≤ 100) → W.length + 60 * xs.length ≤ 5000 →
    ∃ W' a b c d, sLoop (setS 2) d3body (xs.map nD) (denv ns W s2 s3 s4 s5) = .ok .next (denv ns W' a b c d)
  | [], W, s2, s3, s4, s5, _, _, _, _, _, _ => ⟨W, s2, s3, s4, s5, rfl⟩
  | x :: xs, W, s2, s3, s4, s5, c2, c3, c4, c5, hx, hW => by
    have hW : W.length + 60 * (xs.length + 1) ≤ 5000 := hW
    have g := set_calm (ρ := denv ns W s2 s3 s4 s5) (i := 2) (d := nD x) rfl c2
    have g : okO (setS 2 (.sh (nD x))) (denv ns W s2 s3 s4 s5) = .ok .next (denv ns W (.sh (nD x)) s3 s4 s5) := by
      unfold okO
      rw [g] <;> rfl
    obtain ⟨h1, h2⟩ := hx x List.mem_cons_self
    obtain ⟨W1, a, b, c, ca, cb', cc, hl, hb⟩ := e_d3b (ns := ns) (W := W) c3 c4 c5 h1 h2 (by omega)
    obtain ⟨W2, a', b', c', d', hk⟩ := e_d3 xs (W := W1) (s2 := .sh (nD x)) trivial ca cb' cc (fun y hy => hx y (List.mem_cons_of_mem _ hy)) (by omega)
    refine ⟨W2, a', b', c', d', ?_⟩
    rw [List.map_cons]
    conv => lhs; unfold sLoop
    rw [bnd_ok g, bnd_ok hb]
    exact hk
theorem r_draws (hn : ns.length ≤ 63) : ∃ W : List Nat, run__law_draws [.scr ns] = .ok (.ow (.lst (W.map nD))) .non := by
  obtain ⟨W, a, b, c, d, h⟩ := e_d3 (ns := ns) (List.range ns.length) (W := []) (s2 := .un) (s3 := .un) (s4 := .un) (s5 := .un) trivial trivial trivial trivial (fun x hx => ⟨List.mem_range.mp hx, by have := List.mem_range.mp hx; omega⟩) (by rw [List.length_range, List.length_nil]; omega)
  have hm : mArgs (ac (tm (cb pMin2 (ac (tm (cb pLen (ac (mv 0) an))) (ac (tm (cst (.int 63))) an)))) an) rng1 (denv ns [] .un .un .un .un) = .ok ((List.range ns.length).map nD) (denv ns [] .un .un .un .un) := by
    refine rng1_ok (small_nat (by omega)) (os := [.tmp (.sh (.int (ns.length : Int)))]) ?_ rfl
    have p1 : pLen [.scr ns] = some (.sh (.int (ns.length : Int))) := rfl
    have p2 : pMin2 [.int (ns.length : Int), .int 63] = some (.sh (.int (ns.length : Int))) := by
      show some (Slot.sh (D.int (if (63 : Int) < (ns.length : Int) then 63 else (ns.length : Int)))) = _
      rw [if_neg (by omega)]
    simp only [runF, entry, thn', sIf, sAsg, sDrop, sRet, sNever, okO, bnd, mOr, mAnd, mNot, mb, VL.mt, mTru, truD, usr, mCall, ac, an, mv, tm, takes, take, VL.ret, aft, asB, o1, o2, cb, mPrim, looks, look, pLt, pGt, pLe, pGe, ii, oI, sI, sB, cst, pIsN, pIs, mMove, mVar, setS, mIf, mAndV, mOrV, mNotV, fin, finR, mTake, kTup, kLst, chk, unpk, gsc, gs0, Slot.frz, meth, mTy, tyD, mOn, mSeq, items, sFor, List.length_cons, List.length_nil, List.map_cons, List.map_nil, List.replicate, List.append_nil, List.cons_append, List.nil_append, List.getElem?_cons_zero, List.getElem?_cons_succ, Option.bind_some, Slot.d?, List.set, Bool.not_true, Bool.not_false, Nat.sub_self, Bool.false_eq_true, ↓reduceIte, Option.map_some, p1, p2, pTuple]
  have hl : l__law_draws_3 [.sh (.scr ns), .ow (.lst []), .un, .un, .un, .un] = .ok .next (denv ns W a b c d) := by
    have e : ([.sh (.scr ns), .ow (.lst []), .un, .un, .un, .un] : Env) = denv ns [] .un .un .un .un := rfl
    rw [e]
    unfold l__law_draws_3 sFor
    rw [bnd_ok hm]
    exact h
  refine ⟨W.reverse, ?_⟩
  have hr : fReverse (.lst (W.map nD)) [] = some (.lst (W.reverse.map nD), .non) := by
    show some (D.lst (W.map nD).reverse, D.non) = _
    rw [List.map_reverse]
  have hlim : decide (0 ≤ lim) = true := by decide
  unfold run__law_draws m__law_draws
  simp only [runF, entry, thn', sIf, sAsg, sDrop, sRet, sNever, okO, bnd, mOr, mAnd, mNot, mb, VL.mt, mTru, truD, usr, mCall, ac, an, mv, tm, takes, take, VL.ret, aft, asB, o1, o2, cb, mPrim, looks, look, pLt, pGt, pLe, pGe, ii, oI, sI, sB, cst, pIsN, pIs, mMove, mVar, setS, mIf, mAndV, mOrV, mNotV, fin, finR, mTake, kTup, kLst, chk, unpk, gsc, gs0, Slot.frz, meth, mTy, tyD, mOn, mSeq, items, sFor, List.length_cons, List.length_nil, List.map_cons, List.map_nil, List.replicate, List.append_nil, List.cons_append, List.nil_append, List.getElem?_cons_zero, List.getElem?_cons_succ, Option.bind_some, Slot.d?, List.set, Bool.not_true, Bool.not_false, Nat.sub_self, Bool.false_eq_true, ↓reduceIte, Option.map_some, hlim, hl, mutm, mUpd, hr, beq_self_eq_true, pTuple]
end
end VLL
set_option Elab.async false
set_option linter.all false
set_option maxRecDepth 1000000
set_option maxHeartbeats 0
/-! P71u: _law_arms, one turn. -/
namespace VLL
open VL
theorem set_any {ρ : Env} {i : Nat} {s : Slot} {d : D} (h : ρ[i]? = some s) (c : notBr s = true) : setS i (.sh d) ρ = .ok () (ρ.set i (.sh d)) := by
  unfold setS
  rw [h]
  cases s <;> first | rfl | cases c
theorem set_anyO {ρ : Env} {i : Nat} {s : Slot} {d : D} (h : ρ[i]? = some s) (c : notBr s = true) : setS i (.ow d) ρ = .ok () (ρ.set i (.ow d)) := by
  unfold setS
  rw [h]
  cases s <;> first | rfl | cases c
theorem pAdd_nn (a b : Nat) : VL.pAdd [nD a, nD b] = some (.sh (nD (a + b))) := by
  show some (Slot.sh (D.int ((a : Int) + (b : Int)))) = _
  rw [← Int.natCast_add]
theorem pMul_nn {a : Nat} (b : Nat) (h : a ≤ 1000) : pMul [nD a, nD b] = some (.sh (nD (a * b))) := by
  have e : pMul [.int (a : Int), .int (b : Int)] = some (.sh (.int ((a : Int) * (b : Int)))) := pMul_int (cMul_l _ (Nat.le_trans h (by decide)))
  rw [e, ← Int.natCast_mul]
theorem pMod_nn (x : Nat) {m : Nat} (h : 0 < m) : pMod [nD x, nD m] = some (.sh (nD (x % m))) := by
  show oI (cMod (x : Int) (m : Int)) ((x : Int) % (m : Int)) = _
  have c : cMod (x : Int) (m : Int) = true := decide_eq_true (by omega)
  unfold oI
  rw [c] <;> rfl
theorem sAsg_ok {m : M Slot} {i : Nat} {d : D} {ρ ρ1 ρ2 : Env} {s : Slot} (h : m ρ = .ok (.sh d) ρ1) (g : ρ1[i]? = some s) (c : notBr s = true) (e : ρ1.set i (.sh d) = ρ2) : sAsg m (setS i) ρ = .ok .next ρ2 := by
  unfold sAsg
  rw [bnd_ok h]
  unfold okO
  rw [set_any g c, e]
theorem sAsg_okO {m : M Slot} {i : Nat} {d : D} {ρ ρ1 ρ2 : Env} {s : Slot} (h : m ρ = .ok (.ow d) ρ1) (g : ρ1[i]? = some s) (c : notBr s = true) (e : ρ1.set i (.ow d) = ρ2) : sAsg m (setS i) ρ = .ok .next ρ2 := by
  unfold sAsg
  rw [bnd_ok h]
  unfold okO
  rw [set_anyO g c, e]
theorem thn_ok {a b : M Fl} {ρ ρ1 : Env} (h : a ρ = .ok .next ρ1) : thn' a b ρ = b ρ1 := by
  unfold thn'
  rw [bnd_ok h]
section
variable {long k arms size shift arm step one : Nat} {W : List Nat} {ls : List (Nat × Nat)} {far : List Nat} {s5 s8 s9 s10 s11 : Slot}
abbrev aenv (W : List Nat) (long arms size shift : Nat) (s5 : Slot) (ls : List (Nat × Nat)) (far : List Nat) (s8 s9 s10 s11 : Slot) : Env :=
  [.br (.lst (W.map nD)), .sh (nD long), .sh (nD arms), .sh (nD size), .sh (nD shift), s5, .ow (.lst (ls.map prD)), .ow (.lst (far.map nD)), s8, s9, s10, s11]
def othA (k arm step : Nat) : Nat := if step < k then 2 + arm * k + step else 1
def farA (k size shift arm : Nat) (far : List Nat) (step : Nat) : List Nat := if step < k then far.set ((othA k arm step + shift) % size) (k - step) else far
def pairA (k size shift arm one step : Nat) : Nat × Nat := ((one + shift) % size, (othA k arm step + shift) % size)
abbrev b2 : M Fl := sIf (mb (o2 pLt (mv 9) (tm (o2 (ii fun i j => sI (i - j)) (mv 1) (tm (cst (.int 1)))))))
  (thn' (sAsg (o2 pAdd (tm (o2 pAdd (tm (cst (.int 2))) (tm (o2 pMul (mv 5) (tm (o2 (ii fun i j => sI (i - j)) (mv 1) (tm (cst (.int 1))))))))) (mv 9)) (setS 10))
  (sAsg (o2 (ii fun i j => sI (i - j)) (tm (o2 (ii fun i j => sI (i - j)) (mv 1) (tm (cst (.int 1))))) (mv 9)) (setSub 7 (tm (o2 pMod (tm (cb pInt (ac (tm (o2 pAdd (mv 10) (mv 4))) an))) (mv 3))) setF)))
  (ret .next)
theorem e_b2 (hlk : (long : Int) - 1 = (k : Int)) (hz : 0 < size) (hf : far.length = size) (h1 : arm ≤ 1000) :
    b2 (aenv W long arms size shift (.sh (nD arm)) ls far s8 (.sh (nD step)) (.sh (nD 1)) s11) = .ok .next (aenv W long arms size shift (.sh (nD arm)) ls (farA k size shift arm far step) s8 (.sh (nD step)) (.sh (nD (othA k arm step))) s11) := by
  have d : decide ((step : Int) < (k : Int)) = decide (step < k) := dec_lt step k
  have m := pMul_nn (a := arm) k h1
  have a1 : VL.pAdd [.int 2, nD (arm * k)] = some (.sh (nD (2 + arm * k))) := pAdd_nn 2 (arm * k)
  have a2 := pAdd_nn (2 + arm * k) step
  have a3 := pAdd_nn (2 + arm * k + step) shift
  have md := pMod_nn (2 + arm * k + step + shift) hz
  unfold b2 farA othA
  by_cases h : step < k
  · rw [if_pos h, if_pos h]
    rw [decide_eq_true h] at d
    have e : (k : Int) - (step : Int) = ((k - step : Nat) : Int) := by omega
    have st : setF (.lst (far.map nD)) (nD ((2 + arm * k + step + shift) % size)) (nD (k - step)) = some (.lst ((far.set ((2 + arm * k + step + shift) % size) (k - step)).map nD)) := by
      rw [set_lst (by rw [List.length_map, hf]; exact Nat.mod_lt _ hz), List.map_set]
    generalize 2 + arm * k + step = oo at a2 a3 md st ⊢
    generalize (oo + shift) % size = ix at md st ⊢
    simp only [runF, entry, thn', sIf, sAsg, sDrop, sRet, sNever, okO, bnd, mOr, mAnd, mNot, mb, VL.mt, mTru, truD, usr, mCall, ac, an, mv, tm, takes, take, VL.ret, aft, asB, o1, o2, cb, mPrim, looks, look, pLt, pGt, pLe, pGe, ii, oI, sI, sB, cst, pIsN, pIs, mMove, mVar, setS, mIf, mAndV, mOrV, mNotV, fin, finR, mTake, kTup, kLst, chk, unpk, gsc, gs0, Slot.frz, meth, mTy, tyD, mOn, mSeq, items, sFor, List.length_cons, List.length_nil, List.map_cons, List.map_nil, List.replicate, List.append_nil, List.cons_append, List.nil_append, List.getElem?_cons_zero, List.getElem?_cons_succ, Option.bind_some, Slot.d?, List.set, Bool.not_true, Bool.not_false, Nat.sub_self, Bool.false_eq_true, ↓reduceIte, Option.map_some, hlk, d, m, a1, a2, a3, pInt_int, md, e, setSub, mUpd, subF, st, pTuple]
  · rw [if_neg h, if_neg h]
    rw [decide_eq_false h] at d
    simp only [runF, entry, thn', sIf, sAsg, sDrop, sRet, sNever, okO, bnd, mOr, mAnd, mNot, mb, VL.mt, mTru, truD, usr, mCall, ac, an, mv, tm, takes, take, VL.ret, aft, asB, o1, o2, cb, mPrim, looks, look, pLt, pGt, pLe, pGe, ii, oI, sI, sB, cst, pIsN, pIs, mMove, mVar, setS, mIf, mAndV, mOrV, mNotV, fin, finR, mTake, kTup, kLst, chk, unpk, gsc, gs0, Slot.frz, meth, mTy, tyD, mOn, mSeq, items, sFor, List.length_cons, List.length_nil, List.map_cons, List.map_nil, List.replicate, List.append_nil, List.cons_append, List.nil_append, List.getElem?_cons_zero, List.getElem?_cons_succ, Option.bind_some, Slot.d?, List.set, Bool.not_true, Bool.not_false, Nat.sub_self, Bool.false_eq_true, ↓reduceIte, Option.map_some, hlk, d, pTuple]
theorem e_b3 (hz : 0 < size) (other : Nat) : mTake (ac (tm (o2 pMod (tm (cb pInt (ac (tm (o2 pAdd (mv 8) (mv 4))) an))) (mv 3))) (ac (tm (o2 pMod (tm (cb pInt (ac (tm (o2 pAdd (mv 10) (mv 4))) an))) (mv 3))) an)) kLst (aenv W long arms size shift s5 ls far (.sh (nD one)) s9 (.sh (nD other)) s11) =
    .ok (.ow (.lst [nD ((one + shift) % size), nD ((other + shift) % size)])) (aenv W long arms size shift s5 ls far (.sh (nD one)) s9 (.sh (nD other)) s11) := by
  have a1 := pAdd_nn one shift
  have a2 := pAdd_nn other shift
  have m1 := pMod_nn (one + shift) hz
  have m2 := pMod_nn (other + shift) hz
  have hlim : decide (2 ≤ lim) = true := by decide
  generalize one + shift = x at *
  generalize other + shift = y at *
  generalize x % size = x' at *
  generalize y % size = y' at *
  simp only [runF, entry, thn', sIf, sAsg, sDrop, sRet, sNever, okO, bnd, mOr, mAnd, mNot, mb, VL.mt, mTru, truD, usr, mCall, ac, an, mv, tm, takes, take, VL.ret, aft, asB, o1, o2, cb, mPrim, looks, look, pLt, pGt, pLe, pGe, ii, oI, sI, sB, cst, pIsN, pIs, mMove, mVar, setS, mIf, mAndV, mOrV, mNotV, fin, finR, mTake, kTup, kLst, chk, unpk, gsc, gs0, Slot.frz, meth, mTy, tyD, mOn, mSeq, items, sFor, List.length_cons, List.length_nil, List.map_cons, List.map_nil, List.replicate, List.append_nil, List.cons_append, List.nil_append, List.getElem?_cons_zero, List.getElem?_cons_succ, Option.bind_some, Slot.d?, List.set, Bool.not_true, Bool.not_false, Nat.sub_self, Bool.false_eq_true, ↓reduceIte, Option.map_some, a1, a2, m1, m2, pInt_int, hlim, pTuple]
theorem e_b4 (a b : Nat) : ∃ W' c d, ((c, d) = (a, b) ∨ (c, d) = (b, a)) ∧ sIf (mb (o2 pEq (tm (usr true run__law_take [] (ac (mv 0) (ac (tm (cst (.int 2))) an)))) (tm (cst (.int 1))))) (sDrop (mutm "list" 11 fReverse an)) (VL.ret .next) (aenv W long arms size shift s5 ls far s8 s9 s10 (.ow (.lst [nD a, nD b]))) =
    .ok .next (aenv W' long arms size shift s5 ls far s8 s9 s10 (.ow (.lst [nD c, nD d]))) := by
  have t : run__law_take [.lst (W.map nD), .int 2] = .ok (.sh (nD (takeN W 2).1)) (.lst ((takeN W 2).2.map nD)) := r_take (W := W) (m := 2) (by decide)
  have d1 : decide (((takeN W 2).1 : Int) = 1) = decide ((takeN W 2).1 = 1) := dec_eq (takeN W 2).1 1
  generalize (takeN W 2).1 = x at t d1
  generalize (takeN W 2).2 = V at t
  by_cases h : x = 1
  · rw [decide_eq_true h] at d1
    refine ⟨V, b, a, Or.inr rfl, ?_⟩
    have fr : fReverse (.lst [nD a, nD b]) [] = some (.lst [nD b, nD a], .non) := rfl
    simp only [runF, entry, thn', sIf, sAsg, sDrop, sRet, sNever, okO, bnd, mOr, mAnd, mNot, mb, VL.mt, mTru, truD, usr, mCall, ac, an, mv, tm, takes, take, VL.ret, aft, asB, o1, o2, cb, mPrim, looks, look, pLt, pGt, pLe, pGe, ii, oI, sI, sB, cst, pIsN, pIs, mMove, mVar, setS, mIf, mAndV, mOrV, mNotV, fin, finR, mTake, kTup, kLst, chk, unpk, gsc, gs0, Slot.frz, meth, mTy, tyD, mOn, mSeq, items, sFor, List.length_cons, List.length_nil, List.map_cons, List.map_nil, List.replicate, List.append_nil, List.cons_append, List.nil_append, List.getElem?_cons_zero, List.getElem?_cons_succ, Option.bind_some, Slot.d?, List.set, Bool.not_true, Bool.not_false, Nat.sub_self, Bool.false_eq_true, ↓reduceIte, Option.map_some, mCallT, t, pEq_int, d1, mutm, mUpd, fr, beq_self_eq_true, pTuple]
  · rw [decide_eq_false h] at d1
    refine ⟨V, a, b, Or.inl rfl, ?_⟩
    simp only [runF, entry, thn', sIf, sAsg, sDrop, sRet, sNever, okO, bnd, mOr, mAnd, mNot, mb, VL.mt, mTru, truD, usr, mCall, ac, an, mv, tm, takes, take, VL.ret, aft, asB, o1, o2, cb, mPrim, looks, look, pLt, pGt, pLe, pGe, ii, oI, sI, sB, cst, pIsN, pIs, mMove, mVar, setS, mIf, mAndV, mOrV, mNotV, fin, finR, mTake, kTup, kLst, chk, unpk, gsc, gs0, Slot.frz, meth, mTy, tyD, mOn, mSeq, items, sFor, List.length_cons, List.length_nil, List.map_cons, List.map_nil, List.replicate, List.append_nil, List.cons_append, List.nil_append, List.getElem?_cons_zero, List.getElem?_cons_succ, Option.bind_some, Slot.d?, List.set, Bool.not_true, Bool.not_false, Nat.sub_self, Bool.false_eq_true, ↓reduceIte, Option.map_some, mCallT, t, pEq_int, d1, pTuple]
theorem app_pr {p : Nat × Nat} (h : ls.length ≤ 5000) : fAppend (.lst (ls.map prD)) [.tup [nD p.1, nD p.2]] = some (.lst ((ls ++ [p]).map prD), .non) := by
  show (if (ls.map prD).length < VL.lim then some (D.lst (ls.map prD ++ [prD p]), D.non) else none) = _
  rw [if_pos (by rw [List.length_map]; exact Nat.lt_of_le_of_lt h (by decide)), List.map_append]
  rfl
theorem e_b5 (h : ls.length ≤ 5000) (c d : Nat) : sDrop (mutm "list" 6 fAppend (ac (tm (cb pTuple (ac (mv 11) an))) an)) (aenv W long arms size shift s5 ls far s8 s9 s10 (.ow (.lst [nD c, nD d]))) =
    .ok .next (aenv W long arms size shift s5 (ls ++ [(c, d)]) far s8 s9 s10 (.ow (.lst [nD c, nD d]))) := by
  have a := app_pr (p := (c, d)) h
  dsimp only at a
  simp only [runF, entry, thn', sIf, sAsg, sDrop, sRet, sNever, okO, bnd, mOr, mAnd, mNot, mb, VL.mt, mTru, truD, usr, mCall, ac, an, mv, tm, takes, take, VL.ret, aft, asB, o1, o2, cb, mPrim, looks, look, pLt, pGt, pLe, pGe, ii, oI, sI, sB, cst, pIsN, pIs, mMove, mVar, setS, mIf, mAndV, mOrV, mNotV, fin, finR, mTake, kTup, kLst, chk, unpk, gsc, gs0, Slot.frz, meth, mTy, tyD, mOn, mSeq, items, sFor, List.length_cons, List.length_nil, List.map_cons, List.map_nil, List.replicate, List.append_nil, List.cons_append, List.nil_append, List.getElem?_cons_zero, List.getElem?_cons_succ, Option.bind_some, Slot.d?, List.set, Bool.not_true, Bool.not_false, Nat.sub_self, Bool.false_eq_true, ↓reduceIte, Option.map_some, mutm, mUpd, a, beq_self_eq_true, pTuple]
abbrev abody : M Fl := thn' (sAsg (cst (.int 1)) (setS 10)) (thn' b2
  (thn' (sAsg (mTake (ac (tm (o2 pMod (tm (cb pInt (ac (tm (o2 pAdd (mv 8) (mv 4))) an))) (mv 3))) (ac (tm (o2 pMod (tm (cb pInt (ac (tm (o2 pAdd (mv 10) (mv 4))) an))) (mv 3))) an)) kLst) (setS 11))
  (thn' (sIf (mb (o2 pEq (tm (usr true run__law_take [] (ac (mv 0) (ac (tm (cst (.int 2))) an)))) (tm (cst (.int 1)))))
  (sDrop (mutm "list" 11 fReverse an))
  (ret .next))
  (thn' (sDrop (mutm "list" 6 fAppend (ac (tm (cb pTuple (ac (mv 11) an))) an)))
  (sAsg (mVar 10) (setS 8))))))
theorem e_abody (hlk : (long : Int) - 1 = (k : Int)) (hz : 0 < size) (hf : far.length = size) (h1 : arm ≤ 1000) (hl : ls.length ≤ 5000) (c10 : notBr s10 = true) (c11 : notBr s11 = true) :
    ∃ W' p' z, notBr z = true ∧ (p' = pairA k size shift arm one step ∨ p' = ((pairA k size shift arm one step).2, (pairA k size shift arm one step).1)) ∧
      abody (aenv W long arms size shift (.sh (nD arm)) ls far (.sh (nD one)) (.sh (nD step)) s10 s11) =
      .ok .next (aenv W' long arms size shift (.sh (nD arm)) (ls ++ [p']) (farA k size shift arm far step) (.sh (nD (othA k arm step))) (.sh (nD step)) (.sh (nD (othA k arm step))) z) := by
  obtain ⟨W', c, d, hcd, e4⟩ := e_b4 (W := W) (long := long) (arms := arms) (size := size) (shift := shift) (s5 := .sh (nD arm)) (ls := ls) (far := farA k size shift arm far step) (s8 := .sh (nD one)) (s9 := .sh (nD step)) (s10 := .sh (nD (othA k arm step))) ((one + shift) % size) ((othA k arm step + shift) % size)
  refine ⟨W', (c, d), .ow (.lst [nD c, nD d]), rfl, hcd, ?_⟩
  have e1 : sAsg (cst (.int 1)) (setS 10) (aenv W long arms size shift (.sh (nD arm)) ls far (.sh (nD one)) (.sh (nD step)) s10 s11) = .ok .next (aenv W long arms size shift (.sh (nD arm)) ls far (.sh (nD one)) (.sh (nD step)) (.sh (nD 1)) s11) :=
    sAsg_ok (m := cst (.int 1)) (i := 10) (d := .int 1) (s := s10) rfl rfl c10 rfl
  have e2 := e_b2 (W := W) (arms := arms) (shift := shift) (ls := ls) (step := step) (s8 := .sh (nD one)) (s11 := s11) hlk hz hf h1
  have e3 := sAsg_okO (i := 11) (s := s11) (ρ2 := aenv W long arms size shift (.sh (nD arm)) ls (farA k size shift arm far step) (.sh (nD one)) (.sh (nD step)) (.sh (nD (othA k arm step))) (.ow (.lst [nD ((one + shift) % size), nD ((othA k arm step + shift) % size)])))
    (e_b3 (W := W) (long := long) (arms := arms) (shift := shift) (one := one) (s5 := .sh (nD arm)) (ls := ls) (far := farA k size shift arm far step) (s9 := .sh (nD step)) (s11 := s11) hz (othA k arm step)) rfl c11 rfl
  have e5 := e_b5 (W := W') (long := long) (arms := arms) (size := size) (shift := shift) (s5 := .sh (nD arm)) (ls := ls) (far := farA k size shift arm far step) (s8 := .sh (nD one)) (s9 := .sh (nD step)) (s10 := .sh (nD (othA k arm step))) hl c d
  unfold abody
  rw [thn_ok e1, thn_ok e2, thn_ok e3, thn_ok e4, thn_ok e5]
  exact sAsg_ok (m := mVar 10) (i := 8) (d := nD (othA k arm step)) (s := .sh (nD one)) rfl rfl rfl rfl
end
end VLL
set_option Elab.async false
set_option linter.all false
set_option maxRecDepth 1000000
set_option maxHeartbeats 0
/-! P71v: _law_arms. -/
namespace VLL
open VL
abbrev CSt := List (Nat × Nat) × List Nat × Nat
def cstep (k size shift arm : Nat) (st : CSt) (step : Nat) : CSt := (st.1 ++ [pairA k size shift arm st.2.2 step], farA k size shift arm st.2.1 step, othA k arm step)
def carm (k size shift : Nat) (st : List (Nat × Nat) × List Nat) (arm : Nat) : List (Nat × Nat) × List Nat :=
  (((List.range (k + 1)).foldl (cstep k size shift arm) (st.1, st.2, 0)).1, ((List.range (k + 1)).foldl (cstep k size shift arm) (st.1, st.2, 0)).2.1)
def canon (k arms size shift : Nat) : List (Nat × Nat) × List Nat := (List.range arms).foldl (carm k size shift) ([], (List.replicate size 0).set (shift % size) (k + 1))
theorem Same.nil : Same [] [] := ⟨rfl, fun l p p' h => by rw [List.getElem?_nil] at h; cases h⟩
theorem Same.snoc {l0 l : List (Nat × Nat)} {p p' : Nat × Nat} (h : Same l0 l) (hp : p' = p ∨ p' = (p.2, p.1)) : Same (l0 ++ [p]) (l ++ [p']) := by
  refine ⟨by rw [List.length_append, List.length_append, h.1] <;> rfl, fun i q q' e1 e2 => ?_⟩
  by_cases hi : i < l0.length
  · rw [List.getElem?_append_left hi] at e1
    rw [List.getElem?_append_left (by rw [← h.1]; exact hi)] at e2
    exact h.2 i q q' e1 e2
  · rw [List.getElem?_append_right (by omega)] at e1
    rw [List.getElem?_append_right (by have := h.1; omega)] at e2
    have h1 := (List.getElem?_eq_some_iff.mp e1).1
    have h2 : i - l0.length = 0 := by simp only [List.length_cons, List.length_nil] at h1; omega
    have h3 : i - l.length = 0 := by have := h.1; omega
    rw [h2] at e1
    rw [h3] at e2
    cases e1
    cases e2
    exact hp
section
variable {long k arms size shift : Nat}
theorem farA_len (arm : Nat) (far : List Nat) (step : Nat) : (farA k size shift arm far step).length = far.length := by
  unfold farA
  split
  · rw [List.length_set]
  · rfl
theorem e_ain (hlk : (long : Int) - 1 = (k : Int)) (hz : 0 < size) {arm : Nat} (h1 : arm ≤ 1000) : ∀ (xs : List Nat) {W : List Nat} {l0 ls : List (Nat × Nat)} {far : List Nat} {one : Nat} {s9 s10 s11 : Slot},
    notBr s9 = true → notBr s10 = true → notBr s11 = true → far.length = size → Same l0 ls → ls.length + xs.length ≤ 5000 →
    ∃ W' ls' a b c, notBr a = true ∧ notBr b = true ∧ notBr c = true ∧ (xs.foldl (cstep k size shift arm) (l0, far, one)).2.1.length = size ∧ Same (xs.foldl (cstep k size shift arm) (l0, far, one)).1 ls' ∧ ls'.length = ls.length + xs.length ∧
      sLoop (setS 9) abody (xs.map nD) (aenv W long arms size shift (.sh (nD arm)) ls far (.sh (nD one)) s9 s10 s11) =
      .ok .next (aenv W' long arms size shift (.sh (nD arm)) ls' (xs.foldl (cstep k size shift arm) (l0, far, one)).2.1 (.sh (nD (xs.foldl (cstep k size shift arm) (l0, far, one)).2.2)) a b c)
  | [], W, l0, ls, far, one, s9, s10, s11, c9, c10, c11, hf, hs, hl => ⟨W, ls, s9, s10, s11, c9, c10, c11, hf, hs, rfl, rfl⟩
  | x :: xs, W, l0, ls, far, one, s9, s10, s11, c9, c10, c11, hf, hs, hl => by
    have hl : ls.length + (xs.length + 1) ≤ 5000 := hl
    have g := set_any (ρ := aenv W long arms size shift (.sh (nD arm)) ls far (.sh (nD one)) s9 s10 s11) (i := 9) (d := nD x) rfl c9
    have g : okO (setS 9 (.sh (nD x))) (aenv W long arms size shift (.sh (nD arm)) ls far (.sh (nD one)) s9 s10 s11) = .ok .next (aenv W long arms size shift (.sh (nD arm)) ls far (.sh (nD one)) (.sh (nD x)) s10 s11) := by
      unfold okO
      rw [g] <;> rfl
    obtain ⟨W1, p', z, cz, hp, hb⟩ := e_abody (W := W) (arms := arms) (shift := shift) (one := one) (step := x) hlk hz hf h1 (show ls.length ≤ 5000 by omega) c10 c11
    obtain ⟨W2, ls2, a, b, c, ca, cb', cc, k1, k2, k3, k4⟩ := e_ain hlk hz h1 xs (W := W1) (l0 := l0 ++ [pairA k size shift arm one x]) (ls := ls ++ [p']) (far := farA k size shift arm far x) (one := othA k arm x) (s9 := .sh (nD x)) (s10 := .sh (nD (othA k arm x))) (s11 := z) rfl rfl cz (by rw [farA_len]; exact hf) (hs.snoc hp) (by rw [List.length_append]; simp only [List.length_cons, List.length_nil]; omega)
    refine ⟨W2, ls2, a, b, c, ca, cb', cc, k1, k2, by rw [k3, List.length_append, List.length_cons]; simp only [List.length_cons, List.length_nil]; omega, ?_⟩
    rw [List.map_cons]
    conv => lhs; unfold sLoop
    rw [bnd_ok g, bnd_ok hb]
    exact k4
theorem rngv {ρ : Env} {i n : Nat} (h : ρ[i]? = some (.sh (nD n))) (hn : n ≤ 1000) : mArgs (ac (mv i) an) rng1 ρ = .ok ((List.range n).map nD) ρ := by
  refine rng1_ok (small_nat hn) (os := [.var i]) ?_ ?_
  · show (match bnd (mv i) (fun o => bnd an fun os => ret (o :: os)) ρ with | r => r) = _
    have : mv i ρ = .ok (.var i) ρ := by
      unfold mv
      rw [h] <;> rfl
    dsimp only
    rw [bnd_ok this] <;> rfl
  · have : look ρ (.var i) = some (nD n) := by
      show (ρ[i]?).bind Slot.d? = _
      rw [h] <;> rfl
    unfold looks
    rw [this] <;> rfl
abbrev obody : M Fl := thn' (sAsg (cst (.int 0)) (setS 8)) l__law_arms_1
theorem e_aout (hlk : (long : Int) - 1 = (k : Int)) (h3 : long ≤ 1000) (hz : 0 < size) : ∀ (xs : List Nat) {W : List Nat} {l0 ls : List (Nat × Nat)} {far : List Nat} {s5 s8 s9 s10 s11 : Slot},
    notBr s5 = true → notBr s8 = true → notBr s9 = true → notBr s10 = true → notBr s11 = true → far.length = size → Same l0 ls → (∀ x ∈ xs, x ≤ 1000) → ls.length + long * xs.length ≤ 5000 →
    ∃ W' ls' a0 a1 a b c, (xs.foldl (carm k size shift) (l0, far)).2.length = size ∧ Same (xs.foldl (carm k size shift) (l0, far)).1 ls' ∧
      sLoop (setS 5) obody (xs.map nD) (aenv W long arms size shift s5 ls far s8 s9 s10 s11) =
      .ok .next (aenv W' long arms size shift a0 ls' (xs.foldl (carm k size shift) (l0, far)).2 a1 a b c)
  | [], W, l0, ls, far, s5, s8, s9, s10, s11, c5, c8, c9, c10, c11, hf, hs, hx, hl => ⟨W, ls, s5, s8, s9, s10, s11, hf, hs, rfl⟩
  | x :: xs, W, l0, ls, far, s5, s8, s9, s10, s11, c5, c8, c9, c10, c11, hf, hs, hx, hl => by
    have hl : ls.length + long * (xs.length + 1) ≤ 5000 := hl
    rw [Nat.mul_add, Nat.mul_one] at hl
    have g := set_any (ρ := aenv W long arms size shift s5 ls far s8 s9 s10 s11) (i := 5) (d := nD x) rfl c5
    have g : okO (setS 5 (.sh (nD x))) (aenv W long arms size shift s5 ls far s8 s9 s10 s11) = .ok .next (aenv W long arms size shift (.sh (nD x)) ls far s8 s9 s10 s11) := by
      unfold okO
      rw [g] <;> rfl
    have hk : k + 1 = long := by omega
    obtain ⟨W1, ls1, a, b, c, ca, cb', cc, k1, k2, k3, k4⟩ := e_ain (arms := arms) (shift := shift) hlk hz (hx x List.mem_cons_self) (List.range long) (W := W) (one := 0) c9 c10 c11 hf hs (by rw [List.length_range]; omega)
    have e1 : sAsg (cst (.int 0)) (setS 8) (aenv W long arms size shift (.sh (nD x)) ls far s8 s9 s10 s11) = .ok .next (aenv W long arms size shift (.sh (nD x)) ls far (.sh (nD 0)) s9 s10 s11) :=
      sAsg_ok (m := cst (.int 0)) (i := 8) (d := .int 0) (s := s8) rfl rfl c8 rfl
    have hb : obody (aenv W long arms size shift (.sh (nD x)) ls far s8 s9 s10 s11) = .ok .next (aenv W1 long arms size shift (.sh (nD x)) ls1 ((List.range long).foldl (cstep k size shift x) (l0, far, 0)).2.1 (.sh (nD ((List.range long).foldl (cstep k size shift x) (l0, far, 0)).2.2)) a b c) := by
      unfold obody
      rw [thn_ok e1]
      unfold l__law_arms_1 sFor
      rw [bnd_ok (rngv (i := 1) (n := long) rfl h3)]
      exact k4
    have ec : carm k size shift (l0, far) x = (((List.range long).foldl (cstep k size shift x) (l0, far, 0)).1, ((List.range long).foldl (cstep k size shift x) (l0, far, 0)).2.1) := by
      unfold carm
      rw [hk]
    obtain ⟨W2, ls2, a0, a1, a', b', c', q1, q2, q3⟩ := e_aout hlk h3 hz xs (W := W1) (s5 := .sh (nD x)) (s8 := .sh (nD ((List.range long).foldl (cstep k size shift x) (l0, far, 0)).2.2)) rfl rfl ca cb' cc k1 k2 (fun y hy => hx y (List.mem_cons_of_mem _ hy)) (by rw [k3, List.length_range]; omega)
    rw [List.foldl_cons, ec]
    refine ⟨W2, ls2, a0, a1, a', b', c', q1, q2, ?_⟩
    rw [List.map_cons]
    conv => lhs; unfold sLoop
    rw [bnd_ok g, bnd_ok hb]
    exact q3
end
def mx : Nat → Nat
  | 0 => 12
  | 1 => 6
  | 2 => 3
  | _ => 2
theorem ix_mx : ∀ {k : Nat}, k < 4 → pIx [.lst [.int 12, .int 6, .int 3, .int 2], nD k] = some (.sh (nD (mx k)))
  | 0, _ => rfl
  | 1, _ => rfl
  | 2, _ => rfl
  | 3, _ => rfl
  | k + 4, h => by omega
theorem mx_pos (k : Nat) : 0 < mx k ∧ mx k ≤ 12 := by
  unfold mx
  split <;> omega
theorem takeN_lt (W : List Nat) {m : Nat} (h : 0 < m) : (takeN W m).1 < m := by
  unfold takeN
  split
  · exact h
  · exact Nat.mod_lt _ h
theorem rep_nat : ∀ n : Nat, (List.replicate n [D.int 0]).flatten = (List.replicate n 0).map nD
  | 0 => rfl
  | n + 1 => by
    rw [List.replicate_succ, List.replicate_succ, List.flatten_cons, List.map_cons, rep_nat n] <;> rfl
theorem mul_rep {n : Nat} (h : n ≤ 1000) : pMul [.lst [.int 0], nD n] = some (.ow (.lst ((List.replicate n 0).map nD))) := by
  show (if small (n : Int) && decide (1 * ((n : Int)).toNat ≤ lim) then some (Slot.ow (D.lst (List.replicate ((n : Int)).toNat [D.int 0]).flatten)) else none) = _
  rw [small_nat h, Int.toNat_natCast, rep_nat]
  rw [decide_eq_true (show 1 * n ≤ lim from Nat.le_trans (by omega) (show 1000 ≤ lim by decide))]
  rfl
def sizeA (k arms : Nat) : Nat := 2 + arms * k
theorem r_arms (W : List Nat) : ∃ (k arms shift : Nat) (W' : List Nat) (ls : List (Nat × Nat)), k < 4 ∧ 0 < arms ∧ arms ≤ mx k ∧ shift < sizeA k arms ∧ Same (canon k arms (sizeA k arms) shift).1 ls ∧
    run__law_arms [.lst (W.map nD)] = .ok (.ow (.lst [nD (k + 1), nD arms, nD (sizeA k arms), .lst (ls.map prD), .lst ((canon k arms (sizeA k arms) shift).2.map nD)])) (.lst (W'.map nD)) := by
  have hk : (takeN W 4).1 < 4 := takeN_lt W (by decide)
  have t1 : run__law_take [.lst (W.map nD), .int 4] = .ok (.sh (nD (takeN W 4).1)) (.lst ((takeN W 4).2.map nD)) := r_take (W := W) (m := 4) (by decide)
  generalize (takeN W 4).1 = k at hk t1
  generalize (takeN W 4).2 = W1 at t1
  obtain ⟨hm, hm12⟩ := mx_pos k
  have ha := takeN_lt W1 hm
  have t2 := r_take (W := W1) hm
  generalize (takeN W1 (mx k)).1 = r at ha t2
  generalize (takeN W1 (mx k)).2 = W2 at t2
  have hz : 0 < sizeA k (1 + r) := by unfold sizeA; omega
  have hsz : sizeA k (1 + r) ≤ 1000 := by
    unfold sizeA
    have : (1 + r) * k ≤ 12 * 4 := Nat.mul_le_mul (by omega) (by omega)
    omega
  have hs := takeN_lt W2 hz
  have t3 := r_take (W := W2) hz
  generalize (takeN W2 (sizeA k (1 + r))).1 = shift at hs t3
  generalize (takeN W2 (sizeA k (1 + r))).2 = W3 at t3
  have hlk : ((k + 1 : Nat) : Int) - 1 = (k : Int) := by omega
  obtain ⟨W4, ls, a0, a1, a, b, c, q1, q2, q3⟩ := e_aout (k := k) (arms := 1 + r) (shift := shift) hlk (by omega) hz (List.range (1 + r)) (W := W3) (l0 := []) (ls := []) (far := (List.replicate (sizeA k (1 + r)) 0).set (shift % sizeA k (1 + r)) (k + 1)) (s5 := .un) (s8 := .un) (s9 := .un) (s10 := .un) (s11 := .un) rfl rfl rfl rfl rfl
    (by rw [List.length_set, List.length_replicate]) Same.nil (fun x hx => by have := List.mem_range.mp hx; omega) (by
      rw [List.length_range, List.length_nil]
      have : (k + 1) * (1 + r) ≤ 4 * 12 := Nat.mul_le_mul (by omega) (by omega)
      omega)
  have e1 : sAsg (o2 pAdd (tm (cst (.int 1))) (tm (usr true run__law_take [] (ac (mv 0) (ac (tm (cst (.int 4))) an))))) (setS 1) [.br (.lst (W.map nD)), .un, .un, .un, .un, .un, .un, .un, .un, .un, .un, .un] = .ok .next [.br (.lst (W1.map nD)), .sh (nD (k + 1)), .un, .un, .un, .un, .un, .un, .un, .un, .un, .un] := by
    have ad : VL.pAdd [.int 1, nD k] = some (.sh (nD (k + 1))) := by
      rw [Nat.add_comm k 1]
      exact pAdd_nn 1 k
    simp only [runF, entry, thn', sIf, sAsg, sDrop, sRet, sNever, okO, bnd, mOr, mAnd, mNot, mb, VL.mt, mTru, truD, usr, mCall, ac, an, mv, tm, takes, take, VL.ret, aft, asB, o1, o2, cb, mPrim, looks, look, pLt, pGt, pLe, pGe, ii, oI, sI, sB, cst, pIsN, pIs, mMove, mVar, setS, mIf, mAndV, mOrV, mNotV, fin, finR, mTake, kTup, kLst, chk, unpk, gsc, gs0, Slot.frz, meth, mTy, tyD, mOn, mSeq, items, sFor, List.length_cons, List.length_nil, List.map_cons, List.map_nil, List.replicate, List.append_nil, List.cons_append, List.nil_append, List.getElem?_cons_zero, List.getElem?_cons_succ, Option.bind_some, Slot.d?, List.set, Bool.not_true, Bool.not_false, Nat.sub_self, Bool.false_eq_true, ↓reduceIte, Option.map_some, mCallT, t1, ad, pTuple]
  have e2 : sAsg (o2 pAdd (tm (cst (.int 1))) (tm (usr true run__law_take [] (ac (mv 0) (ac (tm (o2 pIx (tm (mTake (ac (tm (cst (.int 12))) (ac (tm (cst (.int 6))) (ac (tm (cst (.int 3))) (ac (tm (cst (.int 2))) an)))) kLst)) (tm (o2 (ii fun i j => sI (i - j)) (mv 1) (tm (cst (.int 1))))))) an))))) (setS 2) [.br (.lst (W1.map nD)), .sh (nD (k + 1)), .un, .un, .un, .un, .un, .un, .un, .un, .un, .un] =
      .ok .next [.br (.lst (W2.map nD)), .sh (nD (k + 1)), .sh (nD (1 + r)), .un, .un, .un, .un, .un, .un, .un, .un, .un] := by
    have ix := ix_mx hk
    have ad : VL.pAdd [.int 1, nD r] = some (.sh (nD (1 + r))) := pAdd_nn 1 r
    have hlim : decide (0 + 1 + 1 + 1 + 1 ≤ lim) = true := by decide
    simp only [runF, entry, thn', sIf, sAsg, sDrop, sRet, sNever, okO, bnd, mOr, mAnd, mNot, mb, VL.mt, mTru, truD, usr, mCall, ac, an, mv, tm, takes, take, VL.ret, aft, asB, o1, o2, cb, mPrim, looks, look, pLt, pGt, pLe, pGe, ii, oI, sI, sB, cst, pIsN, pIs, mMove, mVar, setS, mIf, mAndV, mOrV, mNotV, fin, finR, mTake, kTup, kLst, chk, unpk, gsc, gs0, Slot.frz, meth, mTy, tyD, mOn, mSeq, items, sFor, List.length_cons, List.length_nil, List.map_cons, List.map_nil, List.replicate, List.append_nil, List.cons_append, List.nil_append, List.getElem?_cons_zero, List.getElem?_cons_succ, Option.bind_some, Slot.d?, List.set, Bool.not_true, Bool.not_false, Nat.sub_self, Bool.false_eq_true, ↓reduceIte, Option.map_some, mCallT, hlim, hlk, ix, t2, ad, pTuple]
  have e3 : sAsg (o2 pAdd (tm (cst (.int 2))) (tm (o2 pMul (mv 2) (tm (o2 (ii fun i j => sI (i - j)) (mv 1) (tm (cst (.int 1)))))))) (setS 3) [.br (.lst (W2.map nD)), .sh (nD (k + 1)), .sh (nD (1 + r)), .un, .un, .un, .un, .un, .un, .un, .un, .un] =
      .ok .next [.br (.lst (W2.map nD)), .sh (nD (k + 1)), .sh (nD (1 + r)), .sh (nD (sizeA k (1 + r))), .un, .un, .un, .un, .un, .un, .un, .un] := by
    have m := pMul_nn (a := 1 + r) k (by omega)
    have ad : VL.pAdd [.int 2, nD ((1 + r) * k)] = some (.sh (nD (sizeA k (1 + r)))) := pAdd_nn 2 ((1 + r) * k)
    generalize sizeA k (1 + r) = sz at ad ⊢
    generalize 1 + r = arms at m ad ⊢
    simp only [runF, entry, thn', sIf, sAsg, sDrop, sRet, sNever, okO, bnd, mOr, mAnd, mNot, mb, VL.mt, mTru, truD, usr, mCall, ac, an, mv, tm, takes, take, VL.ret, aft, asB, o1, o2, cb, mPrim, looks, look, pLt, pGt, pLe, pGe, ii, oI, sI, sB, cst, pIsN, pIs, mMove, mVar, setS, mIf, mAndV, mOrV, mNotV, fin, finR, mTake, kTup, kLst, chk, unpk, gsc, gs0, Slot.frz, meth, mTy, tyD, mOn, mSeq, items, sFor, List.length_cons, List.length_nil, List.map_cons, List.map_nil, List.replicate, List.append_nil, List.cons_append, List.nil_append, List.getElem?_cons_zero, List.getElem?_cons_succ, Option.bind_some, Slot.d?, List.set, Bool.not_true, Bool.not_false, Nat.sub_self, Bool.false_eq_true, ↓reduceIte, Option.map_some, hlk, m, ad, pTuple]
  have e4 : sAsg (usr true run__law_take [] (ac (mv 0) (ac (mv 3) an))) (setS 4) [.br (.lst (W2.map nD)), .sh (nD (k + 1)), .sh (nD (1 + r)), .sh (nD (sizeA k (1 + r))), .un, .un, .un, .un, .un, .un, .un, .un] =
      .ok .next [.br (.lst (W3.map nD)), .sh (nD (k + 1)), .sh (nD (1 + r)), .sh (nD (sizeA k (1 + r))), .sh (nD shift), .un, .un, .un, .un, .un, .un, .un] := by
    generalize sizeA k (1 + r) = sz at t3 ⊢
    simp only [runF, entry, thn', sIf, sAsg, sDrop, sRet, sNever, okO, bnd, mOr, mAnd, mNot, mb, VL.mt, mTru, truD, usr, mCall, ac, an, mv, tm, takes, take, VL.ret, aft, asB, o1, o2, cb, mPrim, looks, look, pLt, pGt, pLe, pGe, ii, oI, sI, sB, cst, pIsN, pIs, mMove, mVar, setS, mIf, mAndV, mOrV, mNotV, fin, finR, mTake, kTup, kLst, chk, unpk, gsc, gs0, Slot.frz, meth, mTy, tyD, mOn, mSeq, items, sFor, List.length_cons, List.length_nil, List.map_cons, List.map_nil, List.replicate, List.append_nil, List.cons_append, List.nil_append, List.getElem?_cons_zero, List.getElem?_cons_succ, Option.bind_some, Slot.d?, List.set, Bool.not_true, Bool.not_false, Nat.sub_self, Bool.false_eq_true, ↓reduceIte, Option.map_some, mCallT, t3, pTuple]
  have e5 : sPar 6 7 (ac (tm (mTake an kLst)) (ac (tm (o2 pMul (tm (mTake (ac (tm (cst (.int 0))) an) kLst)) (mv 3))) an)) [.br (.lst (W3.map nD)), .sh (nD (k + 1)), .sh (nD (1 + r)), .sh (nD (sizeA k (1 + r))), .sh (nD shift), .un, .un, .un, .un, .un, .un, .un] =
      .ok .next [.br (.lst (W3.map nD)), .sh (nD (k + 1)), .sh (nD (1 + r)), .sh (nD (sizeA k (1 + r))), .sh (nD shift), .un, .ow (.lst []), .ow (.lst ((List.replicate (sizeA k (1 + r)) 0).map nD)), .un, .un, .un, .un] := by
    have mr := mul_rep hsz
    have hlim : decide (0 + 1 ≤ lim) = true := by decide
    have hlim0 : decide (0 ≤ lim) = true := by decide
    generalize sizeA k (1 + r) = sz at mr ⊢
    generalize (List.replicate sz 0).map nD = F at mr ⊢
    simp only [runF, entry, thn', sIf, sAsg, sDrop, sRet, sNever, okO, bnd, mOr, mAnd, mNot, mb, VL.mt, mTru, truD, usr, mCall, ac, an, mv, tm, takes, take, VL.ret, aft, asB, o1, o2, cb, mPrim, looks, look, pLt, pGt, pLe, pGe, ii, oI, sI, sB, cst, pIsN, pIs, mMove, mVar, setS, mIf, mAndV, mOrV, mNotV, fin, finR, mTake, kTup, kLst, chk, unpk, gsc, gs0, Slot.frz, meth, mTy, tyD, mOn, mSeq, items, sFor, List.length_cons, List.length_nil, List.map_cons, List.map_nil, List.replicate, List.append_nil, List.cons_append, List.nil_append, List.getElem?_cons_zero, List.getElem?_cons_succ, Option.bind_some, Slot.d?, List.set, Bool.not_true, Bool.not_false, Nat.sub_self, Bool.false_eq_true, ↓reduceIte, Option.map_some, sPar, hlim, hlim0, mr, pTuple]
  have e6 : sAsg (mVar 1) (setSub 7 (tm (o2 pMod (tm (cb pInt (ac (mv 4) an))) (mv 3))) setF) [.br (.lst (W3.map nD)), .sh (nD (k + 1)), .sh (nD (1 + r)), .sh (nD (sizeA k (1 + r))), .sh (nD shift), .un, .ow (.lst []), .ow (.lst ((List.replicate (sizeA k (1 + r)) 0).map nD)), .un, .un, .un, .un] =
      .ok .next (aenv W3 (k + 1) (1 + r) (sizeA k (1 + r)) shift .un [] ((List.replicate (sizeA k (1 + r)) 0).set (shift % sizeA k (1 + r)) (k + 1)) .un .un .un .un) := by
    have md := pMod_nn shift hz
    have st : setF (.lst ((List.replicate (sizeA k (1 + r)) 0).map nD)) (nD (shift % sizeA k (1 + r))) (nD (k + 1)) = some (.lst (((List.replicate (sizeA k (1 + r)) 0).set (shift % sizeA k (1 + r)) (k + 1)).map nD)) := by
      rw [set_lst (by rw [List.length_map, List.length_replicate]; exact Nat.mod_lt _ hz)]
      simp only [List.map_set]
    have e : aenv W3 (k + 1) (1 + r) (sizeA k (1 + r)) shift .un [] ((List.replicate (sizeA k (1 + r)) 0).set (shift % sizeA k (1 + r)) (k + 1)) .un .un .un .un = [.br (.lst (W3.map nD)), .sh (nD (k + 1)), .sh (nD (1 + r)), .sh (nD (sizeA k (1 + r))), .sh (nD shift), .un, .ow (.lst []), .ow (.lst (((List.replicate (sizeA k (1 + r)) 0).set (shift % sizeA k (1 + r)) (k + 1)).map nD)), .un, .un, .un, .un] := rfl
    rw [e]
    generalize ((List.replicate (sizeA k (1 + r)) 0).set (shift % sizeA k (1 + r)) (k + 1)).map nD = F at st ⊢
    generalize (List.replicate (sizeA k (1 + r)) 0).map nD = F0 at st ⊢
    generalize sizeA k (1 + r) = sz at md st ⊢
    simp only [runF, entry, thn', sIf, sAsg, sDrop, sRet, sNever, okO, bnd, mOr, mAnd, mNot, mb, VL.mt, mTru, truD, usr, mCall, ac, an, mv, tm, takes, take, VL.ret, aft, asB, o1, o2, cb, mPrim, looks, look, pLt, pGt, pLe, pGe, ii, oI, sI, sB, cst, pIsN, pIs, mMove, mVar, setS, mIf, mAndV, mOrV, mNotV, fin, finR, mTake, kTup, kLst, chk, unpk, gsc, gs0, Slot.frz, meth, mTy, tyD, mOn, mSeq, items, sFor, List.length_cons, List.length_nil, List.map_cons, List.map_nil, List.replicate, List.append_nil, List.cons_append, List.nil_append, List.getElem?_cons_zero, List.getElem?_cons_succ, Option.bind_some, Slot.d?, List.set, Bool.not_true, Bool.not_false, Nat.sub_self, Bool.false_eq_true, ↓reduceIte, Option.map_some, pInt_int, md, setSub, mUpd, subF, st, pTuple]
  have e7 : l__law_arms_2 (aenv W3 (k + 1) (1 + r) (sizeA k (1 + r)) shift .un [] ((List.replicate (sizeA k (1 + r)) 0).set (shift % sizeA k (1 + r)) (k + 1)) .un .un .un .un) =
      .ok .next (aenv W4 (k + 1) (1 + r) (sizeA k (1 + r)) shift a0 ls (canon k (1 + r) (sizeA k (1 + r)) shift).2 a1 a b c) := by
    unfold l__law_arms_2 sFor
    rw [bnd_ok (rngv (i := 2) (n := 1 + r) rfl (by omega))]
    exact q3
  refine ⟨k, 1 + r, shift, W4, ls, hk, by omega, by omega, hs, q2, ?_⟩
  generalize (canon k (1 + r) (sizeA k (1 + r)) shift).2 = far at e7 ⊢
  have e8 : sRet (mTake (ac (mv 1) (ac (mv 2) (ac (mv 3) (ac (mv 6) (ac (mv 7) an))))) kLst) (aenv W4 (k + 1) (1 + r) (sizeA k (1 + r)) shift a0 ls far a1 a b c) =
      .ok (.ret (.ow (.lst [nD (k + 1), nD (1 + r), nD (sizeA k (1 + r)), .lst (ls.map prD), .lst (far.map nD)])))
        [.br (.lst (W4.map nD)), .sh (nD (k + 1)), .sh (nD (1 + r)), .sh (nD (sizeA k (1 + r))), .sh (nD shift), a0, .sh (.lst (ls.map prD)), .sh (.lst (far.map nD)), a1, a, b, c] := by
    have hlim : decide (0 + 1 + 1 + 1 + 1 + 1 ≤ lim) = true := by decide
    simp only [runF, entry, thn', sIf, sAsg, sDrop, sRet, sNever, okO, bnd, mOr, mAnd, mNot, mb, VL.mt, mTru, truD, usr, mCall, ac, an, mv, tm, takes, take, VL.ret, aft, asB, o1, o2, cb, mPrim, looks, look, pLt, pGt, pLe, pGe, ii, oI, sI, sB, cst, pIsN, pIs, mMove, mVar, setS, mIf, mAndV, mOrV, mNotV, fin, finR, mTake, kTup, kLst, chk, unpk, gsc, gs0, Slot.frz, meth, mTy, tyD, mOn, mSeq, items, sFor, List.length_cons, List.length_nil, List.map_cons, List.map_nil, List.replicate, List.append_nil, List.cons_append, List.nil_append, List.getElem?_cons_zero, List.getElem?_cons_succ, Option.bind_some, Slot.d?, List.set, Bool.not_true, Bool.not_false, Nat.sub_self, Bool.false_eq_true, ↓reduceIte, Option.map_some, hlim, pTuple]
  have hm : m__law_arms [.br (.lst (W.map nD)), .un, .un, .un, .un, .un, .un, .un, .un, .un, .un, .un] = .ok (.ret (.ow (.lst [nD (k + 1), nD (1 + r), nD (sizeA k (1 + r)), .lst (ls.map prD), .lst (far.map nD)])))
        [.br (.lst (W4.map nD)), .sh (nD (k + 1)), .sh (nD (1 + r)), .sh (nD (sizeA k (1 + r))), .sh (nD shift), a0, .sh (.lst (ls.map prD)), .sh (.lst (far.map nD)), a1, a, b, c] := by
    unfold m__law_arms
    rw [thn_ok e1, thn_ok e2, thn_ok e3, thn_ok e4, thn_ok e5, thn_ok e6, thn_ok e7]
    exact e8
  have he : entry true 12 [.lst (W.map nD)] = [.br (.lst (W.map nD)), .un, .un, .un, .un, .un, .un, .un, .un, .un, .un, .un] := rfl
  show runF 1 12 true m__law_arms [.lst (W.map nD)] = _
  unfold runF
  rw [if_pos (show ([.lst (W.map nD)] : List D).length = 1 from rfl), he, hm] <;> rfl
end VLL
set_option Elab.async false
set_option linter.all false
set_option maxRecDepth 1000000
set_option maxHeartbeats 0
/-! P71w: _law_still_joined. -/
namespace VLL
open VL
theorem pNotIn_lst (xs : List Nat) (s : Nat) : pNotIn [nD s, .lst (xs.map nD)] = some (.sh (.bl (!xs.contains s))) := by
  unfold pNotIn inB
  simp only [flat_nat, show flatD (nD s) = true from rfl, Bool.and_true, ↓reduceIte]
  show sB (!L2.inV (.int (s : Int)) _) = _
  rw [any_nat] <;> rfl
theorem toPs_bools : ∀ J : List Bool, toPs (J.map bD) = some (J.map PySem.PyData.bool)
  | [] => by rw [List.map_nil, List.map_nil, toPs]
  | b :: J => by
    rw [List.map_cons, List.map_cons, toPs, toPs_bools J]
    show (match toP (D.bl b) with | some p => _ | none => none) = _
    rw [toP]
theorem lay_bools : ∀ J : List Bool, PySem.PyData.canLayAll0 (J.map PySem.PyData.bool) = true
  | [] => by rw [List.map_nil, PySem.PyData.canLayAll0]
  | b :: J => by rw [List.map_cons, PySem.PyData.canLayAll0, lay_bools J, PySem.PyData.canLay0] <;> rfl
theorem dep_bools : ∀ J : List Bool, PySem.PyData.depthAll (J.map PySem.PyData.bool) = 0
  | [] => by rw [List.map_nil, PySem.PyData.depthAll]
  | b :: J => by rw [List.map_cons, PySem.PyData.depthAll, dep_bools J, PySem.PyData.depth] <;> rfl
theorem eqv_bools : ∀ J : List Bool, PySem.PyData.eqvAll (J.map PySem.PyData.bool) (J.map PySem.PyData.bool) = true
  | [] => by rw [List.map_nil, PySem.PyData.eqvAll]
  | b :: J => by
    rw [List.map_cons, PySem.PyData.eqvAll, eqv_bools J, PySem.PyData.eqv]
    cases b <;> rfl
theorem shp_tup (J : List Bool) : shp (.tup (J.map bD)) = some (.tuple (J.map PySem.PyData.bool)) := by
  unfold shp
  rw [toP, toPs_bools]
  dsimp only [Option.map]
  rw [if_pos]
  unfold PySem.SeqAt.shaped
  rw [PySem.PyData.canLay0, lay_bools, PySem.PyData.depth, dep_bools] <;> rfl
theorem shp_ft (J : List Bool) : shp (.ft (J.map bD)) = some (.tuple (J.map PySem.PyData.bool)) := by
  unfold shp
  rw [toP, toPs_bools]
  dsimp only [Option.map]
  rw [if_pos]
  unfold PySem.SeqAt.shaped
  rw [PySem.PyData.canLay0, lay_bools, PySem.PyData.depth, dep_bools] <;> rfl
theorem pNe_bools (J : List Bool) : pNe [.ft (J.map bD), .tup (J.map bD)] = some (.sh (.bl false)) := by
  unfold pNe
  dsimp only
  rw [shp_ft, shp_tup]
  dsimp only
  rw [PySem.PyData.eqv, eqv_bools] <;> rfl
theorem pIx_ft (xs : List D) (i : Nat) : pIx [.ft xs, .int (i : Int)] = (xs[i]?).map Slot.sh := by
  show (L2.atI xs (i : Int)).map Slot.sh = _
  rw [at_nat]
def idxN (v : Nat) : List Nat → Nat → Option Nat
  | [], _ => none
  | x :: xs, k => if x = v then some k else idxN v xs (k + 1)
theorem fst_nat (v : Nat) : ∀ (xs : List Nat) (k : Nat), fstAt (aV (nD v)) (xs.map nD) k = idxN v xs k
  | [], _ => rfl
  | x :: xs, k => by
    rw [List.map_cons]
    unfold fstAt idxN
    rw [fst_nat v xs (k + 1)]
    show (if ((x : Int) == (v : Int)) = true then _ else _) = _
    by_cases h : x = v
    · subst h; simp
    · rw [if_neg h, if_neg (by simp; omega)]
theorem index_nat {v k : Nat} {xs : List Nat} (h : idxN v xs 0 = some k) : fIndex (.lst (xs.map nD)) [nD v] = some (.sh (nD k)) := by
  have hf := flat_nat xs
  unfold fIndex
  dsimp only
  rw [hf, fst_nat, h] <;> rfl
theorem erase_map {α β : Type} (f : α → β) : ∀ (xs : List α) (i : Nat), (xs.map f).eraseIdx i = (xs.eraseIdx i).map f
  | [], _ => rfl
  | _ :: _, 0 => rfl
  | x :: xs, i + 1 => by
    show f x :: (xs.map f).eraseIdx i = f x :: (xs.eraseIdx i).map f
    rw [erase_map f xs i]
theorem pop_at {xs : List Nat} {i : Nat} (h : i < xs.length) (hl : xs.length ≤ 1000) : fPopAt (.lst (xs.map nD)) [nD i] = some (.lst ((xs.eraseIdx i).map nD), nD xs[i]) := by
  have e : L2.ixN (xs.map nD).length (i : Int) = some i := by
    unfold L2.ixN
    rw [List.length_map, if_pos (by omega), if_pos (by omega), Int.toNat_natCast]
  have e2 : (xs.map nD)[i]? = some (nD xs[i]) := by
    rw [List.getElem?_map, List.getElem?_eq_getElem h] <;> rfl
  unfold fPopAt
  dsimp only
  rw [e]
  dsimp only
  rw [e2]
  dsimp only
  rw [small_nat (show i ≤ 1000 by omega)]
  have e3 : (xs.map nD).eraseIdx i = (xs.eraseIdx i).map nD := by
    exact erase_map nD xs i
  rw [e3] <;> rfl
section
variable {n : Nat} {ls : List (Nat × Nat)} {hs : List Nat} {long arms size cap e st : Nat} {far : List Nat}
abbrev webD (long arms size : Nat) (ls : List (Nat × Nat)) (far : List Nat) : D := .lst [nD long, nD arms, nD size, .lst (ls.map prD), .lst (far.map nD)]
abbrev senv (N : D) (Wb : D) (W : List Nat) (cap long arms size : Nat) (ls : List (Nat × Nat)) (far left lot : List Nat) (s6 s7 : Slot) : Env :=
  [.br (.lst (W.map nD)), .sh N, .sh Wb, .sh (nD cap), .ow (.lst (left.map nD)), .ow (.lst (lot.map nD)), s6, s7, .sh (nD long), .sh (nD arms), .sh (nD size), .sh (.lst (ls.map prD)), .sh (.lst (far.map nD)), .un]
abbrev sbody : M Fl := sDrop (mutm "list" 5 fAppend (ac (tm (mutm "list" 4 fPopAt (ac (tm (usr true run__law_take [] (ac (mv 0) (ac (tm (cb pLen (ac (mv 4) an))) an)))) an))) an))
theorem e_sbody {N Wb : D} {W left lot : List Nat} {s6 s7 : Slot} (h1 : 0 < left.length) (h2 : left.length ≤ 1000) (h3 : lot.length ≤ 1000) :
    ∃ (W' : List Nat) (i : Nat) (hi : i < left.length), sbody (senv N Wb W cap long arms size ls far left lot s6 s7) = .ok .next (senv N Wb W' cap long arms size ls far (left.eraseIdx i) (lot ++ [left[i]]) s6 s7) := by
  have hi := takeN_lt W h1
  have t := r_take (W := W) h1
  have pl : pLen [.lst (left.map nD)] = some (.sh (nD left.length)) := len_list left
  have pp := pop_at hi h2
  have pa := app_nat (W := lot) (x := left[(takeN W left.length).1]) (by omega)
  refine ⟨(takeN W left.length).2, (takeN W left.length).1, hi, ?_⟩
  have u : usr true run__law_take [] (ac (mv 0) (ac (tm (cb pLen (ac (mv 4) an))) an)) (senv N Wb W cap long arms size ls far left lot s6 s7) = .ok (.sh (nD (takeN W left.length).1)) (senv N Wb (takeN W left.length).2 cap long arms size ls far left lot s6 s7) := by
    simp only [runF, entry, thn', sIf, sAsg, sDrop, sRet, sNever, okO, bnd, mOr, mAnd, mNot, mb, VL.mt, mTru, truD, usr, mCall, ac, an, mv, tm, takes, take, VL.ret, aft, asB, o1, o2, cb, mPrim, looks, look, pLt, pGt, pLe, pGe, ii, oI, sI, sB, cst, pIsN, pIs, mMove, mVar, setS, mIf, mAndV, mOrV, mNotV, fin, finR, mTake, kTup, kLst, chk, unpk, gsc, gs0, Slot.frz, meth, mTy, tyD, mOn, mSeq, items, sFor, List.length_cons, List.length_nil, List.map_cons, List.map_nil, List.replicate, List.append_nil, List.cons_append, List.nil_append, List.getElem?_cons_zero, List.getElem?_cons_succ, Option.bind_some, Slot.d?, List.set, Bool.not_true, Bool.not_false, Nat.sub_self, Bool.false_eq_true, ↓reduceIte, Option.map_some, pl, mCallT, t, pTuple]
  have v : mutm "list" 4 fPopAt (ac (tm (usr true run__law_take [] (ac (mv 0) (ac (tm (cb pLen (ac (mv 4) an))) an)))) an) (senv N Wb W cap long arms size ls far left lot s6 s7) =
      .ok (.sh (nD left[(takeN W left.length).1])) (senv N Wb (takeN W left.length).2 cap long arms size ls far (left.eraseIdx (takeN W left.length).1) lot s6 s7) := by
    have e : ac (tm (usr true run__law_take [] (ac (mv 0) (ac (tm (cb pLen (ac (mv 4) an))) an)))) an (senv N Wb W cap long arms size ls far left lot s6 s7) = .ok [.tmp (.sh (nD (takeN W left.length).1))] (senv N Wb (takeN W left.length).2 cap long arms size ls far left lot s6 s7) := by
      unfold ac tm
      rw [bnd_ok (show bnd (usr true run__law_take [] _) _ _ = Res.ok _ _ from by rw [bnd_ok u])]
      rfl
    have e' : (bnd (ac (tm (usr true run__law_take [] (ac (mv 0) (ac (tm (cb pLen (ac (mv 4) an))) an)))) an) fun os => bnd (takes os) fun ds => mUpd 4 fun d => fPopAt d ds) (senv N Wb W cap long arms size ls far left lot s6 s7) =
        .ok (.sh (nD left[(takeN W left.length).1])) (senv N Wb (takeN W left.length).2 cap long arms size ls far (left.eraseIdx (takeN W left.length).1) lot s6 s7) := by
      rw [bnd_ok e]
      generalize (takeN W left.length).2 = V
      generalize left[(takeN W left.length).1] = y at pp ⊢
      generalize left.eraseIdx (takeN W left.length).1 = L at pp ⊢
      generalize (takeN W left.length).1 = i at pp ⊢
      simp only [runF, entry, thn', sIf, sAsg, sDrop, sRet, sNever, okO, bnd, mOr, mAnd, mNot, mb, VL.mt, mTru, truD, usr, mCall, ac, an, mv, tm, takes, take, VL.ret, aft, asB, o1, o2, cb, mPrim, looks, look, pLt, pGt, pLe, pGe, ii, oI, sI, sB, cst, pIsN, pIs, mMove, mVar, setS, mIf, mAndV, mOrV, mNotV, fin, finR, mTake, kTup, kLst, chk, unpk, gsc, gs0, Slot.frz, meth, mTy, tyD, mOn, mSeq, items, sFor, List.length_cons, List.length_nil, List.map_cons, List.map_nil, List.replicate, List.append_nil, List.cons_append, List.nil_append, List.getElem?_cons_zero, List.getElem?_cons_succ, Option.bind_some, Slot.d?, List.set, Bool.not_true, Bool.not_false, Nat.sub_self, Bool.false_eq_true, ↓reduceIte, Option.map_some, mUpd, pp, pTuple]
    show mTy "list" (.var 4) _ _ = _
    unfold mTy
    exact e'
  have e2 : ac (tm (mutm "list" 4 fPopAt (ac (tm (usr true run__law_take [] (ac (mv 0) (ac (tm (cb pLen (ac (mv 4) an))) an)))) an))) an (senv N Wb W cap long arms size ls far left lot s6 s7) = .ok [.tmp (.sh (nD left[(takeN W left.length).1]))] (senv N Wb (takeN W left.length).2 cap long arms size ls far (left.eraseIdx (takeN W left.length).1) lot s6 s7) := by
    unfold ac tm
    rw [bnd_ok (show bnd (mutm "list" 4 fPopAt _) _ _ = Res.ok _ _ from by rw [bnd_ok v])]
    rfl
  have e3 : mutm "list" 5 fAppend (ac (tm (mutm "list" 4 fPopAt (ac (tm (usr true run__law_take [] (ac (mv 0) (ac (tm (cb pLen (ac (mv 4) an))) an)))) an))) an) (senv N Wb W cap long arms size ls far left lot s6 s7) =
      .ok (.sh .non) (senv N Wb (takeN W left.length).2 cap long arms size ls far (left.eraseIdx (takeN W left.length).1) (lot ++ [left[(takeN W left.length).1]]) s6 s7) := by
    have e' : (bnd (ac (tm (mutm "list" 4 fPopAt (ac (tm (usr true run__law_take [] (ac (mv 0) (ac (tm (cb pLen (ac (mv 4) an))) an)))) an))) an) fun os => bnd (takes os) fun ds => mUpd 5 fun d => fAppend d ds) (senv N Wb W cap long arms size ls far left lot s6 s7) =
        .ok (.sh .non) (senv N Wb (takeN W left.length).2 cap long arms size ls far (left.eraseIdx (takeN W left.length).1) (lot ++ [left[(takeN W left.length).1]]) s6 s7) := by
      rw [bnd_ok e2]
      generalize (takeN W left.length).2 = V
      generalize left[(takeN W left.length).1] = y at pa ⊢
      generalize left.eraseIdx (takeN W left.length).1 = L at pa ⊢
      simp only [runF, entry, thn', sIf, sAsg, sDrop, sRet, sNever, okO, bnd, mOr, mAnd, mNot, mb, VL.mt, mTru, truD, usr, mCall, ac, an, mv, tm, takes, take, VL.ret, aft, asB, o1, o2, cb, mPrim, looks, look, pLt, pGt, pLe, pGe, ii, oI, sI, sB, cst, pIsN, pIs, mMove, mVar, setS, mIf, mAndV, mOrV, mNotV, fin, finR, mTake, kTup, kLst, chk, unpk, gsc, gs0, Slot.frz, meth, mTy, tyD, mOn, mSeq, items, sFor, List.length_cons, List.length_nil, List.map_cons, List.map_nil, List.replicate, List.append_nil, List.cons_append, List.nil_append, List.getElem?_cons_zero, List.getElem?_cons_succ, Option.bind_some, Slot.d?, List.set, Bool.not_true, Bool.not_false, Nat.sub_self, Bool.false_eq_true, ↓reduceIte, Option.map_some, mUpd, pa, pTuple]
    show mTy "list" (.var 5) _ _ = _
    unfold mTy
    exact e'
  unfold sbody sDrop
  rw [bnd_ok e3] <;> rfl
end
end VLL
set_option Elab.async false
set_option linter.all false
set_option maxRecDepth 1000000
set_option maxHeartbeats 0
/-! P71x: _law_still_joined, whole. -/
namespace VLL
open VL
section
variable {n : Nat} {ls : List (Nat × Nat)} {hs : List Nat} {long arms size cap e st : Nat} {far : List Nat}
theorem erase_perm : ∀ {l : List Nat} {i : Nat} (h : i < l.length), (l[i] :: l.eraseIdx i).Perm l
  | x :: l, 0, _ => List.Perm.refl _
  | x :: l, i + 1, h => (List.Perm.swap x _ _).trans ((erase_perm (l := l) (i := i) (Nat.lt_of_succ_lt_succ h)).cons x)
theorem perm_pop {left lot : List Nat} {i : Nat} (hi : i < left.length) : (left.eraseIdx i ++ (lot ++ [left[i]])).Perm (left ++ lot) := by
  rw [← List.append_assoc]
  refine List.perm_append_comm.trans ?_
  show ((left[i] :: left.eraseIdx i) ++ lot).Perm (left ++ lot)
  exact (erase_perm hi).append_right lot
theorem e_sloop {N Wb : D} : ∀ (xs : List Nat) {W left lot : List Nat} {s6 s7 : Slot}, notBr s6 = true → xs.length ≤ left.length → left.length ≤ 1000 → lot.length + xs.length ≤ 1000 →
    ∃ (W' left' lot' : List Nat) (a : Slot), lot'.length = lot.length + xs.length ∧ (left' ++ lot').Perm (left ++ lot) ∧
      sLoop (setS 6) sbody (xs.map nD) (senv N Wb W cap long arms size ls far left lot s6 s7) = .ok .next (senv N Wb W' cap long arms size ls far left' lot' a s7)
  | [], W, left, lot, s6, s7, c6, h1, h2, h3 => ⟨W, left, lot, s6, rfl, List.Perm.refl _, rfl⟩
  | x :: xs, W, left, lot, s6, s7, c6, h1, h2, h3 => by
    have h1 : xs.length + 1 ≤ left.length := h1
    have h3 : lot.length + (xs.length + 1) ≤ 1000 := h3
    have g := set_any (ρ := senv N Wb W cap long arms size ls far left lot s6 s7) (i := 6) (d := nD x) rfl c6
    have g : okO (setS 6 (.sh (nD x))) (senv N Wb W cap long arms size ls far left lot s6 s7) = .ok .next (senv N Wb W cap long arms size ls far left lot (.sh (nD x)) s7) := by
      unfold okO
      rw [g] <;> rfl
    obtain ⟨W1, i, hi, hb⟩ := e_sbody (long := long) (arms := arms) (size := size) (cap := cap) (ls := ls) (far := far) (N := N) (Wb := Wb) (W := W) (left := left) (lot := lot) (s6 := .sh (nD x)) (s7 := s7) (by omega) h2 (by omega)
    have he : (left.eraseIdx i).length + 1 = left.length := by
      rw [List.length_eraseIdx, if_pos hi]
      omega
    obtain ⟨W2, left2, lot2, a, k1, k2, k3⟩ := e_sloop xs (N := N) (Wb := Wb) (W := W1) (left := left.eraseIdx i) (lot := lot ++ [left[i]]) (s6 := .sh (nD x)) (s7 := s7) rfl (by omega) (by omega) (by rw [List.length_append]; simp only [List.length_cons, List.length_nil]; omega)
    refine ⟨W2, left2, lot2, a, by rw [k1, List.length_append, List.length_cons]; simp only [List.length_cons, List.length_nil]; omega, k2.trans (perm_pop hi), ?_⟩
    rw [List.map_cons]
    conv => lhs; unfold sLoop
    rw [bnd_ok g, bnd_ok hb]
    exact k3
theorem r_still {W : List Nat} (w : NetOk size ls) (h12 : ls.length ≤ 20) (ha : 0 < arms) (hal : arms ≤ ls.length) (he : idxN 0 far 0 = some e) (hen : e < size) (hst : idxN long far 0 = some st)
    (H : ∀ lot : List Nat, lot.Nodup → (∀ x ∈ lot, x < ls.length) → lot.length = min cap (arms - 1) → ∃ J, reachN size ls e (sortN lot) = some J ∧ joinedN size ls e lot = J ∧ J[st]? = some true) :
    ∃ W' : List Nat, run__law_still_joined [.lst (W.map nD), netD size ls hs, webD long arms size ls far, nD cap] = .ok (.sh (.bl true)) (.lst (W'.map nD)) := by
  have hmin : pMin2 [nD cap, .int ((arms : Int) - 1)] = some (.sh (nD (min cap (arms - 1)))) := by
    show some (Slot.sh (D.int (if (arms : Int) - 1 < (cap : Int) then (arms : Int) - 1 else (cap : Int)))) = some (Slot.sh (D.int ((min cap (arms - 1) : Nat) : Int)))
    congr 3
    split <;> omega
  have hm : min cap (arms - 1) ≤ ls.length := by omega
  obtain ⟨W', left', lot, a, k1, k2, k3⟩ := e_sloop (long := long) (arms := arms) (size := size) (cap := cap) (ls := ls) (far := far) (N := netD size ls hs) (Wb := webD long arms size ls far) (List.range (min cap (arms - 1))) (W := W) (left := List.range ls.length) (lot := []) (s6 := .un) (s7 := .un) rfl
    (by rw [List.length_range, List.length_range]; exact hm) (by rw [List.length_range]; omega) (by rw [List.length_range, List.length_nil]; omega)
  rw [List.append_nil] at k2
  have nd : (left' ++ lot).Nodup := k2.nodup_iff.mpr List.nodup_range
  have nl : lot.Nodup := (List.nodup_append.mp nd).2.1
  have hx : ∀ x ∈ lot, x < ls.length := fun x hx => List.mem_range.mp (k2.mem_iff.mp (List.mem_append_right _ hx))
  rw [List.length_nil, List.length_range, Nat.zero_add] at k1
  obtain ⟨J, h1, h2, h3⟩ := H lot nl hx k1
  obtain ⟨r0, r1⟩ := r_reach (hs' := hs) (X := .lst (lot.map nD)) (s := e) w rfl (r_row_l _) nl hx (by omega) hen h1
  obtain ⟨r2, r3⟩ := r_joined (n := size) (ls := ls) (spot := e) (X := .lst (lot.map nD)) (lot := lot) w (fun l => pNotIn_lst lot l)
  rw [h2] at r3
  have i0 : fIndex (.lst (far.map nD)) [.int 0] = some (.sh (nD e)) := index_nat (v := 0) he
  have i1 := index_nat hst
  refine ⟨W', ?_⟩
  have e1 : sAsg (mVar 2) (unpk 5 (gsc (setS 8) (gsc (setS 9) (gsc (setS 10) (gsc (setS 11) (gsc (setS 12) gs0)))))) [.br (.lst (W.map nD)), .sh (netD size ls hs), .sh (webD long arms size ls far), .sh (nD cap), .un, .un, .un, .un, .un, .un, .un, .un, .un, .un] =
      .ok .next [.br (.lst (W.map nD)), .sh (netD size ls hs), .sh (webD long arms size ls far), .sh (nD cap), .un, .un, .un, .un, .sh (nD long), .sh (nD arms), .sh (nD size), .sh (.lst (ls.map prD)), .sh (.lst (far.map nD)), .un] := rfl
  have e2 : c__law_still_joined_1 [.br (.lst (W.map nD)), .sh (netD size ls hs), .sh (webD long arms size ls far), .sh (nD cap), .un, .un, .un, .un, .sh (nD long), .sh (nD arms), .sh (nD size), .sh (.lst (ls.map prD)), .sh (.lst (far.map nD)), .un] =
      .ok (.ow (.lst ((List.range ls.length).map nD))) [.br (.lst (W.map nD)), .sh (netD size ls hs), .sh (webD long arms size ls far), .sh (nD cap), .un, .un, .un, .un, .sh (nD long), .sh (nD arms), .sh (nD size), .sh (.lst (ls.map prD)), .sh (.lst (far.map nD)), .un] := by
    unfold c__law_still_joined_1
    refine mLc_map (e0 := nD) (v := nD) (ds := List.range ls.length) ?_ ?_ ?_ ?_ (fun l hl => ?_) (le_lim (by rw [List.length_range]; omega))
    · have hp : pLen [.lst (ls.map prD)] = some (.sh (.int (ls.length : Int))) := by
        show some (Slot.sh (D.int ((ls.map prD).length : Int))) = _
        rw [List.length_map]
      refine rng1_ok (small_nat (by omega)) (os := [.tmp (.sh (.int (ls.length : Int)))]) ?_ rfl
      simp only [runF, entry, thn', sIf, sAsg, sDrop, sRet, sNever, okO, bnd, mOr, mAnd, mNot, mb, VL.mt, mTru, truD, usr, mCall, ac, an, mv, tm, takes, take, VL.ret, aft, asB, o1, o2, cb, mPrim, looks, look, pLt, pGt, pLe, pGe, ii, oI, sI, sB, cst, pIsN, pIs, mMove, mVar, setS, mIf, mAndV, mOrV, mNotV, fin, finR, mTake, kTup, kLst, chk, unpk, gsc, gs0, Slot.frz, meth, mTy, tyD, mOn, mSeq, items, sFor, List.length_cons, List.length_nil, List.map_cons, List.map_nil, List.replicate, List.append_nil, List.cons_append, List.nil_append, List.getElem?_cons_zero, List.getElem?_cons_succ, Option.bind_some, Slot.d?, List.set, Bool.not_true, Bool.not_false, Nat.sub_self, Bool.false_eq_true, ↓reduceIte, Option.map_some, hp, pTuple]
    · rfl
    · rfl
    · rfl
    · exact ⟨[.br (.lst (W.map nD)), .sh (netD size ls hs), .sh (webD long arms size ls far), .sh (nD cap), .un, .un, .un, .un, .sh (nD long), .sh (nD arms), .sh (nD size), .sh (.lst (ls.map prD)), .sh (.lst (far.map nD)), .sh (nD l)], rfl, _, .sh (nD l), [.br (.lst (W.map nD)), .sh (netD size ls hs), .sh (webD long arms size ls far), .sh (nD cap), .un, .un, .un, .un, .sh (nD long), .sh (nD arms), .sh (nD size), .sh (.lst (ls.map prD)), .sh (.lst (far.map nD)), .sh (nD l)], rfl, rfl, rfl, rfl, rfl⟩
  have e2' := sAsg_okO (i := 4) (s := .un) (ρ2 := [.br (.lst (W.map nD)), .sh (netD size ls hs), .sh (webD long arms size ls far), .sh (nD cap), .ow (.lst ((List.range ls.length).map nD)), .un, .un, .un, .sh (nD long), .sh (nD arms), .sh (nD size), .sh (.lst (ls.map prD)), .sh (.lst (far.map nD)), .un]) e2 rfl rfl rfl
  have e3 : sAsg (mTake an kLst) (setS 5) [.br (.lst (W.map nD)), .sh (netD size ls hs), .sh (webD long arms size ls far), .sh (nD cap), .ow (.lst ((List.range ls.length).map nD)), .un, .un, .un, .sh (nD long), .sh (nD arms), .sh (nD size), .sh (.lst (ls.map prD)), .sh (.lst (far.map nD)), .un] =
      .ok .next (senv (netD size ls hs) (webD long arms size ls far) W cap long arms size ls far (List.range ls.length) [] .un .un) := by
    have hlim : decide (0 ≤ lim) = true := by decide
    simp only [runF, entry, thn', sIf, sAsg, sDrop, sRet, sNever, okO, bnd, mOr, mAnd, mNot, mb, VL.mt, mTru, truD, usr, mCall, ac, an, mv, tm, takes, take, VL.ret, aft, asB, o1, o2, cb, mPrim, looks, look, pLt, pGt, pLe, pGe, ii, oI, sI, sB, cst, pIsN, pIs, mMove, mVar, setS, mIf, mAndV, mOrV, mNotV, fin, finR, mTake, kTup, kLst, chk, unpk, gsc, gs0, Slot.frz, meth, mTy, tyD, mOn, mSeq, items, sFor, List.length_cons, List.length_nil, List.map_cons, List.map_nil, List.replicate, List.append_nil, List.cons_append, List.nil_append, List.getElem?_cons_zero, List.getElem?_cons_succ, Option.bind_some, Slot.d?, List.set, Bool.not_true, Bool.not_false, Nat.sub_self, Bool.false_eq_true, ↓reduceIte, Option.map_some, hlim, pTuple]
    rfl
  have e4 : l__law_still_joined_1 (senv (netD size ls hs) (webD long arms size ls far) W cap long arms size ls far (List.range ls.length) [] .un .un) = .ok .next (senv (netD size ls hs) (webD long arms size ls far) W' cap long arms size ls far left' lot a .un) := by
    have hmm : mArgs (ac (tm (cb pMin2 (ac (mv 3) (ac (tm (o2 (ii fun i j => sI (i - j)) (mv 9) (tm (cst (.int 1))))) an)))) an) rng1 (senv (netD size ls hs) (webD long arms size ls far) W cap long arms size ls far (List.range ls.length) [] .un .un) = .ok ((List.range (min cap (arms - 1))).map nD) (senv (netD size ls hs) (webD long arms size ls far) W cap long arms size ls far (List.range ls.length) [] .un .un) := by
      refine rng1_ok (small_nat (by omega)) (os := [.tmp (.sh (nD (min cap (arms - 1))))]) ?_ rfl
      simp only [runF, entry, thn', sIf, sAsg, sDrop, sRet, sNever, okO, bnd, mOr, mAnd, mNot, mb, VL.mt, mTru, truD, usr, mCall, ac, an, mv, tm, takes, take, VL.ret, aft, asB, o1, o2, cb, mPrim, looks, look, pLt, pGt, pLe, pGe, ii, oI, sI, sB, cst, pIsN, pIs, mMove, mVar, setS, mIf, mAndV, mOrV, mNotV, fin, finR, mTake, kTup, kLst, chk, unpk, gsc, gs0, Slot.frz, meth, mTy, tyD, mOn, mSeq, items, sFor, List.length_cons, List.length_nil, List.map_cons, List.map_nil, List.replicate, List.append_nil, List.cons_append, List.nil_append, List.getElem?_cons_zero, List.getElem?_cons_succ, Option.bind_some, Slot.d?, List.set, Bool.not_true, Bool.not_false, Nat.sub_self, Bool.false_eq_true, ↓reduceIte, Option.map_some, hmin, pTuple]
    unfold l__law_still_joined_1 sFor
    rw [bnd_ok hmm]
    exact k3
  have e5 : sAsg (usr false run_reach_from [] (ac (mv 1) (ac (tm (meth "list" fIndex (mv 12) (ac (tm (cst (.int 0))) an))) (ac (tm (cb pList (ac (mv 5) an))) an)))) (setS 7) (senv (netD size ls hs) (webD long arms size ls far) W' cap long arms size ls far left' lot a .un) =
      .ok .next (senv (netD size ls hs) (webD long arms size ls far) W' cap long arms size ls far left' lot a (.sh (.ft (J.map bD)))) := by
    have hpl : pList [.lst (lot.map nD)] = some (.ow (.lst (lot.map nD))) := rfl
    simp only [runF, entry, thn', sIf, sAsg, sDrop, sRet, sNever, okO, bnd, mOr, mAnd, mNot, mb, VL.mt, mTru, truD, usr, mCall, ac, an, mv, tm, takes, take, VL.ret, aft, asB, o1, o2, cb, mPrim, looks, look, pLt, pGt, pLe, pGe, ii, oI, sI, sB, cst, pIsN, pIs, mMove, mVar, setS, mIf, mAndV, mOrV, mNotV, fin, finR, mTake, kTup, kLst, chk, unpk, gsc, gs0, Slot.frz, meth, mTy, tyD, mOn, mSeq, items, sFor, List.length_cons, List.length_nil, List.map_cons, List.map_nil, List.replicate, List.append_nil, List.cons_append, List.nil_append, List.getElem?_cons_zero, List.getElem?_cons_succ, Option.bind_some, Slot.d?, List.set, Bool.not_true, Bool.not_false, Nat.sub_self, Bool.false_eq_true, ↓reduceIte, Option.map_some, meth, i0, hpl, r1, beq_self_eq_true, pTuple]
  have hne := pNe_bools J
  have e6 : sIf (mb (o2 pNe (mv 7) (tm (cb pTuple (ac (tm (usr false run__law_joined [] (ac (mv 10) (ac (mv 11) (ac (tm (meth "list" fIndex (mv 12) (ac (tm (cst (.int 0))) an))) (ac (mv 5) an)))))) an)))))
      (sRet (cst (.bl false))) (VL.ret .next) (senv (netD size ls hs) (webD long arms size ls far) W' cap long arms size ls far left' lot a (.sh (.ft (J.map bD)))) =
      .ok .next [.br (.lst (W'.map nD)), .sh (netD size ls hs), .sh (webD long arms size ls far), .sh (nD cap), .ow (.lst (left'.map nD)), .sh (.lst (lot.map nD)), a, .sh (.ft (J.map bD)), .sh (nD long), .sh (nD arms), .sh (nD size), .sh (.lst (ls.map prD)), .sh (.lst (far.map nD)), .un] := by
    have hpt : pTuple [.lst (J.map bD)] = some (.sh (.tup (J.map bD))) := rfl
    simp only [runF, entry, thn', sIf, sAsg, sDrop, sRet, sNever, okO, bnd, mOr, mAnd, mNot, mb, VL.mt, mTru, truD, usr, mCall, ac, an, mv, tm, takes, take, VL.ret, aft, asB, o1, o2, cb, mPrim, looks, look, pLt, pGt, pLe, pGe, ii, oI, sI, sB, cst, pIsN, pIs, mMove, mVar, setS, mIf, mAndV, mOrV, mNotV, fin, finR, mTake, kTup, kLst, chk, unpk, gsc, gs0, Slot.frz, meth, mTy, tyD, mOn, mSeq, items, sFor, List.length_cons, List.length_nil, List.map_cons, List.map_nil, List.replicate, List.append_nil, List.cons_append, List.nil_append, List.getElem?_cons_zero, List.getElem?_cons_succ, Option.bind_some, Slot.d?, List.set, Bool.not_true, Bool.not_false, Nat.sub_self, Bool.false_eq_true, ↓reduceIte, Option.map_some, meth, i0, r3, hpt, hne, beq_self_eq_true, pTuple]
  have hix : pIx [.ft (J.map bD), nD st] = some (.sh (.bl true)) := by
    rw [pIx_ft, List.getElem?_map, h3] <;> rfl
  have hft : pIs [.bl true, .bl true] = some (.sh (.bl true)) := rfl
  have e7 : sRet (o2 pIs (tm (o2 pIx (mv 7) (tm (meth "list" fIndex (mv 12) (ac (mv 8) an))))) (tm (cst (.bl true)))) [.br (.lst (W'.map nD)), .sh (netD size ls hs), .sh (webD long arms size ls far), .sh (nD cap), .ow (.lst (left'.map nD)), .sh (.lst (lot.map nD)), a, .sh (.ft (J.map bD)), .sh (nD long), .sh (nD arms), .sh (nD size), .sh (.lst (ls.map prD)), .sh (.lst (far.map nD)), .un] =
      .ok (.ret (.sh (.bl true))) [.br (.lst (W'.map nD)), .sh (netD size ls hs), .sh (webD long arms size ls far), .sh (nD cap), .ow (.lst (left'.map nD)), .sh (.lst (lot.map nD)), a, .sh (.ft (J.map bD)), .sh (nD long), .sh (nD arms), .sh (nD size), .sh (.lst (ls.map prD)), .sh (.lst (far.map nD)), .un] := by
    have u : meth "list" fIndex (mv 12) (ac (mv 8) an) [.br (.lst (W'.map nD)), .sh (netD size ls hs), .sh (webD long arms size ls far), .sh (nD cap), .ow (.lst (left'.map nD)), .sh (.lst (lot.map nD)), a, .sh (.ft (J.map bD)), .sh (nD long), .sh (nD arms), .sh (nD size), .sh (.lst (ls.map prD)), .sh (.lst (far.map nD)), .un] =
        .ok (.sh (nD st)) [.br (.lst (W'.map nD)), .sh (netD size ls hs), .sh (webD long arms size ls far), .sh (nD cap), .ow (.lst (left'.map nD)), .sh (.lst (lot.map nD)), a, .sh (.ft (J.map bD)), .sh (nD long), .sh (nD arms), .sh (nD size), .sh (.lst (ls.map prD)), .sh (.lst (far.map nD)), .un] := by
      simp only [runF, entry, thn', sIf, sAsg, sDrop, sRet, sNever, okO, bnd, mOr, mAnd, mNot, mb, VL.mt, mTru, truD, usr, mCall, ac, an, mv, tm, takes, take, VL.ret, aft, asB, o1, o2, cb, mPrim, looks, look, pLt, pGt, pLe, pGe, ii, oI, sI, sB, cst, pIsN, pIs, mMove, mVar, setS, mIf, mAndV, mOrV, mNotV, fin, finR, mTake, kTup, kLst, chk, unpk, gsc, gs0, Slot.frz, meth, mTy, tyD, mOn, mSeq, items, sFor, List.length_cons, List.length_nil, List.map_cons, List.map_nil, List.replicate, List.append_nil, List.cons_append, List.nil_append, List.getElem?_cons_zero, List.getElem?_cons_succ, Option.bind_some, Slot.d?, List.set, Bool.not_true, Bool.not_false, Nat.sub_self, Bool.false_eq_true, ↓reduceIte, Option.map_some, meth, i1, beq_self_eq_true, pTuple]
    simp only [sRet, bnd, o2, mPrim, ac, an, mv, tm, u, cst, VL.ret, aft, asB, looks, look, hix, hft, List.getElem?_cons_zero, List.getElem?_cons_succ, Option.bind_some, Slot.d?]
  have hmain : m__law_still_joined [.br (.lst (W.map nD)), .sh (netD size ls hs), .sh (webD long arms size ls far), .sh (nD cap), .un, .un, .un, .un, .un, .un, .un, .un, .un, .un] =
      .ok (.ret (.sh (.bl true))) [.br (.lst (W'.map nD)), .sh (netD size ls hs), .sh (webD long arms size ls far), .sh (nD cap), .ow (.lst (left'.map nD)), .sh (.lst (lot.map nD)), a, .sh (.ft (J.map bD)), .sh (nD long), .sh (nD arms), .sh (nD size), .sh (.lst (ls.map prD)), .sh (.lst (far.map nD)), .un] := by
    unfold m__law_still_joined
    rw [thn_ok e1, thn_ok e2', thn_ok e3, thn_ok e4, thn_ok e5, thn_ok e6]
    exact e7
  have hent : entry true 14 [.lst (W.map nD), netD size ls hs, webD long arms size ls far, nD cap] = [.br (.lst (W.map nD)), .sh (netD size ls hs), .sh (webD long arms size ls far), .sh (nD cap), .un, .un, .un, .un, .un, .un, .un, .un, .un, .un] := rfl
  show runF 4 14 true m__law_still_joined [.lst (W.map nD), netD size ls hs, webD long arms size ls far, nD cap] = _
  unfold runF
  rw [if_pos (show ([.lst (W.map nD), netD size ls hs, webD long arms size ls far, nD cap] : List D).length = 4 from rfl), hent, hmain] <;> rfl
end
end VLL
set_option Elab.async false
set_option linter.all false
set_option maxRecDepth 1000000
set_option maxHeartbeats 0
/-! P71y: the law's loop over switches. -/
namespace VLL
open VL
def isNo : Option Nat → Bool
  | none => true
  | some _ => false
def noDue : Option Nat → Bool
  | none => true
  | some k => decide (k = 0)
/-- what the law asks of one switch -/
def swOk (ls : List (Nat × Nat)) (T : Tab) (w0 : List (Option Nat)) (long arms cap : Nat) (far : List Nat) (s : Nat) : Bool := match far[s]? with
  | none => false
  | some f => sameN (at0 w0 s) (dueN long arms cap f) && match bestN ls T s cap with
    | none => false
    | some b => (noDue (dueN long arms cap f) == isNo b) && if dueN long arms cap f = some f ∧ 0 < f then match b with
      | none => false
      | some l => (linesAt ls s).contains l && decide (far[oth ls l s]? = some (f - 1))
      else true
section
variable {ns : List Int} {ls : List (Nat × Nat)} {far : List Nat} {long arms cap size st e s : Nat} {T : Tab} {w0 : List (Option Nat)} {W : List Nat} {s5 s6 s17 s18 : Slot}
abbrev wD (size : Nat) (ls : List (Nat × Nat)) (st e cap : Nat) (T : Tab) : D := worthD size ls [st, e] 1 cap T
abbrev lwenv (ns : List Int) (W : List Nat) (long arms cap size : Nat) (ls : List (Nat × Nat)) (far : List Nat) (st e : Nat) (s5 s6 s17 s18 : Slot) : Env :=
  [.sh (.scr ns), .ow (.lst (W.map nD)), .sh (webD long arms size ls far), .sh (nD cap), .sh (netD size ls [st, e]), s5, s6, .un, .un, .un, .sh (nD long), .sh (nD arms), .sh (nD size), .sh (.lst (ls.map prD)), .sh (.lst (far.map nD)), .sh (nD st), .sh (nD e), s17, s18]
abbrev lwbody : M Fl := thn' (sAsg (usr false run__law_due [] (ac (mv 10) (ac (mv 11) (ac (mv 3) (ac (tm (o2 pIx (mv 14) (mv 6))) an))))) (setS 17))
  (thn' (sIf (mNot (mb (usr false run__law_same [] (ac (tm x_law_1) (ac (mv 17) an)))))
  (sRet (cst (.bl false)))
  (ret .next))
  (thn' (sAsg x_law_2 (setS 18))
  (thn' (sIf (mb (o2 pNe (tm (mOrV (o2 pIs (mv 17) (tm (cst .non))) (o2 pEq (mv 17) (tm (cst (.int 0)))))) (tm (o2 pIs (mv 18) (tm (cst .non))))))
  (sRet (cst (.bl false)))
  (ret .next))
  (sIf (mAnd (mb (o2 pEq (mv 17) (tm (o2 pIx (mv 14) (mv 6))))) (mAnd (mb (o2 pGt (mv 17) (tm (cst (.int 0))))) (mb (o2 pNe (tm (o2 pIx (mv 14) (tm x_law_3))) (tm (o2 (ii fun i j => sI (i - j)) (mv 17) (tm (cst (.int 1)))))))))
  (sRet (cst (.bl false)))
  (ret .next)))))
theorem ix_far {f : Nat} (h : far[s]? = some f) : pIx [.lst (far.map nD), nD s] = some (.sh (nD f)) := by
  rw [pIx_lst, List.getElem?_map, h] <;> rfl
theorem e_p1 {f : Nat} (h : far[s]? = some f) (c : notBr s17 = true) : sAsg (usr false run__law_due [] (ac (mv 10) (ac (mv 11) (ac (mv 3) (ac (tm (o2 pIx (mv 14) (mv 6))) an))))) (setS 17) (lwenv ns W long arms cap size ls far st e s5 (.sh (nD s)) s17 s18) =
    .ok .next (lwenv ns W long arms cap size ls far st e s5 (.sh (nD s)) (.sh (oD (dueN long arms cap f))) s18) := by
  have i := ix_far h
  have d := r_due (long := long) (arms := arms) (cap := cap) (far := f)
  have u : usr false run__law_due [] (ac (mv 10) (ac (mv 11) (ac (mv 3) (ac (tm (o2 pIx (mv 14) (mv 6))) an)))) (lwenv ns W long arms cap size ls far st e s5 (.sh (nD s)) s17 s18) = .ok (.sh (oD (dueN long arms cap f))) (lwenv ns W long arms cap size ls far st e s5 (.sh (nD s)) s17 s18) := by
    simp only [runF, entry, thn', sIf, sAsg, sDrop, sRet, sNever, okO, bnd, mOr, mAnd, mNot, mb, VL.mt, mTru, truD, usr, mCall, ac, an, mv, tm, takes, take, VL.ret, aft, asB, o1, o2, cb, mPrim, looks, look, pLt, pGt, pLe, pGe, ii, oI, sI, sB, cst, pIsN, pIs, mMove, mVar, setS, mIf, mAndV, mOrV, mNotV, fin, finR, mTake, kTup, kLst, chk, unpk, gsc, gs0, Slot.frz, meth, mTy, tyD, mOn, mSeq, items, sFor, List.length_cons, List.length_nil, List.map_cons, List.map_nil, List.replicate, List.append_nil, List.cons_append, List.nil_append, List.getElem?_cons_zero, List.getElem?_cons_succ, Option.bind_some, Slot.d?, List.set, Bool.not_true, Bool.not_false, Nat.sub_self, Bool.false_eq_true, ↓reduceIte, Option.map_some, i, d, pTuple]
  exact sAsg_ok (i := 17) (s := s17) u rfl c rfl
theorem r_call0 (w : NetOk size ls) (hs0 : s < size) (ha : ∀ q ∈ T, q.2.length = size) (h0 : tget T [] = some w0) : run_WorthX_callX [wD size ls st e cap T, nD s, .kt []] = .ok (.sh (oD (at0 w0 s))) .non := by
  have hw0 : w0.length = size := tget_all (p := fun w => w.length = size) ha h0
  exact r_call (n := size) (hs := [st, e]) (house := 1) (most := cap) (T := T) (X := .kt []) (xs := []) (ls := ls) rfl rfl List.nodup_nil (fun x hx => by cases hx) (Nat.zero_le _) (Nat.zero_le _) hs0 h0 (by omega)
theorem e_x1 (w : NetOk size ls) (hs0 : s < size) (ha : ∀ q ∈ T, q.2.length = size) (h0 : tget T [] = some w0) (c5 : s5 = .ow (wD size ls st e cap T) ∨ s5 = .sh (wD size ls st e cap T)) :
    x_law_1 (lwenv ns W long arms cap size ls far st e s5 (.sh (nD s)) s17 s18) = .ok (.sh (oD (at0 w0 s))) (lwenv ns W long arms cap size ls far st e (.sh (wD size ls st e cap T)) (.sh (nD s)) s17 s18) := by
  have r := r_call0 (st := st) (e := e) (cap := cap) w hs0 ha h0
  have hk : kInst "Worth" run_WorthX_callX [.kt []] [wD size ls st e cap T, nD s] (lwenv ns W long arms cap size ls far st e (.sh (wD size ls st e cap T)) (.sh (nD s)) s17 s18) = .ok (.sh (oD (at0 w0 s))) (lwenv ns W long arms cap size ls far st e (.sh (wD size ls st e cap T)) (.sh (nD s)) s17 s18) := by
    show (if ("Worth" : PySem.Str) = "Worth" then aft (run_WorthX_callX ([wD size ls st e cap T, nD s] ++ [.kt []])) (fun _ ρ => ρ) else fun _ => Res.bad) _ = _
    rw [if_pos rfl]
    have r' : run_WorthX_callX ([wD size ls st e cap T, nD s] ++ [.kt []]) = .ok (.sh (oD (at0 w0 s))) .non := r
    rw [r'] <;> rfl
  rcases c5 with c5 | c5
  · subst c5
    exact hk
  · subst c5
    exact hk
theorem e_p2 {due : Option Nat} (w : NetOk size ls) (hs0 : s < size) (ha : ∀ q ∈ T, q.2.length = size) (h0 : tget T [] = some w0) (c5 : s5 = .ow (wD size ls st e cap T) ∨ s5 = .sh (wD size ls st e cap T)) (h : sameN (at0 w0 s) due = true) :
    sIf (mNot (mb (usr false run__law_same [] (ac (tm x_law_1) (ac (mv 17) an))))) (sRet (cst (.bl false))) (VL.ret .next) (lwenv ns W long arms cap size ls far st e s5 (.sh (nD s)) (.sh (oD due)) s18) =
    .ok .next (lwenv ns W long arms cap size ls far st e (.sh (wD size ls st e cap T)) (.sh (nD s)) (.sh (oD due)) s18) := by
  have x := e_x1 (ns := ns) (W := W) (long := long) (arms := arms) (far := far) (s17 := .sh (oD due)) (s18 := s18) w hs0 ha h0 c5
  have r := r_same (at0 w0 s) due
  rw [h] at r
  have hac : ac (tm x_law_1) (ac (mv 17) an) (lwenv ns W long arms cap size ls far st e s5 (.sh (nD s)) (.sh (oD due)) s18) = .ok [.tmp (.sh (oD (at0 w0 s))), .var 17] (lwenv ns W long arms cap size ls far st e (.sh (wD size ls st e cap T)) (.sh (nD s)) (.sh (oD due)) s18) := by
    have ht : tm x_law_1 (lwenv ns W long arms cap size ls far st e s5 (.sh (nD s)) (.sh (oD due)) s18) = .ok (.tmp (.sh (oD (at0 w0 s)))) (lwenv ns W long arms cap size ls far st e (.sh (wD size ls st e cap T)) (.sh (nD s)) (.sh (oD due)) s18) := by
      unfold tm
      rw [bnd_ok x] <;> rfl
    unfold ac
    rw [bnd_ok ht] <;> rfl
  have hu : usr false run__law_same [] (ac (tm x_law_1) (ac (mv 17) an)) (lwenv ns W long arms cap size ls far st e s5 (.sh (nD s)) (.sh (oD due)) s18) = .ok (.sh (.bl true)) (lwenv ns W long arms cap size ls far st e (.sh (wD size ls st e cap T)) (.sh (nD s)) (.sh (oD due)) s18) := by
    show bnd _ _ _ = _
    rw [bnd_ok hac]
    simp only [runF, entry, thn', sIf, sAsg, sDrop, sRet, sNever, okO, bnd, mOr, mAnd, mNot, mb, VL.mt, mTru, truD, usr, mCall, ac, an, mv, tm, takes, take, VL.ret, aft, asB, o1, o2, cb, mPrim, looks, look, pLt, pGt, pLe, pGe, ii, oI, sI, sB, cst, pIsN, pIs, mMove, mVar, setS, mIf, mAndV, mOrV, mNotV, fin, finR, mTake, kTup, kLst, chk, unpk, gsc, gs0, Slot.frz, meth, mTy, tyD, mOn, mSeq, items, sFor, List.length_cons, List.length_nil, List.map_cons, List.map_nil, List.replicate, List.append_nil, List.cons_append, List.nil_append, List.getElem?_cons_zero, List.getElem?_cons_succ, Option.bind_some, Slot.d?, List.set, Bool.not_true, Bool.not_false, Nat.sub_self, Bool.false_eq_true, ↓reduceIte, Option.map_some, r, pTuple]
  have hm : mNot (mb (usr false run__law_same [] (ac (tm x_law_1) (ac (mv 17) an)))) (lwenv ns W long arms cap size ls far st e s5 (.sh (nD s)) (.sh (oD due)) s18) = .ok false (lwenv ns W long arms cap size ls far st e (.sh (wD size ls st e cap T)) (.sh (nD s)) (.sh (oD due)) s18) := by
    have hb : mb (usr false run__law_same [] (ac (tm x_law_1) (ac (mv 17) an))) (lwenv ns W long arms cap size ls far st e s5 (.sh (nD s)) (.sh (oD due)) s18) = .ok true (lwenv ns W long arms cap size ls far st e (.sh (wD size ls st e cap T)) (.sh (nD s)) (.sh (oD due)) s18) := by
      unfold mb
      rw [bnd_ok hu] <;> rfl
    unfold mNot
    rw [bnd_ok hb] <;> rfl
  unfold sIf
  rw [bnd_ok hm] <;> rfl
theorem e_p3 {b : Option Nat} (w : NetOk size ls) (hs0 : s < size) (ha : ∀ q ∈ T, q.2.length = size) (hb : bestN ls T s cap = some b) (c : notBr s18 = true) :
    sAsg x_law_2 (setS 18) (lwenv ns W long arms cap size ls far st e (.sh (wD size ls st e cap T)) (.sh (nD s)) s17 s18) = .ok .next (lwenv ns W long arms cap size ls far st e (.sh (wD size ls st e cap T)) (.sh (nD s)) s17 (.sh (oD b))) := by
  have r := r_best (n := size) (hs := [st, e]) (house := 1) w hs0 ha hb
  have x : x_law_2 (lwenv ns W long arms cap size ls far st e (.sh (wD size ls st e cap T)) (.sh (nD s)) s17 s18) = .ok (.sh (oD b)) (lwenv ns W long arms cap size ls far st e (.sh (wD size ls st e cap T)) (.sh (nD s)) s17 s18) :=
    meth_ok (cn := "Worth") (m := "best") (F := run_Worth_best) (dd := [.kt []]) (mo := mv 5) (ms := ac (mv 6) an) (o := .var 5) (os := [.var 6]) (ds := [wD size ls st e cap T, nD s]) (ρ := lwenv ns W long arms cap size ls far st e (.sh (wD size ls st e cap T)) (.sh (nD s)) s17 s18) rfl rfl rfl rfl rfl r
  exact sAsg_ok (i := 18) (s := s18) x rfl c rfl
theorem pNe_bl (a b : Bool) : pNe [.bl a, .bl b] = some (.sh (.bl (a != b))) := by cases a <;> cases b <;> rfl
theorem e_p4 {due b : Option Nat} (h : (noDue due == isNo b) = true) : sIf (mb (o2 pNe (tm (mOrV (o2 pIs (mv 17) (tm (cst .non))) (o2 pEq (mv 17) (tm (cst (.int 0)))))) (tm (o2 pIs (mv 18) (tm (cst .non)))))) (sRet (cst (.bl false))) (VL.ret .next) (lwenv ns W long arms cap size ls far st e s5 s6 (.sh (oD due)) (.sh (oD b))) =
    .ok .next (lwenv ns W long arms cap size ls far st e s5 s6 (.sh (oD due)) (.sh (oD b))) := by
  have pb : pIs [oD b, .non] = some (.sh (.bl (isNo b))) := by cases b <;> rfl
  have pd : pIs [oD due, .non] = some (.sh (.bl (isNo due))) := by cases due <;> rfl
  have h' : (noDue due != isNo b) = false := by
    rw [bne, h] <;> rfl
  have pn := pNe_bl (noDue due) (isNo b)
  rw [h'] at pn
  have ev : mOrV (o2 pIs (mv 17) (tm (cst .non))) (o2 pEq (mv 17) (tm (cst (.int 0)))) (lwenv ns W long arms cap size ls far st e s5 s6 (.sh (oD due)) (.sh (oD b))) = .ok (.sh (.bl (noDue due))) (lwenv ns W long arms cap size ls far st e s5 s6 (.sh (oD due)) (.sh (oD b))) := by
    cases due with
    | none => rfl
    | some k =>
      have d0 : decide ((k : Int) = 0) = decide (k = 0) := dec_eq k 0
      have e1 : pIs [nD k, .non] = some (.sh (.bl false)) := rfl
      show mOrV (o2 pIs (mv 17) (tm (cst .non))) (o2 pEq (mv 17) (tm (cst (.int 0)))) (lwenv ns W long arms cap size ls far st e s5 s6 (.sh (nD k)) (.sh (oD b))) = .ok (.sh (.bl (decide (k = 0)))) _
      simp only [runF, entry, thn', sIf, sAsg, sDrop, sRet, sNever, okO, bnd, mOr, mAnd, mNot, mb, VL.mt, mTru, truD, usr, mCall, ac, an, mv, tm, takes, take, VL.ret, aft, asB, o1, o2, cb, mPrim, looks, look, pLt, pGt, pLe, pGe, ii, oI, sI, sB, cst, pIsN, pIs, mMove, mVar, setS, mIf, mAndV, mOrV, mNotV, fin, finR, mTake, kTup, kLst, chk, unpk, gsc, gs0, Slot.frz, meth, mTy, tyD, mOn, mSeq, items, sFor, List.length_cons, List.length_nil, List.map_cons, List.map_nil, List.replicate, List.append_nil, List.cons_append, List.nil_append, List.getElem?_cons_zero, List.getElem?_cons_succ, Option.bind_some, Slot.d?, List.set, Bool.not_true, Bool.not_false, Nat.sub_self, Bool.false_eq_true, ↓reduceIte, Option.map_some, e1, pEq_int, d0, pTuple]
      rfl
  have hm : mb (o2 pNe (tm (mOrV (o2 pIs (mv 17) (tm (cst .non))) (o2 pEq (mv 17) (tm (cst (.int 0)))))) (tm (o2 pIs (mv 18) (tm (cst .non))))) (lwenv ns W long arms cap size ls far st e s5 s6 (.sh (oD due)) (.sh (oD b))) = .ok false (lwenv ns W long arms cap size ls far st e s5 s6 (.sh (oD due)) (.sh (oD b))) := by
    have ht : tm (mOrV (o2 pIs (mv 17) (tm (cst .non))) (o2 pEq (mv 17) (tm (cst (.int 0))))) (lwenv ns W long arms cap size ls far st e s5 s6 (.sh (oD due)) (.sh (oD b))) = .ok (.tmp (.sh (.bl (noDue due)))) (lwenv ns W long arms cap size ls far st e s5 s6 (.sh (oD due)) (.sh (oD b))) := by
      unfold tm
      rw [bnd_ok ev] <;> rfl
    have ht2 : tm (o2 pIs (mv 18) (tm (cst .non))) (lwenv ns W long arms cap size ls far st e s5 s6 (.sh (oD due)) (.sh (oD b))) = .ok (.tmp (.sh (.bl (isNo b)))) (lwenv ns W long arms cap size ls far st e s5 s6 (.sh (oD due)) (.sh (oD b))) := by
      cases b <;> rfl
    have hp : mPrim pNe [.tmp (.sh (.bl (noDue due))), .tmp (.sh (.bl (isNo b)))] (lwenv ns W long arms cap size ls far st e s5 s6 (.sh (oD due)) (.sh (oD b))) = .ok (.sh (.bl false)) (lwenv ns W long arms cap size ls far st e s5 s6 (.sh (oD due)) (.sh (oD b))) := by
      simp only [runF, entry, thn', sIf, sAsg, sDrop, sRet, sNever, okO, bnd, mOr, mAnd, mNot, mb, VL.mt, mTru, truD, usr, mCall, ac, an, mv, tm, takes, take, VL.ret, aft, asB, o1, o2, cb, mPrim, looks, look, pLt, pGt, pLe, pGe, ii, oI, sI, sB, cst, pIsN, pIs, mMove, mVar, setS, mIf, mAndV, mOrV, mNotV, fin, finR, mTake, kTup, kLst, chk, unpk, gsc, gs0, Slot.frz, meth, mTy, tyD, mOn, mSeq, items, sFor, List.length_cons, List.length_nil, List.map_cons, List.map_nil, List.replicate, List.append_nil, List.cons_append, List.nil_append, List.getElem?_cons_zero, List.getElem?_cons_succ, Option.bind_some, Slot.d?, List.set, Bool.not_true, Bool.not_false, Nat.sub_self, Bool.false_eq_true, ↓reduceIte, Option.map_some, pn, pTuple]
    have ho : o2 pNe (tm (mOrV (o2 pIs (mv 17) (tm (cst .non))) (o2 pEq (mv 17) (tm (cst (.int 0)))))) (tm (o2 pIs (mv 18) (tm (cst .non)))) (lwenv ns W long arms cap size ls far st e s5 s6 (.sh (oD due)) (.sh (oD b))) = .ok (.sh (.bl false)) (lwenv ns W long arms cap size ls far st e s5 s6 (.sh (oD due)) (.sh (oD b))) := by
      unfold o2
      rw [bnd_ok ht, bnd_ok ht2]
      exact hp
    unfold mb
    rw [bnd_ok ho] <;> rfl
  unfold sIf
  rw [bnd_ok hm] <;> rfl
end
end VLL
set_option Elab.async false
set_option linter.all false
set_option maxRecDepth 1000000
set_option maxHeartbeats 0
/-! P71z: the law's loop over switches, whole. -/
namespace VLL
open VL
section
variable {ns : List Int} {ls : List (Nat × Nat)} {far : List Nat} {long arms cap size st e s : Nat} {T : Tab} {w0 : List (Option Nat)} {W : List Nat} {s5 s6 s17 s18 : Slot}
theorem mem_cont {l : Nat} {xs : List Nat} (h : xs.contains l = true) : l ∈ xs := List.contains_iff_mem.mp h
theorem e_p5 {due b : Option Nat} {f : Nat} (w : NetOk size ls) (hs0 : s < size) (hf : far[s]? = some f)
    (h : due = some f → 0 < f → ∃ l, b = some l ∧ l ∈ linesAt ls s ∧ far[oth ls l s]? = some (f - 1)) :
    sIf (mAnd (mb (o2 pEq (mv 17) (tm (o2 pIx (mv 14) (mv 6))))) (mAnd (mb (o2 pGt (mv 17) (tm (cst (.int 0))))) (mb (o2 pNe (tm (o2 pIx (mv 14) (tm x_law_3))) (tm (o2 (ii fun i j => sI (i - j)) (mv 17) (tm (cst (.int 1)))))))))
      (sRet (cst (.bl false))) (VL.ret .next) (lwenv ns W long arms cap size ls far st e s5 (.sh (nD s)) (.sh (oD due)) (.sh (oD b))) =
    .ok .next (lwenv ns W long arms cap size ls far st e s5 (.sh (nD s)) (.sh (oD due)) (.sh (oD b))) := by
  have i := ix_far hf
  have q := pEq_oD due f
  by_cases h1 : due = some f
  · rw [decide_eq_true h1] at q
    have d0 : decide ((0 : Int) < (f : Int)) = decide (0 < f) := dec_lt 0 f
    by_cases h2 : 0 < f
    · rw [decide_eq_true h2] at d0
      obtain ⟨l, rfl, hl, h3⟩ := h h1 h2
      have h4 := ix_far h3
      subst h1
      have x3 : x_law_3 (lwenv ns W long arms cap size ls far st e s5 (.sh (nD s)) (.sh (nD f)) (.sh (nD l))) = .ok (.sh (nD (oth ls l s))) (lwenv ns W long arms cap size ls far st e s5 (.sh (nD s)) (.sh (nD f)) (.sh (nD l))) :=
        meth_ok (cn := "Net") (m := "other") (F := run_Net_other) (dd := []) (mo := mv 4) (ms := ac (mv 18) (ac (mv 6) an)) (o := .var 4) (os := [.var 18, .var 6]) (ds := [netD size ls [st, e], nD l, nD s]) (ρ := lwenv ns W long arms cap size ls far st e s5 (.sh (nD s)) (.sh (nD f)) (.sh (nD l))) rfl rfl rfl rfl rfl (r_other' hl hs0)
      have e1 : (f : Int) - 1 = ((f - 1 : Nat) : Int) := by omega
      have n := pNe_int ((f - 1 : Nat) : Int) ((f - 1 : Nat) : Int)
      rw [decide_eq_true rfl] at n
      show sIf _ _ _ (lwenv ns W long arms cap size ls far st e s5 (.sh (nD s)) (.sh (nD f)) (.sh (nD l))) = .ok .next (lwenv ns W long arms cap size ls far st e s5 (.sh (nD s)) (.sh (nD f)) (.sh (nD l)))
      have q : pEq [nD f, nD f] = some (.sh (.bl true)) := q
      generalize oth ls l s = o at *
      simp only [runF, entry, thn', sIf, sAsg, sDrop, sRet, sNever, okO, bnd, mOr, mAnd, mNot, mb, VL.mt, mTru, truD, usr, mCall, ac, an, mv, tm, takes, take, VL.ret, aft, asB, o1, o2, cb, mPrim, looks, look, pLt, pGt, pLe, pGe, ii, oI, sI, sB, cst, pIsN, pIs, mMove, mVar, setS, mIf, mAndV, mOrV, mNotV, fin, finR, mTake, kTup, kLst, chk, unpk, gsc, gs0, Slot.frz, meth, mTy, tyD, mOn, mSeq, items, sFor, List.length_cons, List.length_nil, List.map_cons, List.map_nil, List.replicate, List.append_nil, List.cons_append, List.nil_append, List.getElem?_cons_zero, List.getElem?_cons_succ, Option.bind_some, Slot.d?, List.set, Bool.not_true, Bool.not_false, Nat.sub_self, Bool.false_eq_true, ↓reduceIte, Option.map_some, i, q, d0, x3, h4, e1, n, pTuple]
    · rw [decide_eq_false h2] at d0
      subst h1
      have q : pEq [nD f, nD f] = some (.sh (.bl true)) := q
      show sIf _ _ _ (lwenv ns W long arms cap size ls far st e s5 (.sh (nD s)) (.sh (nD f)) (.sh (oD b))) = .ok .next (lwenv ns W long arms cap size ls far st e s5 (.sh (nD s)) (.sh (nD f)) (.sh (oD b)))
      simp only [runF, entry, thn', sIf, sAsg, sDrop, sRet, sNever, okO, bnd, mOr, mAnd, mNot, mb, VL.mt, mTru, truD, usr, mCall, ac, an, mv, tm, takes, take, VL.ret, aft, asB, o1, o2, cb, mPrim, looks, look, pLt, pGt, pLe, pGe, ii, oI, sI, sB, cst, pIsN, pIs, mMove, mVar, setS, mIf, mAndV, mOrV, mNotV, fin, finR, mTake, kTup, kLst, chk, unpk, gsc, gs0, Slot.frz, meth, mTy, tyD, mOn, mSeq, items, sFor, List.length_cons, List.length_nil, List.map_cons, List.map_nil, List.replicate, List.append_nil, List.cons_append, List.nil_append, List.getElem?_cons_zero, List.getElem?_cons_succ, Option.bind_some, Slot.d?, List.set, Bool.not_true, Bool.not_false, Nat.sub_self, Bool.false_eq_true, ↓reduceIte, Option.map_some, i, q, d0, pTuple]
  · rw [decide_eq_false h1] at q
    simp only [runF, entry, thn', sIf, sAsg, sDrop, sRet, sNever, okO, bnd, mOr, mAnd, mNot, mb, VL.mt, mTru, truD, usr, mCall, ac, an, mv, tm, takes, take, VL.ret, aft, asB, o1, o2, cb, mPrim, looks, look, pLt, pGt, pLe, pGe, ii, oI, sI, sB, cst, pIsN, pIs, mMove, mVar, setS, mIf, mAndV, mOrV, mNotV, fin, finR, mTake, kTup, kLst, chk, unpk, gsc, gs0, Slot.frz, meth, mTy, tyD, mOn, mSeq, items, sFor, List.length_cons, List.length_nil, List.map_cons, List.map_nil, List.replicate, List.append_nil, List.cons_append, List.nil_append, List.getElem?_cons_zero, List.getElem?_cons_succ, Option.bind_some, Slot.d?, List.set, Bool.not_true, Bool.not_false, Nat.sub_self, Bool.false_eq_true, ↓reduceIte, Option.map_some, i, q, pTuple]
theorem e_lwbody (w : NetOk size ls) (hs0 : s < size) (ha : ∀ q ∈ T, q.2.length = size) (h0 : tget T [] = some w0) (c5 : s5 = .ow (wD size ls st e cap T) ∨ s5 = .sh (wD size ls st e cap T)) (c17 : notBr s17 = true) (c18 : notBr s18 = true) (h : swOk ls T w0 long arms cap far s = true) :
    ∃ a b, notBr a = true ∧ notBr b = true ∧ lwbody (lwenv ns W long arms cap size ls far st e s5 (.sh (nD s)) s17 s18) = .ok .next (lwenv ns W long arms cap size ls far st e (.sh (wD size ls st e cap T)) (.sh (nD s)) a b) := by
  unfold swOk at h
  cases hf : far[s]? with
  | none => rw [hf] at h; cases h
  | some f =>
    rw [hf] at h
    dsimp only at h
    rw [Bool.and_eq_true] at h
    obtain ⟨q1, q2⟩ := h
    cases hb : bestN ls T s cap with
    | none => rw [hb] at q2; cases q2
    | some b =>
      rw [hb] at q2
      dsimp only at q2
      rw [Bool.and_eq_true] at q2
      obtain ⟨q2, q3⟩ := q2
      refine ⟨.sh (oD (dueN long arms cap f)), .sh (oD b), rfl, rfl, ?_⟩
      unfold lwbody
      rw [thn_ok (e_p1 hf c17), thn_ok (e_p2 w hs0 ha h0 c5 q1), thn_ok (e_p3 w hs0 ha hb c18), thn_ok (e_p4 q2)]
      refine e_p5 w hs0 hf fun h1 h2 => ?_
      rw [if_pos ⟨h1, h2⟩] at q3
      cases b with
      | none => cases q3
      | some l =>
        dsimp only at q3
        rw [Bool.and_eq_true] at q3
        exact ⟨l, rfl, mem_cont q3.1, of_decide_eq_true q3.2⟩
theorem e_lwloop (w : NetOk size ls) (ha : ∀ q ∈ T, q.2.length = size) (h0 : tget T [] = some w0) : ∀ (xs : List Nat) {s5 s6 s17 s18 : Slot}, (s5 = .ow (wD size ls st e cap T) ∨ s5 = .sh (wD size ls st e cap T)) → notBr s6 = true → notBr s17 = true → notBr s18 = true →
    (∀ x ∈ xs, x < size ∧ swOk ls T w0 long arms cap far x = true) → 
    ∃ z a b c, (z = .ow (wD size ls st e cap T) ∨ z = .sh (wD size ls st e cap T)) ∧ notBr a = true ∧ sLoop (setS 6) lwbody (xs.map nD) (lwenv ns W long arms cap size ls far st e s5 s6 s17 s18) = .ok .next (lwenv ns W long arms cap size ls far st e z a b c)
  | [], s5, s6, s17, s18, c5, c6, c17, c18, hx => ⟨s5, s6, s17, s18, c5, c6, rfl⟩
  | x :: xs, s5, s6, s17, s18, c5, c6, c17, c18, hx => by
    have g := set_any (ρ := lwenv ns W long arms cap size ls far st e s5 s6 s17 s18) (i := 6) (d := nD x) rfl c6
    have g : okO (setS 6 (.sh (nD x))) (lwenv ns W long arms cap size ls far st e s5 s6 s17 s18) = .ok .next (lwenv ns W long arms cap size ls far st e s5 (.sh (nD x)) s17 s18) := by
      unfold okO
      rw [g] <;> rfl
    obtain ⟨h1, h2⟩ := hx x List.mem_cons_self
    obtain ⟨a, b, ca, cb', hb⟩ := e_lwbody (ns := ns) (W := W) (st := st) (e := e) w h1 ha h0 c5 c17 c18 h2
    obtain ⟨z, a', b', c', hz, hc, hl⟩ := e_lwloop w ha h0 xs (s5 := .sh (wD size ls st e cap T)) (s6 := .sh (nD x)) (s17 := a) (s18 := b) (.inr rfl) rfl ca cb' (fun y hy => hx y (List.mem_cons_of_mem _ hy))
    refine ⟨z, a', b', c', hz, hc, ?_⟩
    rw [List.map_cons]
    conv => lhs; unfold sLoop
    rw [bnd_ok g, bnd_ok hb]
    exact hl
theorem e_l1 (w : NetOk size ls) (hz : 0 < size) (hst : st < size) (he : e < size) (ha : ∀ q ∈ T, q.2.length = size) (h0 : tget T [] = some w0) (h : ∀ s < size, swOk ls T w0 long arms cap far s = true) :
    ∃ W' z a b c, (z = .ow (wD size ls st e cap T) ∨ z = .sh (wD size ls st e cap T)) ∧ notBr a = true ∧ l_law_1 (lwenv ns W long arms cap size ls far st e (.ow (wD size ls st e cap T)) .un .un .un) = .ok .next (lwenv ns W' long arms cap size ls far st e z a b c) := by
  have ht := takeN_lt W hz
  have t := r_take (W := W) hz
  generalize (takeN W size).1 = sw at ht t
  generalize (takeN W size).2 = W1 at t
  obtain ⟨z, a, b, c, hz', hc, hl⟩ := e_lwloop (ns := ns) (W := W1) (long := long) (arms := arms) (cap := cap) (far := far) (st := st) (e := e) w ha h0 [st, e, sw, size - 1] (s5 := .ow (wD size ls st e cap T)) (s6 := .un) (s17 := .un) (s18 := .un) (.inl rfl) rfl rfl rfl (fun x hx => by
    have hx' : x < size := by
      simp only [List.mem_cons, List.not_mem_nil, or_false] at hx
      omega
    exact ⟨hx', h x hx'⟩)
  refine ⟨W1, z, a, b, c, hz', hc, ?_⟩
  have e1 : (size : Int) - 1 = ((size - 1 : Nat) : Int) := by omega
  have hsq : mSeq (mTake (ac (mv 15) (ac (mv 16) (ac (tm (usr true run__law_take [] (ac (mv 1) (ac (mv 12) an)))) (ac (tm (o2 (ii fun i j => sI (i - j)) (mv 12) (tm (cst (.int 1))))) an)))) kTup) (lwenv ns W long arms cap size ls far st e (.ow (wD size ls st e cap T)) .un .un .un) =
      .ok ([st, e, sw, size - 1].map nD) (lwenv ns W1 long arms cap size ls far st e (.ow (wD size ls st e cap T)) .un .un .un) := by
    have hlim : decide (0 + 1 + 1 + 1 + 1 ≤ lim) = true := by decide
    simp only [runF, entry, thn', sIf, sAsg, sDrop, sRet, sNever, okO, bnd, mOr, mAnd, mNot, mb, VL.mt, mTru, truD, usr, mCall, ac, an, mv, tm, takes, take, VL.ret, aft, asB, o1, o2, cb, mPrim, looks, look, pLt, pGt, pLe, pGe, ii, oI, sI, sB, cst, pIsN, pIs, mMove, mVar, setS, mIf, mAndV, mOrV, mNotV, fin, finR, mTake, kTup, kLst, chk, unpk, gsc, gs0, Slot.frz, meth, mTy, tyD, mOn, mSeq, items, sFor, List.length_cons, List.length_nil, List.map_cons, List.map_nil, List.replicate, List.append_nil, List.cons_append, List.nil_append, List.getElem?_cons_zero, List.getElem?_cons_succ, Option.bind_some, Slot.d?, List.set, Bool.not_true, Bool.not_false, Nat.sub_self, Bool.false_eq_true, ↓reduceIte, Option.map_some, mCallT, t, e1, hlim, pTuple]
  unfold l_law_1 sFor
  rw [bnd_ok hsq]
  exact hl
end
end VLL
set_option Elab.async false
set_option linter.all false
set_option maxRecDepth 1000000
set_option maxHeartbeats 0
/-! P71ab: the law behind its loop. -/
namespace VLL
open VL
def cutN (long arms : Nat) : Nat := if long = 1 ∨ arms = 1 then arms else 2
def partOk (size : Nat) (ls : List (Nat × Nat)) (e long arms cap : Nat) : Option (Nat × List Nat) → Bool
  | none => decide (cap < cutN long arms)
  | some (k, lot) => !decide (cap < cutN long arms) && (decide (lot.length = cutN long arms) && decide (firstOff (joinedN size ls e lot) 0 = some k))
structure Good (long arms cap size : Nat) (ls : List (Nat × Nat)) (far : List Nat) (st e : Nat) (w0 : List (Option Nat)) : Prop where
  w : NetOk size ls
  hz : 0 < size
  l12 : ls.length ≤ 12
  a0 : 0 < arms
  al : arms ≤ ls.length
  k1 : 0 < long
  ll : long ≤ ls.length
  cap3 : cap ≤ 3
  hst : st < size
  he : e < size
  ist : idxN long far 0 = some st
  ie : idxN 0 far 0 = some e
  t0 : tget (worthTable size ls e cap) [] = some w0
  sw : ∀ s < size, swOk ls (worthTable size ls e cap) w0 long arms cap far s = true
  one : cap = 1 → 1 < arms → ∃ w1, tget (worthTable size ls e cap) [long - 1] = some w1 ∧ sameN (at0 w1 st) (some long) = true
  still : ∀ lot : List Nat, lot.Nodup → (∀ x ∈ lot, x < ls.length) → lot.length = min cap (arms - 1) → ∃ J, reachN size ls e (sortN lot) = some J ∧ joinedN size ls e lot = J ∧ J[st]? = some true
  part : ∃ r, partGo size ls e (smallLots ls.length cap) = some r ∧ partOk size ls e long arms cap r = true
theorem table_len (n : Nat) (ls : List (Nat × Nat)) (spot most : Nat) : ∀ q ∈ worthTable n ls spot most, q.2.length = n := by
  unfold worthTable
  have : ∀ (l : List (List Nat)) (T : Tab), (∀ q ∈ T, q.2.length = n) → ∀ q ∈ l.foldl (fun T lot => tput T lot (lotWorths n ls spot lot (fallOf n ls.length most T lot))) T, q.2.length = n := by
    intro l
    induction l with
    | nil => intro T h; exact h
    | cons x l ih =>
      intro T h
      rw [List.foldl_cons]
      exact ih _ (tput_all (p := fun w => w.length = n) h (lotWorths_len n ls spot x _))
  exact this _ [] (fun q hq => by cases hq)
section
variable {ns : List Int} {ls : List (Nat × Nat)} {far : List Nat} {long arms cap size st e : Nat} {T : Tab} {w0 : List (Option Nat)} {W : List Nat} {s5 s6 s7 s8 s9 s17 s18 : Slot}
abbrev fenv (ns : List Int) (W : List Nat) (long arms cap size : Nat) (ls : List (Nat × Nat)) (far : List Nat) (st e : Nat) (s5 s6 s7 s8 s9 s17 s18 : Slot) : Env :=
  [.sh (.scr ns), .ow (.lst (W.map nD)), .sh (webD long arms size ls far), .sh (nD cap), .sh (netD size ls [st, e]), s5, s6, s7, s8, s9, .sh (nD long), .sh (nD arms), .sh (nD size), .sh (.lst (ls.map prD)), .sh (.lst (far.map nD)), .sh (nD st), .sh (nD e), s17, s18]
abbrev f6 : M Fl := sIf (mAnd (mb (o2 pEq (mv 3) (tm (cst (.int 1))))) (mAnd (mb (o2 pGt (mv 11) (tm (cst (.int 1))))) (mNot (mb (usr false run__law_same [] (ac (tm x_law_4) (ac (mv 10) an)))))))
  (sRet (cst (.bl false)))
  (ret .next)
theorem e_x4 {w1 : List (Option Nat)} (w : NetOk size ls) (hs0 : st < size) (ha : ∀ q ∈ T, q.2.length = size) (hk : 0 < long) (hl : long ≤ ls.length) (hc : 1 ≤ cap) (h0 : tget T [long - 1] = some w1) (c5 : s5 = .ow (wD size ls st e cap T) ∨ s5 = .sh (wD size ls st e cap T)) :
    x_law_4 (fenv ns W long arms cap size ls far st e s5 s6 s7 s8 s9 s17 s18) = .ok (.sh (oD (at0 w1 st))) (fenv ns W long arms cap size ls far st e (.sh (wD size ls st e cap T)) s6 s7 s8 s9 s17 s18) := by
  have hw1 : w1.length = size := tget_all (p := fun w => w.length = size) ha h0
  have r : run_WorthX_callX [wD size ls st e cap T, nD st, .lst [nD (long - 1)]] = .ok (.sh (oD (at0 w1 st))) .non :=
    r_call (n := size) (hs := [st, e]) (house := 1) (most := cap) (T := T) (X := .lst [nD (long - 1)]) (xs := [long - 1]) (ls := ls) rfl (r_row_l _) (List.nodup_cons.mpr ⟨by simp, List.nodup_nil⟩) (fun x hx => by rw [List.mem_singleton.mp hx]; omega) (show 1 ≤ 20 by decide) hc hs0 h0 (by omega)
  have e1 : (long : Int) - 1 = ((long - 1 : Nat) : Int) := by omega
  have hlim : decide (0 + 1 ≤ lim) = true := by decide
  have hr : ("Worth" : PySem.Str) = "Worth" := rfl
  have hk : kInst "Worth" run_WorthX_callX [] [wD size ls st e cap T, nD st, .lst [nD (long - 1)]] (fenv ns W long arms cap size ls far st e (.sh (wD size ls st e cap T)) s6 s7 s8 s9 s17 s18) = .ok (.sh (oD (at0 w1 st))) (fenv ns W long arms cap size ls far st e (.sh (wD size ls st e cap T)) s6 s7 s8 s9 s17 s18) := by
    show (if ("Worth" : PySem.Str) = "Worth" then aft (run_WorthX_callX ([wD size ls st e cap T, nD st, .lst [nD (long - 1)]] ++ [])) (fun _ ρ => ρ) else fun _ => Res.bad) _ = _
    rw [if_pos rfl]
    have r' : run_WorthX_callX ([wD size ls st e cap T, nD st, .lst [nD (long - 1)]] ++ []) = .ok (.sh (oD (at0 w1 st))) .non := r
    rw [r'] <;> rfl
  have hms : ∀ z : Slot, ac (mv 15) (ac (tm (mTake (ac (tm (o2 (ii fun i j => sI (i - j)) (mv 10) (tm (cst (.int 1))))) an) kLst)) an) (fenv ns W long arms cap size ls far st e z s6 s7 s8 s9 s17 s18) = .ok [.var 15, .tmp (.ow (.lst [nD (long - 1)]))] (fenv ns W long arms cap size ls far st e z s6 s7 s8 s9 s17 s18) := fun z => by
    simp only [runF, entry, thn', sIf, sAsg, sDrop, sRet, sNever, okO, bnd, mOr, mAnd, mNot, mb, VL.mt, mTru, truD, usr, mCall, ac, an, mv, tm, takes, take, VL.ret, aft, asB, o1, o2, cb, mPrim, looks, look, pLt, pGt, pLe, pGe, ii, oI, sI, sB, cst, pIsN, pIs, mMove, mVar, setS, mIf, mAndV, mOrV, mNotV, fin, finR, mTake, kTup, kLst, chk, unpk, gsc, gs0, Slot.frz, meth, mTy, tyD, mOn, mSeq, items, sFor, List.length_cons, List.length_nil, List.map_cons, List.map_nil, List.replicate, List.append_nil, List.cons_append, List.nil_append, List.getElem?_cons_zero, List.getElem?_cons_succ, Option.bind_some, Slot.d?, List.set, Bool.not_true, Bool.not_false, Nat.sub_self, Bool.false_eq_true, ↓reduceIte, Option.map_some, e1, hlim, pTuple]
  have go : ∀ z : Slot, look (fenv ns W long arms cap size ls far st e z s6 s7 s8 s9 s17 s18) (.var 5) = some (wD size ls st e cap T) → takes [.var 5, .var 15, .tmp (.ow (.lst [nD (long - 1)]))] (fenv ns W long arms cap size ls far st e z s6 s7 s8 s9 s17 s18) = .ok [wD size ls st e cap T, nD st, .lst [nD (long - 1)]] (fenv ns W long arms cap size ls far st e (.sh (wD size ls st e cap T)) s6 s7 s8 s9 s17 s18) →
      mv 5 (fenv ns W long arms cap size ls far st e z s6 s7 s8 s9 s17 s18) = .ok (.var 5) (fenv ns W long arms cap size ls far st e z s6 s7 s8 s9 s17 s18) →
      x_law_4 (fenv ns W long arms cap size ls far st e z s6 s7 s8 s9 s17 s18) = .ok (.sh (oD (at0 w1 st))) (fenv ns W long arms cap size ls far st e (.sh (wD size ls st e cap T)) s6 s7 s8 s9 s17 s18) := fun z l1 l2 l3 => by
    unfold x_law_4 mInst
    rw [bnd_ok l3]
    unfold mIs
    rw [l1]
    dsimp only
    rw [if_pos (show hasF "Worth" "" (wD size ls st e cap T) = true from rfl), bnd_ok (hms z), bnd_ok l2]
    exact hk
  rcases c5 with c5 | c5
  · subst c5
    exact go _ rfl rfl rfl
  · subst c5
    exact go _ rfl rfl rfl
theorem e_f6 (w : NetOk size ls) (hs0 : st < size) (ha : ∀ q ∈ T, q.2.length = size) (hk : 0 < long) (hl : long ≤ ls.length) (h : cap = 1 → 1 < arms → ∃ w1, tget T [long - 1] = some w1 ∧ sameN (at0 w1 st) (some long) = true) (c5 : s5 = .ow (wD size ls st e cap T) ∨ s5 = .sh (wD size ls st e cap T)) :
    ∃ z, f6 (fenv ns W long arms cap size ls far st e s5 s6 s7 s8 s9 s17 s18) = .ok .next (fenv ns W long arms cap size ls far st e z s6 s7 s8 s9 s17 s18) := by
  have d1 : decide ((cap : Int) = 1) = decide (cap = 1) := dec_eq cap 1
  have d2 : decide ((1 : Int) < (arms : Int)) = decide (1 < arms) := dec_lt 1 arms
  have t1 : mb (o2 pEq (mv 3) (tm (cst (.int 1)))) (fenv ns W long arms cap size ls far st e s5 s6 s7 s8 s9 s17 s18) = .ok (decide (cap = 1)) (fenv ns W long arms cap size ls far st e s5 s6 s7 s8 s9 s17 s18) := by
    simp only [runF, entry, thn', sIf, sAsg, sDrop, sRet, sNever, okO, bnd, mOr, mAnd, mNot, mb, VL.mt, mTru, truD, usr, mCall, ac, an, mv, tm, takes, take, VL.ret, aft, asB, o1, o2, cb, mPrim, looks, look, pLt, pGt, pLe, pGe, ii, oI, sI, sB, cst, pIsN, pIs, mMove, mVar, setS, mIf, mAndV, mOrV, mNotV, fin, finR, mTake, kTup, kLst, chk, unpk, gsc, gs0, Slot.frz, meth, mTy, tyD, mOn, mSeq, items, sFor, List.length_cons, List.length_nil, List.map_cons, List.map_nil, List.replicate, List.append_nil, List.cons_append, List.nil_append, List.getElem?_cons_zero, List.getElem?_cons_succ, Option.bind_some, Slot.d?, List.set, Bool.not_true, Bool.not_false, Nat.sub_self, Bool.false_eq_true, ↓reduceIte, Option.map_some, pEq_int, d1, pTuple]
  have t2 : mb (o2 pGt (mv 11) (tm (cst (.int 1)))) (fenv ns W long arms cap size ls far st e s5 s6 s7 s8 s9 s17 s18) = .ok (decide (1 < arms)) (fenv ns W long arms cap size ls far st e s5 s6 s7 s8 s9 s17 s18) := by
    simp only [runF, entry, thn', sIf, sAsg, sDrop, sRet, sNever, okO, bnd, mOr, mAnd, mNot, mb, VL.mt, mTru, truD, usr, mCall, ac, an, mv, tm, takes, take, VL.ret, aft, asB, o1, o2, cb, mPrim, looks, look, pLt, pGt, pLe, pGe, ii, oI, sI, sB, cst, pIsN, pIs, mMove, mVar, setS, mIf, mAndV, mOrV, mNotV, fin, finR, mTake, kTup, kLst, chk, unpk, gsc, gs0, Slot.frz, meth, mTy, tyD, mOn, mSeq, items, sFor, List.length_cons, List.length_nil, List.map_cons, List.map_nil, List.replicate, List.append_nil, List.cons_append, List.nil_append, List.getElem?_cons_zero, List.getElem?_cons_succ, Option.bind_some, Slot.d?, List.set, Bool.not_true, Bool.not_false, Nat.sub_self, Bool.false_eq_true, ↓reduceIte, Option.map_some, d2, pTuple]
  unfold f6 sIf mAnd
  by_cases h1 : cap = 1
  · rw [decide_eq_true h1] at t1
    by_cases h2 : 1 < arms
    · rw [decide_eq_true h2] at t2
      obtain ⟨w1, k1, k2⟩ := h h1 h2
      have x := e_x4 (ns := ns) (W := W) (arms := arms) (far := far) (st := st) (e := e) (s5 := s5) (s6 := s6) (s7 := s7) (s8 := s8) (s9 := s9) (s17 := s17) (s18 := s18) (cap := cap) w hs0 ha hk hl (by omega) k1 c5
      have r : run__law_same [oD (at0 w1 st), nD long] = .ok (.sh (.bl true)) .non := by
        have r := r_same (at0 w1 st) (some long)
        rw [k2] at r
        exact r
      refine ⟨.sh (wD size ls st e cap T), ?_⟩
      have ht : tm x_law_4 (fenv ns W long arms cap size ls far st e s5 s6 s7 s8 s9 s17 s18) = .ok (.tmp (.sh (oD (at0 w1 st)))) (fenv ns W long arms cap size ls far st e (.sh (wD size ls st e cap T)) s6 s7 s8 s9 s17 s18) := by
        unfold tm
        rw [bnd_ok x] <;> rfl
      have hac : ac (tm x_law_4) (ac (mv 10) an) (fenv ns W long arms cap size ls far st e s5 s6 s7 s8 s9 s17 s18) = .ok [.tmp (.sh (oD (at0 w1 st))), .var 10] (fenv ns W long arms cap size ls far st e (.sh (wD size ls st e cap T)) s6 s7 s8 s9 s17 s18) := by
        unfold ac
        rw [bnd_ok ht] <;> rfl
      have hu : usr false run__law_same [] (ac (tm x_law_4) (ac (mv 10) an)) (fenv ns W long arms cap size ls far st e s5 s6 s7 s8 s9 s17 s18) = .ok (.sh (.bl true)) (fenv ns W long arms cap size ls far st e (.sh (wD size ls st e cap T)) s6 s7 s8 s9 s17 s18) := by
        show bnd _ _ _ = _
        rw [bnd_ok hac]
        simp only [runF, entry, thn', sIf, sAsg, sDrop, sRet, sNever, okO, bnd, mOr, mAnd, mNot, mb, VL.mt, mTru, truD, usr, mCall, ac, an, mv, tm, takes, take, VL.ret, aft, asB, o1, o2, cb, mPrim, looks, look, pLt, pGt, pLe, pGe, ii, oI, sI, sB, cst, pIsN, pIs, mMove, mVar, setS, mIf, mAndV, mOrV, mNotV, fin, finR, mTake, kTup, kLst, chk, unpk, gsc, gs0, Slot.frz, meth, mTy, tyD, mOn, mSeq, items, sFor, List.length_cons, List.length_nil, List.map_cons, List.map_nil, List.replicate, List.append_nil, List.cons_append, List.nil_append, List.getElem?_cons_zero, List.getElem?_cons_succ, Option.bind_some, Slot.d?, List.set, Bool.not_true, Bool.not_false, Nat.sub_self, Bool.false_eq_true, ↓reduceIte, Option.map_some, r, pTuple]
      have hb : mb (usr false run__law_same [] (ac (tm x_law_4) (ac (mv 10) an))) (fenv ns W long arms cap size ls far st e s5 s6 s7 s8 s9 s17 s18) = .ok true (fenv ns W long arms cap size ls far st e (.sh (wD size ls st e cap T)) s6 s7 s8 s9 s17 s18) := by
        unfold mb
        rw [bnd_ok hu] <;> rfl
      have hm : mNot (mb (usr false run__law_same [] (ac (tm x_law_4) (ac (mv 10) an)))) (fenv ns W long arms cap size ls far st e s5 s6 s7 s8 s9 s17 s18) = .ok false (fenv ns W long arms cap size ls far st e (.sh (wD size ls st e cap T)) s6 s7 s8 s9 s17 s18) := by
        unfold mNot
        rw [bnd_ok hb] <;> rfl
      have hall : (bnd (mb (o2 pEq (mv 3) (tm (cst (.int 1))))) fun x => if x = true then (bnd (mb (o2 pGt (mv 11) (tm (cst (.int 1))))) fun x => if x = true then mNot (mb (usr false run__law_same [] (ac (tm x_law_4) (ac (mv 10) an)))) else VL.ret false) else VL.ret false) (fenv ns W long arms cap size ls far st e s5 s6 s7 s8 s9 s17 s18) =
          .ok false (fenv ns W long arms cap size ls far st e (.sh (wD size ls st e cap T)) s6 s7 s8 s9 s17 s18) := by
        rw [bnd_ok t1]
        simp only [↓reduceIte]
        rw [bnd_ok t2]
        simp only [↓reduceIte]
        exact hm
      rw [bnd_ok hall] <;> rfl
    · rw [decide_eq_false h2] at t2
      refine ⟨s5, ?_⟩
      have hall : (bnd (mb (o2 pEq (mv 3) (tm (cst (.int 1))))) fun x => if x = true then (bnd (mb (o2 pGt (mv 11) (tm (cst (.int 1))))) fun x => if x = true then mNot (mb (usr false run__law_same [] (ac (tm x_law_4) (ac (mv 10) an)))) else VL.ret false) else VL.ret false) (fenv ns W long arms cap size ls far st e s5 s6 s7 s8 s9 s17 s18) =
          .ok false (fenv ns W long arms cap size ls far st e s5 s6 s7 s8 s9 s17 s18) := by
        rw [bnd_ok t1]
        simp only [↓reduceIte]
        rw [bnd_ok t2] <;> rfl
      rw [bnd_ok hall] <;> rfl
  · rw [decide_eq_false h1] at t1
    refine ⟨s5, ?_⟩
    have hall : (bnd (mb (o2 pEq (mv 3) (tm (cst (.int 1))))) fun x => if x = true then (bnd (mb (o2 pGt (mv 11) (tm (cst (.int 1))))) fun x => if x = true then mNot (mb (usr false run__law_same [] (ac (tm x_law_4) (ac (mv 10) an)))) else VL.ret false) else VL.ret false) (fenv ns W long arms cap size ls far st e s5 s6 s7 s8 s9 s17 s18) =
        .ok false (fenv ns W long arms cap size ls far st e s5 s6 s7 s8 s9 s17 s18) := by
      rw [bnd_ok t1] <;> rfl
    rw [bnd_ok hall] <;> rfl
abbrev tail : M Fl := thn' (sIf (mNot (mb (usr true run__law_still_joined [] (ac (mv 1) (ac (mv 4) (ac (mv 2) (ac (mv 3) an)))))))
  (sRet (cst (.bl false)))
  (ret .next))
  (thn' (sAsg (usr false run_parted_by [] (ac (mv 4) (ac (tm (cst (.int 1))) (ac (mv 3) an)))) (setS 7))
  (thn' (sAsg (cst (.int 2)) (setS 8))
  (thn' (sIf (mOr (mb (o2 pEq (mv 10) (tm (cst (.int 1))))) (mb (o2 pEq (mv 11) (tm (cst (.int 1))))))
  (sAsg (mVar 11) (setS 8))
  (ret .next))
  (thn' (sIf (mb (o2 pNe (tm (o2 pIs (mv 7) (tm (cst .non)))) (tm (o2 pLt (mv 3) (mv 8)))))
  (sRet (cst (.bl false)))
  (ret .next))
  (thn' (sIf (mb (o2 pIs (mv 7) (tm (cst .non))))
  (sRet (cst (.bl true)))
  (ret .next))
  (thn' (sAsg (usr false run__law_joined [] (ac (mv 12) (ac (mv 13) (ac (mv 16) (ac (tm (o2 pIx (mv 7) (tm (cst (.int 1))))) an))))) (setS 9))
  (sRet (mAndV (o2 pEq (tm (cb pLen (ac (tm (o2 pIx (mv 7) (tm (cst (.int 1))))) an))) (mv 8)) (o2 pEq (tm (meth "list" fIndex (mv 9) (ac (tm (cst (.bl false))) an))) (tm (o2 pIx (mv 7) (tm (cst (.int 0))))))))))))))
theorem idx_bools {J : List Bool} {k : Nat} (h : firstOff J 0 = some k) : fIndex (.lst (J.map bD)) [.bl false] = some (.sh (nD k)) := by
  have hf : (J.map bD).all flatD = true := by rw [List.all_map, List.all_eq_true]; intro b _; rfl
  unfold fIndex
  dsimp only
  rw [hf, fst_off, h] <;> rfl
theorem e_tail (g : Good long arms cap size ls far st e w0) : ∃ ρ, tail (fenv ns W long arms cap size ls far st e s5 s6 .un .un .un s17 s18) = .ok (.ret (.sh (.bl true))) ρ := by
  obtain ⟨W', r0⟩ := r_still (hs := [st, e]) (W := W) g.w (Nat.le_trans g.l12 (by decide)) g.a0 g.al g.ie g.he g.ist g.still
  obtain ⟨r, p1, p2⟩ := g.part
  have r1 := r_parted (hs' := [st, e]) (house := 1) (spot := e) g.w g.l12 rfl g.he g.cap3 p1
  have e1 : sIf (mNot (mb (usr true run__law_still_joined [] (ac (mv 1) (ac (mv 4) (ac (mv 2) (ac (mv 3) an))))))) (sRet (cst (.bl false))) (VL.ret .next) (fenv ns W long arms cap size ls far st e s5 s6 .un .un .un s17 s18) =
      .ok .next (fenv ns W' long arms cap size ls far st e s5 s6 .un .un .un s17 s18) := by
    simp only [runF, entry, thn', sIf, sAsg, sDrop, sRet, sNever, okO, bnd, mOr, mAnd, mNot, mb, VL.mt, mTru, truD, usr, mCall, ac, an, mv, tm, takes, take, VL.ret, aft, asB, o1, o2, cb, mPrim, looks, look, pLt, pGt, pLe, pGe, ii, oI, sI, sB, cst, pIsN, pIs, mMove, mVar, setS, mIf, mAndV, mOrV, mNotV, fin, finR, mTake, kTup, kLst, chk, unpk, gsc, gs0, Slot.frz, meth, mTy, tyD, mOn, mSeq, items, sFor, List.length_cons, List.length_nil, List.map_cons, List.map_nil, List.replicate, List.append_nil, List.cons_append, List.nil_append, List.getElem?_cons_zero, List.getElem?_cons_succ, Option.bind_some, Slot.d?, List.set, Bool.not_true, Bool.not_false, Nat.sub_self, Bool.false_eq_true, ↓reduceIte, Option.map_some, mCallT, r0, pTuple]
  have e2 : sAsg (usr false run_parted_by [] (ac (mv 4) (ac (tm (cst (.int 1))) (ac (mv 3) an)))) (setS 7) (fenv ns W' long arms cap size ls far st e s5 s6 .un .un .un s17 s18) =
      .ok .next (fenv ns W' long arms cap size ls far st e s5 s6 (.sh (partD r)) .un .un s17 s18) := by
    have r1' : run_parted_by [netD size ls [st, e], .int 1, nD cap] = .ok (.sh (partD r)) .non := r1
    generalize partD r = P at r1' ⊢
    simp only [runF, entry, thn', sIf, sAsg, sDrop, sRet, sNever, okO, bnd, mOr, mAnd, mNot, mb, VL.mt, mTru, truD, usr, mCall, ac, an, mv, tm, takes, take, VL.ret, aft, asB, o1, o2, cb, mPrim, looks, look, pLt, pGt, pLe, pGe, ii, oI, sI, sB, cst, pIsN, pIs, mMove, mVar, setS, mIf, mAndV, mOrV, mNotV, fin, finR, mTake, kTup, kLst, chk, unpk, gsc, gs0, Slot.frz, meth, mTy, tyD, mOn, mSeq, items, sFor, List.length_cons, List.length_nil, List.map_cons, List.map_nil, List.replicate, List.append_nil, List.cons_append, List.nil_append, List.getElem?_cons_zero, List.getElem?_cons_succ, Option.bind_some, Slot.d?, List.set, Bool.not_true, Bool.not_false, Nat.sub_self, Bool.false_eq_true, ↓reduceIte, Option.map_some, r1', pTuple]
  have e3 : sAsg (cst (.int 2)) (setS 8) (fenv ns W' long arms cap size ls far st e s5 s6 (.sh (partD r)) .un .un s17 s18) = .ok .next (fenv ns W' long arms cap size ls far st e s5 s6 (.sh (partD r)) (.sh (nD 2)) .un s17 s18) :=
    sAsg_ok (m := cst (.int 2)) (i := 8) (d := .int 2) (s := .un) rfl rfl rfl rfl
  have e4 : sIf (mOr (mb (o2 pEq (mv 10) (tm (cst (.int 1))))) (mb (o2 pEq (mv 11) (tm (cst (.int 1)))))) (sAsg (mVar 11) (setS 8)) (VL.ret .next) (fenv ns W' long arms cap size ls far st e s5 s6 (.sh (partD r)) (.sh (nD 2)) .un s17 s18) =
      .ok .next (fenv ns W' long arms cap size ls far st e s5 s6 (.sh (partD r)) (.sh (nD (cutN long arms))) .un s17 s18) := by
    have d1 : decide ((long : Int) = 1) = decide (long = 1) := dec_eq long 1
    have d2 : decide ((arms : Int) = 1) = decide (arms = 1) := dec_eq arms 1
    generalize partD r = P
    unfold cutN
    by_cases h1 : long = 1
    · rw [decide_eq_true h1] at d1
      rw [if_pos (Or.inl h1)]
      simp only [runF, entry, thn', sIf, sAsg, sDrop, sRet, sNever, okO, bnd, mOr, mAnd, mNot, mb, VL.mt, mTru, truD, usr, mCall, ac, an, mv, tm, takes, take, VL.ret, aft, asB, o1, o2, cb, mPrim, looks, look, pLt, pGt, pLe, pGe, ii, oI, sI, sB, cst, pIsN, pIs, mMove, mVar, setS, mIf, mAndV, mOrV, mNotV, fin, finR, mTake, kTup, kLst, chk, unpk, gsc, gs0, Slot.frz, meth, mTy, tyD, mOn, mSeq, items, sFor, List.length_cons, List.length_nil, List.map_cons, List.map_nil, List.replicate, List.append_nil, List.cons_append, List.nil_append, List.getElem?_cons_zero, List.getElem?_cons_succ, Option.bind_some, Slot.d?, List.set, Bool.not_true, Bool.not_false, Nat.sub_self, Bool.false_eq_true, ↓reduceIte, Option.map_some, pEq_int, d1, pTuple]
    · rw [decide_eq_false h1] at d1
      by_cases h2 : arms = 1
      · rw [decide_eq_true h2] at d2
        rw [if_pos (Or.inr h2)]
        simp only [runF, entry, thn', sIf, sAsg, sDrop, sRet, sNever, okO, bnd, mOr, mAnd, mNot, mb, VL.mt, mTru, truD, usr, mCall, ac, an, mv, tm, takes, take, VL.ret, aft, asB, o1, o2, cb, mPrim, looks, look, pLt, pGt, pLe, pGe, ii, oI, sI, sB, cst, pIsN, pIs, mMove, mVar, setS, mIf, mAndV, mOrV, mNotV, fin, finR, mTake, kTup, kLst, chk, unpk, gsc, gs0, Slot.frz, meth, mTy, tyD, mOn, mSeq, items, sFor, List.length_cons, List.length_nil, List.map_cons, List.map_nil, List.replicate, List.append_nil, List.cons_append, List.nil_append, List.getElem?_cons_zero, List.getElem?_cons_succ, Option.bind_some, Slot.d?, List.set, Bool.not_true, Bool.not_false, Nat.sub_self, Bool.false_eq_true, ↓reduceIte, Option.map_some, pEq_int, d1, d2, pTuple]
      · rw [decide_eq_false h2] at d2
        rw [if_neg (by omega)]
        simp only [runF, entry, thn', sIf, sAsg, sDrop, sRet, sNever, okO, bnd, mOr, mAnd, mNot, mb, VL.mt, mTru, truD, usr, mCall, ac, an, mv, tm, takes, take, VL.ret, aft, asB, o1, o2, cb, mPrim, looks, look, pLt, pGt, pLe, pGe, ii, oI, sI, sB, cst, pIsN, pIs, mMove, mVar, setS, mIf, mAndV, mOrV, mNotV, fin, finR, mTake, kTup, kLst, chk, unpk, gsc, gs0, Slot.frz, meth, mTy, tyD, mOn, mSeq, items, sFor, List.length_cons, List.length_nil, List.map_cons, List.map_nil, List.replicate, List.append_nil, List.cons_append, List.nil_append, List.getElem?_cons_zero, List.getElem?_cons_succ, Option.bind_some, Slot.d?, List.set, Bool.not_true, Bool.not_false, Nat.sub_self, Bool.false_eq_true, ↓reduceIte, Option.map_some, pEq_int, d1, d2, pTuple]
  have d3 : decide ((cap : Int) < ((cutN long arms : Nat) : Int)) = decide (cap < cutN long arms) := dec_lt cap (cutN long arms)
  cases r with
  | none =>
    have p2 : decide (cap < cutN long arms) = true := p2
    rw [p2] at d3
    refine ⟨fenv ns W' long arms cap size ls far st e s5 s6 (.sh .non) (.sh (nD (cutN long arms))) .un s17 s18, ?_⟩
    have q1 : pIs [.non, .non] = some (.sh (.bl true)) := rfl
    have q2 := pNe_bl true true
    have e5 : sIf (mb (o2 pNe (tm (o2 pIs (mv 7) (tm (cst .non)))) (tm (o2 pLt (mv 3) (mv 8))))) (sRet (cst (.bl false))) (VL.ret .next) (fenv ns W' long arms cap size ls far st e s5 s6 (.sh .non) (.sh (nD (cutN long arms))) .un s17 s18) =
        .ok .next (fenv ns W' long arms cap size ls far st e s5 s6 (.sh .non) (.sh (nD (cutN long arms))) .un s17 s18) := by
      generalize cutN long arms = c at *
      simp only [runF, entry, thn', sIf, sAsg, sDrop, sRet, sNever, okO, bnd, mOr, mAnd, mNot, mb, VL.mt, mTru, truD, usr, mCall, ac, an, mv, tm, takes, take, VL.ret, aft, asB, o1, o2, cb, mPrim, looks, look, pLt, pGt, pLe, pGe, ii, oI, sI, sB, cst, pIsN, pIs, mMove, mVar, setS, mIf, mAndV, mOrV, mNotV, fin, finR, mTake, kTup, kLst, chk, unpk, gsc, gs0, Slot.frz, meth, mTy, tyD, mOn, mSeq, items, sFor, List.length_cons, List.length_nil, List.map_cons, List.map_nil, List.replicate, List.append_nil, List.cons_append, List.nil_append, List.getElem?_cons_zero, List.getElem?_cons_succ, Option.bind_some, Slot.d?, List.set, Bool.not_true, Bool.not_false, Nat.sub_self, Bool.false_eq_true, ↓reduceIte, Option.map_some, q1, d3, q2, bne_self_eq_false, pTuple]
    have e6 : ∀ rest, thn' (sIf (mb (o2 pIs (mv 7) (tm (cst .non)))) (sRet (cst (.bl true))) (VL.ret .next)) rest (fenv ns W' long arms cap size ls far st e s5 s6 (.sh .non) (.sh (nD (cutN long arms))) .un s17 s18) =
        .ok (.ret (.sh (.bl true))) (fenv ns W' long arms cap size ls far st e s5 s6 (.sh .non) (.sh (nD (cutN long arms))) .un s17 s18) := fun rest => rfl
    have e4' : sIf (mOr (mb (o2 pEq (mv 10) (tm (cst (.int 1))))) (mb (o2 pEq (mv 11) (tm (cst (.int 1)))))) (sAsg (mVar 11) (setS 8)) (VL.ret .next) (fenv ns W' long arms cap size ls far st e s5 s6 (.sh (partD none)) (.sh (nD 2)) .un s17 s18) =
      .ok .next (fenv ns W' long arms cap size ls far st e s5 s6 (.sh .non) (.sh (nD (cutN long arms))) .un s17 s18) := e4
    unfold tail
    rw [thn_ok e1, thn_ok e2, thn_ok e3, thn_ok e4', thn_ok e5]
    exact e6 _
  | some q =>
    obtain ⟨k, lot⟩ := q
    have p2 : (!decide (cap < cutN long arms) && (decide (lot.length = cutN long arms) && decide (firstOff (joinedN size ls e lot) 0 = some k))) = true := p2
    rw [Bool.and_eq_true, Bool.and_eq_true, Bool.not_eq_true'] at p2
    obtain ⟨p3, p4, p5⟩ := p2
    rw [p3] at d3
    have p4 := of_decide_eq_true p4
    have p5 := of_decide_eq_true p5
    have e4' : sIf (mOr (mb (o2 pEq (mv 10) (tm (cst (.int 1))))) (mb (o2 pEq (mv 11) (tm (cst (.int 1)))))) (sAsg (mVar 11) (setS 8)) (VL.ret .next) (fenv ns W' long arms cap size ls far st e s5 s6 (.sh (partD (some (k, lot)))) (.sh (nD 2)) .un s17 s18) =
      .ok .next (fenv ns W' long arms cap size ls far st e s5 s6 (.sh (.tup [nD k, lotD lot])) (.sh (nD (cutN long arms))) .un s17 s18) := e4
    obtain ⟨r2, r3⟩ := r_joined (n := size) (ls := ls) (spot := e) (X := lotD lot) (lot := lot) g.w (fun l => pNotIn_tup lot l)
    have q1 : pIs [.tup [nD k, lotD lot], .non] = some (.sh (.bl false)) := rfl
    have q2 := pNe_bl false false
    have x1 : pIx [.tup [nD k, lotD lot], .int 1] = some (.sh (lotD lot)) := rfl
    have x0 : pIx [.tup [nD k, lotD lot], .int 0] = some (.sh (nD k)) := rfl
    have e5 : sIf (mb (o2 pNe (tm (o2 pIs (mv 7) (tm (cst .non)))) (tm (o2 pLt (mv 3) (mv 8))))) (sRet (cst (.bl false))) (VL.ret .next) (fenv ns W' long arms cap size ls far st e s5 s6 (.sh (.tup [nD k, lotD lot])) (.sh (nD (cutN long arms))) .un s17 s18) =
        .ok .next (fenv ns W' long arms cap size ls far st e s5 s6 (.sh (.tup [nD k, lotD lot])) (.sh (nD (cutN long arms))) .un s17 s18) := by
      generalize cutN long arms = c at *
      simp only [runF, entry, thn', sIf, sAsg, sDrop, sRet, sNever, okO, bnd, mOr, mAnd, mNot, mb, VL.mt, mTru, truD, usr, mCall, ac, an, mv, tm, takes, take, VL.ret, aft, asB, o1, o2, cb, mPrim, looks, look, pLt, pGt, pLe, pGe, ii, oI, sI, sB, cst, pIsN, pIs, mMove, mVar, setS, mIf, mAndV, mOrV, mNotV, fin, finR, mTake, kTup, kLst, chk, unpk, gsc, gs0, Slot.frz, meth, mTy, tyD, mOn, mSeq, items, sFor, List.length_cons, List.length_nil, List.map_cons, List.map_nil, List.replicate, List.append_nil, List.cons_append, List.nil_append, List.getElem?_cons_zero, List.getElem?_cons_succ, Option.bind_some, Slot.d?, List.set, Bool.not_true, Bool.not_false, Nat.sub_self, Bool.false_eq_true, ↓reduceIte, Option.map_some, q1, d3, q2, bne_self_eq_false, pTuple]
    have e6 : sIf (mb (o2 pIs (mv 7) (tm (cst .non)))) (sRet (cst (.bl true))) (VL.ret .next) (fenv ns W' long arms cap size ls far st e s5 s6 (.sh (.tup [nD k, lotD lot])) (.sh (nD (cutN long arms))) .un s17 s18) =
        .ok .next (fenv ns W' long arms cap size ls far st e s5 s6 (.sh (.tup [nD k, lotD lot])) (.sh (nD (cutN long arms))) .un s17 s18) := rfl
    have e7 : sAsg (usr false run__law_joined [] (ac (mv 12) (ac (mv 13) (ac (mv 16) (ac (tm (o2 pIx (mv 7) (tm (cst (.int 1))))) an))))) (setS 9) (fenv ns W' long arms cap size ls far st e s5 s6 (.sh (.tup [nD k, lotD lot])) (.sh (nD (cutN long arms))) .un s17 s18) =
        .ok .next (fenv ns W' long arms cap size ls far st e s5 s6 (.sh (.tup [nD k, lotD lot])) (.sh (nD (cutN long arms))) (.ow (.lst ((joinedN size ls e lot).map bD))) s17 s18) := by
      generalize cutN long arms = c at *
      simp only [runF, entry, thn', sIf, sAsg, sDrop, sRet, sNever, okO, bnd, mOr, mAnd, mNot, mb, VL.mt, mTru, truD, usr, mCall, ac, an, mv, tm, takes, take, VL.ret, aft, asB, o1, o2, cb, mPrim, looks, look, pLt, pGt, pLe, pGe, ii, oI, sI, sB, cst, pIsN, pIs, mMove, mVar, setS, mIf, mAndV, mOrV, mNotV, fin, finR, mTake, kTup, kLst, chk, unpk, gsc, gs0, Slot.frz, meth, mTy, tyD, mOn, mSeq, items, sFor, List.length_cons, List.length_nil, List.map_cons, List.map_nil, List.replicate, List.append_nil, List.cons_append, List.nil_append, List.getElem?_cons_zero, List.getElem?_cons_succ, Option.bind_some, Slot.d?, List.set, Bool.not_true, Bool.not_false, Nat.sub_self, Bool.false_eq_true, ↓reduceIte, Option.map_some, x1, r3, pTuple]
    have i9 := idx_bools p5
    have ln := len_nats lot
    have d4 : decide (((lot.length : Nat) : Int) = ((cutN long arms : Nat) : Int)) = true := by rw [p4]; exact decide_eq_true rfl
    have d5 : decide ((k : Int) = (k : Int)) = true := decide_eq_true rfl
    have hlt : (tyD "list" (.lst ((joinedN size ls e lot).map bD))) = true := rfl
    have e8 : mAndV (o2 pEq (tm (cb pLen (ac (tm (o2 pIx (mv 7) (tm (cst (.int 1))))) an))) (mv 8)) (o2 pEq (tm (meth "list" fIndex (mv 9) (ac (tm (cst (.bl false))) an))) (tm (o2 pIx (mv 7) (tm (cst (.int 0)))))) (fenv ns W' long arms cap size ls far st e s5 s6 (.sh (.tup [nD k, lotD lot])) (.sh (nD (cutN long arms))) (.ow (.lst ((joinedN size ls e lot).map bD))) s17 s18) =
        .ok (.sh (.bl true)) (fenv ns W' long arms cap size ls far st e s5 s6 (.sh (.tup [nD k, lotD lot])) (.sh (nD (cutN long arms))) (.ow (.lst ((joinedN size ls e lot).map bD))) s17 s18) := by
      have ln' : pLen [lotD lot] = some (.sh (.int (lot.length : Int))) := ln
      generalize cutN long arms = c at *
      generalize (joinedN size ls e lot).map bD = J at *
      have eq1 : pEq [.int (lot.length : Int), nD c] = some (.sh (.bl true)) := by rw [pEq_int, d4]
      have eq2 : pEq [nD k, nD k] = some (.sh (.bl true)) := by rw [pEq_int, d5]
      simp only [runF, entry, thn', sIf, sAsg, sDrop, sRet, sNever, okO, bnd, mOr, mAnd, mNot, mb, VL.mt, mTru, truD, usr, mCall, ac, an, mv, tm, takes, take, VL.ret, aft, asB, o1, o2, cb, mPrim, looks, look, pLt, pGt, pLe, pGe, ii, oI, sI, sB, cst, pIsN, pIs, mMove, mVar, setS, mIf, mAndV, mOrV, mNotV, fin, finR, mTake, kTup, kLst, chk, unpk, gsc, gs0, Slot.frz, meth, mTy, tyD, mOn, mSeq, items, sFor, List.length_cons, List.length_nil, List.map_cons, List.map_nil, List.replicate, List.append_nil, List.cons_append, List.nil_append, List.getElem?_cons_zero, List.getElem?_cons_succ, Option.bind_some, Slot.d?, List.set, Bool.not_true, Bool.not_false, Nat.sub_self, Bool.false_eq_true, ↓reduceIte, Option.map_some, x1, x0, ln', eq1, eq2, i9, beq_self_eq_true, pTuple]
    refine ⟨fenv ns W' long arms cap size ls far st e s5 s6 (.sh (.tup [nD k, lotD lot])) (.sh (nD (cutN long arms))) (.ow (.lst ((joinedN size ls e lot).map bD))) s17 s18, ?_⟩
    unfold tail
    rw [thn_ok e1, thn_ok e2, thn_ok e3, thn_ok e4', thn_ok e5, thn_ok e6, thn_ok e7]
    unfold sRet
    rw [bnd_ok e8] <;> rfl
end
end VLL
set_option Elab.async false
set_option linter.all false
set_option maxRecDepth 1000000
set_option maxHeartbeats 0
/-! P71ac: law runs to True, given that each net is good. -/
namespace VLL
open VL
def AllGood : Prop := ∀ (k arms shift cap : Nat) (ls : List (Nat × Nat)), k < 4 → 0 < arms → arms ≤ mx k → shift < sizeA k arms → Same (canon k arms (sizeA k arms) shift).1 ls → cap < 4 → (cap = 3 → ls.length ≤ 8) →
  ∃ st e w0, Good (k + 1) arms cap (sizeA k arms) ls (canon k arms (sizeA k arms) shift).2 st e w0
section
variable {ns : List Int}
abbrev genv (ns : List Int) (W : List Nat) (web s3 s4 s5 : Slot) (long arms size : Nat) (ls : List (Nat × Nat)) (far : List Nat) (s15 s16 : Slot) : Env :=
  [.sh (.scr ns), .ow (.lst (W.map nD)), web, s3, s4, s5, .un, .un, .un, .un, .sh (nD long), .sh (nD arms), .sh (nD size), .sh (.lst (ls.map prD)), .sh (.lst (far.map nD)), s15, s16, .un, .un]
theorem r_law (AG : AllGood) (hn : ns.length ≤ 63) : run_law [.scr ns] = .ok (.sh (.bl true)) .non := by
  obtain ⟨W, h1⟩ := r_draws hn
  obtain ⟨k, arms, shift, W1, ls, hk, ha, ham, hsh, hS, h2⟩ := r_arms W
  generalize hfar : (canon k arms (sizeA k arms) shift).2 = far at h2
  have AG' := fun cap => AG k arms shift cap ls hk ha ham hsh hS
  rw [hfar] at AG'
  generalize sizeA k arms = size at h2 AG'
  generalize k + 1 = long at h2 AG'
  have hc := takeN_lt W1 (m := 4) (by decide)
  have h3 : run__law_take [.lst (W1.map nD), .int 4] = .ok (.sh (nD (takeN W1 4).1)) (.lst ((takeN W1 4).2.map nD)) := r_take (W := W1) (m := 4) (by decide)
  generalize (takeN W1 4).1 = c0 at hc h3
  generalize (takeN W1 4).2 = W2 at h3
  have e1 : sAsg (usr false run__law_draws [] (ac (mv 0) an)) (setS 1) [.sh (.scr ns), .un, .un, .un, .un, .un, .un, .un, .un, .un, .un, .un, .un, .un, .un, .un, .un, .un, .un] =
      .ok .next [.sh (.scr ns), .ow (.lst (W.map nD)), .un, .un, .un, .un, .un, .un, .un, .un, .un, .un, .un, .un, .un, .un, .un, .un, .un] := by
    simp only [runF, entry, thn', sIf, sAsg, sDrop, sRet, sNever, okO, bnd, mOr, mAnd, mNot, mb, VL.mt, mTru, truD, usr, mCall, ac, an, mv, tm, takes, take, VL.ret, aft, asB, o1, o2, cb, mPrim, looks, look, pLt, pGt, pLe, pGe, ii, oI, sI, sB, cst, pIsN, pIs, mMove, mVar, setS, mIf, mAndV, mOrV, mNotV, fin, finR, mTake, kTup, kLst, chk, unpk, gsc, gs0, Slot.frz, meth, mTy, tyD, mOn, mSeq, items, sFor, List.length_cons, List.length_nil, List.map_cons, List.map_nil, List.replicate, List.append_nil, List.cons_append, List.nil_append, List.getElem?_cons_zero, List.getElem?_cons_succ, Option.bind_some, Slot.d?, List.set, Bool.not_true, Bool.not_false, Nat.sub_self, Bool.false_eq_true, ↓reduceIte, Option.map_some, h1, pTuple]
  have e2 : sAsg (usr true run__law_arms [] (ac (mv 1) an)) (setS 2) [.sh (.scr ns), .ow (.lst (W.map nD)), .un, .un, .un, .un, .un, .un, .un, .un, .un, .un, .un, .un, .un, .un, .un, .un, .un] =
      .ok .next [.sh (.scr ns), .ow (.lst (W1.map nD)), .ow (webD long arms size ls far), .un, .un, .un, .un, .un, .un, .un, .un, .un, .un, .un, .un, .un, .un, .un, .un] := by
    simp only [runF, entry, thn', sIf, sAsg, sDrop, sRet, sNever, okO, bnd, mOr, mAnd, mNot, mb, VL.mt, mTru, truD, usr, mCall, ac, an, mv, tm, takes, take, VL.ret, aft, asB, o1, o2, cb, mPrim, looks, look, pLt, pGt, pLe, pGe, ii, oI, sI, sB, cst, pIsN, pIs, mMove, mVar, setS, mIf, mAndV, mOrV, mNotV, fin, finR, mTake, kTup, kLst, chk, unpk, gsc, gs0, Slot.frz, meth, mTy, tyD, mOn, mSeq, items, sFor, List.length_cons, List.length_nil, List.map_cons, List.map_nil, List.replicate, List.append_nil, List.cons_append, List.nil_append, List.getElem?_cons_zero, List.getElem?_cons_succ, Option.bind_some, Slot.d?, List.set, Bool.not_true, Bool.not_false, Nat.sub_self, Bool.false_eq_true, ↓reduceIte, Option.map_some, mCallT, h2, pTuple]
  have e3 : sAsg (mVar 2) (unpk 5 (gsc (setS 10) (gsc (setS 11) (gsc (setS 12) (gsc (setS 13) (gsc (setS 14) gs0)))))) [.sh (.scr ns), .ow (.lst (W1.map nD)), .ow (webD long arms size ls far), .un, .un, .un, .un, .un, .un, .un, .un, .un, .un, .un, .un, .un, .un, .un, .un] =
      .ok .next (genv ns W1 (.sh (webD long arms size ls far)) .un .un .un long arms size ls far .un .un) := rfl
  have e4 : sAsg (usr true run__law_take [] (ac (mv 1) (ac (tm (cst (.int 4))) an))) (setS 3) (genv ns W1 (.sh (webD long arms size ls far)) .un .un .un long arms size ls far .un .un) =
      .ok .next (genv ns W2 (.sh (webD long arms size ls far)) (.sh (nD c0)) .un .un long arms size ls far .un .un) := by
    simp only [runF, entry, thn', sIf, sAsg, sDrop, sRet, sNever, okO, bnd, mOr, mAnd, mNot, mb, VL.mt, mTru, truD, usr, mCall, ac, an, mv, tm, takes, take, VL.ret, aft, asB, o1, o2, cb, mPrim, looks, look, pLt, pGt, pLe, pGe, ii, oI, sI, sB, cst, pIsN, pIs, mMove, mVar, setS, mIf, mAndV, mOrV, mNotV, fin, finR, mTake, kTup, kLst, chk, unpk, gsc, gs0, Slot.frz, meth, mTy, tyD, mOn, mSeq, items, sFor, List.length_cons, List.length_nil, List.map_cons, List.map_nil, List.replicate, List.append_nil, List.cons_append, List.nil_append, List.getElem?_cons_zero, List.getElem?_cons_succ, Option.bind_some, Slot.d?, List.set, Bool.not_true, Bool.not_false, Nat.sub_self, Bool.false_eq_true, ↓reduceIte, Option.map_some, mCallT, h3, pTuple]
  have e5 : ∃ cap, cap < 4 ∧ (cap = 3 → ls.length ≤ 8) ∧ sIf (mAnd (mb (o2 pEq (mv 3) (tm (cst (.int 3))))) (mb (o2 pGt (tm (cb pLen (ac (mv 13) an))) (tm (cst (.int 8)))))) (sAsg (cst (.int 2)) (setS 3)) (VL.ret .next) (genv ns W2 (.sh (webD long arms size ls far)) (.sh (nD c0)) .un .un long arms size ls far .un .un) =
      .ok .next (genv ns W2 (.sh (webD long arms size ls far)) (.sh (nD cap)) .un .un long arms size ls far .un .un) := by
    have d1 : decide ((c0 : Int) = 3) = decide (c0 = 3) := dec_eq c0 3
    have d2 : decide ((8 : Int) < (ls.length : Int)) = decide (8 < ls.length) := dec_lt 8 ls.length
    have pl : pLen [.lst (ls.map prD)] = some (.sh (.int (ls.length : Int))) := by
      show some (Slot.sh (D.int ((ls.map prD).length : Int))) = _
      rw [List.length_map]
    by_cases q1 : c0 = 3
    · rw [decide_eq_true q1] at d1
      by_cases q2 : 8 < ls.length
      · rw [decide_eq_true q2] at d2
        refine ⟨2, by decide, fun z => by omega, ?_⟩
        simp only [runF, entry, thn', sIf, sAsg, sDrop, sRet, sNever, okO, bnd, mOr, mAnd, mNot, mb, VL.mt, mTru, truD, usr, mCall, ac, an, mv, tm, takes, take, VL.ret, aft, asB, o1, o2, cb, mPrim, looks, look, pLt, pGt, pLe, pGe, ii, oI, sI, sB, cst, pIsN, pIs, mMove, mVar, setS, mIf, mAndV, mOrV, mNotV, fin, finR, mTake, kTup, kLst, chk, unpk, gsc, gs0, Slot.frz, meth, mTy, tyD, mOn, mSeq, items, sFor, List.length_cons, List.length_nil, List.map_cons, List.map_nil, List.replicate, List.append_nil, List.cons_append, List.nil_append, List.getElem?_cons_zero, List.getElem?_cons_succ, Option.bind_some, Slot.d?, List.set, Bool.not_true, Bool.not_false, Nat.sub_self, Bool.false_eq_true, ↓reduceIte, Option.map_some, pEq_int, d1, pl, d2, pTuple]
        rfl
      · rw [decide_eq_false q2] at d2
        refine ⟨c0, hc, fun z => by omega, ?_⟩
        simp only [runF, entry, thn', sIf, sAsg, sDrop, sRet, sNever, okO, bnd, mOr, mAnd, mNot, mb, VL.mt, mTru, truD, usr, mCall, ac, an, mv, tm, takes, take, VL.ret, aft, asB, o1, o2, cb, mPrim, looks, look, pLt, pGt, pLe, pGe, ii, oI, sI, sB, cst, pIsN, pIs, mMove, mVar, setS, mIf, mAndV, mOrV, mNotV, fin, finR, mTake, kTup, kLst, chk, unpk, gsc, gs0, Slot.frz, meth, mTy, tyD, mOn, mSeq, items, sFor, List.length_cons, List.length_nil, List.map_cons, List.map_nil, List.replicate, List.append_nil, List.cons_append, List.nil_append, List.getElem?_cons_zero, List.getElem?_cons_succ, Option.bind_some, Slot.d?, List.set, Bool.not_true, Bool.not_false, Nat.sub_self, Bool.false_eq_true, ↓reduceIte, Option.map_some, pEq_int, d1, pl, d2, pTuple]
    · rw [decide_eq_false q1] at d1
      refine ⟨c0, hc, fun z => by omega, ?_⟩
      simp only [runF, entry, thn', sIf, sAsg, sDrop, sRet, sNever, okO, bnd, mOr, mAnd, mNot, mb, VL.mt, mTru, truD, usr, mCall, ac, an, mv, tm, takes, take, VL.ret, aft, asB, o1, o2, cb, mPrim, looks, look, pLt, pGt, pLe, pGe, ii, oI, sI, sB, cst, pIsN, pIs, mMove, mVar, setS, mIf, mAndV, mOrV, mNotV, fin, finR, mTake, kTup, kLst, chk, unpk, gsc, gs0, Slot.frz, meth, mTy, tyD, mOn, mSeq, items, sFor, List.length_cons, List.length_nil, List.map_cons, List.map_nil, List.replicate, List.append_nil, List.cons_append, List.nil_append, List.getElem?_cons_zero, List.getElem?_cons_succ, Option.bind_some, Slot.d?, List.set, Bool.not_true, Bool.not_false, Nat.sub_self, Bool.false_eq_true, ↓reduceIte, Option.map_some, pEq_int, d1, pTuple]
  obtain ⟨cap, hcap, hcap8, e5⟩ := e5
  obtain ⟨st, e, w0, g⟩ := AG' cap hcap hcap8
  have i0 : fIndex (.lst (far.map nD)) [.int 0] = some (.sh (nD e)) := index_nat (v := 0) g.ie
  have i1 := index_nat g.ist
  have e6 : sPar 15 16 (ac (tm (meth "list" fIndex (mv 14) (ac (mv 10) an))) (ac (tm (meth "list" fIndex (mv 14) (ac (tm (cst (.int 0))) an))) an)) (genv ns W2 (.sh (webD long arms size ls far)) (.sh (nD cap)) .un .un long arms size ls far .un .un) =
      .ok .next (genv ns W2 (.sh (webD long arms size ls far)) (.sh (nD cap)) .un .un long arms size ls far (.sh (nD st)) (.sh (nD e))) := by
    simp only [runF, entry, thn', sIf, sAsg, sDrop, sRet, sNever, okO, bnd, mOr, mAnd, mNot, mb, VL.mt, mTru, truD, usr, mCall, ac, an, mv, tm, takes, take, VL.ret, aft, asB, o1, o2, cb, mPrim, looks, look, pLt, pGt, pLe, pGe, ii, oI, sI, sB, cst, pIsN, pIs, mMove, mVar, setS, mIf, mAndV, mOrV, mNotV, fin, finR, mTake, kTup, kLst, chk, unpk, gsc, gs0, Slot.frz, meth, mTy, tyD, mOn, mSeq, items, sFor, List.length_cons, List.length_nil, List.map_cons, List.map_nil, List.replicate, List.append_nil, List.cons_append, List.nil_append, List.getElem?_cons_zero, List.getElem?_cons_succ, Option.bind_some, Slot.d?, List.set, Bool.not_true, Bool.not_false, Nat.sub_self, Bool.false_eq_true, ↓reduceIte, Option.map_some, sPar, meth, i1, i0, beq_self_eq_true, pTuple]
  have rn := r_net_init (n := size) (ls := ls) (hs' := [st, e]) g.w g.hz (show 2 ≤ 16 by decide) (fun x hx => by
    have a := g.hst
    have b := g.he
    simp only [List.mem_cons, List.not_mem_nil, or_false] at hx
    omega)
  have e7 : sAsg (mTake (ac (mv 12) (ac (tm (cb pList (ac (mv 13) an))) (ac (tm (mTake (ac (mv 15) (ac (mv 16) an)) kLst)) an))) (mMake "Net" run_NetX_initX [.int (0)])) (setS 4) (genv ns W2 (.sh (webD long arms size ls far)) (.sh (nD cap)) .un .un long arms size ls far (.sh (nD st)) (.sh (nD e))) =
      .ok .next (genv ns W2 (.sh (webD long arms size ls far)) (.sh (nD cap)) (.ow (netD size ls [st, e])) .un long arms size ls far (.sh (nD st)) (.sh (nD e))) := by
    have hpl : pList [.lst (ls.map prD)] = some (.ow (.lst (ls.map prD))) := rfl
    have hlim : decide (0 + 1 + 1 ≤ lim) = true := by decide
    have rn' : run_NetX_initX [.obj "Net" [] [], nD size, .lst (ls.map prD), .lst [nD st, nD e], .int 0] = .ok (.sh .non) (netD size ls [st, e]) := rn
    generalize netD size ls [st, e] = N at rn' ⊢
    simp only [runF, entry, thn', sIf, sAsg, sDrop, sRet, sNever, okO, bnd, mOr, mAnd, mNot, mb, VL.mt, mTru, truD, usr, mCall, ac, an, mv, tm, takes, take, VL.ret, aft, asB, o1, o2, cb, mPrim, looks, look, pLt, pGt, pLe, pGe, ii, oI, sI, sB, cst, pIsN, pIs, mMove, mVar, setS, mIf, mAndV, mOrV, mNotV, fin, finR, mTake, kTup, kLst, chk, unpk, gsc, gs0, Slot.frz, meth, mTy, tyD, mOn, mSeq, items, sFor, List.length_cons, List.length_nil, List.map_cons, List.map_nil, List.replicate, List.append_nil, List.cons_append, List.nil_append, List.getElem?_cons_zero, List.getElem?_cons_succ, Option.bind_some, Slot.d?, List.set, Bool.not_true, Bool.not_false, Nat.sub_self, Bool.false_eq_true, ↓reduceIte, Option.map_some, hpl, hlim, mMake, rn', pTuple]
  have rw' := r_worth_init (hs := [st, e]) (house := 1) (most := cap) (spot := e) g.w g.l12 rfl g.cap3
  have e8 : sAsg (mTake (ac (mv 4) (ac (tm (cst (.int 1))) (ac (mv 3) an))) (mMake "Worth" run_WorthX_initX [])) (setS 5) (genv ns W2 (.sh (webD long arms size ls far)) (.sh (nD cap)) (.ow (netD size ls [st, e])) .un long arms size ls far (.sh (nD st)) (.sh (nD e))) =
      .ok .next (lwenv ns W2 long arms cap size ls far st e (.ow (wD size ls st e cap (worthTable size ls e cap))) .un .un .un) := by
    have rw'' : run_WorthX_initX [.obj "Worth" [] [], netD size ls [st, e], .int 1, nD cap] = .ok (.sh .non) (wD size ls st e cap (worthTable size ls e cap)) := rw'
    show _ = Res.ok Fl.next (genv ns W2 (.sh (webD long arms size ls far)) (.sh (nD cap)) (.sh (netD size ls [st, e])) (.ow (wD size ls st e cap (worthTable size ls e cap))) long arms size ls far (.sh (nD st)) (.sh (nD e)))
    generalize wD size ls st e cap (worthTable size ls e cap) = WD at rw'' ⊢
    generalize netD size ls [st, e] = N at rw'' ⊢
    simp only [runF, entry, thn', sIf, sAsg, sDrop, sRet, sNever, okO, bnd, mOr, mAnd, mNot, mb, VL.mt, mTru, truD, usr, mCall, ac, an, mv, tm, takes, take, VL.ret, aft, asB, o1, o2, cb, mPrim, looks, look, pLt, pGt, pLe, pGe, ii, oI, sI, sB, cst, pIsN, pIs, mMove, mVar, setS, mIf, mAndV, mOrV, mNotV, fin, finR, mTake, kTup, kLst, chk, unpk, gsc, gs0, Slot.frz, meth, mTy, tyD, mOn, mSeq, items, sFor, List.length_cons, List.length_nil, List.map_cons, List.map_nil, List.replicate, List.append_nil, List.cons_append, List.nil_append, List.getElem?_cons_zero, List.getElem?_cons_succ, Option.bind_some, Slot.d?, List.set, Bool.not_true, Bool.not_false, Nat.sub_self, Bool.false_eq_true, ↓reduceIte, Option.map_some, mMake, rw'', pTuple]
  obtain ⟨W3, z, a, b, c, hz, hna, e9⟩ := e_l1 (ns := ns) (W := W2) (st := st) (e := e) g.w g.hz g.hst g.he (table_len size ls e cap) g.t0 g.sw
  obtain ⟨z', e10⟩ := e_f6 (ns := ns) (W := W3) (s5 := z) (s6 := a) (s7 := .un) (s8 := .un) (s9 := .un) (s17 := b) (s18 := c) (far := far) g.w g.hst (table_len size ls e cap) g.k1 g.ll g.one hz
  obtain ⟨ρ, e11⟩ := e_tail (ns := ns) (W := W3) (s5 := z') (s6 := a) (s17 := b) (s18 := c) g
  have hm : m_law [.sh (.scr ns), .un, .un, .un, .un, .un, .un, .un, .un, .un, .un, .un, .un, .un, .un, .un, .un, .un, .un] = .ok (.ret (.sh (.bl true))) ρ := by
    unfold m_law
    rw [thn_ok e1, thn_ok e2, thn_ok e3, thn_ok e4, thn_ok e5, thn_ok e6, thn_ok e7, thn_ok e8, thn_ok e9, thn_ok e10]
    exact e11
  have he : entry false 19 [.scr ns] = [.sh (.scr ns), .un, .un, .un, .un, .un, .un, .un, .un, .un, .un, .un, .un, .un, .un, .un, .un, .un, .un] := rfl
  show runF 1 19 false m_law [.scr ns] = _
  unfold runF
  rw [if_pos (show ([.scr ns] : List D).length = 1 from rfl), he, hm] <;> rfl
end
end VLL
set_option Elab.async false
set_option linter.all false
set_option maxRecDepth 1000000
set_option maxHeartbeats 0
/-! P71ad: the finite check. -/
namespace VLL
open VL
def subs : Nat → List Nat → List (List Nat)
  | 0, _ => [[]]
  | _ + 1, [] => [[]]
  | c + 1, x :: xs => subs (c + 1) xs ++ (subs c xs).map fun l => x :: l
def netB (size : Nat) (ls : List (Nat × Nat)) : Bool := Nat.ble size 9 && (Nat.ble ls.length 12 && ls.all fun p => Nat.blt p.1 size && (Nat.blt p.2 size && !Nat.beq p.1 p.2))
def stillOk (size : Nat) (ls : List (Nat × Nat)) (e st : Nat) (lot : List Nat) : Bool := match reachN size ls e lot with
  | none => false
  | some J => decide (joinedN size ls e lot = J) && decide (J[st]? = some true)
def oneOk (long arms cap st : Nat) (T : Tab) : Bool := if cap = 1 ∧ 1 < arms then match tget T [long - 1] with
    | none => false
    | some w1 => sameN (at0 w1 st) (some long)
  else true
def partAll (long arms cap size : Nat) (ls : List (Nat × Nat)) (e : Nat) : Bool := match partGo size ls e (smallLots ls.length cap) with
  | none => false
  | some r => partOk size ls e long arms cap r
def chkT (long arms cap size : Nat) (ls : List (Nat × Nat)) (far : List Nat) (st e : Nat) (T : Tab) : Bool := match tget T [] with
  | none => false
  | some w0 => ((List.range size).all fun s => swOk ls T w0 long arms cap far s) && (oneOk long arms cap st T &&
      (((subs (min cap (arms - 1)) (List.range ls.length)).all fun lot => stillOk size ls e st lot) && partAll long arms cap size ls e))
def chkL (long arms cap size : Nat) (ls : List (Nat × Nat)) (far : List Nat) : Bool := match idxN long far 0, idxN 0 far 0 with
  | some st, some e => Nat.blt st size && (Nat.blt e size && (netB size ls && (Nat.ble arms ls.length && (Nat.ble long ls.length && chkT long arms cap size ls far st e (worthTable size ls e cap)))))
  | _, _ => false
def chk (k arms shift : Nat) : Bool := (List.range 4).all fun cap =>
  (Nat.beq cap 3 && Nat.blt 8 (arms * (k + 1))) || chkL (k + 1) arms cap (sizeA k arms) (canon k arms (sizeA k arms) shift).1 (canon k arms (sizeA k arms) shift).2
end VLL
set_option Elab.async false
set_option linter.all false
set_option maxRecDepth 1000000
set_option maxHeartbeats 0
/-! P71ae: from the check to Good. -/
namespace VLL
open VL
/-! sortN -/
theorem insN_perm (x : Nat) : ∀ l : List Nat, (insN x l).Perm (x :: l)
  | [] => List.Perm.refl _
  | y :: l => by
    unfold insN
    split
    · exact List.Perm.refl _
    · exact ((insN_perm x l).cons y).trans (List.Perm.swap x y l)
theorem sortN_perm : ∀ l : List Nat, (sortN l).Perm l
  | [] => List.Perm.refl _
  | x :: l => by
    unfold sortN
    exact (insN_perm x _).trans ((sortN_perm l).cons x)
theorem insN_sorted (x : Nat) : ∀ l : List Nat, l.Pairwise (· ≤ ·) → (insN x l).Pairwise (· ≤ ·)
  | [], _ => List.pairwise_cons.mpr ⟨fun y hy => (by cases hy), List.Pairwise.nil⟩
  | y :: l, h => by
    obtain ⟨h1, h2⟩ := List.pairwise_cons.mp h
    unfold insN
    split
    · rename_i hxy
      refine List.pairwise_cons.mpr ⟨fun z hz => ?_, h⟩
      rcases List.mem_cons.mp hz with hz | hz
      · rw [hz]; exact hxy
      · exact Nat.le_trans hxy (h1 z hz)
    · rename_i hxy
      refine List.pairwise_cons.mpr ⟨fun z hz => ?_, insN_sorted x l h2⟩
      rcases List.mem_cons.mp ((insN_perm x l).mem_iff.mp hz) with hz | hz
      · rw [hz]; omega
      · exact h1 z hz
theorem sortN_sorted : ∀ l : List Nat, (sortN l).Pairwise (· ≤ ·)
  | [] => List.Pairwise.nil
  | x :: l => by
    unfold sortN
    exact insN_sorted x _ (sortN_sorted l)
theorem strict_of : ∀ {l : List Nat}, l.Pairwise (· ≤ ·) → l.Nodup → l.Pairwise (· < ·)
  | [], _, _ => List.Pairwise.nil
  | x :: l, h, nd => by
    obtain ⟨h1, h2⟩ := List.pairwise_cons.mp h
    obtain ⟨n1, n2⟩ := List.nodup_cons.mp nd
    refine List.pairwise_cons.mpr ⟨fun z hz => ?_, strict_of h2 n2⟩
    have a := h1 z hz
    have b : x ≠ z := fun q => n1 (q ▸ hz)
    omega
theorem sub_range : ∀ (m a : Nat) {l : List Nat}, l.Pairwise (· < ·) → (∀ x ∈ l, a ≤ x ∧ x < a + m) → l.Sublist (List.range' a m)
  | 0, a, [], _, _ => List.Sublist.refl _
  | 0, a, x :: l, _, h => by have := h x List.mem_cons_self; omega
  | m + 1, a, [], _, _ => List.nil_sublist _
  | m + 1, a, y :: l, hp, h => by
    obtain ⟨h1, h2⟩ := List.pairwise_cons.mp hp
    have hy := h y List.mem_cons_self
    rw [List.range'_succ]
    by_cases e : y = a
    · subst e
      refine List.Sublist.cons_cons _ (sub_range m (y + 1) h2 fun x hx => ?_)
      have a1 := h1 x hx
      have a2 := h x (List.mem_cons_of_mem _ hx)
      omega
    · refine List.Sublist.cons _ (sub_range m (a + 1) hp fun x hx => ?_)
      have a2 := h x hx
      rcases List.mem_cons.mp hx with q | q
      · subst q; omega
      · have a1 := h1 x q
        omega
theorem mem_subs : ∀ {c : Nat} {xs l : List Nat}, l.Sublist xs → l.length ≤ c → l ∈ subs c xs
  | 0, xs, l, _, hl => by
    have : l = [] := List.length_eq_zero_iff.mp (by omega)
    subst this
    unfold subs
    exact List.mem_singleton.mpr rfl
  | c + 1, [], l, h, hl => by
    have : l = [] := List.sublist_nil.mp h
    subst this
    unfold subs
    exact List.mem_singleton.mpr rfl
  | c + 1, x :: xs, l, h, hl => by
    unfold subs
    cases h with
    | cons _ h => exact List.mem_append_left _ (mem_subs h hl)
    | cons_cons _ h =>
      rename_i l'
      exact List.mem_append_right _ (List.mem_map.mpr ⟨l', mem_subs h (by rw [List.length_cons] at hl; omega), rfl⟩)
theorem lot_subs {lot : List Nat} {m c : Nat} (nd : lot.Nodup) (h : ∀ x ∈ lot, x < m) (hc : lot.length ≤ c) : sortN lot ∈ subs c (List.range m) := by
  refine mem_subs ?_ (by rw [(sortN_perm lot).length_eq]; exact hc)
  rw [List.range_eq_range']
  refine sub_range m 0 (strict_of (sortN_sorted lot) ((sortN_perm lot).nodup_iff.mpr nd)) fun x hx => ?_
  have := h x ((sortN_perm lot).mem_iff.mp hx)
  omega
theorem sort_cont (lot : List Nat) (l : Nat) : (sortN lot).contains l = lot.contains l := by
  have := (sortN_perm lot).mem_iff (a := l)
  by_cases h : l ∈ lot
  · rw [List.contains_iff_mem.mpr h, List.contains_iff_mem.mpr (this.mpr h)]
  · have h2 : l ∉ sortN lot := fun q => h (this.mp q)
    rw [Bool.eq_false_iff.mpr fun q => h (List.contains_iff_mem.mp q), Bool.eq_false_iff.mpr fun q => h2 (List.contains_iff_mem.mp q)]
theorem joined_sort (n : Nat) (ls : List (Nat × Nat)) (s : Nat) (lot : List Nat) : joinedN n ls s (sortN lot) = joinedN n ls s lot := by
  have : jstep ls (sortN lot) = jstep ls lot := by
    funext J l
    unfold jstep
    rw [sort_cont]
  unfold joinedN
  rw [this]
/-! lines told either way -/
section
variable {ls ls' : List (Nat × Nat)}
theorem bestGo_same (h : Same ls ls') (hd : ∀ p ∈ ls, p.1 ≠ p.2) (T : Tab) (w0 : List (Option Nat)) (s due most : Nat) : ∀ xs : List Nat, (∀ x ∈ xs, x ∈ linesAt ls s) → bestGo ls T w0 s due most xs = bestGo ls' T w0 s due most xs
  | [], _ => rfl
  | x :: xs, hx => by
    unfold bestGo
    rw [oth_same h hd (hx x List.mem_cons_self), bestGo_same h hd T w0 s due most xs fun y hy => hx y (List.mem_cons_of_mem _ hy)]
theorem bestN_same (h : Same ls ls') (hd : ∀ p ∈ ls, p.1 ≠ p.2) (T : Tab) (s most : Nat) : bestN ls T s most = bestN ls' T s most := by
  unfold bestN
  rw [linesAt_same h]
  have e := fun w0 due => bestGo_same h hd T w0 s due most (linesAt ls s) (fun x hx => hx)
  rw [linesAt_same h] at e
  simp only [e]
theorem swOk_same (h : Same ls ls') (hd : ∀ p ∈ ls, p.1 ≠ p.2) (T : Tab) (w0 : List (Option Nat)) (long arms cap : Nat) (far : List Nat) (s : Nat) (q : swOk ls T w0 long arms cap far s = true) : swOk ls' T w0 long arms cap far s = true := by
  unfold swOk at q ⊢
  rw [← bestN_same h hd]
  cases hf : far[s]? with
  | none => rw [hf] at q; exact q
  | some f =>
    rw [hf] at q
    dsimp only at q ⊢
    cases hb : bestN ls T s cap with
    | none => rw [hb] at q; exact q
    | some b =>
      rw [hb] at q
      dsimp only at q ⊢
      cases b with
      | none => exact q
      | some l =>
        dsimp only at q ⊢
        rw [← linesAt_same h]
        by_cases hl : (linesAt ls s).contains l = true
        · rw [← oth_same h hd (List.contains_iff_mem.mp hl)]
          exact q
        · rw [Bool.eq_false_iff.mpr hl, Bool.false_and] at q ⊢
          exact q
theorem netB_ok {size : Nat} (h : netB size ls = true) : NetOk size ls ∧ ls.length ≤ 12 := by
  unfold netB at h
  rw [Bool.and_eq_true, Bool.and_eq_true] at h
  obtain ⟨h1, h2, h3⟩ := h
  have h2 := Nat.le_of_ble_eq_true h2
  refine ⟨⟨Nat.le_of_ble_eq_true h1, by omega, fun p hp => ?_⟩, h2⟩
  have h4 := (List.all_eq_true.mp h3) p hp
  rw [Bool.and_eq_true, Bool.and_eq_true, Bool.not_eq_true'] at h4
  exact ⟨Nat.le_of_ble_eq_true h4.1, Nat.le_of_ble_eq_true h4.2.1, Nat.ne_of_beq_eq_false h4.2.2⟩
theorem net_same {size : Nat} (h : Same ls ls') (w : NetOk size ls) : NetOk size ls' := by
  refine ⟨w.n9, by rw [← h.1]; exact w.l36, fun p hp => ?_⟩
  obtain ⟨i, hi, e⟩ := List.getElem_of_mem hp
  have e' : ls'[i]? = some p := by rw [List.getElem?_eq_getElem hi, e]
  have hi' : i < ls.length := by rw [h.1]; exact hi
  obtain ⟨a, b, c⟩ := w.inn ls[i] (List.getElem_mem hi')
  rcases h.2 i ls[i] p (List.getElem?_eq_getElem hi') e' with q | q
  · rw [q]; exact ⟨a, b, c⟩
  · rw [q]; exact ⟨b, a, fun z => c z.symm⟩
theorem good_of {long arms cap size : Nat} {far : List Nat} (hS : Same ls ls') (hz : 0 < size) (ha : 0 < arms) (hk : 0 < long) (hc : cap ≤ 3) (h : chkL long arms cap size ls far = true) : ∃ st e w0, Good long arms cap size ls' far st e w0 := by
  unfold chkL at h
  cases e1 : idxN long far 0 with
  | none => rw [e1] at h; cases h
  | some st =>
    cases e2 : idxN 0 far 0 with
    | none => rw [e1, e2] at h; cases h
    | some e =>
      rw [e1, e2] at h
      dsimp only at h
      rw [Bool.and_eq_true, Bool.and_eq_true, Bool.and_eq_true, Bool.and_eq_true, Bool.and_eq_true] at h
      obtain ⟨a1, a2, a3, a4, a5, a6⟩ := h
      obtain ⟨w, l12⟩ := netB_ok a3
      have hd : ∀ p ∈ ls, p.1 ≠ p.2 := fun p hp => (w.inn p hp).2.2
      have hT := worthTable_same hS hd size e cap
      unfold chkT at a6
      cases e3 : tget (worthTable size ls e cap) [] with
      | none => rw [e3] at a6; cases a6
      | some w0 =>
        rw [e3] at a6
        dsimp only at a6
        rw [Bool.and_eq_true, Bool.and_eq_true, Bool.and_eq_true] at a6
        obtain ⟨b1, b2, b3, b4⟩ := a6
        refine ⟨st, e, w0, net_same hS w, hz, by rw [← hS.1]; exact l12, ha, by rw [← hS.1]; exact Nat.le_of_ble_eq_true a4, hk, by rw [← hS.1]; exact Nat.le_of_ble_eq_true a5, hc, Nat.le_of_ble_eq_true a1, Nat.le_of_ble_eq_true a2, e1, e2, by rw [← hT]; exact e3, fun s hs => ?_, fun h1 h2 => ?_, fun lot nd hx hl => ?_, ?_⟩
        · rw [← hT]
          exact swOk_same hS hd _ _ _ _ _ _ _ (List.all_eq_true.mp b1 s (List.mem_range.mpr hs))
        · rw [← hT]
          unfold oneOk at b2
          rw [if_pos ⟨h1, h2⟩] at b2
          cases e4 : tget (worthTable size ls e cap) [long - 1] with
          | none => rw [e4] at b2; cases b2
          | some w1 => rw [e4] at b2; exact ⟨w1, rfl, b2⟩
        · have hm := lot_subs (m := ls.length) (c := min cap (arms - 1)) nd (fun x hx' => by rw [hS.1]; exact hx x hx') (by omega)
          have q := List.all_eq_true.mp b3 _ hm
          unfold stillOk at q
          rw [← reachN_same hS hd]
          cases e5 : reachN size ls e (sortN lot) with
          | none => rw [e5] at q; cases q
          | some J =>
            rw [e5] at q
            dsimp only at q
            rw [Bool.and_eq_true] at q
            have q1 := of_decide_eq_true q.1
            rw [joined_sort] at q1
            exact ⟨J, rfl, by rw [← joinedN_same hS hd]; exact q1, of_decide_eq_true q.2⟩
        · unfold partAll at b4
          rw [← partGo_same hS hd, ← hS.1]
          cases e6 : partGo size ls e (smallLots ls.length cap) with
          | none => rw [e6] at b4; cases b4
          | some r =>
            rw [e6] at b4
            refine ⟨r, rfl, ?_⟩
            dsimp only at b4
            cases r with
            | none => exact b4
            | some q =>
              obtain ⟨k, lot⟩ := q
              show (!decide (cap < cutN long arms) && (decide (lot.length = cutN long arms) && decide (firstOff (joinedN size ls' e lot) 0 = some k))) = true
              rw [← joinedN_same hS hd]
              exact b4
end
theorem carm_len (k size shift : Nat) : ∀ (xs : List Nat) (st : CSt) (arm : Nat), (xs.foldl (cstep k size shift arm) st).1.length = st.1.length + xs.length
  | [], _, _ => rfl
  | x :: xs, st, arm => by
    rw [List.foldl_cons, carm_len k size shift xs]
    unfold cstep
    rw [List.length_append, List.length_cons]
    simp only [List.length_cons, List.length_nil]
    omega
theorem canon_len' (k size shift : Nat) : ∀ (xs : List Nat) (st : List (Nat × Nat) × List Nat), (xs.foldl (carm k size shift) st).1.length = st.1.length + xs.length * (k + 1)
  | [], _ => by simp
  | x :: xs, st => by
    rw [List.foldl_cons, canon_len' k size shift xs]
    unfold carm
    dsimp only
    rw [carm_len, List.length_range, List.length_cons, Nat.add_mul]
    dsimp only
    omega
theorem canon_len (k arms size shift : Nat) : (canon k arms size shift).1.length = arms * (k + 1) := by
  unfold canon
  rw [canon_len', List.length_range]
  simp
theorem all_good (hc : ∀ (k arms shift : Nat), k < 4 → 0 < arms → arms ≤ mx k → shift < sizeA k arms → chk k arms shift = true) : AllGood := by
  intro k arms shift cap ls hk ha ham hsh hS hcap h8
  have h := hc k arms shift hk ha ham hsh
  unfold chk at h
  have h := List.all_eq_true.mp h cap (List.mem_range.mpr hcap)
  rw [Bool.or_eq_true] at h
  rcases h with h | h
  · rw [Bool.and_eq_true] at h
    have q1 := Nat.eq_of_beq_eq_true h.1
    have q2 : 8 < arms * (k + 1) := Nat.le_of_ble_eq_true h.2
    have q3 := h8 q1
    rw [← hS.1, canon_len] at q3
    omega
  · exact good_of hS (by unfold sizeA; omega) ha (Nat.succ_pos k) (by omega) h
end VLL
set_option Elab.async false
set_option linter.all false
set_option maxRecDepth 1000000
set_option maxHeartbeats 0
/-! P71a0: each net by the kernel. -/
namespace VLL
open VL
theorem chk_0_1_0 : chk 0 1 0 = true := by decide +kernel
theorem chk_0_1_1 : chk 0 1 1 = true := by decide +kernel
theorem chk_0_2_0 : chk 0 2 0 = true := by decide +kernel
theorem chk_0_2_1 : chk 0 2 1 = true := by decide +kernel
theorem chk_0_3_0 : chk 0 3 0 = true := by decide +kernel
theorem chk_0_3_1 : chk 0 3 1 = true := by decide +kernel
theorem chk_0_4_0 : chk 0 4 0 = true := by decide +kernel
theorem chk_0_4_1 : chk 0 4 1 = true := by decide +kernel
theorem chk_0_5_0 : chk 0 5 0 = true := by decide +kernel
theorem chk_0_5_1 : chk 0 5 1 = true := by decide +kernel
theorem chk_0_6_0 : chk 0 6 0 = true := by decide +kernel
theorem chk_0_6_1 : chk 0 6 1 = true := by decide +kernel
theorem chk_0_7_0 : chk 0 7 0 = true := by decide +kernel
theorem chk_0_7_1 : chk 0 7 1 = true := by decide +kernel
theorem chk_0_8_0 : chk 0 8 0 = true := by decide +kernel
theorem chk_0_8_1 : chk 0 8 1 = true := by decide +kernel
theorem chk_0_9_0 : chk 0 9 0 = true := by decide +kernel
theorem chk_0_9_1 : chk 0 9 1 = true := by decide +kernel
theorem chk_0_10_0 : chk 0 10 0 = true := by decide +kernel
theorem chk_0_10_1 : chk 0 10 1 = true := by decide +kernel
theorem chk_0_11_0 : chk 0 11 0 = true := by decide +kernel
theorem chk_0_11_1 : chk 0 11 1 = true := by decide +kernel
theorem chk_0_12_0 : chk 0 12 0 = true := by decide +kernel
theorem chk_0_12_1 : chk 0 12 1 = true := by decide +kernel
end VLL
set_option Elab.async false
set_option linter.all false
set_option maxRecDepth 1000000
set_option maxHeartbeats 0
/-! P71a1: each net by the kernel. -/
namespace VLL
open VL
theorem chk_1_1_0 : chk 1 1 0 = true := by decide +kernel
theorem chk_1_1_1 : chk 1 1 1 = true := by decide +kernel
theorem chk_1_1_2 : chk 1 1 2 = true := by decide +kernel
theorem chk_1_2_0 : chk 1 2 0 = true := by decide +kernel
theorem chk_1_2_1 : chk 1 2 1 = true := by decide +kernel
theorem chk_1_2_2 : chk 1 2 2 = true := by decide +kernel
theorem chk_1_2_3 : chk 1 2 3 = true := by decide +kernel
theorem chk_1_3_0 : chk 1 3 0 = true := by decide +kernel
theorem chk_1_3_1 : chk 1 3 1 = true := by decide +kernel
theorem chk_1_3_2 : chk 1 3 2 = true := by decide +kernel
theorem chk_1_3_3 : chk 1 3 3 = true := by decide +kernel
theorem chk_1_3_4 : chk 1 3 4 = true := by decide +kernel
theorem chk_1_4_0 : chk 1 4 0 = true := by decide +kernel
theorem chk_1_4_1 : chk 1 4 1 = true := by decide +kernel
theorem chk_1_4_2 : chk 1 4 2 = true := by decide +kernel
theorem chk_1_4_3 : chk 1 4 3 = true := by decide +kernel
theorem chk_1_4_4 : chk 1 4 4 = true := by decide +kernel
theorem chk_1_4_5 : chk 1 4 5 = true := by decide +kernel
theorem chk_1_5_0 : chk 1 5 0 = true := by decide +kernel
theorem chk_1_5_1 : chk 1 5 1 = true := by decide +kernel
theorem chk_1_5_2 : chk 1 5 2 = true := by decide +kernel
theorem chk_1_5_3 : chk 1 5 3 = true := by decide +kernel
theorem chk_1_5_4 : chk 1 5 4 = true := by decide +kernel
theorem chk_1_5_5 : chk 1 5 5 = true := by decide +kernel
theorem chk_1_5_6 : chk 1 5 6 = true := by decide +kernel
theorem chk_1_6_0 : chk 1 6 0 = true := by decide +kernel
theorem chk_1_6_1 : chk 1 6 1 = true := by decide +kernel
theorem chk_1_6_2 : chk 1 6 2 = true := by decide +kernel
theorem chk_1_6_3 : chk 1 6 3 = true := by decide +kernel
theorem chk_1_6_4 : chk 1 6 4 = true := by decide +kernel
theorem chk_1_6_5 : chk 1 6 5 = true := by decide +kernel
theorem chk_1_6_6 : chk 1 6 6 = true := by decide +kernel
theorem chk_1_6_7 : chk 1 6 7 = true := by decide +kernel
end VLL
set_option Elab.async false
set_option linter.all false
set_option maxRecDepth 1000000
set_option maxHeartbeats 0
/-! P71a2: each net by the kernel. -/
namespace VLL
open VL
theorem chk_2_1_0 : chk 2 1 0 = true := by decide +kernel
theorem chk_2_1_1 : chk 2 1 1 = true := by decide +kernel
theorem chk_2_1_2 : chk 2 1 2 = true := by decide +kernel
theorem chk_2_1_3 : chk 2 1 3 = true := by decide +kernel
theorem chk_2_2_0 : chk 2 2 0 = true := by decide +kernel
theorem chk_2_2_1 : chk 2 2 1 = true := by decide +kernel
theorem chk_2_2_2 : chk 2 2 2 = true := by decide +kernel
theorem chk_2_2_3 : chk 2 2 3 = true := by decide +kernel
theorem chk_2_2_4 : chk 2 2 4 = true := by decide +kernel
theorem chk_2_2_5 : chk 2 2 5 = true := by decide +kernel
theorem chk_2_3_0 : chk 2 3 0 = true := by decide +kernel
theorem chk_2_3_1 : chk 2 3 1 = true := by decide +kernel
theorem chk_2_3_2 : chk 2 3 2 = true := by decide +kernel
theorem chk_2_3_3 : chk 2 3 3 = true := by decide +kernel
theorem chk_2_3_4 : chk 2 3 4 = true := by decide +kernel
theorem chk_2_3_5 : chk 2 3 5 = true := by decide +kernel
theorem chk_2_3_6 : chk 2 3 6 = true := by decide +kernel
theorem chk_2_3_7 : chk 2 3 7 = true := by decide +kernel
end VLL
set_option Elab.async false
set_option linter.all false
set_option maxRecDepth 1000000
set_option maxHeartbeats 0
/-! P71a3: each net by the kernel. -/
namespace VLL
open VL
theorem chk_3_1_0 : chk 3 1 0 = true := by decide +kernel
theorem chk_3_1_1 : chk 3 1 1 = true := by decide +kernel
theorem chk_3_1_2 : chk 3 1 2 = true := by decide +kernel
theorem chk_3_1_3 : chk 3 1 3 = true := by decide +kernel
theorem chk_3_1_4 : chk 3 1 4 = true := by decide +kernel
theorem chk_3_2_0 : chk 3 2 0 = true := by decide +kernel
theorem chk_3_2_1 : chk 3 2 1 = true := by decide +kernel
theorem chk_3_2_2 : chk 3 2 2 = true := by decide +kernel
theorem chk_3_2_3 : chk 3 2 3 = true := by decide +kernel
theorem chk_3_2_4 : chk 3 2 4 = true := by decide +kernel
theorem chk_3_2_5 : chk 3 2 5 = true := by decide +kernel
theorem chk_3_2_6 : chk 3 2 6 = true := by decide +kernel
theorem chk_3_2_7 : chk 3 2 7 = true := by decide +kernel
end VLL
set_option Elab.async false
set_option linter.all false
set_option maxRecDepth 1000000
set_option maxHeartbeats 0
/-! P71af: each net, put together. -/
namespace VLL
open VL
theorem chka_0_1 : ∀ shift, shift < sizeA 0 1 → chk 0 1 shift = true
  | 0, _ => chk_0_1_0
  | 1, _ => chk_0_1_1
  | n + 2, h => absurd h (show ¬ n + 2 < 2 by omega)
theorem chka_0_2 : ∀ shift, shift < sizeA 0 2 → chk 0 2 shift = true
  | 0, _ => chk_0_2_0
  | 1, _ => chk_0_2_1
  | n + 2, h => absurd h (show ¬ n + 2 < 2 by omega)
theorem chka_0_3 : ∀ shift, shift < sizeA 0 3 → chk 0 3 shift = true
  | 0, _ => chk_0_3_0
  | 1, _ => chk_0_3_1
  | n + 2, h => absurd h (show ¬ n + 2 < 2 by omega)
theorem chka_0_4 : ∀ shift, shift < sizeA 0 4 → chk 0 4 shift = true
  | 0, _ => chk_0_4_0
  | 1, _ => chk_0_4_1
  | n + 2, h => absurd h (show ¬ n + 2 < 2 by omega)
theorem chka_0_5 : ∀ shift, shift < sizeA 0 5 → chk 0 5 shift = true
  | 0, _ => chk_0_5_0
  | 1, _ => chk_0_5_1
  | n + 2, h => absurd h (show ¬ n + 2 < 2 by omega)
theorem chka_0_6 : ∀ shift, shift < sizeA 0 6 → chk 0 6 shift = true
  | 0, _ => chk_0_6_0
  | 1, _ => chk_0_6_1
  | n + 2, h => absurd h (show ¬ n + 2 < 2 by omega)
theorem chka_0_7 : ∀ shift, shift < sizeA 0 7 → chk 0 7 shift = true
  | 0, _ => chk_0_7_0
  | 1, _ => chk_0_7_1
  | n + 2, h => absurd h (show ¬ n + 2 < 2 by omega)
theorem chka_0_8 : ∀ shift, shift < sizeA 0 8 → chk 0 8 shift = true
  | 0, _ => chk_0_8_0
  | 1, _ => chk_0_8_1
  | n + 2, h => absurd h (show ¬ n + 2 < 2 by omega)
theorem chka_0_9 : ∀ shift, shift < sizeA 0 9 → chk 0 9 shift = true
  | 0, _ => chk_0_9_0
  | 1, _ => chk_0_9_1
  | n + 2, h => absurd h (show ¬ n + 2 < 2 by omega)
theorem chka_0_10 : ∀ shift, shift < sizeA 0 10 → chk 0 10 shift = true
  | 0, _ => chk_0_10_0
  | 1, _ => chk_0_10_1
  | n + 2, h => absurd h (show ¬ n + 2 < 2 by omega)
theorem chka_0_11 : ∀ shift, shift < sizeA 0 11 → chk 0 11 shift = true
  | 0, _ => chk_0_11_0
  | 1, _ => chk_0_11_1
  | n + 2, h => absurd h (show ¬ n + 2 < 2 by omega)
theorem chka_0_12 : ∀ shift, shift < sizeA 0 12 → chk 0 12 shift = true
  | 0, _ => chk_0_12_0
  | 1, _ => chk_0_12_1
  | n + 2, h => absurd h (show ¬ n + 2 < 2 by omega)
theorem chkk_0 : ∀ arms, 0 < arms → arms ≤ mx 0 → ∀ shift, shift < sizeA 0 arms → chk 0 arms shift = true
  | 0, h, _ => absurd h (Nat.lt_irrefl 0)
  | 1, _, _ => chka_0_1
  | 2, _, _ => chka_0_2
  | 3, _, _ => chka_0_3
  | 4, _, _ => chka_0_4
  | 5, _, _ => chka_0_5
  | 6, _, _ => chka_0_6
  | 7, _, _ => chka_0_7
  | 8, _, _ => chka_0_8
  | 9, _, _ => chka_0_9
  | 10, _, _ => chka_0_10
  | 11, _, _ => chka_0_11
  | 12, _, _ => chka_0_12
  | n + 13, _, h => absurd h (show ¬ n + 13 ≤ 12 by omega)
theorem chka_1_1 : ∀ shift, shift < sizeA 1 1 → chk 1 1 shift = true
  | 0, _ => chk_1_1_0
  | 1, _ => chk_1_1_1
  | 2, _ => chk_1_1_2
  | n + 3, h => absurd h (show ¬ n + 3 < 3 by omega)
theorem chka_1_2 : ∀ shift, shift < sizeA 1 2 → chk 1 2 shift = true
  | 0, _ => chk_1_2_0
  | 1, _ => chk_1_2_1
  | 2, _ => chk_1_2_2
  | 3, _ => chk_1_2_3
  | n + 4, h => absurd h (show ¬ n + 4 < 4 by omega)
theorem chka_1_3 : ∀ shift, shift < sizeA 1 3 → chk 1 3 shift = true
  | 0, _ => chk_1_3_0
  | 1, _ => chk_1_3_1
  | 2, _ => chk_1_3_2
  | 3, _ => chk_1_3_3
  | 4, _ => chk_1_3_4
  | n + 5, h => absurd h (show ¬ n + 5 < 5 by omega)
theorem chka_1_4 : ∀ shift, shift < sizeA 1 4 → chk 1 4 shift = true
  | 0, _ => chk_1_4_0
  | 1, _ => chk_1_4_1
  | 2, _ => chk_1_4_2
  | 3, _ => chk_1_4_3
  | 4, _ => chk_1_4_4
  | 5, _ => chk_1_4_5
  | n + 6, h => absurd h (show ¬ n + 6 < 6 by omega)
theorem chka_1_5 : ∀ shift, shift < sizeA 1 5 → chk 1 5 shift = true
  | 0, _ => chk_1_5_0
  | 1, _ => chk_1_5_1
  | 2, _ => chk_1_5_2
  | 3, _ => chk_1_5_3
  | 4, _ => chk_1_5_4
  | 5, _ => chk_1_5_5
  | 6, _ => chk_1_5_6
  | n + 7, h => absurd h (show ¬ n + 7 < 7 by omega)
theorem chka_1_6 : ∀ shift, shift < sizeA 1 6 → chk 1 6 shift = true
  | 0, _ => chk_1_6_0
  | 1, _ => chk_1_6_1
  | 2, _ => chk_1_6_2
  | 3, _ => chk_1_6_3
  | 4, _ => chk_1_6_4
  | 5, _ => chk_1_6_5
  | 6, _ => chk_1_6_6
  | 7, _ => chk_1_6_7
  | n + 8, h => absurd h (show ¬ n + 8 < 8 by omega)
theorem chkk_1 : ∀ arms, 0 < arms → arms ≤ mx 1 → ∀ shift, shift < sizeA 1 arms → chk 1 arms shift = true
  | 0, h, _ => absurd h (Nat.lt_irrefl 0)
  | 1, _, _ => chka_1_1
  | 2, _, _ => chka_1_2
  | 3, _, _ => chka_1_3
  | 4, _, _ => chka_1_4
  | 5, _, _ => chka_1_5
  | 6, _, _ => chka_1_6
  | n + 7, _, h => absurd h (show ¬ n + 7 ≤ 6 by omega)
theorem chka_2_1 : ∀ shift, shift < sizeA 2 1 → chk 2 1 shift = true
  | 0, _ => chk_2_1_0
  | 1, _ => chk_2_1_1
  | 2, _ => chk_2_1_2
  | 3, _ => chk_2_1_3
  | n + 4, h => absurd h (show ¬ n + 4 < 4 by omega)
theorem chka_2_2 : ∀ shift, shift < sizeA 2 2 → chk 2 2 shift = true
  | 0, _ => chk_2_2_0
  | 1, _ => chk_2_2_1
  | 2, _ => chk_2_2_2
  | 3, _ => chk_2_2_3
  | 4, _ => chk_2_2_4
  | 5, _ => chk_2_2_5
  | n + 6, h => absurd h (show ¬ n + 6 < 6 by omega)
theorem chka_2_3 : ∀ shift, shift < sizeA 2 3 → chk 2 3 shift = true
  | 0, _ => chk_2_3_0
  | 1, _ => chk_2_3_1
  | 2, _ => chk_2_3_2
  | 3, _ => chk_2_3_3
  | 4, _ => chk_2_3_4
  | 5, _ => chk_2_3_5
  | 6, _ => chk_2_3_6
  | 7, _ => chk_2_3_7
  | n + 8, h => absurd h (show ¬ n + 8 < 8 by omega)
theorem chkk_2 : ∀ arms, 0 < arms → arms ≤ mx 2 → ∀ shift, shift < sizeA 2 arms → chk 2 arms shift = true
  | 0, h, _ => absurd h (Nat.lt_irrefl 0)
  | 1, _, _ => chka_2_1
  | 2, _, _ => chka_2_2
  | 3, _, _ => chka_2_3
  | n + 4, _, h => absurd h (show ¬ n + 4 ≤ 3 by omega)
theorem chka_3_1 : ∀ shift, shift < sizeA 3 1 → chk 3 1 shift = true
  | 0, _ => chk_3_1_0
  | 1, _ => chk_3_1_1
  | 2, _ => chk_3_1_2
  | 3, _ => chk_3_1_3
  | 4, _ => chk_3_1_4
  | n + 5, h => absurd h (show ¬ n + 5 < 5 by omega)
theorem chka_3_2 : ∀ shift, shift < sizeA 3 2 → chk 3 2 shift = true
  | 0, _ => chk_3_2_0
  | 1, _ => chk_3_2_1
  | 2, _ => chk_3_2_2
  | 3, _ => chk_3_2_3
  | 4, _ => chk_3_2_4
  | 5, _ => chk_3_2_5
  | 6, _ => chk_3_2_6
  | 7, _ => chk_3_2_7
  | n + 8, h => absurd h (show ¬ n + 8 < 8 by omega)
theorem chkk_3 : ∀ arms, 0 < arms → arms ≤ mx 3 → ∀ shift, shift < sizeA 3 arms → chk 3 arms shift = true
  | 0, h, _ => absurd h (Nat.lt_irrefl 0)
  | 1, _, _ => chka_3_1
  | 2, _, _ => chka_3_2
  | n + 3, _, h => absurd h (show ¬ n + 3 ≤ 2 by omega)
theorem chk_all : ∀ (k arms shift : Nat), k < 4 → 0 < arms → arms ≤ mx k → shift < sizeA k arms → chk k arms shift = true
  | 0, arms, shift, _, h1, h2, h3 => chkk_0 arms h1 h2 shift h3
  | 1, arms, shift, _, h1, h2, h3 => chkk_1 arms h1 h2 shift h3
  | 2, arms, shift, _, h1, h2, h3 => chkk_2 arms h1 h2 shift h3
  | 3, arms, shift, _, h1, h2, h3 => chkk_3 arms h1 h2 shift h3
  | n + 4, _, _, h, _, _, _ => absurd h (show ¬ n + 4 < 4 by omega)
end VLL
set_option Elab.async false
set_option linter.all false
set_option maxRecDepth 1000000
set_option maxHeartbeats 0
/-! P71ag: the law, joined with the head. -/
namespace VL
open PySem PySem.Spec PyProof.Rows L2
/-- a law's walk, its context hanging on the world -/
theorem walkW {l : PySem.W.OpenLaw} {n k : Nat} {q : Program} {loose : List Str} {XP : (Str → Option Value) → Heap → Prop}
    {YP : World → Heap → Prop} {d : DefRec} {CX : World → CXT} {x : Str} (hn : l.most = some n) (hn2 : n ≤ sizeLine) (hd0 : d.params.defaults = []) (hr : Room k callerA)
    (F : ∀ (w : World) (mg : Str → Option Value) (f : Addr) (h : Heap), YP w h → h.Ns mainGlobals mg → mg d.name = some (.ref f) → ∃ (K : PySem.W.Frag) (fd : FuncData) (sp : Sp), K.In h ∧
      ((∀ (s : Shared) (u : Value), BindsTo s fd ⟨[u], []⟩ [(x, u)]) ∧ ((∀ (H : Hp) (a : Addr) (ns : List Int), ns.length ≤ n → SqL K H a (ns.map V.int) → sp [.ref a] H (fun v _ => v = .bl true) fun _ _ _ => False) ∧
        ∀ base : Heap, K.In base → base.Ns mainGlobals mg → FnOk l.prog w K mg base (CX w) k f fd [x] sp)))
    (hX : ∀ (w : World) (H : Hp) (s : Shared) (e : Value) (t : Shared), CX w [] H s (fun _ _ _ => False) e t → False) : PySem.W.WalkO q loose XP YP l.row.toRowW d [] (fun g us => PySem.call g us) := by
  refine Att.attach_call hn hd0 fun w t0 t1 mg gb f ob pb cb dc a us ns G Y hob hde hco hfa hgo hhi hle hgg => ?_
  obtain ⟨K, fd, sp, z1, z2, z3, z4⟩ := F w mg f _ Y G.T.g hfa
  exact law_call z1 G.T.g G.T.b G.T.builtins G.T.nolimit hgg hgo hhi (Nat.le_trans hle hn2) hr z4 z2
    (fun H _ hS => z3 H a ns hle hS) fun H e t => hX w H t1 e t
end VL
namespace VLL
open PySem PySem.Spec PyProof.Rows L2 VL
theorem sp_true {K : PySem.W.Frag} {ca : Str → Addr} {F : List D → VL.FR} (hF : ∀ ns : List Int, ns.length ≤ 63 → ∃ d, F [.scr ns] = .ok (.sh (.bl true)) d) (H : Hp) (a : Addr) (ns : List Int) (hl : ns.length ≤ 63) (hS : SqL K H a (ns.map V.int)) :
    spV K ca false F [.ref a] H (fun v _ => v = .bl true) fun _ _ _ => False := by
  obtain ⟨d, e⟩ := hF ns hl
  refine ⟨[], fun b hb => absurd hb List.not_mem_nil, [.scr ns], ⟨.ref a, [], rfl, ⟨a, rfl, ?_⟩, rfl⟩, ?_⟩
  · rcases hS with h | h
    · exact .inl ⟨List.not_mem_nil, h⟩
    · exact .inr h
  · rw [e]
    intro v H' _ _ r
    exact r
theorem cx_false {P : Program} (w : World) (H : Hp) (s : Shared) (e : Value) (t : Shared) (h : L2.CX P w [] H s (fun _ _ _ => False) e t) : False := by
  obtain ⟨a, B, H', cls, d, _, _, _, _, _, _, _, z⟩ := h
  exact z
theorem fun_uniq {K : PySem.W.Frag} {x qual : Str} {params : Arguments} {body : List Stmt} {scope : Scope} {dvs : List V} {kws : List (Str × V)} {f : Addr} {fd fd' : FuncData}
    (h1 : FunD K x qual params body scope dvs kws f fd) (h2 : FunD K x qual params body scope dvs kws f fd') : fd' = fd := by
  obtain ⟨_, _, _, _, _, _, _, _, _, _, _, k1, _⟩ := h1.ex
  obtain ⟨_, _, _, _, _, _, _, _, _, _, _, k2, _⟩ := h2.ex
  rw [k1] at k2
  injection k2 with k2
  injection k2 with _ _ k2 _
  injection k2 with k2
  exact k2.symm
theorem facts {P : Program} {w : World} {K : PySem.W.Frag} {h : Heap} {mg : Str → Option Value} {f : Addr} (X : K.In h) (G : h.Ns mainGlobals mg) (hfa : mg ("law" : Str) = some (.ref f)) (c : SaysP fa fn pn ex K) :
    ∃ fd : FuncData, (∀ (s : Shared) (v : Value), BindsTo s fd ⟨[v], []⟩ [("script", v)]) ∧ ∀ base : Heap, K.In base → base.Ns mainGlobals mg → FnOk P w K mg base (L2.CX P w) 8 f fd ["script"] (spV K (He.ga K) false run_law) := by
  have e := hfa.symm.trans (He.glo_ok X G (c.d.fact 32 (f := .glo "law") rfl))
  cases e
  obtain ⟨fd, _, F⟩ := ok_law (P := P) (w := w) (base := h) X G c
  have b := FunD.bindsA (ps := ["script"]) F fun _ _ _ _ _ _ us hl => match us, hl with | [_], _ => rfl
  refine ⟨fd, fun s v => b s [v] rfl, fun base _ _ => ?_⟩
  obtain ⟨fd', F1, F'⟩ := ok_law (P := P) (w := w) (base := base) X G c
  have e := fun_uniq F F'
  subst e
  exact F1
end VLL
set_option Elab.async false
set_option linter.all false
set_option maxRecDepth 1000000
set_option maxHeartbeats 0
/-! P71ah: the statement. -/
open PySem PySem.W PySem.Calls PyProof.Rows
theorem PySem.Challenge.cw_switchrounds_k71_joined_and_yet_without_holds : PySem.Challenge.rw_switchrounds_k71_joined_and_yet_without.Holds := by
  w_on; o_law
  refine HandSHeadRun.head_any (r := OpenLaw.row PySem.Challenge.rw_switchrounds_k71_joined_and_yet_without) (q := view (OpenLaw.row PySem.Challenge.rw_switchrounds_k71_joined_and_yet_without).prog [45]) (H := VLL.hk) (ob := VLL.ob) (M := 4000) (loose := VLL.loose)
    (d := HandSHeadRun.topDef (OpenLaw.row PySem.Challenge.rw_switchrounds_k71_joined_and_yet_without).prog 45) (kwd := []) VLL.ob_eq
    (by kernel_rfl) (fun s => by kernel_rfl) VLL.run (by kernel_rfl) (by kernel_rfl) (by kernel_rfl) (by rfl) (by first | assumption | decide +kernel) (by decide +kernel) ⟨rfl, rfl, rfl, rfl, rfl, by decide +kernel⟩ ?hw ?hc
  case hw => w_witness2
  case hc =>
    refine VL.walkW (l := PySem.Challenge.rw_switchrounds_k71_joined_and_yet_without) (n := 63) (k := 8) (x := "script") (CX := fun w => L2.CX (PySem.Challenge.rw_switchrounds_k71_joined_and_yet_without).prog w) rfl (by decide) (by kernel_rfl) ⟨rfl, by decide, by decide⟩ ?F (fun w H s e t z => VLL.cx_false w H s e t z)
    intro w mg f h Y G hmg0
    obtain ⟨K, KX, c⟩ := Y
    have hmg : mg ("law" : PySem.Str) = some (.ref f) := by
      have e : (HandSHeadRun.topDef (OpenLaw.row PySem.Challenge.rw_switchrounds_k71_joined_and_yet_without).prog 45).name = ("law" : PySem.Str) := by kernel_rfl
      rw [← e]
      exact hmg0
    obtain ⟨fd, hb, hF⟩ := VLL.facts (P := (PySem.Challenge.rw_switchrounds_k71_joined_and_yet_without).prog) (w := w) KX G hmg c
    exact ⟨K, fd, _, KX, hb, fun H a ns hl hS => VLL.sp_true (fun ns hl => ⟨_, VLL.r_law (VLL.all_good VLL.chk_all) hl⟩) H a ns hl hS, hF⟩
