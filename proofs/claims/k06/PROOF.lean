import PyProof.Rows.All
import Wide.All
import OpenK.AllK
import Wide.FinOn
import HandS.ForMost
import HandS.ForExc
import HandS.HeadHook2
import HandS.Wide
import HandS.TupAny
import HandS.TupMul
import HandS.Deep
import HandS.Style
import HandS.CallSlots
import HandS.WordsExc
import HandS.Defaults
import HandS.HeadEnd
import HandS.Iter
import HandS.Zip
import HandS.Comp
import HandS.IsInst
import HandS.SortInts
import HandS.Head0
import HandS.Head1
import HandS.Head2
import HandS.HeadHook1
import HandS.More
import HandS.Dict
import HandS.Small
import HandS.TupLen
import HandS.WordsDict
import KE.SortData
import HandS.Conv
import KE.KDictSum
import HandS.TryMany
import HandS.TupSets
import HandS.TryOnly
import KE.DataMinMax
import HandS.ExcIs
import HandS.ExcValue
import PyProof.ReprRoads
import PyProof.Rows.TupDisplay
import HandS.DictTup
import HandS.Codes
import KE.DataCmp
import KE.SortLaws
import HandS.WideBits
import PyProof.CallStr
import HandS.RaiseMore
import PySem.Challenge.RW_farwide_k06_grids_made
set_option Elab.async false
set_option linter.all false
set_option maxRecDepth 100000
set_option maxHeartbeats 0
/-! DV0: pure data values, how they stand in the abstract heap, environments with ownership. -/
namespace DV
open PySem PySem.Spec PyProof.Rows L2

/-- a pure value -/
inductive D where
  | non | bl (b : Bool) | int (i : Int) | str (x : Str)
  | tup (ds : List D) | lst (ds : List D)
  | dK (kvs : List (Key × D)) | dT (kvs : List (List Key × D))
instance : Inhabited D := ⟨.non⟩

/-- what G tells is told by H -/
structure Sub (G H : Hp) : Prop where
  rd : ∀ a u, Rd G a u → Rd H a u
  tp : ∀ a xs, G a = some (.tup xs) → H a = some (.tup xs)
  fz : ∀ a o u, G a = some (.frz o u) → H a = some (.frz o u)
theorem Sub.refl (G : Hp) : Sub G G := ⟨fun _ _ h => h, fun _ _ h => h, fun _ _ _ h => h⟩
theorem Sub.trans {A B C : Hp} (x : Sub A B) (y : Sub B C) : Sub A C := ⟨fun a u h => y.rd a u (x.rd a u h), fun a u h => y.tp a u (x.tp a u h), fun a o u h => y.fz a o u (x.fz a o u h)⟩
/-- exact agreement -/
def Le (G H : Hp) : Prop := ∀ a o, G a = some o → H a = some o
theorem Le.sub {G H : Hp} (h : Le G H) : Sub G H := ⟨fun a u r => r.elim (fun e => .inl (h a _ e)) (fun ⟨o, e⟩ => .inr ⟨o, h a _ e⟩), fun a xs e => h a _ e, fun a o u e => h a _ e⟩
theorem Le.refl (G : Hp) : Le G G := fun _ _ h => h
theorem Le.trans {A B C : Hp} (x : Le A B) (y : Le B C) : Le A C := fun a o h => y a o (x a o h)

mutual
/-- v stands for d, read off G -/
inductive Rep (G : Hp) : V → D → Prop
  | non : Rep G .non .non
  | bl (b : Bool) : Rep G (.bl b) (.bl b)
  | int (i : Int) : Rep G (.int i) (.int i)
  | str (x : Str) : Rep G (.str x) (.str x)
  | tup {a : Addr} {xs : List V} {ds : List D} : G a = some (.tup xs) → RepL G xs ds → Rep G (.ref a) (.tup ds)
  | lst {a : Addr} {xs : List V} {ds : List D} : Rd G a (.lst xs) → RepL G xs ds → Rep G (.ref a) (.lst ds)
  | dK {a : Addr} {vs : List (Key × V)} {kvs : List (Key × D)} : Rd G a (.dK vs) → vs.map (·.1) = kvs.map (·.1) → RepL G (vs.map (·.2)) (kvs.map (·.2)) → Rep G (.ref a) (.dK kvs)
  | dT {a : Addr} {vs : List (List Key × V)} {kvs : List (List Key × D)} : Rd G a (.dT vs) → vs.map (·.1) = kvs.map (·.1) → RepL G (vs.map (·.2)) (kvs.map (·.2)) → Rep G (.ref a) (.dT kvs)
inductive RepL (G : Hp) : List V → List D → Prop
  | nil : RepL G [] []
  | cons {v : V} {vs : List V} {d : D} {ds : List D} : Rep G v d → RepL G vs ds → RepL G (v :: vs) (d :: ds)
end

mutual
theorem Rep.mono {G G' : Hp} (s : Sub G G') : ∀ {v : V} {d : D}, Rep G v d → Rep G' v d
  | _, _, .non => .non
  | _, _, .bl b => .bl b
  | _, _, .int i => .int i
  | _, _, .str x => .str x
  | _, _, .tup h hl => .tup (s.tp _ _ h) (RepL.mono s hl)
  | _, _, .lst h hl => .lst (s.rd _ _ h) (RepL.mono s hl)
  | _, _, .dK h e hl => .dK (s.rd _ _ h) e (RepL.mono s hl)
  | _, _, .dT h e hl => .dT (s.rd _ _ h) e (RepL.mono s hl)
theorem RepL.mono {G G' : Hp} (s : Sub G G') : ∀ {vs : List V} {ds : List D}, RepL G vs ds → RepL G' vs ds
  | _, _, .nil => .nil
  | _, _, .cons h t => .cons (Rep.mono s h) (RepL.mono s t)
end
theorem RepL.length {G : Hp} : ∀ {vs : List V} {ds : List D}, RepL G vs ds → vs.length = ds.length
  | _, _, .nil => rfl
  | _, _, .cons _ t => by rw [List.length_cons, List.length_cons, RepL.length t]
theorem RepL.get {G : Hp} : ∀ {vs : List V} {ds : List D} {i : Nat} {d : D}, RepL G vs ds → ds[i]? = some d → ∃ v, vs[i]? = some v ∧ Rep G v d
  | _, _, _, _, .nil, e => by simp at e
  | _, _, 0, _, .cons r _, e => by simp at e; subst e; exact ⟨_, rfl, r⟩
  | _, _, i + 1, d, .cons _ t, e => by
    obtain ⟨v, h1, h2⟩ := RepL.get (i := i) (d := d) t (by simpa using e)
    exact ⟨v, by simpa using h1, h2⟩
theorem RepL.getV {G : Hp} : ∀ {vs : List V} {ds : List D} {i : Nat} {v : V}, RepL G vs ds → vs[i]? = some v → ∃ d, ds[i]? = some d ∧ Rep G v d
  | _, _, _, _, .nil, e => by simp at e
  | _, _, 0, _, .cons r _, e => by simp at e; subst e; exact ⟨_, rfl, r⟩
  | _, _, i + 1, d, .cons _ t, e => by
    obtain ⟨v, h1, h2⟩ := RepL.getV (i := i) (v := d) t (by simpa using e)
    exact ⟨v, by simpa using h1, h2⟩
theorem RepL.append {G : Hp} : ∀ {vs ws : List V} {ds es : List D}, RepL G vs ds → RepL G ws es → RepL G (vs ++ ws) (ds ++ es)
  | _, _, _, _, .nil, h => h
  | _, _, _, _, .cons r t, h => .cons r (RepL.append t h)
theorem RepL.take {G : Hp} : ∀ {vs : List V} {ds : List D} (n : Nat), RepL G vs ds → RepL G (vs.take n) (ds.take n)
  | _, _, 0, _ => .nil
  | _, _, _ + 1, .nil => .nil
  | _, _, n + 1, .cons r t => .cons r (RepL.take n t)
theorem RepL.drop {G : Hp} : ∀ {vs : List V} {ds : List D} (n : Nat), RepL G vs ds → RepL G (vs.drop n) (ds.drop n)
  | _, _, 0, r => r
  | _, _, _ + 1, .nil => .nil
  | _, _, n + 1, .cons _ t => RepL.drop n t
theorem RepL.set {G : Hp} {v : V} {d : D} (r : Rep G v d) : ∀ {vs : List V} {ds : List D} (i : Nat), RepL G vs ds → RepL G (vs.set i v) (ds.set i d)
  | _, _, _, .nil => .nil
  | _, _, 0, .cons _ t => .cons r t
  | _, _, i + 1, .cons q t => .cons q (RepL.set r i t)
theorem RepL.reverse {G : Hp} {vs : List V} {ds : List D} (h : RepL G vs ds) : RepL G vs.reverse ds.reverse := by
  induction vs generalizing ds with
  | nil => cases h; exact .nil
  | cons v vs ih =>
    cases h with
    | cons r t => rw [List.reverse_cons, List.reverse_cons]; exact (ih t).append (.cons r .nil)

/-! ### owned values: at most k levels of containers are held by this one place alone; F: their addresses -/
inductive OwnL (R : V → D → List Addr → Prop) : List V → List D → List Addr → Prop
  | nil : OwnL R [] [] []
  | cons {v : V} {d : D} {F : List Addr} {vs : List V} {ds : List D} {Fs : List Addr} : R v d F → OwnL R vs ds Fs → OwnL R (v :: vs) (d :: ds) (F ++ Fs)
def Own (G H : Hp) : Nat → V → D → List Addr → Prop
  | 0, v, d, F => Rep G v d ∧ F = []
  | k + 1, v, .lst ds, F => ∃ a vs Fs, v = .ref a ∧ H a = some (.lst vs) ∧ F = a :: Fs ∧ OwnL (Own G H k) vs ds Fs
  | k + 1, v, .dK kvs, F => ∃ a vs Fs, v = .ref a ∧ H a = some (.dK vs) ∧ F = a :: Fs ∧ vs.map (·.1) = kvs.map (·.1) ∧ OwnL (Own G H k) (vs.map (·.2)) (kvs.map (·.2)) Fs
  | k + 1, v, .dT kvs, F => ∃ a vs Fs, v = .ref a ∧ H a = some (.dT vs) ∧ F = a :: Fs ∧ vs.map (·.1) = kvs.map (·.1) ∧ OwnL (Own G H k) (vs.map (·.2)) (kvs.map (·.2)) Fs
  | k + 1, v, .tup ds, F => ∃ a vs, v = .ref a ∧ G a = some (.tup vs) ∧ OwnL (Own G H k) vs ds F
  | _ + 1, v, d, F => Rep G v d ∧ F = []

theorem OwnL.imp {R S : V → D → List Addr → Prop} (h : ∀ v d F, R v d F → S v d F) : ∀ {vs : List V} {ds : List D} {F : List Addr}, OwnL R vs ds F → OwnL S vs ds F
  | _, _, _, .nil => .nil
  | _, _, _, .cons r t => .cons (h _ _ _ r) (OwnL.imp h t)
/-- with the knowledge of where each part lies -/
theorem OwnL.impF {R S : V → D → List Addr → Prop} : ∀ {vs : List V} {ds : List D} {F : List Addr}, OwnL R vs ds F → (∀ v d F', R v d F' → (∀ a ∈ F', a ∈ F) → S v d F') → OwnL S vs ds F
  | _, _, _, .nil, _ => .nil
  | _, _, _, .cons r t, h => .cons (h _ _ _ r fun a ha => List.mem_append_left _ ha) (OwnL.impF t fun v d F' q z => h v d F' q fun a ha => List.mem_append_right _ (z a ha))
theorem OwnL.length {R : V → D → List Addr → Prop} : ∀ {vs : List V} {ds : List D} {F : List Addr}, OwnL R vs ds F → vs.length = ds.length
  | _, _, _, .nil => rfl
  | _, _, _, .cons _ t => by rw [List.length_cons, List.length_cons, OwnL.length t]
theorem OwnL.append {R : V → D → List Addr → Prop} : ∀ {vs ws : List V} {ds es : List D} {F F' : List Addr}, OwnL R vs ds F → OwnL R ws es F' → OwnL R (vs ++ ws) (ds ++ es) (F ++ F')
  | _, _, _, _, _, _, .nil, h => h
  | _, _, _, _, _, _, .cons r t, h => by rw [List.append_assoc]; exact .cons r (OwnL.append t h)
theorem OwnL.repL {G : Hp} {R : V → D → List Addr → Prop} (h : ∀ v d F, R v d F → Rep G v d) : ∀ {vs : List V} {ds : List D} {F : List Addr}, OwnL R vs ds F → RepL G vs ds
  | _, _, _, .nil => .nil
  | _, _, _, .cons r t => .cons (h _ _ _ r) (OwnL.repL h t)
/-- frozen parts -/
theorem OwnL.of0 {G H : Hp} : ∀ {vs : List V} {ds : List D}, RepL G vs ds → OwnL (Own G H 0) vs ds []
  | _, _, .nil => .nil
  | _, _, .cons r t => by
    have := OwnL.cons (R := Own G H 0) (F := []) (Fs := []) ⟨r, rfl⟩ (OwnL.of0 t)
    simpa using this
theorem OwnL.to0 {G H : Hp} : ∀ {vs : List V} {ds : List D} {F : List Addr}, OwnL (Own G H 0) vs ds F → RepL G vs ds ∧ F = []
  | _, _, _, .nil => ⟨.nil, rfl⟩
  | _, _, _, .cons r t => by
    obtain ⟨h, e⟩ := OwnL.to0 t
    exact ⟨.cons r.1 h, by rw [r.2, e]; rfl⟩

theorem Own.mono {G G' H H' : Hp} (s : Sub G G') : ∀ (k : Nat) {v : V} {d : D} {F : List Addr}, Own G H k v d F → (∀ a ∈ F, H' a = H a) → Own G' H' k v d F
  | 0, v, d, F, o, _ => ⟨o.1.mono s, o.2⟩
  | k + 1, v, .lst ds, F, ⟨a, vs, Fs, e1, e2, e3, e4⟩, h => by
    subst e3
    exact ⟨a, vs, Fs, e1, (h a List.mem_cons_self).trans e2, rfl, e4.impF fun v d F' r z => Own.mono s k r fun b hb => h b (List.mem_cons_of_mem _ (z b hb))⟩
  | k + 1, v, .dK ds, F, ⟨a, vs, Fs, e1, e2, e3, e5, e4⟩, h => by
    subst e3
    exact ⟨a, vs, Fs, e1, (h a List.mem_cons_self).trans e2, rfl, e5, e4.impF fun v d F' r z => Own.mono s k r fun b hb => h b (List.mem_cons_of_mem _ (z b hb))⟩
  | k + 1, v, .dT ds, F, ⟨a, vs, Fs, e1, e2, e3, e5, e4⟩, h => by
    subst e3
    exact ⟨a, vs, Fs, e1, (h a List.mem_cons_self).trans e2, rfl, e5, e4.impF fun v d F' r z => Own.mono s k r fun b hb => h b (List.mem_cons_of_mem _ (z b hb))⟩
  | k + 1, v, .tup ds, F, ⟨a, vs, e1, e2, e4⟩, h => ⟨a, vs, e1, s.tp _ _ e2, e4.impF fun v d F' r z => Own.mono s k r fun b hb => h b (z b hb)⟩
  | _ + 1, _, .non, _, o, _ => ⟨o.1.mono s, o.2⟩
  | _ + 1, _, .bl _, _, o, _ => ⟨o.1.mono s, o.2⟩
  | _ + 1, _, .int _, _, o, _ => ⟨o.1.mono s, o.2⟩
  | _ + 1, _, .str _, _, o, _ => ⟨o.1.mono s, o.2⟩
/-- read in any heap that tells G and has the owned objects -/
theorem Own.rep {G H M : Hp} (s : Sub G M) : ∀ (k : Nat) {v : V} {d : D} {F : List Addr}, Own G H k v d F → (∀ a ∈ F, M a = H a) → Rep M v d
  | 0, v, d, F, o, _ => o.1.mono s
  | k + 1, v, .lst ds, F, ⟨a, vs, Fs, e1, e2, e3, e4⟩, h => by
    subst e3; subst e1
    exact .lst (.inl ((h a List.mem_cons_self).trans e2)) ((e4.impF (S := fun v d _ => Rep M v d) fun v d F' r z => Own.rep s k r fun b hb => h b (List.mem_cons_of_mem _ (z b hb))).repL fun _ _ _ q => q)
  | k + 1, v, .dK ds, F, ⟨a, vs, Fs, e1, e2, e3, e5, e4⟩, h => by
    subst e3; subst e1
    exact .dK (.inl ((h a List.mem_cons_self).trans e2)) e5 ((e4.impF (S := fun v d _ => Rep M v d) fun v d F' r z => Own.rep s k r fun b hb => h b (List.mem_cons_of_mem _ (z b hb))).repL fun _ _ _ q => q)
  | k + 1, v, .dT ds, F, ⟨a, vs, Fs, e1, e2, e3, e5, e4⟩, h => by
    subst e3; subst e1
    exact .dT (.inl ((h a List.mem_cons_self).trans e2)) e5 ((e4.impF (S := fun v d _ => Rep M v d) fun v d F' r z => Own.rep s k r fun b hb => h b (List.mem_cons_of_mem _ (z b hb))).repL fun _ _ _ q => q)
  | k + 1, v, .tup ds, F, ⟨a, vs, e1, e2, e4⟩, h => by
    subst e1
    exact .tup (s.tp _ _ e2) ((e4.impF (S := fun v d _ => Rep M v d) fun v d F' r z => Own.rep s k r fun b hb => h b (z b hb)).repL fun _ _ _ q => q)
  | _ + 1, _, .non, _, o, _ => o.1.mono s
  | _ + 1, _, .bl _, _, o, _ => o.1.mono s
  | _ + 1, _, .int _, _, o, _ => o.1.mono s
  | _ + 1, _, .str _, _, o, _ => o.1.mono s
theorem OwnL.mem {R : V → D → List Addr → Prop} {P : Addr → Prop} (h : ∀ v d F, R v d F → ∀ a ∈ F, P a) : ∀ {vs : List V} {ds : List D} {F : List Addr}, OwnL R vs ds F → ∀ a ∈ F, P a
  | _, _, _, .nil, a, ha => by simp at ha
  | _, _, _, .cons r t, a, ha => (List.mem_append.mp ha).elim (h _ _ _ r a) (OwnL.mem h t a)
/-- what is owned stands in the heap, and is no tuple, not locked -/
theorem Own.mem {G H : Hp} : ∀ (k : Nat) {v : V} {d : D} {F : List Addr}, Own G H k v d F → ∀ a ∈ F, ∃ u, H a = some u ∧ Mut (some u)
  | 0, _, _, _, o, a, ha => by rw [o.2] at ha; simp at ha
  | k + 1, v, .lst ds, F, ⟨b, vs, Fs, e1, e2, e3, e4⟩, a, ha => by
    subst e3
    rcases List.mem_cons.mp ha with e | ha
    · subst e; exact ⟨_, e2, trivial⟩
    · exact e4.mem (fun v d F r => Own.mem k r) a ha
  | k + 1, v, .dK ds, F, ⟨b, vs, Fs, e1, e2, e3, e5, e4⟩, a, ha => by
    subst e3
    rcases List.mem_cons.mp ha with e | ha
    · subst e; exact ⟨_, e2, trivial⟩
    · exact e4.mem (fun v d F r => Own.mem k r) a ha
  | k + 1, v, .dT ds, F, ⟨b, vs, Fs, e1, e2, e3, e5, e4⟩, a, ha => by
    subst e3
    rcases List.mem_cons.mp ha with e | ha
    · subst e; exact ⟨_, e2, trivial⟩
    · exact e4.mem (fun v d F r => Own.mem k r) a ha
  | k + 1, v, .tup ds, F, ⟨b, vs, e1, e2, e4⟩, a, ha => e4.mem (fun v d F r => Own.mem k r) a ha
  | _ + 1, _, .non, _, o, a, ha => by rw [o.2] at ha; simp at ha
  | _ + 1, _, .bl _, _, o, a, ha => by rw [o.2] at ha; simp at ha
  | _ + 1, _, .int _, _, o, a, ha => by rw [o.2] at ha; simp at ha
  | _ + 1, _, .str _, _, o, a, ha => by rw [o.2] at ha; simp at ha
end DV

/-! DV1: environments of slots, outcomes, the relation of an environment to a frame's slots and the heap, how a step may change the heap. -/
namespace DV
open PySem PySem.Spec PyProof.Rows L2

/-- a slot: nothing known; or a value, owned k deep; l: it is lent by the caller (never stored anew) -/
inductive Slot where
  | no
  | val (k : Nat) (l : Bool) (d : D)
instance : Inhabited Slot := ⟨.no⟩
abbrev Env := List Slot
abbrev Sig := L2.St
def Slot.isLent : Slot → Bool
  | .val _ l _ => l
  | .no => false
inductive Out (α : Type) where
  | ok (a : α) (η : Env)
  | exc (c : Str) (η : Env)
  | bad
def Out.bind {α β : Type} : Out α → (α → Env → Out β) → Out β
  | .ok a η, f => f a η
  | .exc c η, _ => .exc c η
  | .bad, _ => .bad
@[simp] theorem bind_ok {α β : Type} (a : α) (η : Env) (f : α → Env → Out β) : (Out.ok a η).bind f = f a η := rfl
@[simp] theorem bind_exc {α β : Type} (c : Str) (η : Env) (f : α → Env → Out β) : (Out.exc c η : Out α).bind f = .exc c η := rfl
@[simp] theorem bind_bad {α β : Type} (f : α → Env → Out β) : (Out.bad : Out α).bind f = .bad := rfl

abbrev Feet := Nat → List Addr
def foot (Fs : Feet) (a : Addr) : Prop := ∃ i, a ∈ Fs i
/-- how many slots there are; the slots that are lent, with what they hold -/
abbrev Lents := Nat × List (Nat × V)

structure Rel (L : Lents) (G : Hp) (η : Env) (σ : Sig) (H : Hp) (Fs : Feet) : Prop where
  sub : Sub G H
  len : η.length = σ.length
  wid : η.length = L.1
  slot : ∀ i k l d, η[i]? = some (.val k l d) → ∃ v, σ[i]? = some (some v) ∧ Own G H k v d (Fs i) ∧ (l = true → (i, v) ∈ L.2)
  emp : ∀ i, (∀ k l d, η[i]? ≠ some (.val k l d)) → Fs i = []
  nod : ∀ i, (Fs i).Nodup
  dis : ∀ i a, a ∈ Fs i → G a = none
  sep : ∀ i j a, a ∈ Fs i → a ∈ Fs j → i = j
  lnt : ∀ p ∈ L.2, ∃ k d, η[p.1]? = some (.val k true d) ∧ σ[p.1]? = some (some p.2)

/-- what may come to be known: new objects, and tuples -/
def Lrn : Option HO → Prop
  | none => True
  | some (.tup _) => True
  | _ => False
theorem Lrn.none {o : Option HO} (h : o = none) : Lrn o := by rw [h]; trivial
theorem Lrn.mut {o : Option HO} (h : Lrn o) {u : HO} (e : o = some u) (m : Mut (some u)) : False := by
  subst e
  cases u <;> first | exact h | exact m
/-- how a step may change what is known and the heap -/
structure Ext (G H : Hp) (Fs : Feet) (G' H' : Hp) (Fs' : Feet) : Prop where
  g : Le G G'
  h : ∀ a o, H a = some o → ¬ foot Fs a → H' a = some o
  n : ∀ a, G' a ≠ none → G a ≠ none ∨ foot Fs a ∨ Lrn (H a)
  f : ∀ a, foot Fs' a → foot Fs a ∨ H a = none
  d : ∀ a, H a ≠ none → H' a ≠ none
theorem Ext.refl {G H : Hp} {Fs : Feet} : Ext G H Fs G H Fs := ⟨Le.refl G, fun _ _ h _ => h, fun _ h => .inl h, fun _ h => .inl h, fun _ h => h⟩
theorem Ext.trans {G H G1 H1 G2 H2 : Hp} {Fs Fs1 Fs2 : Feet} (x : Ext G H Fs G1 H1 Fs1) (y : Ext G1 H1 Fs1 G2 H2 Fs2) : Ext G H Fs G2 H2 Fs2 where
  g := x.g.trans y.g
  h := fun a o e n => by
    refine y.h a o (x.h a o e n) fun z => ?_
    rcases x.f a z with q | q
    · exact n q
    · rw [q] at e; cases e
  n := fun a e => by
    rcases y.n a e with q | q | q
    · exact x.n a q
    · rcases x.f a q with r | r
      · exact .inr (.inl r)
      · exact .inr (.inr (.none r))
    · by_cases nf : foot Fs a
      · exact .inr (.inl nf)
      · refine .inr (.inr ?_)
        cases z : H a with
        | none => trivial
        | some o => rw [x.h a o z nf] at q; exact q
  f := fun a e => by
    rcases y.f a e with q | q
    · exact x.f a q
    · refine .inr ?_
      cases z : H a with
      | none => rfl
      | some o => exact absurd q (x.d a (by rw [z]; simp))
  d := fun a e => y.d a (x.d a e)

section
variable {L : Lents} {G H G' H' : Hp} {η : Env} {σ : Sig} {Fs Fs' : Feet}
/-- a value that is held apart: owned by nobody else -/
structure Apart (G H : Hp) (Fs : Feet) (k : Nat) (v : V) (d : D) (F : List Addr) : Prop where
  own : Own G H k v d F
  nod : F.Nodup
  dis : ∀ a ∈ F, G a = none
  sep : ∀ a ∈ F, ¬ foot Fs a
theorem Apart.zero {v : V} {d : D} (r : Rep G v d) : Apart G H Fs 0 v d [] := ⟨⟨r, rfl⟩, List.nodup_nil, fun _ h => by simp at h, fun _ h => by simp at h⟩
theorem Apart.there {k : Nat} {v : V} {d : D} {F : List Addr} (x : Apart G H Fs k v d F) : ∀ a ∈ F, H a ≠ none := fun a ha e => by
  obtain ⟨u, h, _⟩ := x.own.mem k a ha
  rw [e] at h; cases h
/-- it stays through a step of the rest -/
theorem Apart.ext {k : Nat} {v : V} {d : D} {F : List Addr} (x : Apart G H Fs k v d F) (e : Ext G H Fs G' H' Fs') : Apart G' H' Fs' k v d F := by
  refine ⟨x.own.mono e.g.sub k fun a ha => ?_, x.nod, fun a ha => ?_, fun a ha z => ?_⟩
  · obtain ⟨u, h, _⟩ := x.own.mem k a ha
    rw [h, e.h a u h (x.sep a ha)]
  · cases q : G' a with
    | none => rfl
    | some o =>
      rcases e.n a (by rw [q]; simp) with z | z | z
      · exact absurd (x.dis a ha) z
      · exact absurd z (x.sep a ha)
      · obtain ⟨u, h, m⟩ := x.own.mem k a ha; exact (z.mut h m).elim
  · rcases e.f a z with q | q
    · exact x.sep a ha q
    · exact x.there a ha q

/-- what stood in H frozen on top of G -/
def frz (G H : Hp) (F : List Addr) : Hp := fun b => if b ∈ F then H b else G b
theorem frz_in {F : List Addr} {b : Addr} (h : b ∈ F) : frz G H F b = H b := if_pos h
theorem frz_out {F : List Addr} {b : Addr} (h : b ∉ F) : frz G H F b = G b := if_neg h
theorem frz_le {F : List Addr} (dis : ∀ a ∈ F, G a = none) : Le G (frz G H F) := fun a o e => by
  rw [frz_out fun h => by rw [dis a h] at e; cases e]; exact e
theorem frz_sub {F : List Addr} (s : Sub G H) : Sub (frz G H F) H where
  rd := fun a u r => by
    by_cases h : a ∈ F
    · rcases r with e | ⟨o, e⟩
      · rw [frz_in h] at e; exact .inl e
      · rw [frz_in h] at e; exact .inr ⟨o, e⟩
    · rcases r with e | ⟨o, e⟩
      · rw [frz_out h] at e; exact s.rd a u (.inl e)
      · rw [frz_out h] at e; exact s.rd a u (.inr ⟨o, e⟩)
  tp := fun a xs e => by
    by_cases h : a ∈ F
    · rw [frz_in h] at e; exact e
    · rw [frz_out h] at e; exact s.tp a xs e
  fz := fun a o u e => by
    by_cases h : a ∈ F
    · rw [frz_in h] at e; exact e
    · rw [frz_out h] at e; exact s.fz a o u e
/-- G grown beside all feet -/
theorem Rel.grow {G2 : Hp} (R : Rel L G η σ H Fs) (g : Le G G2) (s : Sub G2 H) (d : ∀ i a, a ∈ Fs i → G2 a = none) : Rel L G2 η σ H Fs where
  sub := s
  len := R.len
  wid := R.wid
  slot := fun i k l x e => let ⟨v, h1, h2, h3⟩ := R.slot i k l x e; ⟨v, h1, h2.mono g.sub k fun _ _ => rfl, h3⟩
  emp := R.emp
  nod := R.nod
  dis := d
  sep := R.sep
  lnt := R.lnt
/-- a value apart is frozen -/
theorem Rel.freezeApart {k : Nat} {v : V} {d : D} {F : List Addr} (R : Rel L G η σ H Fs) (x : Apart G H Fs k v d F) : Rel L (frz G H F) η σ H Fs ∧ Rep (frz G H F) v d := by
  refine ⟨R.grow (frz_le x.dis) (frz_sub R.sub) fun i a h => ?_, ?_⟩
  · rw [frz_out fun z => x.sep a z ⟨i, h⟩]; exact R.dis i a h
  · exact x.own.rep (frz_le x.dis).sub k fun a ha => frz_in ha
/-- what is owned stands there -/
theorem Rel.mem (R : Rel L G η σ H Fs) {i : Nat} {a : Addr} (ha : a ∈ Fs i) : ∃ u, H a = some u ∧ Mut (some u) := by
  cases e : η[i]? with
  | none => rw [R.emp i fun k l d y => by rw [e] at y; cases y] at ha; simp at ha
  | some sl =>
    cases sl with
    | no => rw [R.emp i fun k l d y => by rw [e] at y; cases y] at ha; simp at ha
    | val k l d =>
      obtain ⟨v, _, h2, _⟩ := R.slot i k l d e
      exact h2.mem k a ha
/-- every value of the environment is read in the heap -/
theorem Rel.rep (R : Rel L G η σ H Fs) {i k : Nat} {l : Bool} {d : D} (e : η[i]? = some (.val k l d)) : ∃ v, σ[i]? = some (some v) ∧ Rep H v d :=
  let ⟨v, h1, h2, _⟩ := R.slot i k l d e
  ⟨v, h1, h2.rep R.sub k fun _ _ => rfl⟩

/-- the feet with one slot's changed -/
def setF (Fs : Feet) (i : Nat) (F : List Addr) : Feet := fun j => if j = i then F else Fs j
theorem setF_same {i : Nat} {F : List Addr} : setF Fs i F i = F := if_pos rfl
theorem setF_ne {i j : Nat} {F : List Addr} (h : j ≠ i) : setF Fs i F j = Fs j := if_neg h
theorem foot_setF {i : Nat} {F : List Addr} {a : Addr} (h : foot (setF Fs i F) a) : a ∈ F ∨ ∃ j, j ≠ i ∧ a ∈ Fs j := by
  obtain ⟨j, h⟩ := h
  by_cases e : j = i
  · subst e; rw [setF_same] at h; exact .inl h
  · rw [setF_ne e] at h; exact .inr ⟨j, e, h⟩
theorem get_set_self {α : Type} {l : List α} {i : Nat} {x : α} (h : i < l.length) : (l.set i x)[i]? = some x := List.getElem?_set_self h
theorem get_set_ne {α : Type} {l : List α} {i j : Nat} {x : α} (h : j ≠ i) : (l.set i x)[j]? = l[j]? := List.getElem?_set_ne (Ne.symm h)
/-- slot i, not lent, is dropped: its value stands apart -/
theorem Rel.drop (R : Rel L G η σ H Fs) {i k : Nat} {d : D} (e : η[i]? = some (.val k false d)) :
    ∃ v, σ[i]? = some (some v) ∧ Rel L G (η.set i .no) σ H (setF Fs i []) ∧ Apart G H (setF Fs i []) k v d (Fs i) := by
  obtain ⟨v, h1, h2, _⟩ := R.slot i k false d e
  have hi : i < η.length := (List.getElem?_eq_some_iff.mp e).1
  refine ⟨v, h1, ⟨R.sub, by rw [List.length_set]; exact R.len, by rw [List.length_set]; exact R.wid, fun j k' l' d' q => ?_, fun j q => ?_, fun j => ?_, fun j a h => ?_, fun j j' a h h' => ?_, fun p hp => ?_⟩, h2, R.nod i, R.dis i, fun a ha z => ?_⟩
  · by_cases hj : j = i
    · subst hj; rw [get_set_self hi] at q; cases q
    · rw [get_set_ne hj] at q; rw [setF_ne hj]; exact R.slot j k' l' d' q
  · by_cases hj : j = i
    · subst hj; exact setF_same
    · rw [setF_ne hj]; exact R.emp j fun k l d z => q k l d (by rw [get_set_ne hj]; exact z)
  · by_cases hj : j = i
    · subst hj; rw [setF_same]; exact List.nodup_nil
    · rw [setF_ne hj]; exact R.nod j
  · by_cases hj : j = i
    · subst hj; rw [setF_same] at h; simp at h
    · rw [setF_ne hj] at h; exact R.dis j a h
  · by_cases hj : j = i
    · subst hj; rw [setF_same] at h; simp at h
    · by_cases hj' : j' = i
      · subst hj'; rw [setF_same] at h'; simp at h'
      · rw [setF_ne hj] at h; rw [setF_ne hj'] at h'; exact R.sep j j' a h h'
  · obtain ⟨k', d', z1, z2⟩ := R.lnt p hp
    have hj : p.1 ≠ i := fun z => by rw [z, e] at z1; cases z1
    exact ⟨k', d', by rw [get_set_ne hj]; exact z1, z2⟩
  · rcases foot_setF z with q | ⟨j, hj, q⟩
    · simp at q
    · exact hj (R.sep j i a q ha)
/-- a slot that is not lent forgets what it held -/
theorem Rel.forget (R : Rel L G η σ H Fs) {i : Nat} (e : ∀ k d, η[i]? ≠ some (.val k true d)) : Rel L G (η.set i .no) σ H (setF Fs i []) := by
  by_cases hi : i < η.length
  · cases q : η[i]? with
    | none => exact absurd (List.getElem?_eq_none_iff.mp q) (by omega)
    | some s =>
      cases s with
      | no =>
        have e1 : η.set i .no = η := by
          apply List.ext_getElem?
          intro j
          by_cases hj : j = i
          · subst hj; rw [get_set_self hi, q]
          · rw [get_set_ne hj]
        have e2 : setF Fs i [] = Fs := by
          funext j
          by_cases hj : j = i
          · subst hj; rw [setF_same]; exact (R.emp j fun k l d z => by rw [q] at z; cases z).symm
          · rw [setF_ne hj]
        rw [e1, e2]; exact R
      | val k l d =>
        cases l with
        | true => exact absurd q (e k d)
        | false => exact (R.drop q).choose_spec.2.1
  · have e1 : η.set i .no = η := List.set_eq_of_length_le (by omega)
    have e2 : setF Fs i [] = Fs := by
      funext j
      by_cases hj : j = i
      · subst hj; rw [setF_same]; exact (R.emp j fun k l d z => by have := (List.getElem?_eq_some_iff.mp z).1; omega).symm
      · rw [setF_ne hj]
    rw [e1, e2]; exact R
/-- a value apart is stored in a slot that holds nothing known -/
theorem Rel.put (R : Rel L G η σ H Fs) {i k : Nat} {v : V} {d : D} {F : List Addr} (x : Apart G H Fs k v d F) (hi : i < η.length) (e : η[i]? = some .no) : Rel L G (η.set i (.val k false d)) (σ.set i (some v)) H (setF Fs i F) := by
  have emi : Fs i = [] := R.emp i fun k l d z => by rw [e] at z; cases z
  refine ⟨R.sub, by rw [List.length_set, List.length_set]; exact R.len, by rw [List.length_set]; exact R.wid, fun j k' l' d' q => ?_, fun j q => ?_, fun j => ?_, fun j a h => ?_, fun j j' a h h' => ?_, fun p hp => ?_⟩
  · by_cases hj : j = i
    · subst hj; rw [get_set_self hi] at q; cases q
      exact ⟨v, get_set_self (by rw [← R.len]; exact hi), by rw [setF_same]; exact x.own, fun z => by cases z⟩
    · rw [get_set_ne hj] at q; rw [setF_ne hj, get_set_ne hj]; exact R.slot j k' l' d' q
  · by_cases hj : j = i
    · subst hj; exact absurd (get_set_self hi) (q k false d)
    · rw [setF_ne hj]; exact R.emp j fun k l d z => q k l d (by rw [get_set_ne hj]; exact z)
  · by_cases hj : j = i
    · subst hj; rw [setF_same]; exact x.nod
    · rw [setF_ne hj]; exact R.nod j
  · by_cases hj : j = i
    · subst hj; rw [setF_same] at h; exact x.dis a h
    · rw [setF_ne hj] at h; exact R.dis j a h
  · by_cases hj : j = i
    · subst hj; rw [setF_same] at h
      by_cases hj' : j' = j
      · exact hj'.symm
      · rw [setF_ne hj'] at h'; exact absurd ⟨j', h'⟩ (x.sep a h)
    · by_cases hj' : j' = i
      · subst hj'; rw [setF_same] at h'; rw [setF_ne hj] at h; exact absurd ⟨j, h⟩ (x.sep a h')
      · rw [setF_ne hj] at h; rw [setF_ne hj'] at h'; exact R.sep j j' a h h'
  · obtain ⟨k', d', z1, z2⟩ := R.lnt p hp
    have hj : p.1 ≠ i := fun z => by rw [z, e] at z1; cases z1
    exact ⟨k', d', by rw [get_set_ne hj]; exact z1, by rw [get_set_ne hj]; exact z2⟩
end
end DV

/-! DV2: readings that run a meaning (Env → Out ..), operands, the judgements. -/
namespace DV
open PySem PySem.Spec PyProof.Rows L2

abbrev SE := Env → Out D
abbrev SF := Env → Out (Nat × D)
abbrev ST := Env → Out Bool
inductive Flow where
  | nx | bk | ct | rt (k : Nat) (d : D)
abbrev SS := Env → Out Flow
abbrev SG := D → Env → Out Unit
abbrev SI := Env → Out (List D)

section
variable {K : PySem.W.Frag} {L : Lents} {W : WX} {σ : Sig} {α β : Type} {G H G' H' : Hp} {η η' : Env} {Fs Fs' : Feet}
/-- what an outcome of an expression is to reach -/
def Res (K : PySem.W.Frag) (L : Lents) (W : WX) (σ : Sig) (G H : Hp) (Fs : Feet) (P : α → Env → Hp → Hp → Feet → Prop) : Out α → Prop
  | .ok a η' => ∀ G' H' Fs', Rel L G' η' σ H' Fs' → Ext G H Fs G' H' Fs' → P a η' G' H' Fs'
  | .exc c η' => ∀ G' H' Fs', Rel L G' η' σ H' Fs' → Ext G H Fs G' H' Fs' → W (.ref (He.ga K c)) none σ H'
  | .bad => False
theorem Res.mono {P P' : α → Env → Hp → Hp → Feet → Prop} {o : Out α} (h : Res K L W σ G H Fs P o)
    (m : ∀ a η' G' H' Fs', Rel L G' η' σ H' Fs' → Ext G H Fs G' H' Fs' → P a η' G' H' Fs' → P' a η' G' H' Fs') : Res K L W σ G H Fs P' o := by
  cases o with
  | ok a η' => exact fun G' H' Fs' R E => m a η' G' H' Fs' R E (h G' H' Fs' R E)
  | exc c η' => exact h
  | bad => exact h
theorem Res.bind {P : β → Env → Hp → Hp → Feet → Prop} {o : Out α} {f : α → Env → Out β} (h : Res K L W σ G H Fs P (o.bind f)) :
    Res K L W σ G H Fs (fun a η1 G1 H1 Fs1 => Res K L W σ G1 H1 Fs1 P (f a η1)) o := by
  cases o with
  | ok a η1 =>
    intro G1 H1 Fs1 R1 E1
    have h : Res K L W σ G H Fs P (f a η1) := h
    show Res K L W σ G1 H1 Fs1 P (f a η1)
    cases q : f a η1 with
    | ok b η2 => rw [q] at h; exact fun G2 H2 Fs2 R2 E2 => h G2 H2 Fs2 R2 (E1.trans E2)
    | exc c η2 => rw [q] at h; exact fun G2 H2 Fs2 R2 E2 => h G2 H2 Fs2 R2 (E1.trans E2)
    | bad => rw [q] at h; exact h
  | exc c η' => exact h
  | bad => exact h
/-- from a later start -/
theorem Res.later {P : α → Env → Hp → Hp → Feet → Prop} {o : Out α} (h : Res K L W σ G H Fs P o) (E : Ext G H Fs G' H' Fs') : Res K L W σ G' H' Fs' P o := by
  cases o with
  | ok a η1 => exact fun G2 H2 Fs2 R2 E2 => h G2 H2 Fs2 R2 (E.trans E2)
  | exc c η1 => exact fun G2 H2 Fs2 R2 E2 => h G2 H2 Fs2 R2 (E.trans E2)
  | bad => exact h
def lift (o : Option α) (η : Env) : Out α := match o with
  | some a => .ok a η
  | none => .bad
@[simp] theorem lift_some (a : α) (η : Env) : lift (some a) η = .ok a η := rfl
@[simp] theorem lift_none (η : Env) : lift (none : Option α) η = .bad := rfl
theorem Res.lift {P : α → Env → Hp → Hp → Feet → Prop} {o : Option α} (h : Res K L W σ G H Fs P (lift o η)) : ∃ a, o = some a ∧ ∀ G' H' Fs', Rel L G' η σ H' Fs' → Ext G H Fs G' H' Fs' → P a η G' H' Fs' := by
  cases o with
  | none => exact h.elim
  | some a => exact ⟨a, rfl, h⟩

/-- only new frozen objects came -/
structure New (G H G' H' : Hp) : Prop where
  g : Le G G'
  h : Le H H'
  s : Sub G' H'
  n : ∀ a, G' a ≠ none → G a ≠ none ∨ Lrn (H a)
theorem Rel.new (R : Rel L G η σ H Fs) (N : New G H G' H') : Rel L G' η σ H' Fs where
  sub := N.s
  len := R.len
  wid := R.wid
  slot := fun i k l x e => by
    obtain ⟨v, h1, h2, h3⟩ := R.slot i k l x e
    refine ⟨v, h1, h2.mono N.g.sub k fun a ha => ?_, h3⟩
    obtain ⟨u, q, _⟩ := h2.mem k a ha
    rw [q, N.h a u q]
  emp := R.emp
  nod := R.nod
  dis := fun i a ha => by
    cases q : G' a with
    | none => rfl
    | some o =>
      rcases N.n a (by rw [q]; simp) with z | z
      · exact absurd (R.dis i a ha) z
      · cases e : η[i]? with
        | none => rw [R.emp i fun k l d y => by rw [e] at y; cases y] at ha; simp at ha
        | some sl =>
          cases sl with
          | no => rw [R.emp i fun k l d y => by rw [e] at y; cases y] at ha; simp at ha
          | val k l d =>
            obtain ⟨v, _, h2, _⟩ := R.slot i k l d e
            obtain ⟨u, y, m⟩ := h2.mem k a ha
            exact (z.mut y m).elim
  sep := R.sep
  lnt := R.lnt
theorem New.ext (N : New G H G' H') : Ext G H Fs G' H' Fs where
  g := N.g
  h := fun a o e _ => N.h a o e
  n := fun a e => (N.n a e).elim .inl fun z => .inr (.inr z)
  f := fun a h => .inl h
  d := fun a e => by
    cases q : H a with
    | none => exact absurd q e
    | some o => rw [N.h a o q]; simp
theorem New.refl (s : Sub G H) : New G H G H := ⟨Le.refl G, Le.refl H, s, fun _ h => .inl h⟩
theorem upd_le {a : Addr} {o : HO} (h : H a = none) : Le H (upd H a o) := fun b u e => by
  rw [upd_ne fun z => by rw [z, h] at e; cases e]; exact e
/-- what is known is not at an address where nothing stands -/
theorem Sub.free {a : Addr} (s : Sub G H) (h : H a = none) : G a = none := by
  cases q : G a with
  | none => rfl
  | some u =>
    rcases s.rd a u (.inl q) with z | ⟨o, z⟩
    · rw [h] at z; cases z
    · rw [h] at z; cases z
theorem sub_upd {a : Addr} {o : HO} (s : Sub G H) (h : H a = none) : Sub (upd G a o) (upd H a o) where
  rd := fun b u r => by
    by_cases e : b = a
    · subst e
      rcases r with z | ⟨x, z⟩
      · rw [upd_same] at z; exact .inl (by rw [upd_same]; exact z)
      · rw [upd_same] at z; exact .inr ⟨x, by rw [upd_same]; exact z⟩
    · have r' : Rd G b u := by
        rcases r with z | ⟨x, z⟩
        · rw [upd_ne e] at z; exact .inl z
        · rw [upd_ne e] at z; exact .inr ⟨x, z⟩
      rcases s.rd b u r' with z | ⟨x, z⟩
      · exact .inl (by rw [upd_ne e]; exact z)
      · exact .inr ⟨x, by rw [upd_ne e]; exact z⟩
  tp := fun b xs r => by
    by_cases e : b = a
    · subst e; rw [upd_same] at r; rw [upd_same]; exact r
    · rw [upd_ne e] at r; rw [upd_ne e]; exact s.tp b xs r
  fz := fun b x u r => by
    by_cases e : b = a
    · subst e; rw [upd_same] at r; rw [upd_same]; exact r
    · rw [upd_ne e] at r; rw [upd_ne e]; exact s.fz b x u r
/-- a new frozen object -/
theorem New.frozen {a : Addr} {o : HO} (s : Sub G H) (h : H a = none) : New G H (upd G a o) (upd H a o) where
  g := upd_le (s.free h)
  h := upd_le h
  s := sub_upd s h
  n := fun b e => by
    by_cases z : b = a
    · subst z; exact .inr (.none h)
    · rw [upd_ne z] at e; exact .inl e

/-! ### readings -/
def tE (K : PySem.W.Frag) (L : Lents) (W : WX) (f : SE) : TE := fun σ H Q => ∃ G η Fs, Rel L G η σ H Fs ∧ Res K L W σ G H Fs (fun d _ G' H' _ => ∀ v, Rep G' v d → Q v H') (f η)
def tF (K : PySem.W.Frag) (L : Lents) (W : WX) (f : SF) : TE := fun σ H Q => ∃ G η Fs, Rel L G η σ H Fs ∧
  Res K L W σ G H Fs (fun p _ G' H' Fs' => ∀ v F, Apart G' H' Fs' p.1 v p.2 F → (∀ a ∈ F, foot Fs a ∨ H a = none) → Q v H') (f η)
def tT (K : PySem.W.Frag) (L : Lents) (W : WX) (f : ST) : TT := fun σ H Q => ∃ G η Fs, Rel L G η σ H Fs ∧ Res K L W σ G H Fs (fun b _ _ H' _ => Q b H') (f η)

/-! ### operands: a meaning whose value is frozen; or a name, whose slot is read when all operands are there -/
inductive Opd where
  | ex (f : SE)
  | nm (i : Nat)
def Opd.pre : Opd → Env → Out (Option D)
  | .ex f, η => (f η).bind fun d η' => .ok (some d) η'
  | .nm i, η => match η[i]? with
    | some (.val _ _ _) => .ok none η
    | _ => .bad
def slot1 : Option Slot → Option D
  | some (.val 0 _ d) => some d
  | some (.val 1 _ d) => some d
  | _ => none
def slotA : Option Slot → Option D
  | some (.val _ _ d) => some d
  | _ => none
def Opd.fin : Opd → Option D → Env → Option D
  | .ex _, p, _ => p
  | .nm i, _, η => slot1 η[i]?
/-- any depth: for what gives back numbers and truths alone -/
def Opd.deep : Opd → Option D → Env → Option D
  | .ex _, p, _ => p
  | .nm i, _, η => slotA η[i]?
def tO (K : PySem.W.Frag) (L : Lents) (W : WX) : Opd → TE
  | .ex f => tE K L W f
  | .nm i => tVar i
/-- what is known of an operand's value while the others are evaluated -/
def Kn (σ : Sig) (G : Hp) (v : V) : Opd → Option D → Prop
  | .ex _, p => ∃ d, p = some d ∧ Rep G v d
  | .nm i, p => p = none ∧ σ[i]? = some (some v)
theorem Kn.mono {v : V} {o : Opd} {p : Option D} (h : Kn σ G v o p) (s : Sub G G') : Kn σ G' v o p := by
  cases o with
  | ex f => obtain ⟨d, e, r⟩ := h; exact ⟨d, e, r.mono s⟩
  | nm i => exact h
/-- one level read in the heap, what is below frozen -/
def Bor (G H : Hp) (v : V) (d : D) : Prop := Rep G v d ∨ ∃ F, Own G H 1 v d F
theorem Kn.bor {v : V} {o : Opd} {p : Option D} {d : D} (h : Kn σ G v o p) (R : Rel L G η σ H Fs) (e : o.fin p η = some d) : Bor G H v d := by
  cases o with
  | ex f => obtain ⟨d', e', r⟩ := h; subst e'; cases e; exact .inl r
  | nm i =>
    obtain ⟨_, hv⟩ := h
    have e : slot1 η[i]? = some d := e
    cases q : η[i]? with
    | none => rw [q] at e; cases e
    | some sl =>
      rw [q] at e
      cases sl with
      | no => cases e
      | val k l d' =>
        obtain ⟨v', h1, h2, _⟩ := R.slot i k l d' q
        rw [hv] at h1; cases h1
        match k, e with
        | 0, e => cases e; exact .inl h2.1
        | 1, e => cases e; exact .inr ⟨_, h2⟩
theorem Kn.rep {v : V} {o : Opd} {p : Option D} {d : D} (h : Kn σ G v o p) (R : Rel L G η σ H Fs) (e : o.deep p η = some d) : Rep H v d := by
  cases o with
  | ex f => obtain ⟨d', e', r⟩ := h; subst e'; cases e; exact r.mono R.sub
  | nm i =>
    obtain ⟨_, hv⟩ := h
    have e : slotA η[i]? = some d := e
    cases q : η[i]? with
    | none => rw [q] at e; cases e
    | some sl =>
      rw [q] at e
      cases sl with
      | no => cases e
      | val k l d' =>
        cases e
        obtain ⟨v', h1, r⟩ := R.rep q
        rw [hv] at h1; cases h1
        exact r
theorem Bor.rep {v : V} {d : D} (s : Sub G H) (h : Bor G H v d) : Rep H v d := h.elim (fun r => r.mono s) fun ⟨_, o⟩ => o.rep s 1 fun _ _ => rfl
theorem Bor.lst {v : V} {ds : List D} (s : Sub G H) (h : Bor G H v (.lst ds)) : ∃ a vs, v = .ref a ∧ Rd H a (.lst vs) ∧ RepL G vs ds := by
  rcases h with r | ⟨F, a, vs, Fs, e1, e2, e3, e4⟩
  · cases r with
    | lst h1 h2 => exact ⟨_, _, rfl, s.rd _ _ h1, h2⟩
  · exact ⟨a, vs, e1, .inl e2, (e4.to0).1⟩
theorem Bor.tup {v : V} {ds : List D} (s : Sub G H) (h : Bor G H v (.tup ds)) : ∃ a vs, v = .ref a ∧ G a = some (.tup vs) ∧ RepL G vs ds := by
  rcases h with r | ⟨F, a, vs, e1, e2, e4⟩
  · cases r with
    | tup h1 h2 => exact ⟨_, _, rfl, h1, h2⟩
  · exact ⟨a, vs, e1, e2, (e4.to0).1⟩
theorem Bor.dK {v : V} {kvs : List (Key × D)} (s : Sub G H) (h : Bor G H v (.dK kvs)) : ∃ a vs, v = .ref a ∧ Rd H a (.dK vs) ∧ vs.map (·.1) = kvs.map (·.1) ∧ RepL G (vs.map (·.2)) (kvs.map (·.2)) := by
  rcases h with r | ⟨F, a, vs, Fs, e1, e2, e3, e5, e4⟩
  · cases r with
    | dK h1 h2 h3 => exact ⟨_, _, rfl, s.rd _ _ h1, h2, h3⟩
  · exact ⟨a, vs, e1, .inl e2, e5, (e4.to0).1⟩
theorem Bor.dT {v : V} {kvs : List (List Key × D)} (s : Sub G H) (h : Bor G H v (.dT kvs)) : ∃ a vs, v = .ref a ∧ Rd H a (.dT vs) ∧ vs.map (·.1) = kvs.map (·.1) ∧ RepL G (vs.map (·.2)) (kvs.map (·.2)) := by
  rcases h with r | ⟨F, a, vs, Fs, e1, e2, e3, e5, e4⟩
  · cases r with
    | dT h1 h2 h3 => exact ⟨_, _, rfl, s.rd _ _ h1, h2, h3⟩
  · exact ⟨a, vs, e1, .inl e2, e5, (e4.to0).1⟩
/-- an operand is evaluated: what comes behind knows its value -/
theorem tO_use {P : β → Env → Hp → Hp → Feet → Prop} {o : Opd} {f : Option D → Env → Out β} {Q : V → Hp → Prop} (R : Rel L G η σ H Fs) (h : Res K L W σ G H Fs P ((o.pre η).bind f))
    (k : ∀ v p η1 G1 H1 Fs1, Rel L G1 η1 σ H1 Fs1 → Ext G H Fs G1 H1 Fs1 → Kn σ G1 v o p → Res K L W σ G1 H1 Fs1 P (f p η1) → Q v H1) : tO K L W o σ H Q := by
  cases o with
  | ex e =>
    have h1 := h.bind
    refine ⟨G, η, Fs, R, h1.bind.mono fun d η1 G1 H1 Fs1 R1 E1 q v r => ?_⟩
    exact k v (some d) η1 G1 H1 Fs1 R1 E1 ⟨d, rfl, r⟩ (q G1 H1 Fs1 R1 Ext.refl)
  | nm i =>
    unfold Opd.pre at h
    cases q : η[i]? with
    | none => simp only [q] at h; exact h.elim
    | some sl =>
      cases sl with
      | no => simp only [q] at h; exact h.elim
      | val kk l d =>
        simp only [q] at h
        obtain ⟨v, h1, _⟩ := R.slot i kk l d q
        exact ⟨v, h1, k v none η G H Fs R Ext.refl ⟨rfl, h1⟩ h⟩
end
end DV

/-! DV3: operators. -/
namespace DV
open PySem PySem.Spec PyProof.Rows L2

section
variable {G H G' H' : Hp} {v : V} {L : Lents} {η : Env} {σ : Sig} {Fs : Feet}
theorem Bor.int {i : Int} (h : Bor G H v (.int i)) : v = .int i := by
  rcases h with r | ⟨F, o⟩
  · cases r; rfl
  · have r : Rep G v (.int i) := o.1
    cases r; rfl
theorem Bor.bl {b : Bool} (h : Bor G H v (.bl b)) : v = .bl b := by
  rcases h with r | ⟨F, o⟩
  · cases r; rfl
  · have r : Rep G v (.bl b) := o.1
    cases r; rfl
theorem Bor.str {x : Str} (h : Bor G H v (.str x)) : v = .str x := by
  rcases h with r | ⟨F, o⟩
  · cases r; rfl
  · have r : Rep G v (.str x) := o.1
    cases r; rfl
theorem Bor.non (h : Bor G H v .non) : v = .non := by
  rcases h with r | ⟨F, o⟩
  · cases r; rfl
  · have r : Rep G v .non := o.1
    cases r; rfl
/-- a new owned object -/
theorem New.own {a : Addr} {o : HO} (s : Sub G H) (h : H a = none) : New G H G (upd H a o) := ⟨Le.refl G, upd_le h, s.trans (upd_le h).sub, fun _ e => .inl e⟩
theorem Rel.noFoot (R : Rel L G η σ H Fs) {a : Addr} (h : H a = none) : ¬ foot Fs a := fun ⟨i, ha⟩ => by
  cases e : η[i]? with
  | none => rw [R.emp i fun k l d y => by rw [e] at y; cases y] at ha; simp at ha
  | some sl =>
    cases sl with
    | no => rw [R.emp i fun k l d y => by rw [e] at y; cases y] at ha; simp at ha
    | val k l d =>
      obtain ⟨v, _, h2, _⟩ := R.slot i k l d e
      obtain ⟨u, y, _⟩ := h2.mem k a ha
      rw [h] at y; cases y
end

/-- what an operation's rule asks is given by its meaning: an end that is a new object of its own, or frozen -/
abbrev Fin2 (G H : Hp) (k : Nat) (d : D) (Q : V → Hp → Prop) : Prop := ∀ u G' H' F, New G H G' H' → Own G' H' k u d F → F.Nodup → (∀ a ∈ F, G' a = none ∧ H a = none) → Q u H'
def Op2 (r : R2) (g : D → D → Option (Nat × D)) : Prop :=
  ∀ (G H : Hp) (v w : V) (dx dy : D) (k : Nat) (d : D) (Q : VK), Sub G H → Bor G H v dx → Bor G H w dy → g dx dy = some (k, d) → Fin2 G H k d Q → r v w H Q
def Op1 (r : V → Hp → VK → Prop) (g : D → Option (Nat × D)) : Prop :=
  ∀ (G H : Hp) (v : V) (dx : D) (k : Nat) (d : D) (Q : VK), Sub G H → Bor G H v dx → g dx = some (k, d) → Fin2 G H k d Q → r v H Q
section
variable {G H : Hp} {Q : V → Hp → Prop} {d : D}
theorem Fin2.same {v : V} (s : Sub G H) (h : Fin2 G H 0 d Q) (r : Rep G v d) : Q v H := h v G H [] (New.refl s) ⟨r, rfl⟩ List.nodup_nil fun _ z => by simp at z
/-- a new frozen object -/
theorem Fin2.froz {a : Addr} {o : HO} (s : Sub G H) (h : Fin2 G H 0 d Q) (ha : H a = none) (r : Rep (upd G a o) (.ref a) d) : Q (.ref a) (upd H a o) :=
  h _ _ _ [] (New.frozen s ha) ⟨r, rfl⟩ List.nodup_nil fun _ z => by simp at z
theorem Fin2.tupN {a : Addr} {xs : List V} {ds : List D} (s : Sub G H) (h : Fin2 G H 0 (.tup ds) Q) (ha : H a = none) (r : RepL G xs ds) : Q (.ref a) (upd H a (.tup xs)) :=
  h.froz s ha (.tup upd_same (r.mono (upd_le (s.free ha)).sub))
/-- a new list of its own -/
theorem Fin2.lstN {a : Addr} {xs : List V} {ds : List D} (s : Sub G H) (h : Fin2 G H 1 (.lst ds) Q) (ha : H a = none) (r : RepL G xs ds) : Q (.ref a) (upd H a (.lst xs)) :=
  h _ _ _ [a] (New.own s ha) ⟨a, xs, [], rfl, upd_same, rfl, OwnL.of0 r⟩ (by simp) fun b hb => by
    have e : b = a := by simpa using hb
    subst e; exact ⟨s.free ha, ha⟩
end

/-! ### the meanings -/
def addD : D → D → Option (Nat × D)
  | .int i, .int j => some (0, .int (i + j))
  | .tup xs, .tup ys => if xs.length + ys.length ≤ sizeLine then some (0, .tup (xs ++ ys)) else none
  | .lst xs, .lst ys => if xs.length + ys.length ≤ sizeLine then some (1, .lst (xs ++ ys)) else none
  | _, _ => none
def subD : D → D → Option (Nat × D)
  | .int i, .int j => some (0, .int (i - j))
  | _, _ => none
def mulD : D → D → Option (Nat × D)
  | .int i, .int j => if i.natAbs < 2 ^ 64 ∨ j.natAbs < 2 ^ 64 ∨ i.natAbs.log2 + j.natAbs.log2 < 1000000 then some (0, .int (i * j)) else none
  | .lst xs, .int k => if k ≤ 1000000 ∧ -1000000 ≤ k ∧ xs.length * k.toNat ≤ 1000000 then some (1, .lst (List.replicate k.toNat xs).flatten) else none
  | .tup xs, .int k => if 2 ≤ k ∧ k ≤ 1000 ∧ 1 ≤ xs.length ∧ xs.length ≤ 1000 then some (0, .tup (List.replicate k.toNat xs).flatten) else none
  | _, _ => none
def fdivD : D → D → Option (Nat × D)
  | .int i, .int j => if 0 < j then (if j.natAbs.log2 < 9000 then some (0, .int (i / j)) else none) else if j < 0 ∧ j.natAbs.log2 < 9000 then some (0, .int (i.fdiv j)) else none
  | _, _ => none
def modD : D → D → Option (Nat × D)
  | .int i, .int j => if 0 < j then some (0, .int (i % j)) else if j < 0 then some (0, .int (i.fmod j)) else none
  | _, _ => none
def powD : D → D → Option (Nat × D)
  | .int i, .int j => if 0 ≤ j ∧ j ≤ 1000000 ∧ i.natAbs < 2 ^ 64 then some (0, .int (i ^ j.toNat)) else none
  | _, _ => none
def negD : D → Option (Nat × D)
  | .int i => some (0, .int (-i))
  | _ => none

/-! ### the rules, the left list read whether it is locked or not -/
section
variable {X : Cx}
theorem rdLst {pins : List (Addr × Obj)} {σ : Sig} {H : Hp} {s : Shared} {l : Addr} {xs : List V} (I : Inv X pins σ H s) (hH : Rd H l (.lst xs)) :
    xs.length ≤ sizeLine ∧ ∃ (its : List Value) (n : Nat), Vals xs its ∧ xs.length = its.length ∧ s.heap.get? l = some { cls := .type "list", data := .seq its.toArray n } := by
  obtain ⟨z, its, n, r, e⟩ := hH.ok I.hok
  exact ⟨z, its, n, r, r.length, e⟩
def rCat2 : R2 := fun x y H Q => ∃ l b xs zs, x = .ref l ∧ y = .ref b ∧ Rd H l (.lst xs) ∧ Rd H b (.lst zs) ∧ xs.length + zs.length ≤ sizeLine ∧ ∀ p, H p = none → Q (.ref p) (upd H p (.lst (xs ++ zs)))
theorem op_cat2 : OpR X (binaryOp .Add) rCat2 := by
  intro pins s σ H x y v u Q I rx ry h
  obtain ⟨l, b, xs, zs, rfl, rfl, hH, hB, hz, q⟩ := h
  cases rx
  cases ry
  obtain ⟨z, its, n, r, hl, e⟩ := rdLst I hH
  obtain ⟨z2, its2, n2, r2, hl2, e2⟩ := rdLst I hB
  refine PySem.P.add_list e e2 ?_ (by rw [List.size_toArray, List.size_toArray]; omega)
  have ea : its.toArray ++ its2.toArray = (its ++ its2).toArray := by simp
  rw [ea]
  exact ⟨.ref _, _, I.lnew (t' := s.toks) (r.append r2) (by rw [List.length_append]; omega), rfl, q _ I.fresh⟩
def rRep2 : R2 := fun x y H Q => ∃ l k xs, x = .ref l ∧ y = .int k ∧ Rd H l (.lst xs) ∧ -(2 ^ 63) ≤ k ∧ k < 2 ^ 63 ∧ xs.length * k.toNat ≤ sizeLine ∧
  ∀ p, H p = none → Q (.ref p) (upd H p (.lst (List.replicate k.toNat xs).flatten))
theorem op_rep2 : OpR X (binaryOp .Mult) rRep2 := by
  intro pins s σ H x y v u Q I rx ry h
  obtain ⟨l, k, xs, rfl, rfl, hH, h1, h2, hz, q⟩ := h
  rcases hH with hH | ⟨o, hH⟩
  · exact op_rep pins s σ H _ _ v u Q I rx ry ⟨l, k, xs, rfl, rfl, hH, h1, h2, hz, q⟩
  · cases rx
    obtain ⟨t, rfl⟩ := ry
    obtain ⟨z, its, n, r, hl, e⟩ := rdLst I (.inr ⟨o, hH⟩)
    have hlen : its.toArray.size * k.toNat ≤ sizeLine := by rw [List.size_toArray, ← hl]; exact hz
    have hcap : ¬ its.toArray.size * k.toNat > (2 ^ 63 - 1) / 8 := by
      have : (sizeLine : Nat) ≤ (2 ^ 63 - 1) / 8 := by decide
      omega
    have hfit : ¬ (!Builtin.List.listFitsIndex k) = true := by
      rw [fitsIndex_both h1 h2]; exact Bool.false_ne_true
    have hlong : ¬ Builtin.List.listTooLong (its.toArray.size * k.toNat) = true := by
      rw [notLongL hlen]; exact Bool.false_ne_true
    have f0 : ∀ m : Nat, List.foldl (fun x1 x2 => x1 ++ x2) #[] (List.replicate m its.toArray) = (List.replicate m its).flatten.toArray := fun m => by
      have := foldl_rep its m []
      rw [List.nil_append] at this; exact this
    have hnew : List.foldl (fun x1 x2 => x1 ++ x2) #[] (List.replicate (if its.toArray.isEmpty = true then 0 else k.toNat) its.toArray) = (List.replicate k.toNat its).flatten.toArray := by
      rw [f0]
      cases its with
      | nil => simp
      | cons a r' => rw [if_neg (by simp)]
    refine wpAny_binaryOp_repeat_ref (T := "list") (U := "int") (by decide) ⟨_, e, rfl⟩ (fun s' => typeIs_int s' k t) noFill_list_mul F.fills_int_mul F.slot_int_rmul repeat_list F.slot_int_index.lookup
      (call_meets F.slot_int_rmul (typeIs_int s k t) F.entry_int_rmul (F.args_int_rmul_2 _ _) (int___rmul___int_list k t l its.toArray n)
        ⟨e, rfl, ⟨_, e, rfl⟩, call_meets F.slot_list_mul ⟨_, e, rfl⟩ F.entry_list_mul (F.args_list_mul_2 _ _) (AutoListH.list___mul___list_int_3 l its.toArray n k t hfit hcap hlong) ⟨e, ?_⟩⟩)
    rw [hnew]
    exact ⟨.ref _, _, I.lnew (t' := s.toks) (r.rep k.toNat) (by rw [PyProof.Rows.lm_len_rep_flat, Nat.mul_comm]; exact hz), rfl, q _ I.fresh⟩
theorem op_fdivA : OpR X (binaryOp .FloorDiv) (rI (fun _ j => j ≠ 0 ∧ j.natAbs.log2 < 9000) fun i j => .int (i.fdiv j)) := opI fun _ _ _ _ _ _ _ hc q => floordiv_int hc.1 q (.inl (PyProof.noPylong_of_log2 hc.2))

theorem RepL.rep {G : Hp} {vs : List V} {ds : List D} (h : RepL G vs ds) : ∀ k : Nat, RepL G (List.replicate k vs).flatten (List.replicate k ds).flatten
  | 0 => .nil
  | k + 1 => by rw [List.replicate_succ, List.replicate_succ, List.flatten_cons, List.flatten_cons]; exact h.append (RepL.rep h k)
def rAddA (K : PySem.W.Frag) : R2 := fun x y H Q => rI0 (fun i j => .int (i + j)) x y H Q ∨ (rCatA K x y H Q ∨ rCat2 x y H Q)
theorem op_addA : OpR X (binaryOp .Add) (rAddA X.K) := op_add.or (op_catA.or op_cat2)
theorem two_int {g : D → D → Option (Nat × D)} {P : Prop} {dx dy : D} {k : Nat} {d : D} (h : g dx dy = some (k, d)) (no : ∀ a b, (∀ i j, ¬ (a = .int i ∧ b = .int j)) → g a b = none)
    (c : ∀ i j, dx = .int i → dy = .int j → P) : P := by
  by_cases z : ∃ i j, dx = .int i ∧ dy = .int j
  · obtain ⟨i, j, e1, e2⟩ := z; exact c i j e1 e2
  · rw [no dx dy fun i j q => z ⟨i, j, q⟩] at h; cases h
theorem sz_op {K : PySem.W.Frag} : Op2 (rAddA K) addD := by
  intro G H v w dx dy k d Q s bx by' h fin
  cases dx <;> cases dy <;> simp only [addD] at h <;> try cases h
  · exact .inl ⟨_, _, bx.int, by'.int, fin.same s (.int _)⟩
  · split at h <;> cases h
    rename_i hz
    obtain ⟨a, xs, rfl, h1, r1⟩ := bx.tup s
    obtain ⟨b, ys, rfl, h2, r2⟩ := by'.tup s
    refine .inr (.inl ⟨a, b, xs, ys, rfl, rfl, .of (s.tp _ _ h1), .of (s.tp _ _ h2), by rw [r1.length, r2.length]; exact hz, fun e => ?_, fun e e2 => ?_, fun _ _ p hp => fin.tupN s hp (r1.append r2)⟩)
    · subst e; cases r1; exact fin.same s (.tup h2 r2)
    · subst e2; cases r2; rw [List.append_nil] at fin; exact fin.same s (.tup h1 r1)
  · split at h <;> cases h
    rename_i hz
    obtain ⟨a, xs, rfl, h1, r1⟩ := bx.lst s
    obtain ⟨b, ys, rfl, h2, r2⟩ := by'.lst s
    exact .inr (.inr ⟨a, b, xs, ys, rfl, rfl, h1, h2, by rw [r1.length, r2.length]; exact hz, fun p hp => fin.lstN s hp (r1.append r2)⟩)
theorem sz_sub : Op2 (rI0 fun i j => .int (i - j)) subD := by
  intro G H v w dx dy k d Q s bx by' h fin
  cases dx <;> cases dy <;> simp only [subD] at h <;> try cases h
  exact ⟨_, _, bx.int, by'.int, fin.same s (.int _)⟩
def rMulA (K : PySem.W.Frag) : R2 := fun x y H Q => rI CMul (fun i j => .int (i * j)) x y H Q ∨ (rI CMulW (fun i j => .int (i * j)) x y H Q ∨ (rRep2 x y H Q ∨ rRepT K x y H Q))
theorem op_mulA : OpR X (binaryOp .Mult) (rMulA X.K) := op_mul.or (op_mulW.or (op_rep2.or op_repT))
theorem sz_mul {K : PySem.W.Frag} : Op2 (rMulA K) mulD := by
  intro G H v w dx dy k d Q s bx by' h fin
  cases dx <;> cases dy <;> simp only [mulD] at h <;> try cases h
  · split at h <;> cases h
    rename_i hz
    rcases hz with hz | hz | hz
    · exact .inl ⟨_, _, bx.int, by'.int, .inl (by omega), fin.same s (.int _)⟩
    · exact .inl ⟨_, _, bx.int, by'.int, .inr (by omega), fin.same s (.int _)⟩
    · exact .inr (.inl ⟨_, _, bx.int, by'.int, hz, fin.same s (.int _)⟩)
  · split at h <;> cases h
    rename_i hz
    obtain ⟨a, xs, rfl, h1, r1⟩ := bx.tup s
    refine .inr (.inr (.inr ⟨a, _, xs, rfl, by'.int, .of (s.tp _ _ h1), fun e => ?_, hz.1, hz.2.1, by rw [r1.length]; exact hz.2.2.2, fun p hp => fin.tupN s hp (r1.rep _)⟩))
    have := r1.length
    rw [e] at this
    have h2 := hz.2.2.1
    rw [← this] at h2
    exact absurd h2 (by simp)
  · split at h <;> cases h
    rename_i hz
    obtain ⟨a, xs, rfl, h1, r1⟩ := bx.lst s
    exact .inr (.inr (.inl ⟨a, _, xs, rfl, by'.int, h1, by omega, by omega, by rw [r1.length, sizeLine_eq]; omega, fun p hp => fin.lstN s hp (r1.rep _)⟩))
theorem sz_fdiv : Op2 (rI (fun _ j => j ≠ 0 ∧ j.natAbs.log2 < 9000) fun i j => .int (i.fdiv j)) fdivD := by
  intro G H v w dx dy k d Q s bx by' h fin
  cases dx <;> cases dy <;> simp only [fdivD] at h <;> try cases h
  rename_i i j
  refine ⟨i, j, bx.int, by'.int, ?_⟩
  split at h
  · rename_i hj
    split at h <;> cases h
    rename_i hz
    have e : i.fdiv j = i / j := Int.fdiv_eq_ediv_of_nonneg i (by omega)
    refine ⟨⟨by omega, hz⟩, ?_⟩
    show Q (V.int (i.fdiv j)) H
    rw [e]; exact fin.same s (.int _)
  · split at h <;> cases h
    rename_i hz
    exact ⟨⟨by omega, hz.2⟩, fin.same s (.int _)⟩
theorem sz_mod : Op2 (rI (fun _ j => j ≠ 0) fun i j => .int (i.fmod j)) modD := by
  intro G H v w dx dy k d Q s bx by' h fin
  cases dx <;> cases dy <;> simp only [modD] at h <;> try cases h
  rename_i i j
  refine ⟨i, j, bx.int, by'.int, ?_⟩
  split at h
  · rename_i hj
    cases h
    have e : i.fmod j = i % j := Int.fmod_eq_emod_of_nonneg i (by omega)
    refine ⟨(by omega : j ≠ 0), ?_⟩
    show Q (V.int (i.fmod j)) H
    rw [e]; exact fin.same s (.int _)
  · split at h <;> cases h
    exact ⟨(by omega : j ≠ 0), fin.same s (.int _)⟩
theorem sz_pow : Op2 (rI CPow fun i j => .int (i ^ j.toNat)) powD := by
  intro G H v w dx dy k d Q s bx by' h fin
  cases dx <;> cases dy <;> simp only [powD] at h <;> try cases h
  split at h <;> cases h
  rename_i hz
  exact ⟨_, _, bx.int, by'.int, hz, fin.same s (.int _)⟩
theorem sz_neg : Op1 (rU fun i => .int (-i)) negD := by
  intro G H v dx k d Q s bx h fin
  cases dx <;> simp only [negD] at h <;> try cases h
  exact ⟨_, bx.int, fin.same s (.int _)⟩
end
end DV

/-! DV4: expressions: names, constants, operators, tests, displays, calls of built-ins. -/
namespace DV
open PySem PySem.Spec PyProof.Rows L2

section
variable {X : Cx}
theorem PE.imp {e : Expr} {t t' : TE} (h : PE X e t) (i : ∀ σ H Q, t' σ H Q → t σ H Q) : PE X e t' := ⟨fun pins s σ H Q I q => h.run pins s σ H Q I (i σ H Q q)⟩
theorem PT.imp {e : Expr} {t t' : TT} (h : PT X e t) (i : ∀ σ H Q, t' σ H Q → t σ H Q) : PT X e t' := ⟨fun pins s σ H Q I q => h.run pins s σ H Q I (i σ H Q q)⟩
theorem PW.imp {e : Expr} {t t' : TT} (h : PW X e t) (i : ∀ σ H Q, t' σ H Q → t σ H Q) : PW X e t' := ⟨fun w pins s σ H Q I q => h.run w pins s σ H Q I (i σ H Q q)⟩
theorem PA.imp {es : List Expr} {t t' : TA} (h : PA X es t) (i : ∀ σ H Q, t' σ H Q → t σ H Q) : PA X es t' := ⟨fun p pins s σ H Q I q => h.run p pins s σ H Q I (i σ H Q q)⟩
end

/-! ### meanings -/
namespace S
/-- a frozen value as one that may be owned -/
def up (f : SE) : SF := fun η => (f η).bind fun d η' => .ok (0, d) η'
/-- a value's own objects are frozen -/
def fz (f : SF) : SE := fun η => (f η).bind fun p η' => .ok p.2 η'
def c (d : D) : SE := fun η => .ok d η
def ct (b : Bool) : ST := fun η => .ok b η
/-- a name: its value is frozen from now on -/
def var (i : Nat) : SE := fun η => match η[i]? with
  | some (.val 0 _ d) => .ok d η
  | some (.val (_ + 1) false d) => .ok d (η.set i (.val 0 false d))
  | _ => .bad
/-- a name's value, given away: the slot forgets it -/
def mov (i : Nat) : SF := fun η => match η[i]? with
  | some (.val k false d) => .ok (k, d) (η.set i .no)
  | _ => .bad
def bin (g : D → D → Option (Nat × D)) (a b : Opd) : SF := fun η => (a.pre η).bind fun p η1 => (b.pre η1).bind fun q η2 =>
  lift ((a.fin p η2).bind fun x => (b.fin q η2).bind fun y => g x y) η2
def un (g : D → Option (Nat × D)) (a : Opd) : SF := fun η => (a.pre η).bind fun p η1 => lift ((a.fin p η1).bind g) η1
/-- a comparison: operands of any depth -/
def cmp (g : D → D → Option Bool) (a b : Opd) : SE := fun η => (a.pre η).bind fun p η1 => (b.pre η1).bind fun q η2 =>
  lift ((a.deep p η2).bind fun x => (b.deep q η2).bind fun y => (g x y).map D.bl) η2
def truth : D → Option Bool
  | .bl b => some b
  | _ => none
/-- a value that is a truth, as a test -/
def tst (f : SE) : ST := fun η => (f η).bind fun d η' => lift (truth d) η'
def band (a b : SE) : SE := fun η => (a η).bind fun d η1 => match d with
  | .bl true => b η1
  | .bl false => .ok (.bl false) η1
  | _ => .bad
def bor (a b : SE) : SE := fun η => (a η).bind fun d η1 => match d with
  | .bl false => b η1
  | .bl true => .ok (.bl true) η1
  | _ => .bad
def bnot (a : SE) : SE := fun η => (a η).bind fun d η1 => match d with
  | .bl b => .ok (.bl (!b)) η1
  | _ => .bad
def tand (a b : ST) : ST := fun η => (a η).bind fun x η1 => if x = true then b η1 else .ok false η1
def tor (a b : ST) : ST := fun η => (a η).bind fun x η1 => if x = true then .ok true η1 else b η1
def tnot (a : ST) : ST := fun η => (a η).bind fun x η1 => .ok (!x) η1
def ite (t : ST) (a b : SF) : SF := fun η => (t η).bind fun x η1 => if x = true then a η1 else b η1
/-- a row of values -/
def nil : Env → Out (List D) := fun η => .ok [] η
def cons (f : SE) (r : Env → Out (List D)) : Env → Out (List D) := fun η => (f η).bind fun d η1 => (r η1).bind fun ds η2 => .ok (d :: ds) η2
def tup (r : Env → Out (List D)) : SE := fun η => (r η).bind fun ds η1 => lift (if ds.length ≤ sizeLine then some (.tup ds) else none) η1
def lst (r : Env → Out (List D)) : SF := fun η => (r η).bind fun ds η1 => lift (if ds.length ≤ sizeLine then some (1, .lst ds) else none) η1
/-- operands in a row -/
def preL : List Opd → Env → Out (List (Option D))
  | [], η => .ok [] η
  | o :: os, η => (o.pre η).bind fun p η1 => (preL os η1).bind fun ps η2 => .ok (p :: ps) η2
def finL : List Opd → List (Option D) → Env → Option (List D)
  | [], _, _ => some []
  | o :: os, p :: ps, η => (o.fin p η).bind fun d => (finL os ps η).bind fun ds => some (d :: ds)
  | _ :: _, [], _ => none
def deepL : List Opd → List (Option D) → Env → Option (List D)
  | [], _, _ => some []
  | o :: os, p :: ps, η => (o.deep p η).bind fun d => (deepL os ps η).bind fun ds => some (d :: ds)
  | _ :: _, [], _ => none
def fn (g : List D → Option (Nat × D)) (os : List Opd) : SF := fun η => (preL os η).bind fun ps η1 => lift ((finL os ps η1).bind g) η1
def fnd (g : List D → Option D) (os : List Opd) : SE := fun η => (preL os η).bind fun ps η1 => lift ((deepL os ps η1).bind g) η1
end S

section
variable {X : Cx} {L : Lents} {W : WX} {e a b c : Expr} {es : List Expr} {pos : Pos}
theorem je_imp {f : SE} {t : TE} (h : PE X e t) (i : ∀ σ H Q, tE X.K L W f σ H Q → t σ H Q) : PE X e (tE X.K L W f) := PE.imp h i
/-! ### frozen and owned -/
theorem jf_up {f : SE} (h : PE X e (tE X.K L W f)) : PE X e (tF X.K L W (S.up f)) := by
  refine PE.imp h fun σ H Q ⟨G, η, Fs, R, q⟩ => ⟨G, η, Fs, R, q.bind.mono fun d η1 G1 H1 Fs1 R1 E1 q1 v r => ?_⟩
  exact q1 G1 H1 Fs1 R1 Ext.refl v [] (Apart.zero r) fun a z => by simp at z
theorem Ext.frz {G H G1 H1 : Hp} {Fs Fs1 : Feet} {F : List Addr} (E : Ext G H Fs G1 H1 Fs1) (d : ∀ a ∈ F, G1 a = none) (o : ∀ a ∈ F, foot Fs a ∨ H a = none) : Ext G H Fs (frz G1 H1 F) H1 Fs1 where
  g := E.g.trans (frz_le d)
  h := E.h
  n := fun b z => by
    by_cases hb : b ∈ F
    · exact .inr ((o b hb).elim .inl fun z => .inr (.none z))
    · rw [frz_out hb] at z; exact E.n b z
  f := E.f
  d := E.d
theorem je_fz {f : SF} (h : PE X e (tF X.K L W f)) : PE X e (tE X.K L W (S.fz f)) := by
  refine PE.imp h fun σ H Q ⟨G, η, Fs, R, q⟩ => ⟨G, η, Fs, R, ?_⟩
  cases z : f η with
  | bad => rw [S.fz, z] at q; exact q
  | exc c η' => rw [S.fz, z] at q; exact q
  | ok p η1 =>
    rw [S.fz, z] at q
    intro G1 H1 Fs1 R1 E1 v F x o
    obtain ⟨R2, r⟩ := R1.freezeApart x
    exact q _ H1 Fs1 R2 (E1.frz x.dis o) v r

/-! ### names, constants -/
theorem je_const {d : D} {v : V} (h : PE X e (tC v)) (r : ∀ G, Rep G v d) : PE X e (tE X.K L W (S.c d)) :=
  PE.imp h fun σ H Q ⟨G, η, Fs, R, q⟩ => q G H Fs R Ext.refl v (r G)
theorem je_int {i : Int} {j} : PE X (.Constant (.int i) j pos) (tE X.K L W (S.c (.int i))) := je_const pe_int fun _ => .int i
theorem je_bl {b : Bool} {j} : PE X (.Constant (.bool b) j pos) (tE X.K L W (S.c (.bl b))) := je_const pe_bl fun _ => .bl b
theorem je_non {j} : PE X (.Constant .none j pos) (tE X.K L W (S.c .non)) := je_const pe_non fun _ => .non
theorem je_str {x : Str} {j} : PE X (.Constant (.str x) j pos) (tE X.K L W (S.c (.str x))) := je_const pe_str fun _ => .str x
theorem Rel.emptied {G H : Hp} {η : Env} {σ : Sig} {Fs : Feet} {i k : Nat} {d : D} {v : V} (R : Rel L G η σ H Fs) (q : η[i]? = some (.val k false d)) (hv : σ[i]? = some (some v)) :
    Rel L (frz G H (Fs i)) (η.set i (.val 0 false d)) σ H (setF Fs i []) ∧ Rep (frz G H (Fs i)) v d ∧ Ext G H Fs (frz G H (Fs i)) H (setF Fs i []) := by
  obtain ⟨v', h1, R1, x⟩ := R.drop q
  rw [hv] at h1; cases h1
  obtain ⟨R2, r⟩ := R1.freezeApart x
  have hi : i < η.length := (List.getElem?_eq_some_iff.mp q).1
  have R3 := R2.put (i := i) (Apart.zero (H := H) (Fs := setF Fs i []) r) (by rw [List.length_set]; exact hi) (get_set_self hi)
  have e1 : (η.set i .no).set i (.val 0 false d) = η.set i (.val 0 false d) := List.set_set ..
  have e2 : σ.set i (some v) = σ := by
    apply List.ext_getElem?
    intro j
    by_cases hj : j = i
    · subst hj; rw [get_set_self (by rw [← R.len]; exact hi), hv]
    · rw [get_set_ne hj]
  have e3 : setF (setF Fs i []) i [] = setF Fs i [] := by
    funext j
    by_cases hj : j = i
    · subst hj; rw [setF_same, setF_same]
    · rw [setF_ne hj]
  rw [e1, e2, e3] at R3
  refine ⟨R3, r, frz_le x.dis, fun _ _ h _ => h, fun b z => ?_, fun b z => ?_, fun _ z => z⟩
  · by_cases hb : b ∈ Fs i
    · exact .inr (.inl ⟨i, hb⟩)
    · rw [frz_out hb] at z; exact .inl z
  · rcases foot_setF z with z | ⟨j, _, z⟩
    · simp at z
    · exact .inl ⟨j, z⟩
theorem je_var {i : Nat} (h : PE X e (tVar i)) : PE X e (tE X.K L W (S.var i)) := by
  refine PE.imp h fun σ H Q ⟨G, η, Fs, R, q⟩ => ?_
  unfold S.var at q
  split at q
  · rename_i l d z
    obtain ⟨v, h1, h2, _⟩ := R.slot i 0 l d z
    exact ⟨v, h1, q G H Fs R Ext.refl v h2.1⟩
  · rename_i k d z
    obtain ⟨v, h1, h2, _⟩ := R.slot i (k + 1) false d z
    obtain ⟨R2, r, E⟩ := R.emptied z h1
    exact ⟨v, h1, q _ H _ R2 E v r⟩
  · exact q.elim
theorem jf_mov {i : Nat} (h : PE X e (tVar i)) : PE X e (tF X.K L W (S.mov i)) := by
  refine PE.imp h fun σ H Q ⟨G, η, Fs, R, q⟩ => ?_
  unfold S.mov at q
  split at q
  · rename_i k d z
    obtain ⟨v, h1, R1, x⟩ := R.drop z
    refine ⟨v, h1, q G H _ R1 ⟨Le.refl G, fun _ _ h _ => h, fun _ z => .inl z, fun b z => ?_, fun _ z => z⟩ v (Fs i) x fun a ha => .inl ⟨i, ha⟩⟩
    rcases foot_setF z with z | ⟨j, _, z⟩
    · simp at z
    · exact .inl ⟨j, z⟩
  · exact q.elim

/-! ### operands -/
theorem jo_ex {f : SE} (h : PE X e (tE X.K L W f)) : PE X e (tO X.K L W (.ex f)) := h
theorem jo_nm {i : Nat} (h : PE X e (tVar i)) : PE X e (tO X.K L W (.nm i)) := h
/-- a result of a rule that makes a new object of its own or a frozen one -/
theorem fin_tF {σ : Sig} {G H : Hp} {η : Env} {Fs : Feet} {k : Nat} {d : D} {Q : V → Hp → Prop} {P : Nat × D → Env → Hp → Hp → Feet → Prop} (R : Rel L G η σ H Fs)
    (h : ∀ G' H' Fs', Rel L G' η σ H' Fs' → Ext G H Fs G' H' Fs' → ∀ v F, Apart G' H' Fs' k v d F → (∀ a ∈ F, H a = none) → Q v H') : Fin2 G H k d Q := by
  intro u G' H' F N o nd fr
  refine h G' H' Fs (R.new N) N.ext u F ⟨o, nd, fun a ha => (fr a ha).1, fun a ha => ?_⟩ fun a ha => (fr a ha).2
  exact R.noFoot (fr a ha).2
theorem Ext.noneOf {G H G1 H1 : Hp} {Fs Fs1 : Feet} (E : Ext G H Fs G1 H1 Fs1) {a : Addr} (h : H1 a = none) : H a = none := by
  cases z : H a with
  | none => rfl
  | some o => exact absurd h (E.d a (by rw [z]; simp))
/-- the readings' ends: what is told of a start is told of a later one -/
theorem tF_post {σ : Sig} {G H : Hp} {η : Env} {Fs : Feet} {Q : V → Hp → Prop} {o : Out (Nat × D)}
    (q : Res X.K L W σ G H Fs (fun p _ G' H' Fs' => ∀ v F, Apart G' H' Fs' p.1 v p.2 F → (∀ a ∈ F, foot Fs a ∨ H a = none) → Q v H') o) :
    Res X.K L W σ G H Fs (fun p _ G' H' Fs' => ∀ v F, Apart G' H' Fs' p.1 v p.2 F → (∀ a ∈ F, foot Fs a ∨ H a = none) → Q v H') o := q
theorem jf_bin {op : Operator} {r : R2} {g : D → D → Option (Nat × D)} {oa ob : Opd} (ho : OpR X (binaryOp op) r) (hs : Op2 r g) (ha : PE X a (tO X.K L W oa)) (hb : PE X b (tO X.K L W ob)) :
    PE X (.BinOp a op b pos) (tF X.K L W (S.bin g oa ob)) := by
  refine PE.imp (pe_op ho ha hb) fun σ H Q ⟨G, η, Fs, R, q⟩ => ?_
  refine tO_use R q fun v p η1 G1 H1 Fs1 R1 E1 k1 q1 => ?_
  refine tO_use R1 q1 fun w p2 η2 G2 H2 Fs2 R2 E2 k2 q2 => ?_
  obtain ⟨⟨k, d⟩, e, q3⟩ := q2.lift
  cases hx : oa.fin p η2 with
  | none => rw [hx] at e; cases e
  | some x =>
    rw [hx] at e
    cases hy : ob.fin p2 η2 with
    | none => rw [show (some x).bind _ = (ob.fin p2 η2).bind _ from rfl, hy] at e; cases e
    | some y =>
      rw [show (some x).bind _ = (ob.fin p2 η2).bind _ from rfl, hy] at e
      refine hs G2 H2 v w x y k d Q R2.sub ((k1.mono E2.g.sub).bor R2 hx) (k2.bor R2 hy) e (fin_tF (P := fun _ _ _ _ _ => True) R2 fun G' H' Fs' R' E' u F x o => ?_)
      exact q3 G' H' Fs' R' E' u F x fun a ha => .inr ((E1.trans E2).noneOf (o a ha))
theorem jf_un {op : UnaryOp} {r : V → Hp → VK → Prop} {g : D → Option (Nat × D)} {oa : Opd} (ho : UnR X (unaryOp op) r) (hs : Op1 r g) (ha : PE X a (tO X.K L W oa)) : PE X (.UnaryOp op a pos) (tF X.K L W (S.un g oa)) := by
  refine PE.imp (pe_un ho ha) fun σ H Q ⟨G, η, Fs, R, q⟩ => ?_
  refine tO_use R q fun v p η1 G1 H1 Fs1 R1 E1 k1 q1 => ?_
  obtain ⟨⟨k, d⟩, e, q3⟩ := q1.lift
  cases hx : oa.fin p η1 with
  | none => rw [hx] at e; cases e
  | some x =>
    rw [hx] at e
    refine hs G1 H1 v x k d Q R1.sub (k1.bor R1 hx) e (fin_tF (P := fun _ _ _ _ _ => True) R1 fun G' H' Fs' R' E' u F x o => ?_)
    exact q3 G' H' Fs' R' E' u F x fun a ha => .inr (E1.noneOf (o a ha))
end
end DV

/-! DV5: comparisons, tests, displays, calls of built-ins. -/
namespace DV
open PySem PySem.Spec PyProof.Rows L2

/-! ### data for == -/
mutual
def py : D → PyData
  | .non => .none
  | .bl b => .bool b
  | .int i => .int i
  | .str x => .str x
  | .tup ds => .tuple (pyL ds)
  | .lst ds => .list (pyL ds)
  | .dK _ => .dict []
  | .dT _ => .dict []
def pyL : List D → List PyData
  | [] => []
  | d :: ds => py d :: pyL ds
end
mutual
/-- plain data, at most n containers deep -/
def okD : Nat → D → Bool
  | _, .non => true
  | _, .bl _ => true
  | _, .int _ => true
  | _, .str x => PyData.strOk x
  | n + 1, .tup ds => okL n ds
  | n + 1, .lst ds => okL n ds
  | _, _ => false
def okL : Nat → List D → Bool
  | _, [] => true
  | n, d :: ds => okD n d && okL n ds
end
mutual
theorem okD_lay : ∀ (n : Nat) (d : D), okD n d = true → (py d).canLay0 = true ∧ (py d).depth ≤ n
  | _, .non, _ => ⟨rfl, by simp [py, PyData.depth]⟩
  | _, .bl _, _ => ⟨rfl, by simp [py, PyData.depth]⟩
  | _, .int _, _ => ⟨rfl, by simp [py, PyData.depth]⟩
  | _, .str x, h => ⟨by simpa [py, PyData.canLay0, okD] using h, by simp [py, PyData.depth]⟩
  | n + 1, .tup ds, h => by
    obtain ⟨h1, h2⟩ := okL_lay n ds (by simpa [okD] using h)
    exact ⟨by simpa [py, PyData.canLay0] using h1, by simpa [py, PyData.depth] using h2⟩
  | n + 1, .lst ds, h => by
    obtain ⟨h1, h2⟩ := okL_lay n ds (by simpa [okD] using h)
    exact ⟨by simpa [py, PyData.canLay0] using h1, by simpa [py, PyData.depth] using h2⟩
  | 0, .tup _, h => by simp [okD] at h
  | 0, .lst _, h => by simp [okD] at h
  | 0, .dK _, h => by simp [okD] at h
  | 0, .dT _, h => by simp [okD] at h
  | _ + 1, .dK _, h => by simp [okD] at h
  | _ + 1, .dT _, h => by simp [okD] at h
theorem okL_lay : ∀ (n : Nat) (ds : List D), okL n ds = true → PyData.canLayAll0 (pyL ds) = true ∧ PyData.depthAll (pyL ds) ≤ n
  | _, [], _ => ⟨rfl, by simp [pyL, PyData.depthAll]⟩
  | n, d :: ds, h => by
    have h' : okD n d = true ∧ okL n ds = true := by simpa [okL] using h
    obtain ⟨a1, a2⟩ := okD_lay n d h'.1
    obtain ⟨b1, b2⟩ := okL_lay n ds h'.2
    exact ⟨by simp [pyL, PyData.canLayAll0, a1, b1], by simp only [pyL, PyData.depthAll]; omega⟩
end
theorem shaped_ok {d : D} (h : okD 16 d = true) : SeqAt.shaped (py d) = true := by
  obtain ⟨h1, h2⟩ := okD_lay 16 d h
  unfold SeqAt.shaped
  rw [h1, decide_eq_true (by omega)]; rfl
mutual
theorem Rep.dp {K : PySem.W.Frag} {G : Hp} : ∀ (n : Nat) (d : D) (v : V), Rep G v d → okD n d = true → Dp K G v (py d)
  | _, .non, _, r, _ => by cases r; exact .non
  | _, .bl _, _, r, _ => by cases r; exact .bl _
  | _, .int _, _, r, _ => by cases r; exact .int _
  | _, .str _, _, r, _ => by cases r; exact .str _
  | n + 1, .tup ds, _, r, h => by
    cases r with
    | tup h1 h2 => exact .tup (.of h1) (RepL.dp n ds _ h2 (by simpa [okD] using h))
  | n + 1, .lst ds, _, r, h => by
    cases r with
    | lst h1 h2 => exact .lst (.inl h1) (RepL.dp n ds _ h2 (by simpa [okD] using h))
  | 0, .tup _, _, _, h => by simp [okD] at h
  | 0, .lst _, _, _, h => by simp [okD] at h
  | 0, .dK _, _, _, h => by simp [okD] at h
  | 0, .dT _, _, _, h => by simp [okD] at h
  | _ + 1, .dK _, _, _, h => by simp [okD] at h
  | _ + 1, .dT _, _, _, h => by simp [okD] at h
theorem RepL.dp {K : PySem.W.Frag} {G : Hp} : ∀ (n : Nat) (ds : List D) (vs : List V), RepL G vs ds → okL n ds = true → DpAll K G vs (pyL ds)
  | _, [], _, r, _ => by cases r; exact .nil
  | n, d :: ds, _, r, h => by
    have h' : okD n d = true ∧ okL n ds = true := by simpa [okL] using h
    cases r with
    | cons r1 r2 => exact .cons (Rep.dp n d _ r1 h'.1) (RepL.dp n ds _ r2 h'.2)
end
/-- == -/
def eqv (a b : D) : Bool := PyData.eqv (py a) (py b)

/-! ### comparisons: their meanings -/
def eqD (a b : D) : Option Bool := if okD 16 a = true ∧ okD 16 b = true then some (eqv a b) else none
def neD (a b : D) : Option Bool := if okD 16 a = true ∧ okD 16 b = true then some (!eqv a b) else none
/-- tuples of whole numbers -/
def intsOf : List D → Option (List Int)
  | [] => some []
  | .int i :: ds => (intsOf ds).map (i :: ·)
  | _ :: _ => none
def ltD : D → D → Option Bool
  | .int i, .int j => some (decide (i < j))
  | .tup xs, .tup ys => match intsOf xs, intsOf ys with
    | some ns, some ms => some (HT.lexLt ns ms)
    | _, _ => none
  | _, _ => none
def leD : D → D → Option Bool
  | .int i, .int j => some (decide (i ≤ j))
  | _, _ => none
def gtD : D → D → Option Bool
  | .int i, .int j => some (decide (j < i))
  | _, _ => none
def geD : D → D → Option Bool
  | .int i, .int j => some (decide (j ≤ i))
  | _, _ => none
def sameD : D → D → Bool
  | .non, .non => true
  | .bl a, .bl b => a == b
  | _, _ => false
def constD : D → Bool
  | .non => true
  | .bl _ => true
  | _ => false
def isD (a b : D) : Option Bool := if constD b = true then some (sameD a b) else none
def isnD (a b : D) : Option Bool := if constD b = true then some (!sameD a b) else none

def Cmp2 (r : R2) (g : D → D → Option Bool) : Prop :=
  ∀ (H : Hp) (v w : V) (dx dy : D) (b : Bool) (Q : VK), Rep H v dx → Rep H w dy → g dx dy = some b → Q (.bl b) H → r v w H Q
section
variable {K : PySem.W.Frag}
theorem cz_eq : Cmp2 (rEqD K) eqD := by
  intro H v w dx dy b Q rx ry h q
  unfold eqD at h
  split at h <;> cases h
  rename_i z
  exact ⟨py dx, py dy, rx.dp 16 dx v z.1, ry.dp 16 dy w z.2, shaped_ok z.1, shaped_ok z.2, q⟩
theorem cz_ne : Cmp2 (rNeD K) neD := by
  intro H v w dx dy b Q rx ry h q
  unfold neD at h
  split at h <;> cases h
  rename_i z
  exact ⟨py dx, py dy, rx.dp 16 dx v z.1, ry.dp 16 dy w z.2, shaped_ok z.1, shaped_ok z.2, q⟩
theorem intsOf_rep {H : Hp} : ∀ {vs : List V} {ds : List D} {ns : List Int}, RepL H vs ds → intsOf ds = some ns → vs = ns.map V.int
  | _, _, _, .nil, e => by cases e; rfl
  | _, _, ns, .cons (d := d) (ds := ds) r t, e => by
    cases d <;> simp only [intsOf] at e <;> try cases e
    rename_i i
    cases q : intsOf ds with
    | none => rw [q] at e; cases e
    | some ms =>
      rw [q] at e; cases e
      cases r
      rw [intsOf_rep t q]; rfl
def rLtA (K : PySem.W.Frag) : R2 := fun x y H Q => rI0 (fun i j => .bl (decide (i < j))) x y H Q ∨ rLtT K x y H Q
theorem cz_lt : Cmp2 (rLtA K) ltD := by
  intro H v w dx dy b Q rx ry h q
  cases dx <;> cases dy <;> simp only [ltD] at h <;> try cases h
  · cases rx; cases ry; exact .inl ⟨_, _, rfl, rfl, q⟩
  · rename_i xs ys
    cases rx with
    | tup h1 r1 =>
      cases ry with
      | tup h2 r2 =>
        cases e1 : intsOf xs with
        | none => rw [e1] at h; cases h
        | some ns =>
          cases e2 : intsOf ys with
          | none => rw [e1, e2] at h; cases h
          | some ms =>
            rw [e1, e2] at h; cases h
            exact .inr ⟨_, _, ns, ms, rfl, rfl, .of (by rw [← intsOf_rep r1 e1]; exact h1), .of (by rw [← intsOf_rep r2 e2]; exact h2), q⟩
theorem cz_le : Cmp2 (rI0 fun i j => .bl (decide (i ≤ j))) leD := by
  intro H v w dx dy b Q rx ry h q
  cases dx <;> cases dy <;> simp only [leD] at h <;> try cases h
  cases rx; cases ry; exact ⟨_, _, rfl, rfl, q⟩
theorem cz_gt : Cmp2 (rI0 fun i j => .bl (decide (j < i))) gtD := by
  intro H v w dx dy b Q rx ry h q
  cases dx <;> cases dy <;> simp only [gtD] at h <;> try cases h
  cases rx; cases ry; exact ⟨_, _, rfl, rfl, q⟩
theorem cz_ge : Cmp2 (rI0 fun i j => .bl (decide (j ≤ i))) geD := by
  intro H v w dx dy b Q rx ry h q
  cases dx <;> cases dy <;> simp only [geD] at h <;> try cases h
  cases rx; cases ry; exact ⟨_, _, rfl, rfl, q⟩
/-- is, is not, of a written None, True, False -/
def rIsC (n : Bool) : R2 := fun x y H Q => (y = .non ∨ ∃ b, y = .bl b) ∧ Q (.bl (if n = true then !decide (x = y) else decide (x = y))) H
theorem same_dec {H : Hp} {v w : V} {dx dy : D} (rx : Rep H v dx) (ry : Rep H w dy) (c : constD dy = true) : decide (v = w) = sameD dx dy := by
  cases dy <;> simp only [constD] at c <;> try cases c
  · cases ry
    cases rx <;> simp [sameD]
  · cases ry
    cases rx <;> simp [sameD]
    rename_i a b
    cases a <;> cases b <;> rfl
theorem cz_is : Cmp2 (rIsC false) isD := by
  intro H v w dx dy b Q rx ry h q
  unfold isD at h
  split at h <;> cases h
  rename_i z
  refine ⟨?_, by rw [if_neg Bool.false_ne_true, same_dec rx ry z]; exact q⟩
  cases dy <;> simp only [constD] at z <;> try cases z
  · cases ry; exact .inl rfl
  · cases ry; exact .inr ⟨_, rfl⟩
theorem cz_isn : Cmp2 (rIsC true) isnD := by
  intro H v w dx dy b Q rx ry h q
  unfold isnD at h
  split at h <;> cases h
  rename_i z
  refine ⟨?_, by rw [if_pos rfl, same_dec rx ry z]; exact q⟩
  cases dy <;> simp only [constD] at z <;> try cases z
  · cases ry; exact .inl rfl
  · cases ry; exact .inr ⟨_, rfl⟩
end
end DV

/-! DV6: comparisons, tests, rows, displays, calls of built-ins: the rules. -/
namespace DV
open PySem PySem.Spec PyProof.Rows L2

section
variable {X : Cx}
theorem rel_eq_const {x y : V} {v u : Value} (rx : RelV x v) (ry : RelV y u) (c : y = .non ∨ ∃ b, y = .bl b) : (v == u) = decide (x = y) ∧ plainIs v u = true := by
  have key : (v = u ↔ x = y) := by
    constructor
    · intro e; subst e; exact rx.inj ry
    · intro e; subst e
      rcases c with e | ⟨b, e⟩
      · subst e; cases rx; cases ry; rfl
      · subst e; cases rx; cases ry; rfl
  refine ⟨?_, ?_⟩
  · by_cases e : x = y
    · rw [decide_eq_true e]; exact beq_iff_eq.mpr (key.mpr e)
    · rw [decide_eq_false e]; exact beq_eq_false_iff_ne.mpr fun z => e (key.mp z)
  · rcases c with e | ⟨b, e⟩
    · subst e; cases ry
      cases x <;> first
        | (cases rx; rfl)
        | (obtain ⟨t, rfl⟩ := rx; rfl)
    · subst e; cases ry
      cases x <;> first
        | (cases rx; rfl)
        | (obtain ⟨t, rfl⟩ := rx; rfl)
theorem op_isC : OpR X (compareOp .Is) (rIsC false) := by
  intro pins s σ H x y v u Q I rx ry ⟨c, q⟩
  obtain ⟨e, p⟩ := rel_eq_const rx ry c
  rw [if_neg Bool.false_ne_true] at q
  exact wpAny_is_plain p ⟨.bl _, H, I, by rw [e]; rfl, q⟩
theorem op_isnC : OpR X (compareOp .IsNot) (rIsC true) := by
  intro pins s σ H x y v u Q I rx ry ⟨c, q⟩
  obtain ⟨e, p⟩ := rel_eq_const rx ry c
  rw [if_pos rfl] at q
  exact wpAny_isNot_plain p ⟨.bl _, H, I, by rw [e]; rfl, q⟩
theorem op_ltA (hu : X.A.units < cLine) : OpR X (compareOp .Lt) (rLtA X.K) := op_lt.or (op_ltT hu)
end

section
variable {X : Cx} {L : Lents} {W : WX} {e a b c : Expr} {es : List Expr} {pos : Pos}
theorem cmp_use {σ : Sig} {H : Hp} {Q : VK} {oa ob : Opd} {g : D → D → Option Bool} {r : R2} (hs : Cmp2 r g)
    (h : tE X.K L W (S.cmp g oa ob) σ H Q) : tOp r (tO X.K L W oa) (tO X.K L W ob) σ H Q := by
  obtain ⟨G, η, Fs, R, q⟩ := h
  refine tO_use R q fun v p η1 G1 H1 Fs1 R1 E1 k1 q1 => ?_
  refine tO_use R1 q1 fun w p2 η2 G2 H2 Fs2 R2 E2 k2 q2 => ?_
  obtain ⟨d, e, q3⟩ := q2.lift
  cases hx : oa.deep p η2 with
  | none => rw [hx] at e; cases e
  | some x =>
    rw [hx] at e
    cases hy : ob.deep p2 η2 with
    | none => rw [show (some x).bind _ = (ob.deep p2 η2).bind _ from rfl, hy] at e; cases e
    | some y =>
      rw [show (some x).bind _ = (ob.deep p2 η2).bind _ from rfl, hy] at e
      have e : (g x y).map D.bl = some d := e
      cases hg : g x y with
      | none => rw [hg] at e; cases e
      | some k =>
        rw [hg] at e; cases e
        exact hs H2 v w x y k Q ((k1.mono E2.g.sub).rep R2 hx) (k2.rep R2 hy) hg (q3 G2 H2 Fs2 R2 Ext.refl (.bl k) (.bl k))
theorem je_cmp {op : CmpOp} {r : R2} {g : D → D → Option Bool} {oa ob : Opd} (ho : OpR X (compareOp op) r) (hs : Cmp2 r g) (ha : PE X a (tO X.K L W oa)) (hb : PE X b (tO X.K L W ob)) (hm : behindInMarks op b = false) :
    PE X (.Compare a [op] [b] pos) (tE X.K L W (S.cmp g oa ob)) := PE.imp (pe_cmpR ho ha hb hm) fun σ H Q h => cmp_use hs h
/-- a value that is a truth as a test's reading -/
theorem tst_use {σ : Sig} {H : Hp} {Q : Bool → Hp → Prop} {f : SE} (h : tT X.K L W (S.tst f) σ H Q) : tE X.K L W f σ H fun x H' => ∃ k, x = .bl k ∧ Q k H' := by
  obtain ⟨G, η, Fs, R, q⟩ := h
  refine ⟨G, η, Fs, R, q.bind.mono fun d η1 G1 H1 Fs1 R1 E1 q1 v rv => ?_⟩
  obtain ⟨k, e, q2⟩ := q1.lift
  cases d <;> simp only [S.truth] at e <;> try cases e
  cases rv
  exact ⟨_, rfl, q2 G1 H1 Fs1 R1 Ext.refl⟩
theorem jt_cmp {op : CmpOp} {r : R2} {g : D → D → Option Bool} {oa ob : Opd} (ho : OpR X (compareOp op) r) (hs : Cmp2 r g) (ha : PE X a (tO X.K L W oa)) (hb : PE X b (tO X.K L W ob)) (hm : behindInMarks op b = false) :
    PT X (.Compare a [op] [b] pos) (tT X.K L W (S.tst (S.cmp g oa ob))) := PT.imp (pt_cmpR ho ha hb hm) fun σ H Q h => cmp_use hs (tst_use h)
theorem jt_val {f : SE} (h : PE X e (tE X.K L W f)) (he : ∀ whole, isTrue e X.env whole = (do let v ← whole; standAt e.pos; holding [v] (truthy v))) : PT X e (tT X.K L W (S.tst f)) :=
  PT.imp (pt_val h he) fun σ H Q h => tst_use h
/-! ### and, or, not -/
theorem tand_use {σ : Sig} {H : Hp} {Q : Bool → Hp → Prop} {f g : ST} (h : tT X.K L W (S.tand f g) σ H Q) : tAnd (tT X.K L W f) (tT X.K L W g) σ H Q := by
  obtain ⟨G, η, Fs, R, q⟩ := h
  refine ⟨G, η, Fs, R, q.bind.mono fun x η1 G1 H1 Fs1 R1 E1 q1 => ?_⟩
  cases x with
  | true => exact ⟨G1, η1, Fs1, R1, q1⟩
  | false => exact q1 G1 H1 Fs1 R1 Ext.refl
theorem tor_use {σ : Sig} {H : Hp} {Q : Bool → Hp → Prop} {f g : ST} (h : tT X.K L W (S.tor f g) σ H Q) : tOr (tT X.K L W f) (tT X.K L W g) σ H Q := by
  obtain ⟨G, η, Fs, R, q⟩ := h
  refine ⟨G, η, Fs, R, q.bind.mono fun x η1 G1 H1 Fs1 R1 E1 q1 => ?_⟩
  cases x with
  | false => exact ⟨G1, η1, Fs1, R1, q1⟩
  | true => exact q1 G1 H1 Fs1 R1 Ext.refl
variable {rest : List Expr}
theorem jw_and1 {f : ST} (h : PT X a (tT X.K L W f)) : PW X (.BoolOp .And [a] pos) (tT X.K L W f) := pw_and1 h
theorem jw_or1 {f : ST} (h : PT X a (tT X.K L W f)) : PW X (.BoolOp .Or [a] pos) (tT X.K L W f) := pw_or1 h
theorem jw_and {f g : ST} (h : PT X a (tT X.K L W f)) (hr : PW X (.BoolOp .And (b :: rest) pos) (tT X.K L W g)) : PW X (.BoolOp .And (a :: b :: rest) pos) (tT X.K L W (S.tand f g)) :=
  PW.imp (pw_and h hr) fun σ H Q q => tand_use q
theorem jw_or {f g : ST} (h : PT X a (tT X.K L W f)) (hr : PW X (.BoolOp .Or (b :: rest) pos) (tT X.K L W g)) : PW X (.BoolOp .Or (a :: b :: rest) pos) (tT X.K L W (S.tor f g)) :=
  PW.imp (pw_or h hr) fun σ H Q q => tor_use q
theorem jt_not {f : ST} (h : PT X a (tT X.K L W f)) : PT X (.UnaryOp .Not a pos) (tT X.K L W (S.tnot f)) :=
  PT.imp (pt_not h) fun σ H Q ⟨G, η, Fs, R, q⟩ => ⟨G, η, Fs, R, q.bind.mono fun x η1 G1 H1 Fs1 R1 E1 q1 => q1 G1 H1 Fs1 R1 Ext.refl⟩
theorem je_one {op} {f : SE} (h : PE X a (tE X.K L W f)) : PE X (.BoolOp op [a] pos) (tE X.K L W f) := pe_one h
theorem je_and {f g : SE} (h : PE X a (tE X.K L W f)) (hr : PE X (.BoolOp .And (b :: rest) pos) (tE X.K L W g)) : PE X (.BoolOp .And (a :: b :: rest) pos) (tE X.K L W (S.band f g)) := by
  refine PE.imp (pe_and h hr) fun σ H Q ⟨G, η, Fs, R, q⟩ => ⟨G, η, Fs, R, q.bind.mono fun d η1 G1 H1 Fs1 R1 E1 q1 v rv => ?_⟩
  cases d <;> first | exact (show False from q1).elim | skip
  rename_i k
  cases rv
  refine ⟨k, rfl, ?_⟩
  cases k with
  | true => exact ⟨G1, η1, Fs1, R1, q1⟩
  | false => exact q1 G1 H1 Fs1 R1 Ext.refl _ (.bl false)
theorem je_or {f g : SE} (h : PE X a (tE X.K L W f)) (hr : PE X (.BoolOp .Or (b :: rest) pos) (tE X.K L W g)) : PE X (.BoolOp .Or (a :: b :: rest) pos) (tE X.K L W (S.bor f g)) := by
  refine PE.imp (pe_or h hr) fun σ H Q ⟨G, η, Fs, R, q⟩ => ⟨G, η, Fs, R, q.bind.mono fun d η1 G1 H1 Fs1 R1 E1 q1 v rv => ?_⟩
  cases d <;> first | exact (show False from q1).elim | skip
  rename_i k
  cases rv
  refine ⟨k, rfl, ?_⟩
  cases k with
  | false => exact ⟨G1, η1, Fs1, R1, q1⟩
  | true => exact q1 G1 H1 Fs1 R1 Ext.refl _ (.bl true)
theorem je_not {f : SE} (h : PE X a (tE X.K L W f)) : PE X (.UnaryOp .Not a pos) (tE X.K L W (S.bnot f)) := by
  refine PE.imp (pe_not h) fun σ H Q ⟨G, η, Fs, R, q⟩ => ⟨G, η, Fs, R, q.bind.mono fun d η1 G1 H1 Fs1 R1 E1 q1 v rv => ?_⟩
  cases d <;> first | exact (show False from q1).elim | skip
  rename_i k
  cases rv
  exact ⟨k, rfl, q1 G1 H1 Fs1 R1 Ext.refl _ (.bl _)⟩
/-- a if t else b -/
theorem jf_ite {t : ST} {f g : SF} (ht : PT X c (tT X.K L W t)) (ha : PE X a (tF X.K L W f)) (hb : PE X b (tF X.K L W g)) : PE X (.IfExp c a b pos) (tF X.K L W (S.ite t f g)) := by
  refine PE.imp (pe_ifExp ht ha hb) fun σ H Q ⟨G, η, Fs, R, q⟩ => ⟨G, η, Fs, R, q.bind.mono fun x η1 G1 H1 Fs1 R1 E1 q1 => ?_⟩
  have post : ∀ {o : Out (Nat × D)}, Res X.K L W σ G1 H1 Fs1 (fun p _ G' H' Fs' => ∀ v F, Apart G' H' Fs' p.1 v p.2 F → (∀ a ∈ F, foot Fs a ∨ H a = none) → Q v H') o →
      Res X.K L W σ G1 H1 Fs1 (fun p _ G' H' Fs' => ∀ v F, Apart G' H' Fs' p.1 v p.2 F → (∀ a ∈ F, foot Fs1 a ∨ H1 a = none) → Q v H') o := fun h => h.mono fun p η2 G2 H2 Fs2 R2 E2 q2 v F y o => q2 v F y fun a ha => (o a ha).elim (E1.f a) fun z => .inr (E1.noneOf z)
  cases x with
  | true => exact ⟨G1, η1, Fs1, R1, post q1⟩
  | false => exact ⟨G1, η1, Fs1, R1, post q1⟩

/-! ### rows of values, displays -/
def tL (K : PySem.W.Frag) (L : Lents) (W : WX) (f : Env → Out (List D)) : TA := fun σ H Q => ∃ G η Fs, Rel L G η σ H Fs ∧ Res K L W σ G H Fs (fun ds _ G' H' _ => ∀ vs, RepL G' vs ds → Q vs H') (f η)
theorem jl_nil : PA X [] (tL X.K L W S.nil) := PA.imp pa_nil fun σ H Q ⟨G, η, Fs, R, q⟩ => q G H Fs R Ext.refl [] .nil
theorem jl_cons {f : SE} {r : Env → Out (List D)} (h : PE X e (tE X.K L W f)) (hr : PA X es (tL X.K L W r)) (hs : starEach (e :: es) X.env = (false, eval e X.env) :: starEach es X.env := by rfl) : PA X (e :: es) (tL X.K L W (S.cons f r)) := by
  refine PA.imp (pa_cons h hr hs) fun σ H Q ⟨G, η, Fs, R, q⟩ => ⟨G, η, Fs, R, q.bind.mono fun d η1 G1 H1 Fs1 R1 E1 q1 v rv => ⟨G1, η1, Fs1, R1, q1.bind.mono fun ds η2 G2 H2 Fs2 R2 E2 q2 vs rvs => ?_⟩⟩
  exact q2 G2 H2 Fs2 R2 Ext.refl (v :: vs) (.cons (rv.mono E2.g.sub) rvs)
theorem je_tup {r : Env → Out (List D)} {x1} (h : PA X es (tL X.K L W r)) : PE X (.Tuple es x1 pos) (tE X.K L W (S.tup r)) := by
  refine PE.imp (pe_tup h) fun σ H Q ⟨G, η, Fs, R, q⟩ => ⟨G, η, Fs, R, q.bind.mono fun ds η1 G1 H1 Fs1 R1 E1 q1 vs rv => ?_⟩
  obtain ⟨d, e, q2⟩ := q1.lift
  split at e <;> cases e
  rename_i hz
  refine ⟨by rw [rv.length]; exact hz, fun p hp => ?_⟩
  have N := New.frozen (o := .tup vs) R1.sub hp
  exact q2 _ _ _ (R1.new N) N.ext _ (.tup upd_same (rv.mono N.g.sub))
theorem jf_lst {r : Env → Out (List D)} (h : PA X es (tL X.K L W r)) : PE X (.List es pos) (tF X.K L W (S.lst r)) := by
  refine PE.imp (pe_lst h) fun σ H Q ⟨G, η, Fs, R, q⟩ => ⟨G, η, Fs, R, q.bind.mono fun ds η1 G1 H1 Fs1 R1 E1 q1 vs rv => ?_⟩
  obtain ⟨d, e, q2⟩ := q1.lift
  split at e <;> cases e
  rename_i hz
  refine ⟨by rw [rv.length]; exact hz, fun p hp => ?_⟩
  have N := New.own (o := .lst vs) R1.sub hp
  refine q2 _ _ _ (R1.new N) N.ext _ [p] ⟨⟨p, vs, [], rfl, upd_same, rfl, OwnL.of0 rv⟩, by simp, fun a ha => ?_, fun a ha => ?_⟩ fun a ha => ?_
  · have e : a = p := by simpa using ha
    subst e; exact R1.sub.free hp
  · have e : a = p := by simpa using ha
    subst e; exact R1.noFoot hp
  · have e : a = p := by simpa using ha
    subst e; exact .inr (E1.noneOf hp)

/-! ### calls of built-ins, by values -/
def tOs (K : PySem.W.Frag) (L : Lents) (W : WX) : List Opd → TA
  | [] => tNil
  | o :: os => tCons (tO K L W o) (tOs K L W os)
theorem jos_nil : PA X [] (tOs X.K L W []) := pa_nil
theorem jos_cons {o : Opd} {os : List Opd} (h : PE X e (tO X.K L W o)) (hr : PA X es (tOs X.K L W os)) (hs : starEach (e :: es) X.env = (false, eval e X.env) :: starEach es X.env := by rfl) : PA X (e :: es) (tOs X.K L W (o :: os)) := pa_cons h hr hs
inductive KnL (σ : Sig) (G : Hp) : List V → List Opd → List (Option D) → Prop
  | nil : KnL σ G [] [] []
  | cons {v vs o os p ps} : Kn σ G v o p → KnL σ G vs os ps → KnL σ G (v :: vs) (o :: os) (p :: ps)
theorem KnL.mono {σ : Sig} {G G' : Hp} (s : Sub G G') : ∀ {vs os ps}, KnL σ G vs os ps → KnL σ G' vs os ps
  | _, _, _, .nil => .nil
  | _, _, _, .cons k t => .cons (k.mono s) (KnL.mono s t)
inductive BorL (G H : Hp) : List V → List D → Prop
  | nil : BorL G H [] []
  | cons {v vs d ds} : Bor G H v d → BorL G H vs ds → BorL G H (v :: vs) (d :: ds)
theorem KnL.bor {σ : Sig} {G H : Hp} {η : Env} {Fs : Feet} (R : Rel L G η σ H Fs) : ∀ {vs os ps ds}, KnL σ G vs os ps → S.finL os ps η = some ds → BorL G H vs ds
  | _, _, _, _, .nil, e => by cases e; exact .nil
  | _, _, _, ds, .cons (o := o) (os := os) (p := p) (ps := ps) k t, e => by
    have e : (o.fin p η).bind (fun d => (S.finL os ps η).bind fun ds => some (d :: ds)) = some ds := e
    cases h1 : o.fin p η with
    | none => rw [h1] at e; cases e
    | some d =>
      rw [h1] at e
      have e : (S.finL os ps η).bind (fun ds => some (d :: ds)) = some ds := e
      cases h2 : S.finL os ps η with
      | none => rw [h2] at e; cases e
      | some ds' => rw [h2] at e; cases e; exact .cons (k.bor R h1) (KnL.bor R t h2)
theorem KnL.rep {σ : Sig} {G H : Hp} {η : Env} {Fs : Feet} (R : Rel L G η σ H Fs) : ∀ {vs os ps ds}, KnL σ G vs os ps → S.deepL os ps η = some ds → RepL H vs ds
  | _, _, _, _, .nil, e => by cases e; exact .nil
  | _, _, _, ds, .cons (o := o) (os := os) (p := p) (ps := ps) k t, e => by
    have e : (o.deep p η).bind (fun d => (S.deepL os ps η).bind fun ds => some (d :: ds)) = some ds := e
    cases h1 : o.deep p η with
    | none => rw [h1] at e; cases e
    | some d =>
      rw [h1] at e
      have e : (S.deepL os ps η).bind (fun ds => some (d :: ds)) = some ds := e
      cases h2 : S.deepL os ps η with
      | none => rw [h2] at e; cases e
      | some ds' => rw [h2] at e; cases e; exact .cons (k.rep R h1) (KnL.rep R t h2)
theorem tOs_use {β : Type} {σ : Sig} {P : β → Env → Hp → Hp → Feet → Prop} {K : PySem.W.Frag} : ∀ {os : List Opd} {f : List (Option D) → Env → Out β} {Q : List V → Hp → Prop} {G H : Hp} {η : Env} {Fs : Feet} (R : Rel L G η σ H Fs) (h : Res K L W σ G H Fs P ((S.preL os η).bind f))
    (k : ∀ vs ps η1 G1 H1 Fs1, Rel L G1 η1 σ H1 Fs1 → Ext G H Fs G1 H1 Fs1 → KnL σ G1 vs os ps → Res K L W σ G1 H1 Fs1 P (f ps η1) → Q vs H1), tOs K L W os σ H Q
  | [], f, Q, G, H, η, Fs, R, h, k => k [] [] η G H Fs R Ext.refl .nil h
  | o :: os, f, Q, G, H, η, Fs, R, h, k => by
    have e : (S.preL (o :: os) η).bind f = (o.pre η).bind fun p η1 => (S.preL os η1).bind fun ps η2 => f (p :: ps) η2 := by
      show ((o.pre η).bind fun p η1 => (S.preL os η1).bind fun ps η2 => .ok (p :: ps) η2).bind f = _
      cases o.pre η with
      | bad => rfl
      | exc c η' => rfl
      | ok p η1 =>
        show ((S.preL os η1).bind fun ps η2 => .ok (p :: ps) η2).bind f = (S.preL os η1).bind fun ps η2 => f (p :: ps) η2
        cases S.preL os η1 <;> rfl
    rw [e] at h
    refine tO_use R h fun v p η1 G1 H1 Fs1 R1 E1 k1 q1 => ?_
    refine tOs_use R1 q1 fun vs ps η2 G2 H2 Fs2 R2 E2 k2 q2 => ?_
    exact k (v :: vs) (p :: ps) η2 G2 H2 Fs2 R2 (E1.trans E2) (.cons (k1.mono E2.g.sub) k2) q2
/-- what the rule asks is given by the meaning -/
def CallF (r : List V → Hp → VK → Prop) (g : List D → Option (Nat × D)) : Prop :=
  ∀ (G H : Hp) (vs : List V) (ds : List D) (k : Nat) (d : D) (Q : VK), Sub G H → BorL G H vs ds → g ds = some (k, d) → Fin2 G H k d Q → r vs H Q
def CallD (r : List V → Hp → VK → Prop) (g : List D → Option D) : Prop :=
  ∀ (H : Hp) (vs : List V) (ds : List D) (d : D) (Q : VK), RepL H vs ds → g ds = some d → (∀ u, (∀ G, Rep G u d) → Q u H) → r vs H Q
theorem jf_callR {r : List V → Hp → VK → Prop} {g : List D → Option (Nat × D)} {os : List Opd} (hs : CallF r g) (h : PE X e (tCB r (tOs X.K L W os))) : PE X e (tF X.K L W (S.fn g os)) := by
  refine PE.imp h fun σ H Q ⟨G, η, Fs, R, q⟩ => ?_
  refine tOs_use R q fun vs ps η1 G1 H1 Fs1 R1 E1 k1 q1 => ?_
  obtain ⟨⟨k, d⟩, e, q3⟩ := q1.lift
  cases hx : S.finL os ps η1 with
  | none => rw [hx] at e; cases e
  | some ds =>
    rw [hx] at e
    refine hs G1 H1 vs ds k d Q R1.sub (k1.bor R1 hx) e (fin_tF (P := fun _ _ _ _ _ => True) R1 fun G' H' Fs' R' E' u F x o => ?_)
    exact q3 G' H' Fs' R' E' u F x fun a ha => .inr (E1.noneOf (o a ha))
theorem je_callD {r : List V → Hp → VK → Prop} {g : List D → Option D} {os : List Opd} (hs : CallD r g) (h : PE X e (tCB r (tOs X.K L W os))) : PE X e (tE X.K L W (S.fnd g os)) := by
  refine PE.imp h fun σ H Q ⟨G, η, Fs, R, q⟩ => ?_
  refine tOs_use R q fun vs ps η1 G1 H1 Fs1 R1 E1 k1 q1 => ?_
  obtain ⟨d, e, q3⟩ := q1.lift
  cases hx : S.deepL os ps η1 with
  | none => rw [hx] at e; cases e
  | some ds =>
    rw [hx] at e
    exact hs H1 vs ds d Q (k1.rep R1 hx) e fun u ru => q3 G1 H1 Fs1 R1 Ext.refl u (ru G1)
end
end DV

/-! DV7: statements, targets, loops. -/
namespace DV
open PySem PySem.Spec PyProof.Rows L2

/-- a value without lists and dicts -/
def flatD : D → Bool
  | .tup ds => flatL ds
  | .lst _ => false
  | .dK _ => false
  | .dT _ => false
  | _ => true
where flatL : List D → Bool
  | [] => true
  | d :: ds => flatD d && flatL ds

namespace S
def pass : SS := fun η => .ok .nx η
def brk : SS := fun η => .ok .bk η
def cnt : SS := fun η => .ok .ct η
def flowThen (fl : Flow) (g : SS) (η : Env) : Out Flow := match fl with
  | .nx => g η
  | f => .ok f η
def seq (f g : SS) : SS := fun η => (f η).bind fun fl η1 => flowThen fl g η1
/-- what slot i may take: it isn't lent -/
def stores (i : Nat) (η : Env) : Bool := match η[i]? with
  | some (.val _ true _) => false
  | some _ => true
  | none => false
def asg (i : Nat) (f : SF) : SS := fun η => (f η).bind fun p η1 => if stores i η1 = true then .ok .nx (η1.set i (.val p.1 false p.2)) else .bad
def drop (f : SE) : SS := fun η => (f η).bind fun _ η1 => .ok .nx η1
def ret (f : SF) : SS := fun η => (f η).bind fun p η1 => .ok (.rt p.1 p.2) η1
def retN : SS := fun η => .ok (.rt 0 .non) η
def ifs (t : ST) (a b : SS) : SS := fun η => (t η).bind fun x η1 => if x = true then a η1 else b η1
def raise (c : Str) : SS := fun η => .exc c η
def name (i : Nat) : SG := fun d η => if stores i η = true then .ok () (η.set i (.val 0 false d)) else .bad
def names : List SG → List D → Env → Out Unit
  | [], [], η => .ok () η
  | g :: gs, d :: ds, η => (g d η).bind fun _ η1 => names gs ds η1
  | _, _, _ => .bad
def gtup (gs : List SG) : SG := fun d η => match d with
  | .tup ds => names gs ds η
  | _ => .bad
def asgG (f : SE) (g : SG) : SS := fun η => (f η).bind fun d η1 => match g d η1 with
  | .ok _ η2 => .ok .nx η2
  | _ => .bad
/-- a, b = x, y -/
def par (is : List Nat) (r : Env → Out (List D)) : SS := fun η => (r η).bind fun ds η1 => match names (is.map name) ds η1 with
  | .ok _ η2 => .ok .nx η2
  | _ => .bad
def forL (g : SG) (body : SS) : List D → Env → Out Flow
  | [], η => .ok .nx η
  | d :: ds, η => match g d η with
    | .ok _ η1 => (body η1).bind fun fl η2 => match fl with
      | .nx => forL g body ds η2
      | .ct => forL g body ds η2
      | .bk => .ok .nx η2
      | .rt k d => .ok (.rt k d) η2
    | _ => .bad
def fors (it : SI) (g : SG) (body : SS) : SS := fun η => (it η).bind fun ds η1 => forL g body ds η1
def whileN (t : ST) (body : SS) : Nat → Env → Option (Out Flow)
  | 0, _ => none
  | n + 1, η => match t η with
    | .bad => some .bad
    | .exc c η1 => some (.exc c η1)
    | .ok false η1 => some (.ok .nx η1)
    | .ok true η1 => match body η1 with
      | .bad => some .bad
      | .exc c η2 => some (.exc c η2)
      | .ok .nx η2 => whileN t body n η2
      | .ok .ct η2 => whileN t body n η2
      | .ok .bk η2 => some (.ok .nx η2)
      | .ok (.rt k d) η2 => some (.ok (.rt k d) η2)
open Classical in
noncomputable def whl (t : ST) (body : SS) : SS := fun η => if h : ∃ o n, whileN t body n η = some o then h.choose else .bad
theorem whileN_mono {t : ST} {body : SS} : ∀ {n : Nat} {η : Env} {o : Out Flow}, whileN t body n η = some o → ∀ m, n ≤ m → whileN t body m η = some o
  | 0, _, _, h, _, _ => by cases h
  | n + 1, η, o, h, 0, hm => by omega
  | n + 1, η, o, h, m + 1, hm => by
    unfold whileN at h ⊢
    split at h
    · exact h
    · exact h
    · exact h
    · split at h
      · exact h
      · exact h
      · exact whileN_mono h m (by omega)
      · exact whileN_mono h m (by omega)
      · exact h
      · exact h
theorem whl_of {t : ST} {body : SS} {n : Nat} {η : Env} {o : Out Flow} (h : whileN t body n η = some o) : whl t body η = o := by
  have hx : ∃ o n, whileN t body n η = some o := ⟨o, n, h⟩
  unfold whl
  rw [dif_pos hx]
  obtain ⟨m, hm⟩ := hx.choose_spec
  have h1 := whileN_mono h (max n m) (Nat.le_max_left _ _)
  have h2 := whileN_mono hm (max n m) (Nat.le_max_right _ _)
  rw [h1] at h2
  exact (Option.some.inj h2).symm
theorem whl_ex {t : ST} {body : SS} {η : Env} (h : whl t body η ≠ .bad) : ∃ n, whileN t body n η = some (whl t body η) := by
  by_cases hx : ∃ o n, whileN t body n η = some o
  · have e : whl t body η = hx.choose := by unfold whl; rw [dif_pos hx]
    obtain ⟨n, hn⟩ := hx.choose_spec
    exact ⟨n, by rw [e]; exact hn⟩
  · exact absurd (by unfold whl; rw [dif_neg hx]) h
/-- what is walked: a list, a tuple -/
def seqOf : D → Option (List D)
  | .lst ds => some ds
  | .tup ds => some ds
  | _ => none
def items (f : SE) : SI := fun η => (f η).bind fun d η1 => lift (seqOf d) η1
def rangeL (lo : Int) (n : Nat) : List D := (List.range n).map fun (i : Nat) => D.int (lo + i)
def range1 (f : SE) : SI := fun η => (f η).bind fun d η1 => match d with
  | .int j => if -(2 ^ 62) ≤ j ∧ j < 2 ^ 62 then .ok (rangeL 0 j.toNat) η1 else .bad
  | _ => .bad
def range2 (f g : SE) : SI := fun η => (f η).bind fun d η1 => (g η1).bind fun e η2 => match d, e with
  | .int i, .int j => if -(2 ^ 62) ≤ i ∧ i < 2 ^ 62 ∧ -(2 ^ 62) ≤ j ∧ j < 2 ^ 62 then .ok (rangeL i (j - i).toNat) η2 else .bad
  | _, _ => .bad
end S

section
variable {K : PySem.W.Frag} {L : Lents} {W : WX} {α β : Type} {G H G' H' : Hp} {η η' : Env} {Fs Fs' : Feet} {σ : Sig}
/-- what an outcome of a statement is to reach -/
def ResS (K : PySem.W.Frag) (L : Lents) (W : WX) (D : Ends) (G H : Hp) (Fs : Feet) : Out Flow → Prop
  | .ok .nx η' => ∀ σ' G' H' Fs', Rel L G' η' σ' H' Fs' → Ext G H Fs G' H' Fs' → D.nx σ' H'
  | .ok .bk η' => ∀ σ' G' H' Fs', Rel L G' η' σ' H' Fs' → Ext G H Fs G' H' Fs' → D.bk σ' H'
  | .ok .ct η' => ∀ σ' G' H' Fs', Rel L G' η' σ' H' Fs' → Ext G H Fs G' H' Fs' → D.ct σ' H'
  | .ok (.rt k d) η' => ∀ σ' G' H' Fs' v F, Rel L G' η' σ' H' Fs' → Ext G H Fs G' H' Fs' → Apart G' H' Fs' k v d F → (∀ a ∈ F, foot Fs a ∨ H a = none) → D.rt v H'
  | .exc c η' => ∀ σ' G' H' Fs', Rel L G' η' σ' H' Fs' → Ext G H Fs G' H' Fs' → W (.ref (He.ga K c)) none σ' H'
  | .bad => False
theorem ResS.later {D : Ends} {o : Out Flow} (h : ResS K L W D G H Fs o) (E : Ext G H Fs G' H' Fs') : ResS K L W D G' H' Fs' o := by
  cases o with
  | ok fl η1 =>
    cases fl with
    | nx => exact fun σ2 G2 H2 Fs2 R2 E2 => h σ2 G2 H2 Fs2 R2 (E.trans E2)
    | bk => exact fun σ2 G2 H2 Fs2 R2 E2 => h σ2 G2 H2 Fs2 R2 (E.trans E2)
    | ct => exact fun σ2 G2 H2 Fs2 R2 E2 => h σ2 G2 H2 Fs2 R2 (E.trans E2)
    | rt k d => exact fun σ2 G2 H2 Fs2 v F R2 E2 x o => h σ2 G2 H2 Fs2 v F R2 (E.trans E2) x fun a ha => (o a ha).elim (E.f a) fun z => .inr (E.noneOf z)
  | exc c η1 => exact fun σ2 G2 H2 Fs2 R2 E2 => h σ2 G2 H2 Fs2 R2 (E.trans E2)
  | bad => exact h
theorem ResS.bind {D : Ends} {o : Out α} {f : α → Env → Out Flow} (h : ResS K L W D G H Fs (o.bind f)) :
    Res K L W σ G H Fs (fun a η1 G1 H1 Fs1 => ResS K L W D G1 H1 Fs1 (f a η1)) o := by
  cases o with
  | ok a η1 => exact fun G1 H1 Fs1 R1 E1 => ResS.later (show ResS K L W D G H Fs (f a η1) from h) E1
  | exc c η1 => exact fun G1 H1 Fs1 R1 E1 => h σ G1 H1 Fs1 R1 E1
  | bad => exact h
/-- the end of a first statement; what stands behind goes on -/
theorem ResS.seq {D D' : Ends} {f : SS} {g : SS} (h : ResS K L W D G H Fs (S.seq f g η)) (nx : ∀ σ' G' H' Fs' η', Rel L G' η' σ' H' Fs' → ResS K L W D G' H' Fs' (g η') → D'.nx σ' H') (rt : ∀ v H, D.rt v H → D'.rt v H)
    (bk : ∀ σ H, D.bk σ H → D'.bk σ H) (ct : ∀ σ H, D.ct σ H → D'.ct σ H) : ResS K L W D' G H Fs (f η) := by
  unfold S.seq at h
  cases e : f η with
  | bad => rw [e] at h; exact h
  | exc c η1 => rw [e] at h; exact h
  | ok fl η1 =>
    rw [e] at h
    cases fl with
    | nx => exact fun σ1 G1 H1 Fs1 R1 E1 => nx σ1 G1 H1 Fs1 η1 R1 (ResS.later h E1)
    | bk => exact fun σ1 G1 H1 Fs1 R1 E1 => bk σ1 H1 (h σ1 G1 H1 Fs1 R1 E1)
    | ct => exact fun σ1 G1 H1 Fs1 R1 E1 => ct σ1 H1 (h σ1 G1 H1 Fs1 R1 E1)
    | rt k d => exact fun σ1 G1 H1 Fs1 v F R1 E1 x o => rt v H1 (h σ1 G1 H1 Fs1 v F R1 E1 x o)
def tS (K : PySem.W.Frag) (L : Lents) (W : WX) (f : SS) : TS := fun D σ H => ∃ G η Fs, Rel L G η σ H Fs ∧ ResS K L W D G H Fs (f η)
/-- a target: a frozen value is given -/
def tG (L : Lents) (g : SG) : TG := fun v σ H Q => ∃ G η Fs d η', Rel L G η σ H Fs ∧ Rep G v d ∧ g d η = .ok () η' ∧ ∀ σ' G' H' Fs', Rel L G' η' σ' H' Fs' → Ext G H Fs G' H' Fs' → Q σ' H'
theorem Rel.stored (R : Rel L G η σ H Fs) {i k : Nat} {v : V} {d : D} {F : List Addr} (x : Apart G H Fs k v d F) (s : S.stores i η = true) (o : ∀ a ∈ F, foot Fs a ∨ H a = none ∨ True) :
    ∃ Fs', Rel L G (η.set i (.val k false d)) (σ.set i (some v)) H Fs' ∧ ∀ a, foot Fs' a → a ∈ F ∨ foot Fs a := by
  unfold S.stores at s
  have nl : ∀ k d, η[i]? ≠ some (.val k true d) := fun k d z => by rw [z] at s; cases s
  have hi : i < η.length := by
    cases q : η[i]? with
    | none => rw [q] at s; cases s
    | some sl => exact (List.getElem?_eq_some_iff.mp q).1
  have R1 := R.forget nl
  have x1 : Apart G H (setF Fs i []) k v d F := ⟨x.own, x.nod, x.dis, fun a ha z => by
    rcases foot_setF z with z | ⟨j, _, z⟩
    · simp at z
    · exact x.sep a ha ⟨j, z⟩⟩
  have R2 := R1.put (i := i) x1 (by rw [List.length_set]; exact hi) (get_set_self hi)
  rw [show (η.set i .no).set i (.val k false d) = η.set i (.val k false d) from List.set_set ..] at R2
  refine ⟨_, R2, fun a z => ?_⟩
  rcases foot_setF z with z | ⟨j, hj, z⟩
  · exact .inl z
  · rw [setF_ne hj] at z; exact .inr ⟨j, z⟩
theorem Ext.feet {Fs1 Fs2 : Feet} (E : Ext G H Fs G' H' Fs1) (f : ∀ a, foot Fs2 a → foot Fs a ∨ H a = none) : Ext G H Fs G' H' Fs2 := ⟨E.g, E.h, E.n, f, E.d⟩
end

section
variable {X : Cx} {L : Lents} {W : WX} {e a b c : Expr} {es : List Expr} {pos : Pos} {st : Stmt} {rest ss ss' : List Stmt}
theorem PS.imp {t t' : TS} (h : PS X st t) (i : ∀ D σ H, t' D σ H → t D σ H) : PS X st t' := ⟨fun pins s σ H D I q => h.run pins s σ H D I (i D σ H q)⟩
theorem PSs.imp {t t' : TS} (h : PSs X ss t) (i : ∀ D σ H, t' D σ H → t D σ H) : PSs X ss t' := ⟨fun pins s σ H D I q => h.run pins s σ H D I (i D σ H q)⟩
theorem PG.imp {tg : Expr} {t t' : TG} (h : PG X tg t) (i : ∀ v σ H Q, t' v σ H Q → t v σ H Q) : PG X tg t' := ⟨fun pins s σ H v u Q I r q => h.run pins s σ H v u Q I r (i v σ H Q q)⟩
theorem js_nil : PSs X [] (tS X.K L W S.pass) := PSs.imp pss_nil fun D σ H ⟨G, η, Fs, R, q⟩ => q σ G H Fs R Ext.refl
theorem js_cons {f g : SS} (h : PS X st (tS X.K L W f)) (hr : PSs X rest (tS X.K L W g)) : PSs X (st :: rest) (tS X.K L W (S.seq f g)) :=
  PSs.imp (pss_cons h hr) fun D σ H ⟨G, η, Fs, R, q⟩ => ⟨G, η, Fs, R, q.seq (fun σ' G' H' Fs' η' R' q' => ⟨G', η', Fs', R', q'⟩) (fun _ _ z => z) (fun _ _ z => z) fun _ _ z => z⟩
theorem js_one {f : SS} (h : PS X st (tS X.K L W f)) : PSs X [st] (tS X.K L W f) := pss_one h
theorem js_pass : PS X (.Pass pos) (tS X.K L W S.pass) := PS.imp ps_pass fun D σ H ⟨G, η, Fs, R, q⟩ => q σ G H Fs R Ext.refl
theorem js_brk : PS X (.Break pos) (tS X.K L W S.brk) := PS.imp ps_break fun D σ H ⟨G, η, Fs, R, q⟩ => q σ G H Fs R Ext.refl
theorem js_cnt : PS X (.Continue pos) (tS X.K L W S.cnt) := PS.imp ps_continue fun D σ H ⟨G, η, Fs, R, q⟩ => q σ G H Fs R Ext.refl
theorem js_expr {f : SE} (h : PE X e (tE X.K L W f)) (hs : swapsWith e none pos.line X.env = pure false := by rfl) : PS X (.Expr e pos) (tS X.K L W (S.drop f)) :=
  PS.imp (ps_expr h hs) fun D σ H ⟨G, η, Fs, R, q⟩ => ⟨G, η, Fs, R, (ResS.bind q).mono fun d η1 G1 H1 Fs1 R1 E1 q1 v rv => q1 σ G1 H1 Fs1 R1 Ext.refl⟩
theorem js_ret {f : SF} (h : PE X e (tF X.K L W f)) : PS X (.Return (some e) pos) (tS X.K L W (S.ret f)) :=
  PS.imp (ps_ret h) fun D σ H ⟨G, η, Fs, R, q⟩ => ⟨G, η, Fs, R, by
    unfold S.ret at q
    cases z : f η with
    | bad => rw [z] at q; exact q
    | exc c η' => rw [z] at q; exact fun G1 H1 Fs1 R1 E1 => q σ G1 H1 Fs1 R1 E1
    | ok p η1 => rw [z] at q; exact fun G1 H1 Fs1 R1 E1 v F x o => q σ G1 H1 Fs1 v F R1 E1 x o⟩
theorem js_retN : PS X (.Return none pos) (tS X.K L W S.retN) := PS.imp ps_retN fun D σ H ⟨G, η, Fs, R, q⟩ => q σ G H Fs .non [] R Ext.refl (Apart.zero .non) fun a z => by simp at z
theorem js_if {t : ST} {f g : SS} (ht : PT X c (tT X.K L W t)) (ha : PSs X ss (tS X.K L W f)) (hb : PSs X ss' (tS X.K L W g)) : PS X (.If c ss ss' pos) (tS X.K L W (S.ifs t f g)) := by
  refine PS.imp (ps_if ht ha hb) fun D σ H ⟨G, η, Fs, R, q⟩ => ⟨G, η, Fs, R, (ResS.bind q).mono fun x η1 G1 H1 Fs1 R1 E1 q1 => ?_⟩
  cases x with
  | true => exact ⟨G1, η1, Fs1, R1, q1⟩
  | false => exact ⟨G1, η1, Fs1, R1, q1⟩
/-- x = e, x a name -/
theorem asg_use {σ : Sig} {H : Hp} {D : Ends} {i : Nat} {f : SF} (h : tS X.K L W (S.asg i f) D σ H) : tAsg (tF X.K L W f) (gName i) D σ H := by
  obtain ⟨G, η, Fs, R, q⟩ := h
  refine ⟨G, η, Fs, R, ?_⟩
  unfold S.asg at q
  cases z : f η with
  | bad => rw [z] at q; exact q
  | exc c η' => rw [z] at q; exact fun G1 H1 Fs1 R1 E1 => q σ G1 H1 Fs1 R1 E1
  | ok p η1 =>
    rw [z] at q
    intro G1 H1 Fs1 R1 E1 v F x o
    have q : ResS X.K L W D G H Fs (if S.stores i η1 = true then .ok .nx (η1.set i (.val p.1 false p.2)) else .bad) := q
    split at q
    · rename_i s
      obtain ⟨Fs2, R2, f2⟩ := R1.stored x s fun _ _ => .inr (.inr trivial)
      exact q _ G1 H1 Fs2 R2 (E1.feet fun a ha => (f2 a ha).elim (o a) (E1.f a))
    · exact q.elim
theorem js_asg {i : Nat} {x : Str} {f : SF} {pos' : Pos} (hN : X.N.Nodup) (hi : X.N[i]? = some x) (hx : Loc X.env.scope x) (h : PE X e (tF X.K L W f)) (hs : swapsWith e (some (.Name x pos')) pos.line X.env = pure false)
    (hf : X.fn x = true ∨ X.env.scope.names.lookup x = some .local) : PS X (.Assign [.Name x pos'] e pos) (tS X.K L W (S.asg i f)) :=
  PS.imp (ps_set hN hi hx h hs hf) fun D σ H q => asg_use q
/-! ### targets -/
theorem jg_name {i : Nat} {x : Str} (hN : X.N.Nodup) (hi : X.N[i]? = some x) (hx : Loc X.env.scope x) (hf : X.fn x = true ∨ X.env.scope.names.lookup x = some .local) : PG X (.Name x pos) (tG L (S.name i)) := by
  refine PG.imp (pg_name hN hi hx hf) fun v σ H Q ⟨G, η, Fs, d, η', R, r, e, q⟩ => ?_
  unfold S.name at e
  split at e <;> cases e
  rename_i s
  obtain ⟨Fs2, R2, f2⟩ := R.stored (Apart.zero r) s fun _ _ => .inr (.inr trivial)
  exact q _ G H Fs2 R2 (Ext.refl.feet fun a ha => (f2 a ha).elim (fun z => by simp at z) .inl)
def tGs (L : Lents) (gs : List SG) : TGs := fun vs σ H Q => ∃ G η Fs ds η', Rel L G η σ H Fs ∧ RepL G vs ds ∧ S.names gs ds η = .ok () η' ∧ ∀ σ' G' H' Fs', Rel L G' η' σ' H' Fs' → Ext G H Fs G' H' Fs' → Q σ' H'
theorem PGs.imp {ts : List Expr} {t t' : TGs} (h : PGs X ts t) (i : ∀ v σ H Q, t' v σ H Q → t v σ H Q) : PGs X ts t' := ⟨fun pins s σ H v u Q I r q => h.run pins s σ H v u Q I r (i v σ H Q q)⟩
theorem jgs_nil : PGs X [] (tGs L []) := PGs.imp pgs_nil fun vs σ H Q ⟨G, η, Fs, ds, η', R, r, e, q⟩ => by
  cases r with
  | nil => cases e; exact ⟨rfl, q σ G H Fs R Ext.refl⟩
  | cons _ _ => cases e
theorem jgs_cons {g : SG} {gs : List SG} (h : PG X e (tG L g)) (hr : PGs X es (tGs L gs)) (hs : (assignEach (e :: es) X.env).map (·.2) = assign e X.env :: (assignEach es X.env).map (·.2) := by rfl) : PGs X (e :: es) (tGs L (g :: gs)) := by
  refine PGs.imp (pgs_cons h hr hs) fun vs σ H Q ⟨G, η, Fs, ds, η', R, r, e, q⟩ => ?_
  cases r with
  | nil => cases e
  | @cons v vs d ds r1 r2 =>
    have e : (g d η).bind (fun _ η1 => S.names gs ds η1) = .ok () η' := e
    cases z : g d η with
    | bad => rw [z] at e; cases e
    | exc c η1 => rw [z] at e; cases e
    | ok u η1 =>
      rw [z] at e
      exact ⟨v, vs, rfl, G, η, Fs, d, η1, R, r1, z, fun σ1 G1 H1 Fs1 R1 E1 => ⟨G1, η1, Fs1, ds, η', R1, r2.mono E1.g.sub, e, fun σ2 G2 H2 Fs2 R2 E2 => q σ2 G2 H2 Fs2 R2 (E1.trans E2)⟩⟩
theorem names_len : ∀ {gs : List SG} {ds : List D} {η η' : Env}, S.names gs ds η = .ok () η' → gs.length = ds.length
  | [], [], _, _, _ => rfl
  | g :: gs, d :: ds, η, η', e => by
    have e : (g d η).bind (fun _ η1 => S.names gs ds η1) = .ok () η' := e
    cases z : g d η with
    | bad => rw [z] at e; cases e
    | exc c η1 => rw [z] at e; cases e
    | ok u η1 => rw [z] at e; rw [List.length_cons, List.length_cons, names_len e]
  | [], _ :: _, _, _, e => by cases e
  | _ :: _, [], _, _, e => by cases e
theorem jg_tup {gs : List SG} {k n : Nat} (hc : X.calm = true) (h : PGs X es (tGs L gs)) (hl : gs.length = n) (hn : (assignEach es X.env).length = n := by rfl) (hst : (assignEach es X.env).findIdx? (·.1) = none := by rfl) : PG X (.Tuple es k pos) (tG L (S.gtup gs)) := by
  refine PG.imp (pg_tup hc h hn hst) fun v σ H Q ⟨G, η, Fs, d, η', R, r, e, q⟩ => ?_
  unfold S.gtup at e
  cases d <;> first | (exact absurd e (by intro z; cases z)) | skip
  rename_i ds
  cases r with
  | tup h1 h2 => exact ⟨_, _, rfl, .of (R.sub.tp _ _ h1), by rw [h2.length, ← names_len e]; exact hl, G, η, Fs, ds, η', R, h2, e, q⟩
theorem js_asgG {tg : Expr} {f : SE} {g : SG} (h : PE X e (tE X.K L W f)) (hg : PG X tg (tG L g)) (hs : swapsWithSole [tg] e pos.line X.env = pure false := by rfl) (hw : swappedStores [tg] e X.env = pure none := by rfl)
    (h1 : (assignEach [tg] X.env).map (·.2) = [assign tg X.env] := by rfl) : PS X (.Assign [tg] e pos) (tS X.K L W (S.asgG f g)) := by
  refine PS.imp (ps_asg h hg hs hw h1) fun D σ H ⟨G, η, Fs, R, q⟩ => ⟨G, η, Fs, R, (ResS.bind q).mono fun d η1 G1 H1 Fs1 R1 E1 q1 v rv => ?_⟩
  cases z : g d η1 with
  | bad => simp only [z] at q1; exact q1.elim
  | exc c η2 => simp only [z] at q1; exact q1.elim
  | ok u η2 =>
    simp only [z] at q1
    exact ⟨G1, η1, Fs1, d, η2, R1, rv, z, fun σ2 G2 H2 Fs2 R2 E2 => q1 σ2 G2 H2 Fs2 R2 E2⟩
/-! ### while -/
theorem js_while {t : ST} {f : SS} (hp : PassesOwn (model X.prog X.w) X.A X.env X.xe) (ht : PT X c (tT X.K L W t)) (hb : PSs X ss (tS X.K L W f)) : PS X (.While c ss [] pos) (tS X.K L W (S.whl t f)) := by
  refine PS.imp (ps_while hp ht hb) fun D σ H ⟨G, η, Fs, R, q⟩ => ?_
  obtain ⟨n, hn⟩ := S.whl_ex (t := t) (body := f) (η := η) (fun z => by rw [z] at q; exact q)
  refine ⟨fun m σ H => ∃ G η Fs o, Rel L G η σ H Fs ∧ S.whileN t f m η = some o ∧ ResS X.K L W D G H Fs o, ⟨n, G, η, Fs, _, R, hn, q⟩, ?_⟩
  rintro m σ1 H1 ⟨G1, η1, Fs1, o, R1, e, q1⟩
  cases m with
  | zero => cases e
  | succ m =>
    refine ⟨G1, η1, Fs1, R1, ?_⟩
    unfold S.whileN at e
    cases z : t η1 with
    | bad => simp only [z] at e; cases e; exact q1.elim
    | exc c η2 => simp only [z] at e; cases e; exact fun G2 H2 Fs2 R2 E2 => q1 σ1 G2 H2 Fs2 R2 E2
    | ok x η2 =>
      intro G2 H2 Fs2 R2 E2
      cases x with
      | false => simp only [z] at e; cases e; exact q1 σ1 G2 H2 Fs2 R2 E2
      | true =>
        simp only [z] at e
        refine ⟨fun σ3 H3 => ∃ G η Fs o, Rel L G η σ3 H3 Fs ∧ S.whileN t f m η = some o ∧ ResS X.K L W D G H3 Fs o, fun σ' H' z => ⟨m, Nat.lt_succ_self m, z⟩, G2, η2, Fs2, R2, ?_⟩
        have q2 := q1.later E2
        cases y : f η2 with
        | bad => simp only [y] at e; cases e; exact q2.elim
        | exc c η3 => simp only [y] at e; cases e; exact q2
        | ok fl η3 =>
          cases fl with
          | nx => simp only [y] at e; exact fun σ3 G3 H3 Fs3 R3 E3 => ⟨G3, η3, Fs3, o, R3, e, q2.later E3⟩
          | ct => simp only [y] at e; exact fun σ3 G3 H3 Fs3 R3 E3 => ⟨G3, η3, Fs3, o, R3, e, q2.later E3⟩
          | bk => simp only [y] at e; cases e; exact q2
          | rt k d => simp only [y] at e; cases e; exact q2
/-! ### what is walked -/
/-- J walks the items ds, read off what is known -/
def WalksG (G : Hp) (ds : List D) (J : It) : Prop := ∀ (i : Nat) (G2 H : Hp), Le G G2 → Sub G2 H → (ds.length ≤ i → J.stop i H) ∧ (i < ds.length → J.go i H ∧ ∀ x H', J.yld i H x H' → ∃ d G', ds[i]? = some d ∧ New G2 H G' H' ∧ Rep G' x d)
/-- .. from a heap on -/
def Walks (G0 H0 : Hp) (Fs0 : Feet) (ds : List D) (J : It) : Prop := ∀ (i : Nat) (G2 H : Hp) (Fs2 : Feet), Ext G0 H0 Fs0 G2 H Fs2 → Sub G2 H → (ds.length ≤ i → J.stop i H) ∧ (i < ds.length → J.go i H ∧ ∀ x H', J.yld i H x H' → ∃ d G', ds[i]? = some d ∧ New G2 H G' H' ∧ Rep G' x d)
theorem WalksG.ext {G0 H0 : Hp} {Fs0 : Feet} {ds : List D} {J : It} (w : WalksG G0 ds J) : Walks G0 H0 Fs0 ds J := fun i G2 H Fs2 E s => w i G2 H E.g s
def tI (K : PySem.W.Frag) (L : Lents) (W : WX) (f : SI) : TI := fun σ H R => ∃ G η Fs, Rel L G η σ H Fs ∧ Res K L W σ G H Fs (fun ds _ G' H' Fs' => ∀ J, Walks G' H' Fs' ds J → R J H') (f η)
theorem PI.imp {tg it : Expr} {t t' : TI} (h : PI X tg it t) (i : ∀ σ H R, t' σ H R → t σ H R) : PI X tg it t' := ⟨fun pins s σ H R I q => h.run pins s σ H R I (i σ H R q)⟩
theorem walks_list {K : PySem.W.Frag} {G : Hp} {a : Addr} {xs : List V} {ds : List D} (h : Rd G a (.lst xs)) (r : RepL G xs ds) : WalksG G ds (Itl K a) := by
  intro i G2 H g s
  have q : SqL K H a xs := .inl (s.rd _ _ (g.sub.rd _ _ h))
  refine ⟨fun hi => ⟨xs, q, by rw [r.length]; exact hi⟩, fun hi => ?_⟩
  have hx : i < xs.length := by rw [r.length]; exact hi
  refine ⟨⟨xs, xs[i], q, by simp [hx]⟩, fun x H' ⟨e, y⟩ => ?_⟩
  subst e
  obtain ⟨d, e1, r1⟩ := r.getV (y xs q)
  exact ⟨d, G2, e1, New.refl s, r1.mono g.sub⟩
theorem walks_tup {K : PySem.W.Frag} {G : Hp} {a : Addr} {xs : List V} {ds : List D} (h : G a = some (.tup xs)) (r : RepL G xs ds) : WalksG G ds (Itt K a) := by
  intro i G2 H g s
  have q : SqT K H a xs := .of (s.tp _ _ (g a _ h))
  refine ⟨fun hi => ⟨xs, q, by rw [r.length]; exact hi⟩, fun hi => ?_⟩
  have hx : i < xs.length := by rw [r.length]; exact hi
  refine ⟨⟨xs, xs[i], q, by simp [hx]⟩, fun x H' ⟨e, y⟩ => ?_⟩
  subst e
  obtain ⟨d, e1, r1⟩ := r.getV (y xs q)
  exact ⟨d, G2, e1, New.refl s, r1.mono g.sub⟩
theorem walks_range {G : Hp} {lo : Int} {n : Nat} : WalksG G (S.rangeL lo n) (Itr lo n) := by
  intro i G2 H g s
  have hl : (S.rangeL lo n).length = n := by unfold S.rangeL; simp
  refine ⟨fun hi => by rw [hl] at hi; exact hi, fun hi => ⟨by rw [hl] at hi; exact hi, fun x H' ⟨e, y⟩ => ?_⟩⟩
  subst e; subst y
  rw [hl] at hi
  exact ⟨.int (lo + i), G2, by unfold S.rangeL; simp [hi], New.refl s, .int _⟩
end
end DV

/-! DV8: defs and their calls. -/
namespace DV
open PySem PySem.Spec PyProof.Rows L2

/-- what a def's call comes to; back: the lent parameters' slots behind it -/
inductive FOut where
  | ok (k : Nat) (d : D) (back : Env)
  | exc (c : Str) (back : Env)
  | bad
abbrev FnSem := List (Nat × D) → FOut
namespace S
def mkEnv (args : List (Nat × D)) (io : List Bool) : Env := List.zipWith (fun a l => Slot.val a.1 l a.2) args io
def back (io : List Bool) (η : Env) : Env := List.zipWith (fun l s => if l = true then s else Slot.no) io η
/-- n: how many slots -/
def run (body : SS) (n : Nat) (io : List Bool) : FnSem := fun args =>
  if args.length = io.length then match body (mkEnv args io ++ List.replicate (n - args.length) Slot.no) with
    | .ok (.rt k d) η => .ok k d (back io η)
    | .ok .nx η => .ok 0 .non (back io η)
    | .exc c η => .exc c (back io η)
    | _ => .bad
  else .bad
/-- an argument: a frozen value, or a slot that is lent -/
inductive Arg where
  | ex (f : SE)
  | lend (j : Nat)
def Arg.isLend : Arg → Bool
  | .ex _ => false
  | .lend _ => true
def preA : List Arg → Env → Out (List (Option D))
  | [], η => .ok [] η
  | .ex f :: as, η => (f η).bind fun d η1 => (preA as η1).bind fun ps η2 => .ok (some d :: ps) η2
  | .lend j :: as, η => match η[j]? with
    | some (.val _ _ _) => (preA as η).bind fun ps η2 => .ok (none :: ps) η2
    | _ => .bad
def finA : List Arg → List (Option D) → Env → Option (List (Nat × D))
  | [], _, _ => some []
  | .ex _ :: as, some d :: ps, η => (finA as ps η).map ((0, d) :: ·)
  | .lend j :: as, _ :: ps, η => match η[j]? with
    | some (.val k _ d) => (finA as ps η).map ((k, d) :: ·)
    | _ => none
  | _ :: _, _, _ => none
def putBack : List Arg → Env → Env → Option Env
  | [], _, η => some η
  | .ex _ :: as, _ :: bk, η => putBack as bk η
  | .lend j :: as, .val k _ d :: bk, η => match η[j]? with
    | some (.val _ l _) => putBack as bk (η.set j (.val k l d))
    | _ => none
  | _ :: _, _, _ => none
def call (F : FnSem) (as : List Arg) : SF := fun η => (preA as η).bind fun ps η1 => match finA as ps η1 with
  | none => .bad
  | some xs => match F xs with
    | .ok k d bk => (match putBack as bk η1 with
      | some η2 => .ok (k, d) η2
      | none => .bad)
    | .exc c bk => (match putBack as bk η1 with
      | some η2 => .exc c η2
      | none => .bad)
    | .bad => .bad
end S

def lentsAt : Nat → List Bool → List V → List (Nat × V)
  | _, [], _ => []
  | _, _, [] => []
  | n, true :: io, v :: vs => (n, v) :: lentsAt (n + 1) io vs
  | n, false :: io, _ :: vs => lentsAt (n + 1) io vs
theorem lentsAt_mem : ∀ {n : Nat} {io : List Bool} {vs : List V} {p : Nat × V}, p ∈ lentsAt n io vs ↔ ∃ i, p.1 = n + i ∧ io[i]? = some true ∧ vs[i]? = some p.2
  | n, [], vs, p => by simp [lentsAt]
  | n, b :: io, [], p => by cases b <;> simp [lentsAt]
  | n, true :: io, v :: vs, p => by
    rw [lentsAt, List.mem_cons, lentsAt_mem]
    constructor
    · rintro (e | ⟨i, h1, h2, h3⟩)
      · subst e; exact ⟨0, rfl, rfl, rfl⟩
      · exact ⟨i + 1, by omega, by simpa using h2, by simpa using h3⟩
    · rintro ⟨i, h1, h2, h3⟩
      cases i with
      | zero => left; simp at h3; obtain ⟨a, b⟩ := p; simp at h1 h3; subst h1; subst h3; rfl
      | succ i => right; exact ⟨i, by omega, by simpa using h2, by simpa using h3⟩
  | n, false :: io, v :: vs, p => by
    rw [lentsAt, lentsAt_mem]
    constructor
    · rintro ⟨i, h1, h2, h3⟩
      exact ⟨i + 1, by omega, by simpa using h2, by simpa using h3⟩
    · rintro ⟨i, h1, h2, h3⟩
      cases i with
      | zero => simp at h2
      | succ i => exact ⟨i, by omega, by simpa using h2, by simpa using h3⟩

/-- a def's promise -/
def spF (K : PySem.W.Frag) (F : FnSem) (io : List Bool) : Sp := fun vs H Q E => vs.length = io.length ∧ ∃ G args Fs, args.length = io.length ∧ Rel (io.length, lentsAt 0 io vs) G (S.mkEnv args io) (vs.map some) H Fs ∧
  match F args with
  | .ok k d bk => ∀ G' H' Fs' v F, Rel (io.length, lentsAt 0 io vs) G' bk (vs.map some) H' Fs' → Ext G H Fs G' H' Fs' → Apart G' H' Fs' k v d F → (∀ a ∈ F, foot Fs a ∨ H a = none) → Q v H'
  | .exc c bk => ∀ G' H' Fs', Rel (io.length, lentsAt 0 io vs) G' bk (vs.map some) H' Fs' → Ext G H Fs G' H' Fs' → E (.ref (He.ga K c)) none H'
  | .bad => False

section
variable {L : Lents} {G H G' H' : Hp} {η : Env} {σ : Sig} {Fs Fs' : Feet}
/-- slots of which nothing is known are added -/
theorem Rel.pad (R : Rel L G η σ H Fs) (n : Nat) : Rel (L.1 + n, L.2) G (η ++ List.replicate n .no) (σ ++ List.replicate n none) H Fs := by
  have get : ∀ i k l d, (η ++ List.replicate n Slot.no)[i]? = some (Slot.val k l d) → η[i]? = some (Slot.val k l d) := fun i k l d e => by
    by_cases hi : i < η.length
    · rw [List.getElem?_append_left hi] at e; exact e
    · rw [List.getElem?_append_right (by omega)] at e
      obtain ⟨h1, h2⟩ := List.getElem?_eq_some_iff.mp e
      simp at h2
  have getσ : ∀ i v, σ[i]? = some (some v) → (σ ++ List.replicate n none)[i]? = some (some v) := fun i v e => by
    rw [List.getElem?_append_left (List.getElem?_eq_some_iff.mp e).1]; exact e
  refine ⟨R.sub, by simp [R.len], by simp [R.wid], fun i k l d e => ?_, fun i e => ?_, R.nod, R.dis, R.sep, fun p hp => ?_⟩
  · obtain ⟨v, h1, h2, h3⟩ := R.slot i k l d (get i k l d e)
    exact ⟨v, getσ i v h1, h2, h3⟩
  · exact R.emp i fun k l d z => e k l d (by rw [List.getElem?_append_left (List.getElem?_eq_some_iff.mp z).1]; exact z)
  · obtain ⟨k, d, z1, z2⟩ := R.lnt p hp
    exact ⟨k, d, by rw [List.getElem?_append_left (List.getElem?_eq_some_iff.mp z1).1]; exact z1, getσ _ _ z2⟩
theorem back_get {io : List Bool} {η : Env} {i k : Nat} {l : Bool} {d : D} : (S.back io η)[i]? = some (Slot.val k l d) ↔ io[i]? = some true ∧ η[i]? = some (Slot.val k l d) := by
  unfold S.back
  rw [List.getElem?_zipWith]
  cases h1 : io[i]? with
  | none => simp
  | some b =>
    cases h2 : η[i]? with
    | none => simp
    | some s => cases b <;> simp
/-- at a def's end: the lent slots alone -/
theorem Rel.toBack {io : List Bool} {vs : List V} {n : Nat} (R : Rel (n, lentsAt 0 io vs) G η σ H Fs) (hv : vs.length = io.length) (hl : io.length ≤ n) :
    ∃ Fs', Rel (io.length, lentsAt 0 io vs) G (S.back io η) (vs.map some) H Fs' ∧ ∀ a, foot Fs' a → foot Fs a := by
  have hlen : (S.back io η).length = io.length := by unfold S.back; rw [List.length_zipWith, R.wid]; omega
  refine ⟨fun i => if io[i]? = some true then Fs i else [], ⟨R.sub, by rw [hlen, List.length_map, hv], hlen, fun i k l d e => ?_, fun i e => ?_, fun i => ?_, fun i a h => ?_, fun i j a h h' => ?_, fun p hp => ?_⟩, fun a ⟨i, h⟩ => ?_⟩
  · obtain ⟨h1, h2⟩ := back_get.mp e
    obtain ⟨v, z1, z2, z3⟩ := R.slot i k l d h2
    have hi : i < vs.length := by rw [hv]; exact (List.getElem?_eq_some_iff.mp h1).1
    obtain ⟨k', d', y1, y2⟩ := R.lnt (i, vs[i]) (lentsAt_mem.mpr ⟨i, by simp, h1, by simp [hi]⟩)
    rw [z1] at y2
    have ev : v = vs[i] := by injection y2 with y2; injection y2
    rw [h2] at y1
    refine ⟨v, by rw [ev]; simp [hi], by rw [if_pos h1]; exact z2, fun hl' => z3 hl'⟩
  · by_cases h1 : io[i]? = some true
    · rw [if_pos h1]
      exact R.emp i fun k l d z => e k l d (back_get.mpr ⟨h1, z⟩)
    · rw [if_neg h1]
  · by_cases h1 : io[i]? = some true
    · simp only [if_pos h1]; exact R.nod i
    · simp only [if_neg h1]; exact List.nodup_nil
  · by_cases h1 : io[i]? = some true
    · simp only [if_pos h1] at h; exact R.dis i a h
    · simp only [if_neg h1] at h; simp at h
  · by_cases h1 : io[i]? = some true
    · by_cases h2 : io[j]? = some true
      · simp only [if_pos h1] at h; simp only [if_pos h2] at h'; exact R.sep i j a h h'
      · simp only [if_neg h2] at h'; simp at h'
    · simp only [if_neg h1] at h; simp at h
  · obtain ⟨i, h1, h2, h3⟩ := lentsAt_mem.mp hp
    have e : p.1 = i := by omega
    obtain ⟨k, d, y1, y2⟩ := R.lnt p hp
    refine ⟨k, d, back_get.mpr ⟨by rw [e]; exact h2, y1⟩, ?_⟩
    rw [e, List.getElem?_map, h3]; rfl
  · by_cases h1 : io[i]? = some true
    · simp only [if_pos h1] at h; exact ⟨i, h⟩
    · simp only [if_neg h1] at h; simp at h
theorem Apart.feet {k : Nat} {v : V} {d : D} {F : List Addr} (x : Apart G H Fs k v d F) (f : ∀ a, foot Fs' a → foot Fs a) : Apart G H Fs' k v d F := ⟨x.own, x.nod, x.dis, fun a ha z => x.sep a ha (f a z)⟩
end

section
variable {P : Program} {w : World} {K : PySem.W.Frag} {mg : Str → Option Value} {base : Heap} {x qual : Str} {params : Arguments} {body : List Stmt} {scope : Scope} {f : Addr} {fd : FuncData}
/-- THE RULE for a def: its body's meaning, whatever is lent, whatever is wished of exceptions -/
theorem fn_sem {N ps : List Str} {io : List Bool} {k : Nat} {sem : SS} (F : FunD K x qual params body scope [] [] f fd) (S' : FnScope N ps scope) (hio : io.length = ps.length)
    (hbody : ∀ (cdv : Value) (A : Around) (outer : List PySem.Env) (s : Shared) (H : Hp) (E : XK) (L : Lents), Room k (A.deeper (envOfC qual scope s.heap.objs.size f cdv)) →
      PSs (cxOf (L2.CX P w) P w K mg base N qual scope f cdv A outer s H E) body (tS K L (fun cls d _ H' => E cls d H') sem)) :
    FnOk P w K mg base (L2.CX P w) (k + 1) f fd ps (spF K (S.run sem N.length io) io) := by
  refine F.ok S' (fun vs H Q E h => by rw [h.1, hio]) fun cdv A outer s H vs Q E hr h => ?_
  obtain ⟨hv, G, args, Fs, ha, R, q⟩ := h
  refine ⟨_, hbody cdv A outer s H E (io.length + (N.length - vs.length), lentsAt 0 io vs) hr, G, _, Fs, R.pad (N.length - vs.length), ?_⟩
  have hps : ps.length ≤ N.length := by have := congrArg List.length S'.pre; rw [List.length_take] at this; omega
  have en : N.length - vs.length = N.length - args.length := by rw [hv, ha]
  unfold S.run at q
  rw [if_pos ha, ← en] at q
  cases z : sem (S.mkEnv args io ++ List.replicate (N.length - vs.length) Slot.no) with
  | bad => rw [z] at q; exact q
  | exc c η' =>
    rw [z] at q
    intro σ' G' H' Fs' R' E'
    obtain ⟨Fs2, R2, f2⟩ := R'.toBack hv (Nat.le_add_right _ _)
    exact q G' H' Fs2 R2 (E'.feet fun a ha => E'.f a (f2 a ha))
  | ok fl η' =>
    rw [z] at q
    cases fl with
    | nx =>
      intro σ' G' H' Fs' R' E'
      obtain ⟨Fs2, R2, f2⟩ := R'.toBack hv (Nat.le_add_right _ _)
      exact q G' H' Fs2 .non [] R2 (E'.feet fun a ha => E'.f a (f2 a ha)) (Apart.zero .non) fun a z => by simp at z
    | bk => exact q.elim
    | ct => exact q.elim
    | rt k d =>
      intro σ' G' H' Fs' v F R' E' y o
      obtain ⟨Fs2, R2, f2⟩ := R'.toBack hv (Nat.le_add_right _ _)
      exact q G' H' Fs2 v F R2 (E'.feet fun a ha => E'.f a (f2 a ha)) (y.feet f2) o
end
end DV

/-! DV9: calls of defs. -/
namespace DV
open PySem PySem.Spec PyProof.Rows L2

section
variable {K : PySem.W.Frag} {L : Lents} {W : WX} {σ : Sig} {β : Type} {G H G' H' : Hp} {η : Env} {Fs Fs' Fl Fl' : Feet}
def tArgs (K : PySem.W.Frag) (L : Lents) (W : WX) : List S.Arg → TA
  | [] => tNil
  | .ex f :: as => tCons (tE K L W f) (tArgs K L W as)
  | .lend j :: as => tCons (tVar j) (tArgs K L W as)
inductive KnA (σ : Sig) (G : Hp) : List V → List S.Arg → List (Option D) → Prop
  | nil : KnA σ G [] [] []
  | ex {v vs f as d ps} : Rep G v d → KnA σ G vs as ps → KnA σ G (v :: vs) (.ex f :: as) (some d :: ps)
  | lend {v vs j as ps} : σ[j]? = some (some v) → KnA σ G vs as ps → KnA σ G (v :: vs) (.lend j :: as) (none :: ps)
theorem tArgs_use {P : β → Env → Hp → Hp → Feet → Prop} : ∀ {as : List S.Arg} {f : List (Option D) → Env → Out β} {Q : List V → Hp → Prop} {G H : Hp} {η : Env} {Fs : Feet} (R : Rel L G η σ H Fs) (h : Res K L W σ G H Fs P ((S.preA as η).bind f))
    (k : ∀ vs ps η1 G1 H1 Fs1, Rel L G1 η1 σ H1 Fs1 → Ext G H Fs G1 H1 Fs1 → KnA σ G1 vs as ps → Res K L W σ G1 H1 Fs1 P (f ps η1) → Q vs H1), tArgs K L W as σ H Q
  | [], f, Q, G, H, η, Fs, R, h, k => k [] [] η G H Fs R Ext.refl .nil h
  | .ex g :: as, f, Q, G, H, η, Fs, R, h, k => by
    have e : (S.preA (.ex g :: as) η).bind f = (g η).bind fun d η1 => (S.preA as η1).bind fun ps η2 => f (some d :: ps) η2 := by
      show ((g η).bind fun d η1 => (S.preA as η1).bind fun ps η2 => .ok (some d :: ps) η2).bind f = _
      cases g η with
      | bad => rfl
      | exc c η' => rfl
      | ok p η1 =>
        show ((S.preA as η1).bind fun ps η2 => .ok (some p :: ps) η2).bind f = (S.preA as η1).bind fun ps η2 => f (some p :: ps) η2
        cases S.preA as η1 <;> rfl
    rw [e] at h
    refine ⟨G, η, Fs, R, h.bind.mono fun d η1 G1 H1 Fs1 R1 E1 q1 v rv => ?_⟩
    refine tArgs_use R1 q1 fun vs ps η2 G2 H2 Fs2 R2 E2 k2 q2 => ?_
    exact k (v :: vs) (some d :: ps) η2 G2 H2 Fs2 R2 (E1.trans E2) (.ex (rv.mono E2.g.sub) k2) q2
  | .lend j :: as, f, Q, G, H, η, Fs, R, h, k => by
    cases q : η[j]? with
    | none => simp only [S.preA, q] at h; exact h.elim
    | some sl =>
      cases sl with
      | no => simp only [S.preA, q] at h; exact h.elim
      | val kk l d =>
        have e : (S.preA (.lend j :: as) η).bind f = (S.preA as η).bind fun ps η2 => f (none :: ps) η2 := by
          simp only [S.preA, q]
          cases S.preA as η <;> rfl
        rw [e] at h
        obtain ⟨v, h1, _⟩ := R.slot j kk l d q
        refine ⟨v, h1, tArgs_use R h fun vs ps η2 G2 H2 Fs2 R2 E2 k2 q2 => ?_⟩
        exact k (v :: vs) (none :: ps) η2 G2 H2 Fs2 R2 E2 (.lend h1 k2) q2

/-- one slot's content is turned by a call -/
theorem Rel.swap (R : Rel L G η σ H Fs) {j k : Nat} {l : Bool} {d : D} {v : V} (e : η[j]? = some (.val k l d)) (hv : σ[j]? = some (some v)) (E : Ext G H Fl G' H' Fl') (s : Sub G' H') (hFl : ∀ a, foot Fl a → a ∈ Fs j)
    {k' : Nat} {d' : D} {F' : List Addr} (x : Own G' H' k' v d' F') (nd : F'.Nodup) (ds : ∀ a ∈ F', G' a = none) (fo : ∀ a ∈ F', foot Fl' a) :
    Rel L G' (η.set j (.val k' l d')) σ H' (setF Fs j F') ∧ Ext G H Fs G' H' (setF Fs j F') := by
  have hj : j < η.length := (List.getElem?_eq_some_iff.mp e).1
  obtain ⟨v0, z1, z2, z3⟩ := R.slot j k l d e
  rw [hv] at z1; cases z1
  -- what another slot owns is touched by nobody
  have away : ∀ i a, i ≠ j → a ∈ Fs i → ¬ foot Fl a := fun i a hi ha z => hi (R.sep i j a ha (hFl a z))
  have there : ∀ i a, a ∈ Fs i → H a ≠ none := fun i a ha z => R.noFoot z ⟨i, ha⟩
  have clash : ∀ i a, i ≠ j → a ∈ Fs i → a ∉ F' := fun i a hi ha z => by
    rcases E.f a (fo a z) with q | q
    · exact away i a hi ha q
    · exact there i a ha q
  refine ⟨⟨s, by rw [List.length_set]; exact R.len, by rw [List.length_set]; exact R.wid, fun i k2 l2 d2 q => ?_, fun i q => ?_, fun i => ?_, fun i a ha => ?_, fun i i' a ha ha' => ?_, fun p hp => ?_⟩, ⟨E.g, fun a o h n => E.h a o h fun z => n ⟨j, hFl a z⟩, fun a h => ?_, fun a h => ?_, E.d⟩⟩
  · by_cases hi : i = j
    · subst hi; rw [get_set_self hj] at q; cases q
      exact ⟨v, hv, by rw [setF_same]; exact x, z3⟩
    · rw [get_set_ne hi] at q; rw [setF_ne hi]
      obtain ⟨v2, y1, y2, y3⟩ := R.slot i k2 l2 d2 q
      refine ⟨v2, y1, y2.mono E.g.sub k2 fun a ha => ?_, y3⟩
      obtain ⟨u, hu, _⟩ := y2.mem k2 a ha
      rw [hu, E.h a u hu (away i a hi ha)]
  · by_cases hi : i = j
    · subst hi; exact absurd (get_set_self hj) (q k' l d')
    · rw [setF_ne hi]; exact R.emp i fun k l d z => q k l d (by rw [get_set_ne hi]; exact z)
  · by_cases hi : i = j
    · subst hi; rw [setF_same]; exact nd
    · rw [setF_ne hi]; exact R.nod i
  · by_cases hi : i = j
    · subst hi; rw [setF_same] at ha; exact ds a ha
    · rw [setF_ne hi] at ha
      cases q : G' a with
      | none => rfl
      | some o =>
        rcases E.n a (by rw [q]; simp) with z | z | z
        · exact absurd (R.dis i a ha) z
        · exact absurd z (away i a hi ha)
        · obtain ⟨u, hu, m⟩ := R.mem ha; exact (z.mut hu m).elim
  · by_cases hi : i = j
    · subst hi; rw [setF_same] at ha
      by_cases hi' : i' = i
      · exact hi'.symm
      · rw [setF_ne hi'] at ha'; exact absurd ha (clash i' a hi' ha')
    · by_cases hi' : i' = j
      · subst hi'; rw [setF_same] at ha'; rw [setF_ne hi] at ha; exact absurd ha' (clash i a hi ha)
      · rw [setF_ne hi] at ha; rw [setF_ne hi'] at ha'; exact R.sep i i' a ha ha'
  · obtain ⟨k2, d2, y1, y2⟩ := R.lnt p hp
    by_cases hi : p.1 = j
    · rw [hi] at y1 y2 ⊢
      rw [e] at y1; cases y1
      exact ⟨k', d', get_set_self hj, y2⟩
    · exact ⟨k2, d2, by rw [get_set_ne hi]; exact y1, y2⟩
  · rcases E.n a h with z | z | z
    · exact .inl z
    · exact .inr (.inl ⟨j, hFl a z⟩)
    · exact .inr (.inr z)
  · rcases foot_setF h with z | ⟨i, hi, z⟩
    · rcases E.f a (fo a z) with y | y
      · exact .inl ⟨j, hFl a y⟩
      · exact .inr y
    · exact .inl ⟨i, z⟩
/-- nothing is lent -/
theorem Rel.still (R : Rel L G η σ H Fs) (E : Ext G H Fl G' H' Fl') (s : Sub G' H') (hFl : ∀ a, ¬ foot Fl a) : Rel L G' η σ H' Fs ∧ Ext G H Fs G' H' Fs := by
  have there : ∀ i a, a ∈ Fs i → H a ≠ none := fun i a ha z => R.noFoot z ⟨i, ha⟩
  refine ⟨⟨s, R.len, R.wid, fun i k l d e => ?_, R.emp, R.nod, fun i a ha => ?_, R.sep, R.lnt⟩, ⟨E.g, fun a o h n => E.h a o h (hFl a), fun a h => ?_, fun a h => .inl h, E.d⟩⟩
  · obtain ⟨v, y1, y2, y3⟩ := R.slot i k l d e
    refine ⟨v, y1, y2.mono E.g.sub k fun a ha => ?_, y3⟩
    obtain ⟨u, hu, _⟩ := y2.mem k a ha
    rw [hu, E.h a u hu (hFl a)]
  · cases q : G' a with
    | none => rfl
    | some o =>
      rcases E.n a (by rw [q]; simp) with z | z | z
      · exact absurd (R.dis i a ha) z
      · exact absurd z (hFl a)
      · obtain ⟨u, hu, m⟩ := R.mem ha; exact (z.mut hu m).elim
  · rcases E.n a h with z | z | z
    · exact .inl z
    · exact absurd z (hFl a)
    · exact .inr (.inr z)

/-! ### arguments, pointwise -/
inductive ArgsOk (σ : Sig) (η : Env) (G : Hp) : List V → List S.Arg → List (Nat × D) → Prop
  | nil : ArgsOk σ η G [] [] []
  | ex {v vs f as d xs} : Rep G v d → ArgsOk σ η G vs as xs → ArgsOk σ η G (v :: vs) (.ex f :: as) ((0, d) :: xs)
  | lend {v vs j as k l d xs} : σ[j]? = some (some v) → η[j]? = some (.val k l d) → ArgsOk σ η G vs as xs → ArgsOk σ η G (v :: vs) (.lend j :: as) ((k, d) :: xs)
theorem KnA.ok : ∀ {vs as ps xs}, KnA σ G vs as ps → S.finA as ps η = some xs → ArgsOk σ η G vs as xs
  | _, _, _, _, .nil, e => by cases e; exact .nil
  | _, _, _, xs, .ex (as := as) (ps := ps) (d := d) r t, e => by
    have e : (S.finA as ps η).map ((0, d) :: ·) = some xs := e
    cases q : S.finA as ps η with
    | none => rw [q] at e; cases e
    | some ys => rw [q] at e; cases e; exact .ex r (KnA.ok t q)
  | _, _, _, xs, .lend (as := as) (ps := ps) (j := j) r t, e => by
    cases q : η[j]? with
    | none => simp only [S.finA, q] at e; cases e
    | some sl =>
      cases sl with
      | no => simp only [S.finA, q] at e; cases e
      | val k l d =>
        simp only [S.finA, q] at e
        cases y : S.finA as ps η with
        | none => rw [y] at e; cases e
        | some ys => rw [y] at e; cases e; exact .lend r q (KnA.ok t y)
theorem ArgsOk.len : ∀ {vs as xs}, ArgsOk σ η G vs as xs → vs.length = as.length ∧ xs.length = as.length
  | _, _, _, .nil => ⟨rfl, rfl⟩
  | _, _, _, .ex _ t => by have := t.len; simp [this.1, this.2]
  | _, _, _, .lend _ _ t => by have := t.len; simp [this.1, this.2]
theorem ArgsOk.get : ∀ {vs as xs} {i : Nat} {a : S.Arg}, ArgsOk σ η G vs as xs → as[i]? = some a → ∃ v k d, vs[i]? = some v ∧ xs[i]? = some (k, d) ∧
    match a with | .ex _ => k = 0 ∧ Rep G v d | .lend j => ∃ l, σ[j]? = some (some v) ∧ η[j]? = some (.val k l d)
  | _, _, _, _, _, .nil, e => by simp at e
  | _, _, _, 0, a, .ex r t, e => by simp at e; subst e; exact ⟨_, _, _, rfl, rfl, rfl, r⟩
  | _, _, _, 0, a, .lend r q t, e => by simp at e; subst e; exact ⟨_, _, _, rfl, rfl, _, r, q⟩
  | _, _, _, i + 1, a, .ex r t, e => by simpa using ArgsOk.get (i := i) t (by simpa using e)
  | _, _, _, i + 1, a, .lend r q t, e => by simpa using ArgsOk.get (i := i) t (by simpa using e)
/-- which slot is lent, at which parameter -/
def lends : Nat → List S.Arg → List (Nat × Nat)
  | _, [] => []
  | i, .ex _ :: as => lends (i + 1) as
  | i, .lend j :: as => (i, j) :: lends (i + 1) as
theorem lends_mem : ∀ {n : Nat} {as : List S.Arg} {i j : Nat}, as[i]? = some (.lend j) → (n + i, j) ∈ lends n as
  | n, [], i, j, h => by simp at h
  | n, .ex f :: as, 0, j, h => by simp at h
  | n, .lend j' :: as, 0, j, h => by simp at h; subst h; exact List.mem_cons_self
  | n, .ex f :: as, i + 1, j, h => by
    have := lends_mem (n := n + 1) (i := i) (j := j) (as := as) (by simpa using h)
    rw [lends, show n + (i + 1) = n + 1 + i by omega]; exact this
  | n, .lend j' :: as, i + 1, j, h => by
    have := lends_mem (n := n + 1) (i := i) (j := j) (as := as) (by simpa using h)
    rw [lends, show n + (i + 1) = n + 1 + i by omega]; exact List.mem_cons_of_mem _ this
def feetOf (as : List S.Arg) (Fs : Feet) : Feet := fun i => match as[i]? with
  | some (.lend j) => Fs j
  | _ => []
theorem mkEnv_get {args : List (Nat × D)} {io : List Bool} {i k : Nat} {l : Bool} {d : D} : (S.mkEnv args io)[i]? = some (Slot.val k l d) ↔ args[i]? = some (k, d) ∧ io[i]? = some l := by
  unfold S.mkEnv
  rw [List.getElem?_zipWith]
  cases h1 : args[i]? with
  | none => simp
  | some b =>
    cases h2 : io[i]? with
    | none => simp
    | some s =>
      obtain ⟨b1, b2⟩ := b
      simp
      constructor
      · rintro ⟨a, b, c⟩; exact ⟨⟨a, c⟩, b⟩
      · rintro ⟨⟨a, b⟩, c⟩; exact ⟨a, c, b⟩
/-- what the callee finds -/
theorem callee_rel (R : Rel L G η σ H Fs) {vs : List V} {as : List S.Arg} {xs : List (Nat × D)} (x : ArgsOk σ η G vs as xs) (one : ∀ (i i' j : Nat), as[i]? = some (S.Arg.lend j) → as[i']? = some (S.Arg.lend j) → i = i') :
    Rel (as.length, lentsAt 0 (as.map S.Arg.isLend) vs) G (S.mkEnv xs (as.map S.Arg.isLend)) (vs.map some) H (feetOf as Fs) := by
  obtain ⟨l1, l2⟩ := x.len
  have hlen : (S.mkEnv xs (as.map S.Arg.isLend)).length = as.length := by unfold S.mkEnv; rw [List.length_zipWith, List.length_map]; omega
  refine ⟨R.sub, by rw [hlen, List.length_map, l1], hlen, fun i k l d e => ?_, fun i e => ?_, fun i => ?_, fun i a h => ?_, fun i i' a h h' => ?_, fun p hp => ?_⟩
  · obtain ⟨h1, h2⟩ := mkEnv_get.mp e
    rw [List.getElem?_map] at h2
    cases q : as[i]? with
    | none => rw [q] at h2; cases h2
    | some a =>
      rw [q] at h2
      obtain ⟨v, k', d', y1, y2, y3⟩ := x.get q
      rw [h1] at y2; cases y2
      refine ⟨v, by rw [List.getElem?_map, y1]; rfl, ?_, fun hl => ?_⟩
      · unfold feetOf
        rw [q]
        cases a with
        | ex f => exact y3.1 ▸ ⟨y3.2, rfl⟩
        | lend j =>
          obtain ⟨l', z1, z2⟩ := y3
          obtain ⟨v', w1, w2, _⟩ := R.slot j k l' d z2
          rw [z1] at w1; cases w1
          exact w2
      · exact lentsAt_mem.mpr ⟨i, by simp, by rw [List.getElem?_map, q]; cases h2; exact congrArg some hl, y1⟩
  · unfold feetOf
    cases q : as[i]? with
    | none => rfl
    | some a =>
      obtain ⟨v, k', d', y1, y2, y3⟩ := x.get q
      exact absurd (mkEnv_get.mpr ⟨y2, by rw [List.getElem?_map, q]; rfl⟩) (e k' a.isLend d')
  · unfold feetOf
    split
    · exact R.nod _
    · exact List.nodup_nil
  · unfold feetOf at h
    split at h
    · exact R.dis _ a h
    · simp at h
  · unfold feetOf at h h'
    split at h
    · rename_i j q
      split at h'
      · rename_i j' q'
        have ej := R.sep j j' a h h'
        subst ej
        exact one i i' j q q'
      · simp at h'
    · simp at h
  · obtain ⟨i, h1, h2, h3⟩ := lentsAt_mem.mp hp
    have e : p.1 = i := by omega
    rw [List.getElem?_map] at h2
    cases q : as[i]? with
    | none => rw [q] at h2; cases h2
    | some a =>
      obtain ⟨v, k', d', y1, y2, y3⟩ := x.get q
      refine ⟨k', d', ?_, by rw [e, List.getElem?_map, h3]; rfl⟩
      rw [e]
      exact mkEnv_get.mpr ⟨y2, by rw [List.getElem?_map, q]; rw [q] at h2; exact h2⟩
theorem putBack_none : ∀ {as : List S.Arg} {bk : Env} {η : Env}, lends 0 as = [] → as.length = bk.length → S.putBack as bk η = some η
  | [], [], η, _, _ => rfl
  | .ex f :: as, b :: bk, η, h, e => by
    have z : ∀ n m (as : List S.Arg), lends n as = [] → lends m as = [] := by
      intro n m as
      induction as generalizing n m with
      | nil => intro _; rfl
      | cons a as ih => cases a with
        | ex f => exact fun h => ih _ _ h
        | lend j => intro h; cases h
    show S.putBack as bk η = some η
    exact putBack_none (z 1 0 as h) (by simpa using e)
  | .lend j :: as, bk, η, h, _ => by cases h
  | [], _ :: _, _, _, e => by simp at e
  | _ :: _, [], _, _, e => by simp at e
theorem putBack_one : ∀ {as : List S.Arg} {bk η η2 : Env} {n i j : Nat}, lends n as = [(n + i, j)] → S.putBack as bk η = some η2 → ∃ k b d k0 l0 d0, bk[i]? = some (.val k b d) ∧ η[j]? = some (.val k0 l0 d0) ∧ η2 = η.set j (.val k l0 d) ∧ as[i]? = some (.lend j)
  | [], _, _, _, _, _, _, h, _ => by cases h
  | .ex f :: as, [], _, _, _, _, _, _, e => by cases e
  | .ex f :: as, b :: bk, η, η2, n, i, j, h, e => by
    have h : lends (n + 1) as = [(n + i, j)] := h
    cases i with
    | zero =>
      exfalso
      have ge : ∀ m (as : List S.Arg) p, p ∈ lends m as → m ≤ p.1 := by
        intro m as
        induction as generalizing m with
        | nil => intro p hp; cases hp
        | cons a as ih => cases a with
          | ex f => exact fun p hp => by have := ih (m + 1) p hp; omega
          | lend j' => intro p hp; rcases List.mem_cons.mp hp with e | hp
                       · subst e; exact Nat.le_refl _
                       · have := ih (m + 1) p hp; omega
      have := ge (n + 1) as (n + 0, j) (by rw [h]; exact List.mem_cons_self)
      simp at this
      omega
    | succ i =>
      obtain ⟨k, b', d, k0, l0, d0, z1, z2, z3, z4⟩ := putBack_one (n := n + 1) (i := i) (j := j) (as := as) (bk := bk) (by rw [h, show n + (i + 1) = n + 1 + i by omega]) e
      exact ⟨k, b', d, k0, l0, d0, by simpa using z1, z2, z3, by simpa using z4⟩
  | .lend j' :: as, bk, η, η2, n, i, j, h, e => by
    have h : (n, j') :: lends (n + 1) as = [(n + i, j)] := h
    obtain ⟨h1, h2⟩ := List.cons.inj h
    have e1 : n = n + i := congrArg Prod.fst h1
    have e2 : j' = j := congrArg Prod.snd h1
    have ei : i = 0 := by omega
    subst ei; subst e2
    cases bk with
    | nil => cases e
    | cons b bk =>
      cases b with
      | no => cases e
      | val k l d =>
        cases q : η[j']? with
        | none => simp only [S.putBack, q] at e; cases e
        | some sl =>
          cases sl with
          | no => simp only [S.putBack, q] at e; cases e
          | val k0 l0 d0 =>
            simp only [S.putBack, q] at e
            have z : ∀ n m (as : List S.Arg), lends n as = [] → lends m as = [] := by
              intro n m as
              induction as generalizing n m with
              | nil => intro _; rfl
              | cons a as ih => cases a with
                | ex f => exact fun h => ih _ _ h
                | lend j => intro h; cases h
            have no : ∀ (as : List S.Arg) (bk η η2 : Env), lends 0 as = [] → S.putBack as bk η = some η2 → η2 = η := by
              intro as
              induction as with
              | nil => intro bk η η2 _ e; cases e; rfl
              | cons a as ih => cases a with
                | lend j => intro _ _ _ h; cases h
                | ex f =>
                  intro bk η η2 h e
                  cases bk with
                  | nil => cases e
                  | cons b bk => exact ih bk η η2 (z 1 0 as h) e
            exact ⟨k, l, d, k0, l0, d0, rfl, rfl, no as bk _ η2 (z _ 0 as h2) e, rfl⟩
end

section
variable {X : Cx} {L : Lents} {W : WX} {k : Nat} {f : Addr} {fd : FuncData} {ps : List Str} {x : Str} {p pos : Pos} {e : Expr} {es : List Expr} {F : FnSem}
/-- at most one slot is lent -/
def oneLend (as : List S.Arg) : Bool := match lends 0 as with
  | [] => true
  | [_] => true
  | _ => false
theorem call_use {σ : Sig} {H : Hp} {Q : VK} {as : List S.Arg} (h1 : oneLend as = true) (h : tF X.K L W (S.call F as) σ H Q) : tArgs X.K L W as σ H fun vs H1 => spF X.K F (as.map S.Arg.isLend) vs H1 Q (WE W σ) := by
  obtain ⟨G, η, Fs, R, q⟩ := h
  refine tArgs_use R q fun vs ps η1 G1 H1 Fs1 R1 E1 k1 q1 => ?_
  cases hx : S.finA as ps η1 with
  | none => simp only [hx] at q1; exact q1.elim
  | some xs =>
    simp only [hx] at q1
    have a := k1.ok hx
    obtain ⟨l1, l2⟩ := a.len
    have one : ∀ (i i' j : Nat), as[i]? = some (S.Arg.lend j) → as[i']? = some (S.Arg.lend j) → i = i' := fun i i' j z z' => by
      have m1 := lends_mem (n := 0) z
      have m2 := lends_mem (n := 0) z'
      unfold oneLend at h1
      cases q : lends 0 as with
      | nil => rw [q] at m1; cases m1
      | cons a r =>
        cases r with
        | nil =>
          rw [q] at m1 m2
          have y1 := List.mem_singleton.mp m1
          have y2 := List.mem_singleton.mp m2
          rw [← y2] at y1
          have := congrArg Prod.fst y1
          simp at this; exact this
        | cons b r => rw [q] at h1; cases h1
    have CR := callee_rel R1 a one
    refine ⟨by rw [List.length_map]; exact l1, G1, xs, _, by rw [List.length_map]; exact l2, by rw [List.length_map]; exact CR, ?_⟩
    -- what the caller finds behind it
    have after : ∀ {bk η2 : Env} {G' H' : Hp} {Fs' : Feet}, S.putBack as bk η1 = some η2 → Rel ((as.map S.Arg.isLend).length, lentsAt 0 (as.map S.Arg.isLend) vs) G' bk (vs.map some) H' Fs' → Ext G1 H1 (feetOf as Fs1) G' H' Fs' →
        ∃ Fs2, Rel L G' η2 σ H' Fs2 ∧ Ext G1 H1 Fs1 G' H' Fs2 ∧ ∀ a, foot Fs2 a → foot Fs' a ∨ (foot Fs1 a ∧ ¬ foot (feetOf as Fs1) a) := by
      intro bk η2 G' H' Fs' pb R' E'
      cases ql : lends 0 as with
      | nil =>
        have e2 : η2 = η1 := by
          have wid := R'.wid
          rw [List.length_map] at wid
          rw [putBack_none ql wid.symm] at pb
          exact (Option.some.inj pb).symm
        subst e2
        have nf : ∀ a, ¬ foot (feetOf as Fs1) a := fun a ⟨i, hi⟩ => by
          unfold feetOf at hi
          split at hi
          · rename_i j z; have := lends_mem (n := 0) z; rw [ql] at this; cases this
          · simp at hi
        obtain ⟨r1, r2⟩ := R1.still E' R'.sub nf
        exact ⟨Fs1, r1, r2, fun a h => .inr ⟨h, nf a⟩⟩
      | cons c r =>
        have hr : r = [] := by
          unfold oneLend at h1
          cases r with
          | nil => rfl
          | cons b r => rw [ql] at h1; cases h1
        subst hr
        obtain ⟨i, j⟩ := c
        obtain ⟨k', b', d', k0, l0, d0, z1, z2, z3, z4⟩ := putBack_one (n := 0) (i := i) (j := j) (by rw [ql]; simp) pb
        subst z3
        obtain ⟨v, kk, dd, y1, y2, l', y3, y4⟩ := a.get z4
        obtain ⟨v', w1, w2, w3⟩ := R'.slot i k' b' d' z1
        rw [List.getElem?_map, y1] at w1
        have ev : v = v' := by injection w1 with w1; injection w1
        subst ev
        have hFl : ∀ a, foot (feetOf as Fs1) a → a ∈ Fs1 j := fun a ⟨i', hi'⟩ => by
          unfold feetOf at hi'
          split at hi'
          · rename_i j' z
            have m := lends_mem (n := 0) z
            rw [ql] at m
            have := List.mem_singleton.mp m
            have ej : j' = j := congrArg Prod.snd this
            rw [ej] at hi'; exact hi'
          · simp at hi'
        obtain ⟨r1, r2⟩ := R1.swap z2 y3 E' R'.sub hFl w2 (R'.nod i) (R'.dis i) fun a ha => ⟨i, ha⟩
        refine ⟨_, r1, r2, fun a h => ?_⟩
        rcases foot_setF h with z | ⟨i', hi', z⟩
        · exact .inl ⟨i, z⟩
        · exact .inr ⟨⟨i', z⟩, fun y => hi' (R1.sep i' j a z (hFl a y))⟩
    cases hF : F xs with
    | bad => simp only [hF] at q1; exact q1.elim
    | exc c bk =>
      simp only [hF] at q1
      intro G' H' Fs' R' E'
      cases pb : S.putBack as bk η1 with
      | none => simp only [pb] at q1; exact q1.elim
      | some η2 =>
        simp only [pb] at q1
        obtain ⟨Fs2, r1, r2, _⟩ := after pb R' E'
        exact q1 G' H' Fs2 r1 r2
    | ok k d bk =>
      simp only [hF] at q1
      intro G' H' Fs' v Fv R' E' y o
      cases pb : S.putBack as bk η1 with
      | none => simp only [pb] at q1; exact q1.elim
      | some η2 =>
        simp only [pb] at q1
        obtain ⟨Fs2, r1, r2, r3⟩ := after pb R' E'
        have sub : ∀ a, foot (feetOf as Fs1) a → foot Fs1 a := fun a ⟨i', hi'⟩ => by
          unfold feetOf at hi'
          split at hi'
          · exact ⟨_, hi'⟩
          · simp at hi'
        refine q1 G' H' Fs2 r1 r2 v Fv ⟨y.own, y.nod, y.dis, fun a ha z => ?_⟩ fun a ha => ?_
        · rcases r3 a z with z | ⟨z1, z2⟩
          · exact y.sep a ha z
          · rcases o a ha with w | w
            · exact z2 w
            · exact R1.noFoot w z1
        · rcases o a ha with w | w
          · exact E1.f a (sub a w)
          · exact .inr (E1.noneOf w)
theorem jf_call {as : List S.Arg} {io : List Bool} (Fk : FnOk X.prog X.w X.K X.mg X.base (L2.CX X.prog X.w) k f fd ps (spF X.K F io)) (hr : Room k X.A) (hg : Gl X x) (hm : X.mg x = some (.ref f)) (hk : PySem.W.keepIn X.K (.ref f) = true) (hb : Binds X.K fd ps []) (tk : Takes X W)
    (hio : io = as.map S.Arg.isLend) (h1 : oneLend as = true) (ha : PA X (e :: es) (tArgs X.K L W as)) (hdb : (x == ("__debug__" : Str)) = false := by decide) (he : starEach (e :: es) X.env = (false, eval e X.env) :: starEach es X.env := by rfl) (hpl : (backTo pos (starEach es X.env)).any (·.1) = false := by rfl) :
    PE X (.Call (.Name x p) (e :: es) [] pos) (tF X.K L W (S.call F as)) := by
  subst hio
  exact PE.imp (pe_callS Fk hr hg hm hk hb (fun σ => passAt tk σ) ha hdb he hpl) fun σ H Q q => call_use h1 q
theorem ja_nil : PA X [] (tArgs X.K L W []) := pa_nil
theorem ja_ex {g : SE} {as : List S.Arg} (h : PE X e (tE X.K L W g)) (hr : PA X es (tArgs X.K L W as)) (hs : starEach (e :: es) X.env = (false, eval e X.env) :: starEach es X.env := by rfl) : PA X (e :: es) (tArgs X.K L W (.ex g :: as)) := pa_cons h hr hs
theorem ja_lend {j : Nat} {as : List S.Arg} (h : PE X e (tVar j)) (hr : PA X es (tArgs X.K L W as)) (hs : starEach (e :: es) X.env = (false, eval e X.env) :: starEach es X.env := by rfl) : PA X (e :: es) (tArgs X.K L W (.lend j :: as)) := pa_cons h hr hs
/-- raise C('..') -/
theorem js_raise {x : Str} {m : Str} {j : Nat} {p2 pos2 : Pos} (hc : X.calm = true) (tk : Takes X W) (q : PySem.W.excIn X.K (He.ga X.K x) He.veBase "ValueError.__new__" = true) (gC : X.mg x = some (.ref (He.ga X.K x))) (kC : PySem.W.keepIn X.K (.ref (He.ga X.K x)) = true)
    (b1 : PySem.W.subIn X.K (.ref (He.ga X.K x)) (.type "BaseException") = some true) (b2 : PySem.W.typeIn X.K (.ref (He.ga X.K x)) = some (.type "type")) (hg : Gl X x) (hdb : (x == ("__debug__" : Str)) = false := by decide) :
    PS X (.Raise (some (.Call (.Name x p) [.Constant (.str m) j p2] [] pos)) none pos2) (tS X.K L W (S.raise x)) := by
  refine PS.imp (ps_raise hc tk (pmk_own PySem.F.excBase_ValueError q gC kC (raises_own b1 b2) hg hdb)) fun D σ H ⟨G, η, Fs, R, q⟩ => ?_
  exact q σ G H Fs R Ext.refl
end
end DV

/-! DV10: for loops, what is walked, subscripts, lists that change. -/
namespace DV
open PySem PySem.Spec PyProof.Rows L2 RZ

namespace S
def range3 (f g h : SE) : SI := fun η => (f η).bind fun d η1 => (g η1).bind fun e η2 => (h η2).bind fun c η3 => match d, e, c with
  | .int i, .int j, .int s => if s = -1 ∧ -(2 ^ 62) ≤ i ∧ i < 2 ^ 62 ∧ -(2 ^ 62) ≤ j ∧ j < 2 ^ 62 then .ok ((List.range (i - j).toNat).map fun (n : Nat) => D.int (i - n)) η3 else .bad
  | _, _, _ => .bad
def enumL (ds : List D) : List D := ds.zipIdx.map fun p => D.tup [.int (p.2 : Nat), p.1]
def enum (f : SE) : SI := fun η => (f η).bind fun d η1 => match d with
  | .lst ds => .ok (enumL ds) η1
  | _ => .bad
def zipL (xs ys : List D) : List D := List.zipWith (fun x y => D.tup [x, y]) xs ys
def zip2 (f g : SE) : SI := fun η => (f η).bind fun d η1 => (g η1).bind fun e η2 => match d, e with
  | .lst xs, .lst ys => .ok (zipL xs ys) η2
  | .tup xs, .tup ys => .ok (zipL xs ys) η2
  | _, _ => .bad
end S

section
variable {X : Cx} {L : Lents} {W : WX} {e a b c tg it : Expr} {es : List Expr} {pos : Pos} {ss : List Stmt}
theorem for_core {K : PySem.W.Frag} {D : Ends} {ds : List DV.D} {g : SG} {body : SS} {η1 : Env} {σ : Sig} {G1 H1 : Hp} {Fs1 : Feet} {J : It} (wJ : Walks G1 H1 Fs1 ds J) (R1 : Rel L G1 η1 σ H1 Fs1) (q1 : ResS K L W D G1 H1 Fs1 (S.forL g body ds η1)) :
    ∃ Wi : Nat → Nat → L2.St → Hp → Prop, (∃ m, Wi 0 m σ H1) ∧ ∀ i m σ H, Wi i m σ H → (J.stop i H ∧ D.nx σ H) ∨ (J.go i H ∧ ∃ N : L2.St → Hp → Prop, (∀ σ' H', N σ' H' → ∃ m', m' < m ∧ Wi (i + 1) m' σ' H') ∧
      ∀ x H', J.yld i H x H' → tG L g x σ H' fun σ2 H2 => tS K L W body { D with nx := N, ct := N, bk := D.nx } σ2 H2) := by
  refine ⟨fun i m σ H => m = ds.length - i ∧ i ≤ ds.length ∧ ∃ G2 η2 Fs2, Ext G1 H1 Fs1 G2 H Fs2 ∧ Rel L G2 η2 σ H Fs2 ∧ ResS K L W D G2 H Fs2 (S.forL g body (ds.drop i) η2), ⟨_, rfl, Nat.zero_le _, G1, η1, Fs1, Ext.refl, R1, by rw [List.drop_zero]; exact q1⟩, ?_⟩
  rintro i m σ2 H2 ⟨rfl, hi, G2, η2, Fs2, g2, R2, q2⟩
  obtain ⟨w1, w2⟩ := wJ i G2 H2 Fs2 g2 R2.sub
  by_cases hlt : i < ds.length
  · obtain ⟨go, y⟩ := w2 hlt
    refine .inr ⟨go, fun σ' H' => i + 1 ≤ ds.length ∧ ∃ G3 η3 Fs3, Ext G1 H1 Fs1 G3 H' Fs3 ∧ Rel L G3 η3 σ' H' Fs3 ∧ ResS K L W D G3 H' Fs3 (S.forL g body (ds.drop (i + 1)) η3), fun σ' H' p => ⟨ds.length - (i + 1), by omega, rfl, p⟩, fun x H3 yx => ?_⟩
    obtain ⟨d, G3, hd, N, rx⟩ := y x H3 yx
    have e : ds.drop i = d :: ds.drop (i + 1) := by
      have hd' := List.getElem?_eq_some_iff.mp hd
      rw [List.drop_eq_getElem_cons hlt, hd'.2]
    rw [e] at q2
    unfold S.forL at q2
    have R3 := R2.new N
    cases z : g d η2 with
    | bad => simp only [z] at q2; exact q2.elim
    | exc c η3 => simp only [z] at q2; exact q2.elim
    | ok u η3 =>
      simp only [z] at q2
      refine ⟨G3, η2, Fs2, d, η3, R3, rx, z, fun σ4 G4 H4 Fs4 R4 E4 => ⟨G4, η3, Fs4, R4, ?_⟩⟩
      have q4 := q2.later (N.ext.trans E4)
      have g4 : Ext G1 H1 Fs1 G4 H4 Fs4 := g2.trans (N.ext.trans E4)
      cases y : body η3 with
      | bad => rw [y] at q4; exact q4
      | exc c η4 => rw [y] at q4; exact q4
      | ok fl η4 =>
        rw [y] at q4
        cases fl with
        | nx => exact fun σ5 G5 H5 Fs5 R5 E5 => ⟨hlt, G5, η4, Fs5, g4.trans E5, R5, ResS.later (show ResS K L W D G4 H4 Fs4 (S.forL g body (ds.drop (i + 1)) η4) from q4) E5⟩
        | ct => exact fun σ5 G5 H5 Fs5 R5 E5 => ⟨hlt, G5, η4, Fs5, g4.trans E5, R5, ResS.later (show ResS K L W D G4 H4 Fs4 (S.forL g body (ds.drop (i + 1)) η4) from q4) E5⟩
        | bk => exact q4
        | rt k d => exact q4
  · have ei : i = ds.length := by omega
    subst ei
    rw [List.drop_length] at q2
    exact .inl ⟨w1 (Nat.le_refl _), q2 σ2 G2 H2 Fs2 R2 Ext.refl⟩
theorem js_for {f : SI} {g : SG} {body : SS} (hp : PassesOwn (model X.prog X.w) X.A X.env X.xe) (hc : X.calm = true) (hi : PI X tg it (tI X.K L W f)) (hg : PG X tg (tG L g)) (hb : PSs X ss (tS X.K L W body)) (hs : ∀ x, foldedSetIterable it X.env x = pure x) :
    PS X (.For tg it ss [] pos) (tS X.K L W (S.fors f g body)) := by
  refine PS.imp (ps_for hp hc hi hg hb hs) fun D σ H ⟨G, η, Fs, R, q⟩ => ⟨G, η, Fs, R, (ResS.bind q).mono fun ds η1 G1 H1 Fs1 R1 E1 q1 J wJ => for_core wJ R1 q1⟩
/-! ### what is walked -/
theorem ji_lst {f : SE} (h : PE X e (tE X.K L W f)) : PI X tg e (tI X.K L W (fun η => (f η).bind fun d η1 => match d with | .lst ds => .ok ds η1 | _ => .bad)) := by
  refine PI.imp (pi_list h) fun σ H Rr ⟨G, η, Fs, R, q⟩ => ⟨G, η, Fs, R, q.bind.mono fun d η1 G1 H1 Fs1 R1 E1 q1 v rv => ?_⟩
  cases d <;> first | exact (show False from q1).elim | skip
  cases rv with
  | lst h1 h2 => exact ⟨_, rfl, ⟨_, .inl (R1.sub.rd _ _ h1)⟩, q1 G1 H1 Fs1 R1 Ext.refl _ (walks_list h1 h2).ext⟩
theorem ji_tup {f : SE} (h : PE X e (tE X.K L W f)) : PI X tg e (tI X.K L W (fun η => (f η).bind fun d η1 => match d with | .tup ds => .ok ds η1 | _ => .bad)) := by
  refine PI.imp (pi_tup h) fun σ H Rr ⟨G, η, Fs, R, q⟩ => ⟨G, η, Fs, R, q.bind.mono fun d η1 G1 H1 Fs1 R1 E1 q1 v rv => ?_⟩
  cases d <;> first | exact (show False from q1).elim | skip
  cases rv with
  | tup h1 h2 => exact ⟨_, rfl, ⟨_, .of (R1.sub.tp _ _ h1)⟩, q1 G1 H1 Fs1 R1 Ext.refl _ (walks_tup h1 h2).ext⟩
/-- a list or a tuple -/
theorem ji_items {f : SE} (h : PE X e (tE X.K L W f)) : PI X tg e (tI X.K L W (S.items f)) := by
  refine ⟨fun pins s σ H Rr I hh => ?_⟩
  obtain ⟨G, η, Fs, R, q⟩ := hh
  have q' := q
  unfold S.items at q
  refine thn (h.run pins s σ H (fun v H1 => ∃ G1 η1 Fs1 d, Rel L G1 η1 σ H1 Fs1 ∧ Rep G1 v d ∧ Res X.K L W σ G1 H1 Fs1 (fun ds _ G' H' Fs' => ∀ J, Walks G' H' Fs' ds J → Rr J H') (lift (S.seqOf d) η1)) I ⟨G, η, Fs, R, q.bind.mono fun d η1 G1 H1 Fs1 R1 E1 q1 v rv => ⟨G1, η1, Fs1, d, R1, rv, q1⟩⟩) fun v s1 ⟨x, H1, I1, r1, G1, η1, Fs1, d, R1, rv, q1⟩ => ?_
  obtain ⟨ds, e1, q2⟩ := q1.lift
  cases d <;> simp only [S.seqOf] at e1 <;> try cases e1
  · cases rv with
    | tup h1 h2 =>
      have hq := SqT.of (K := X.K) (R1.sub.tp _ _ h1)
      cases r1
      obtain ⟨its, rv', p, hz⟩ := I1.tuple hq
      refine wpAny_pyIter_tuple (show s1.heap.IsTuple _ its.toArray from p) ?_
      refine ⟨s1.heap.objs.size, [s1.heap.objs.size], _, _, H1, rfl, I1.kept (t' := s1.toks) fun b o e => Heap.get?_push_of_some _ e, turn_tuple _ _, ⟨_, Heap.get?_push_size _ rfl, rfl, rfl⟩, fun b hb => ?_, q2 G1 H1 Fs1 R1 Ext.refl _ (walks_tup h1 h2).ext⟩
      have e : b = s1.heap.objs.size := by simpa using hb
      subst e
      exact I1.fpOk (Nat.le_refl _) (I1.hok.fresh (Nat.le_refl _))
  · cases rv with
    | lst h1 h2 =>
      have hq : SqL X.K H1 _ _ := .inl (R1.sub.rd _ _ h1)
      cases r1
      obtain ⟨its, rv', p, hz⟩ := I1.list hq
      refine wpAny_pyIter_list p.isList ?_
      refine ⟨s1.heap.objs.size, [s1.heap.objs.size], _, _, H1, rfl, I1.kept (t' := s1.toks) fun b o e => Heap.get?_push_of_some _ e, turn_list _ _, ⟨_, Heap.get?_push_size _ rfl, rfl, rfl⟩, fun b hb => ?_, q2 G1 H1 Fs1 R1 Ext.refl _ (walks_list h1 h2).ext⟩
      have e : b = s1.heap.objs.size := by simpa using hb
      subst e
      exact I1.fpOk (Nat.le_refl _) (I1.hok.fresh (Nat.le_refl _))
theorem ji_range1 {f : SE} {p : Pos} (hg : Gl X "range") (hm : X.mg "range" = none) (h : PE X a (tE X.K L W f)) (hs0 : starEach (a :: []) X.env = (false, eval a X.env) :: starEach [] X.env := by rfl) (hs : starEach [a] X.env = [(false, eval a X.env)] := by rfl) :
    PI X tg (.Call (.Name "range" p) [a] [] pos) (tI X.K L W (S.range1 f)) := by
  refine PI.imp (pi_range1 hg hm (pa_cons h pa_nil hs0) hs) fun σ H Rr ⟨G, η, Fs, R, q⟩ => ⟨G, η, Fs, R, q.bind.mono fun d η1 G1 H1 Fs1 R1 E1 q1 v rv => ?_⟩
  cases d <;> first | exact (show False from q1).elim | skip
  rename_i j
  cases rv
  have q1 : Res X.K L W σ G1 H1 Fs1 _ (if -(2 ^ 62) ≤ j ∧ j < 2 ^ 62 then .ok (S.rangeL 0 j.toNat) η1 else .bad) := q1
  split at q1
  · rename_i hj
    exact ⟨j, rfl, hj.1, hj.2, q1 G1 H1 Fs1 R1 Ext.refl _ walks_range.ext⟩
  · exact q1.elim
theorem ji_range2 {f g : SE} {p : Pos} (hg : Gl X "range") (hm : X.mg "range" = none) (h : PE X a (tE X.K L W f)) (h' : PE X b (tE X.K L W g)) (hs0 : starEach (a :: [b]) X.env = (false, eval a X.env) :: starEach [b] X.env := by rfl) (hs1 : starEach (b :: []) X.env = (false, eval b X.env) :: starEach [] X.env := by rfl)
    (hs : starEach [a, b] X.env = [(false, eval a X.env), (false, eval b X.env)] := by rfl) (hs2 : starEach [b] X.env = [(false, eval b X.env)] := by rfl) :
    PI X tg (.Call (.Name "range" p) [a, b] [] pos) (tI X.K L W (S.range2 f g)) := by
  refine PI.imp (pi_range2 hg hm (pa_cons h (pa_cons h' pa_nil hs1) hs0) hs hs2) fun σ H Rr ⟨G, η, Fs, R, q⟩ => ⟨G, η, Fs, R, q.bind.mono fun d η1 G1 H1 Fs1 R1 E1 q1 v rv => ⟨G1, η1, Fs1, R1, q1.bind.mono fun d2 η2 G2 H2 Fs2 R2 E2 q2 v2 rv2 => ?_⟩⟩
  cases d <;> first | exact (show False from q2).elim | skip
  rename_i i
  cases d2 <;> first | exact (show False from q2).elim | skip
  rename_i j
  cases rv
  cases rv2
  have q2 : Res X.K L W σ G2 H2 Fs2 _ (if -(2 ^ 62) ≤ i ∧ i < 2 ^ 62 ∧ -(2 ^ 62) ≤ j ∧ j < 2 ^ 62 then .ok (S.rangeL i (j - i).toNat) η2 else .bad) := q2
  split at q2
  · rename_i hj
    exact ⟨i, j, rfl, hj, q2 G2 H2 Fs2 R2 Ext.refl _ walks_range.ext⟩
  · exact q2.elim
theorem ji_range3 {f g h : SE} {p : Pos} (hg : Gl X "range") (hm : X.mg "range" = none) (ha : PE X a (tE X.K L W f)) (hb : PE X b (tE X.K L W g)) (hc : PE X c (tE X.K L W h)) (hs0 : starEach (a :: [b, c]) X.env = (false, eval a X.env) :: starEach [b, c] X.env := by rfl) (hs1 : starEach (b :: [c]) X.env = (false, eval b X.env) :: starEach [c] X.env := by rfl)
    (hs2 : starEach (c :: []) X.env = (false, eval c X.env) :: starEach [] X.env := by rfl) (hpl : (backTo pos (starEach [b, c] X.env)).any (·.1) = false := by rfl) :
    PI X tg (.Call (.Name "range" p) [a, b, c] [] pos) (tI X.K L W (S.range3 f g h)) := by
  refine PI.imp (pi_range3 hg hm (pa_cons ha (pa_cons hb (pa_cons hc pa_nil hs2) hs1) hs0) hs0 hpl) fun σ H Rr ⟨G, η, Fs, R, q⟩ => ⟨G, η, Fs, R, q.bind.mono fun d η1 G1 H1 Fs1 R1 E1 q1 v rv =>
    ⟨G1, η1, Fs1, R1, q1.bind.mono fun d2 η2 G2 H2 Fs2 R2 E2 q2 v2 rv2 => ⟨G2, η2, Fs2, R2, q2.bind.mono fun d3 η3 G3 H3 Fs3 R3 E3 q3 v3 rv3 => ?_⟩⟩⟩
  cases d <;> first | exact (show False from q3).elim | skip
  rename_i i
  cases d2 <;> first | exact (show False from q3).elim | skip
  rename_i j
  cases d3 <;> first | exact (show False from q3).elim | skip
  rename_i s
  cases rv
  cases rv2
  cases rv3
  have q3 : Res X.K L W σ G3 H3 Fs3 _ (if s = -1 ∧ -(2 ^ 62) ≤ i ∧ i < 2 ^ 62 ∧ -(2 ^ 62) ≤ j ∧ j < 2 ^ 62 then .ok ((List.range (i - j).toNat).map fun (n : Nat) => D.int (i - n)) η3 else .bad) := q3
  split at q3
  · rename_i hj
    obtain ⟨es, h1, h2, h3, h4⟩ := hj
    have q4 := q3 G3 H3 Fs3 R3 Ext.refl
    subst es
    refine ⟨i, j, -1, (i - j).toNat, rfl, RgC.neg h1 h2 h3 h4, q4 _ ?_⟩
    refine WalksG.ext ?_
    intro n G4 H4 g4 s4
    rw [List.length_map, List.length_range]
    refine ⟨fun hn => hn, fun hn => ?_⟩
    refine ⟨hn, fun x H' ⟨e, y⟩ => ?_⟩
    subst e; subst y
    exact ⟨.int (i - n), G4, by simp [hn], New.refl s4, by rw [show i + (n : Int) * -1 = i - n by omega]; exact .int _⟩
  · exact q3.elim
theorem zip_walks {K : PySem.W.Frag} {G : Hp} {p q : Addr} {xs ys : List V} {ds es : List D} (h1 : Rd G p (.lst xs)) (r1 : RepL G xs ds) (h2 : Rd G q (.lst ys)) (r2 : RepL G ys es) : WalksG G (S.zipL ds es) (Itz K p q) := by
  intro i G2 H g s
  have q1 : SqL K H p xs := .inl (s.rd _ _ (g.sub.rd _ _ h1))
  have q2 : SqL K H q ys := .inl (s.rd _ _ (g.sub.rd _ _ h2))
  have hl : (S.zipL ds es).length = min ds.length es.length := by unfold S.zipL; rw [List.length_zipWith]
  have l1 := r1.length
  have l2 := r2.length
  refine ⟨fun hi => ⟨xs, ys, q1, q2, by rw [hl] at hi; omega⟩, fun hi => ?_⟩
  rw [hl] at hi
  have hx : i < xs.length := by omega
  have hy : i < ys.length := by omega
  refine ⟨⟨xs, ys, xs[i], ys[i], q1, q2, by simp [hx], by simp [hy]⟩, fun v H' ⟨T, x, y, ev, hT, eH, z1, z2⟩ => ?_⟩
  subst ev; subst eH
  obtain ⟨d, e1, rd⟩ := r1.getV (z1 xs q1)
  obtain ⟨e, e2, re⟩ := r2.getV (z2 ys q2)
  have N := New.frozen (o := .tup [x, y]) s hT
  refine ⟨.tup [d, e], _, ?_, N, .tup upd_same (.cons (rd.mono (g.sub.trans N.g.sub)) (.cons (re.mono (g.sub.trans N.g.sub)) .nil))⟩
  unfold S.zipL; rw [List.getElem?_zipWith, e1, e2]
theorem zipT_walks {K : PySem.W.Frag} {G : Hp} {p q : Addr} {xs ys : List V} {ds es : List D} (h1 : G p = some (.tup xs)) (r1 : RepL G xs ds) (h2 : G q = some (.tup ys)) (r2 : RepL G ys es) : WalksG G (S.zipL ds es) (ItzT K p q) := by
  intro i G2 H g s
  have q1 : SqT K H p xs := .of (s.tp _ _ (g _ _ h1))
  have q2 : SqT K H q ys := .of (s.tp _ _ (g _ _ h2))
  have hl : (S.zipL ds es).length = min ds.length es.length := by unfold S.zipL; rw [List.length_zipWith]
  have l1 := r1.length
  have l2 := r2.length
  refine ⟨fun hi => ⟨xs, ys, q1, q2, by rw [hl] at hi; omega⟩, fun hi => ?_⟩
  rw [hl] at hi
  have hx : i < xs.length := by omega
  have hy : i < ys.length := by omega
  refine ⟨⟨xs, ys, xs[i], ys[i], q1, q2, by simp [hx], by simp [hy]⟩, fun v H' ⟨T, x, y, ev, hT, eH, z1, z2⟩ => ?_⟩
  subst ev; subst eH
  obtain ⟨d, e1, rd⟩ := r1.getV (z1 xs q1)
  obtain ⟨e, e2, re⟩ := r2.getV (z2 ys q2)
  have N := New.frozen (o := .tup [x, y]) s hT
  refine ⟨.tup [d, e], _, ?_, N, .tup upd_same (.cons (rd.mono (g.sub.trans N.g.sub)) (.cons (re.mono (g.sub.trans N.g.sub)) .nil))⟩
  unfold S.zipL; rw [List.getElem?_zipWith, e1, e2]
theorem ji_zip {f g : SE} {p tpos : Pos} {elts : List Expr} {kk : Nat} (hg : Gl X "zip") (hm : X.mg "zip" = none) (h : PE X a (tE X.K L W f)) (h' : PE X b (tE X.K L W g)) (hs0 : starEach (a :: [b]) X.env = (false, eval a X.env) :: starEach [b] X.env := by rfl) (hs1 : starEach (b :: []) X.env = (false, eval b X.env) :: starEach [] X.env := by rfl)
    (hpl : (backTo pos (starEach [b] X.env)).any (·.1) = false := by rfl) : PI X (.Tuple elts kk tpos) (.Call (.Name "zip" p) [a, b] [] pos) (tI X.K L W (S.zip2 f g)) := by
  refine PI.imp (pi_zipA hg hm (pa_cons h (pa_cons h' pa_nil hs1) hs0) hs0 hpl) fun σ H Rr ⟨G, η, Fs, R, q⟩ => ⟨G, η, Fs, R, q.bind.mono fun d η1 G1 H1 Fs1 R1 E1 q1 v rv => ⟨G1, η1, Fs1, R1, q1.bind.mono fun d2 η2 G2 H2 Fs2 R2 E2 q2 v2 rv2 => ?_⟩⟩
  cases d <;> first | (cases d2 <;> exact (show False from q2).elim) | skip
  · cases d2 <;> first | exact (show False from q2).elim | skip
    cases rv with
    | tup h1 r1 =>
      cases rv2 with
      | tup h2 r2 => exact ⟨_, _, _, _, rfl, .inr ⟨.of (R2.sub.tp _ _ (E2.g _ _ h1)), .of (R2.sub.tp _ _ h2), q2 G2 H2 Fs2 R2 Ext.refl _ (zipT_walks (E2.g _ _ h1) (r1.mono E2.g.sub) h2 r2).ext⟩⟩
  · cases d2 <;> first | exact (show False from q2).elim | skip
    cases rv with
    | lst h1 r1 =>
      cases rv2 with
      | lst h2 r2 => exact ⟨_, _, _, _, rfl, .inl ⟨.inl (R2.sub.rd _ _ (E2.g.sub.rd _ _ h1)), .inl (R2.sub.rd _ _ h2), q2 G2 H2 Fs2 R2 Ext.refl _ (zip_walks (E2.g.sub.rd _ _ h1) (r1.mono E2.g.sub) h2 r2).ext⟩⟩
theorem ji_enum {f : SE} {p tpos : Pos} {elts : List Expr} {kk : Nat} (hg : Gl X "enumerate") (hm : X.mg "enumerate" = none) (h : PE X a (tE X.K L W f)) (hs0 : starEach (a :: []) X.env = (false, eval a X.env) :: starEach [] X.env := by rfl) (hs : starEach [a] X.env = [(false, eval a X.env)] := by rfl) :
    PI X (.Tuple elts kk tpos) (.Call (.Name "enumerate" p) [a] [] pos) (tI X.K L W (S.enum f)) := by
  refine PI.imp (pi_enum hg hm (pa_cons h pa_nil hs0) hs) fun σ H Rr ⟨G, η, Fs, R, q⟩ => ⟨G, η, Fs, R, q.bind.mono fun d η1 G1 H1 Fs1 R1 E1 q1 v rv => ?_⟩
  cases d <;> first | exact (show False from q1).elim | skip
  rename_i ds
  cases rv with
  | lst h1 r1 =>
    refine ⟨_, _, rfl, .inl (R1.sub.rd _ _ h1), q1 G1 H1 Fs1 R1 Ext.refl _ ?_⟩
    refine WalksG.ext ?_
    intro i G2 H2 g s
    have q1 : SqL X.K H2 _ _ := .inl (s.rd _ _ (g.sub.rd _ _ h1))
    have hl : (S.enumL ds).length = ds.length := by unfold S.enumL; simp
    refine ⟨fun hi => ⟨_, q1, by rw [r1.length, ← hl]; exact hi⟩, fun hi => ?_⟩
    rw [hl] at hi
    refine ⟨⟨_, _, q1, List.getElem?_eq_getElem (by rw [r1.length]; exact hi)⟩, fun v H' ⟨T, x, ev, hT, eH, z1⟩ => ?_⟩
    subst ev; subst eH
    obtain ⟨d, e1, rd⟩ := r1.getV (z1 _ q1)
    have N := New.frozen (o := .tup [.int (i : Nat), x]) s hT
    refine ⟨.tup [.int (i : Nat), d], _, ?_, N, .tup upd_same (.cons (.int _) (.cons (rd.mono (g.sub.trans N.g.sub)) .nil))⟩
    unfold S.enumL
    rw [List.getElem?_map, List.getElem?_zipIdx, e1]
    simp
end
end DV

/-! DV11: subscripts, slices, stores in a list, methods of lists. -/
namespace DV
open PySem PySem.Spec PyProof.Rows L2 RZ

def ixD : D → D → Option (Nat × D)
  | .lst ds, .int i => (atI ds i).map (0, ·)
  | .tup ds, .int i => (atI ds i).map (0, ·)
  | .str x, .int i => if x.length ≤ sizeLine then (atI x.cps.toList i).map fun c => (0, D.str ⟨#[c]⟩) else none
  | _, _ => none
theorem RepL.at {G : Hp} {vs : List V} {ds : List D} {i : Int} {d : D} (r : RepL G vs ds) (h : atI ds i = some d) : ∃ v, atI vs i = some v ∧ Rep G v d := by
  unfold atI at h ⊢
  rw [r.length]
  cases e : ixN ds.length i with
  | none => rw [e] at h; cases h
  | some j =>
    rw [e] at h
    obtain ⟨v, h1, h2⟩ := r.get (show ds[j]? = some d from h)
    exact ⟨v, h1, h2⟩
theorem sz_ix {K : PySem.W.Frag} : Op2 (rIx K) ixD := by
  intro G H v w dx dy k d Q s bx by' h fin
  cases dx <;> cases dy <;> simp only [ixD] at h <;> try cases h
  · split at h
    · rename_i x i hz
      cases e : atI x.cps.toList i with
      | none => rw [e] at h; cases h
      | some c => rw [e] at h; cases h; exact .inr (.inr ⟨x, i, c, bx.str, by'.int, hz, e, fin.same s (.str _)⟩)
    · cases h
  · rename_i ds i
    cases e : atI ds i with
    | none => rw [e] at h; cases h
    | some c =>
      rw [e] at h; cases h
      obtain ⟨a, xs, rfl, h1, r1⟩ := bx.tup s
      obtain ⟨v, h2, r2⟩ := r1.at e
      exact .inr (.inl ⟨a, xs, i, v, rfl, by'.int, .of (s.tp _ _ h1), h2, fin.same s r2⟩)
  · rename_i ds i
    cases e : atI ds i with
    | none => rw [e] at h; cases h
    | some c =>
      rw [e] at h; cases h
      obtain ⟨a, xs, rfl, h1, r1⟩ := bx.lst s
      obtain ⟨v, h2, r2⟩ := r1.at e
      exact .inl ⟨a, xs, i, v, rfl, by'.int, .inl h1, h2, fin.same s r2⟩
section
variable {X : Cx} {L : Lents} {W : WX} {e a b c tg it : Expr} {es : List Expr} {pos : Pos} {ss : List Stmt}
/-- an operation of two operands, whatever its judgement -/
theorem bin_use {σ : Sig} {H : Hp} {Q : VK} {r : R2} {g : D → D → Option (Nat × D)} {oa ob : Opd} (hs : Op2 r g) (h : tF X.K L W (S.bin g oa ob) σ H Q) : tOp r (tO X.K L W oa) (tO X.K L W ob) σ H Q := by
  obtain ⟨G, η, Fs, R, q⟩ := h
  refine tO_use R q fun v p η1 G1 H1 Fs1 R1 E1 k1 q1 => ?_
  refine tO_use R1 q1 fun w p2 η2 G2 H2 Fs2 R2 E2 k2 q2 => ?_
  obtain ⟨⟨k, d⟩, e, q3⟩ := q2.lift
  cases hx : oa.fin p η2 with
  | none => rw [hx] at e; cases e
  | some x =>
    rw [hx] at e
    cases hy : ob.fin p2 η2 with
    | none => rw [show (some x).bind _ = (ob.fin p2 η2).bind _ from rfl, hy] at e; cases e
    | some y =>
      rw [show (some x).bind _ = (ob.fin p2 η2).bind _ from rfl, hy] at e
      refine hs G2 H2 v w x y k d Q R2.sub ((k1.mono E2.g.sub).bor R2 hx) (k2.bor R2 hy) e (fin_tF (P := fun _ _ _ _ _ => True) R2 fun G' H' Fs' R' E' u F x o => ?_)
      exact q3 G' H' Fs' R' E' u F x fun a ha => .inr ((E1.trans E2).noneOf (o a ha))
/-- a[b] -/
theorem jf_ix {oa ob : Opd} (ha : PE X a (tO X.K L W oa)) (hb : PE X b (tO X.K L W ob)) (hs : PlainIx b) : PE X (.Subscript a b pos) (tF X.K L W (S.bin ixD oa ob)) :=
  PE.imp (pe_ix ix_seq ha hb hs) fun σ H Q h => bin_use sz_ix h

/-! ### slices -/
def cutD (ds : List D) (lo hi : Option Int) : List D := (ds.drop (HT.sIx ds.length 0 lo)).take (HT.sIx ds.length ds.length hi - HT.sIx ds.length 0 lo)
def slD (lo hi : Option Int) : D → Option (Nat × D)
  | .lst ds => some (1, .lst (cutD ds lo hi))
  | .tup ds => some (0, .tup (cutD ds lo hi))
  | _ => none
def S.part (f : Option SE) : Env → Out (Option Int) := fun η => match f with
  | none => .ok none η
  | some g => (g η).bind fun d η1 => match d with
    | .int i => .ok (some i) η1
    | _ => .bad
def S.slc (oa : Opd) (lo hi : Option SE) : SF := fun η => (oa.pre η).bind fun p η1 => (S.part lo η1).bind fun l η2 => (S.part hi η2).bind fun u η3 => lift ((oa.fin p η3).bind (slD l u)) η3
def tP (K : PySem.W.Frag) (L : Lents) (W : WX) : Option SE → TO
  | none => tNoPart
  | some f => tPart (tE K L W f)
theorem jp_none {L : Lents} {W : WX} : PO X none (tP X.K L W none) := po_none
theorem jp_some {f : SE} (h : PE X e (tE X.K L W f)) : PO X (some e) (tP X.K L W (some f)) := po_some h
theorem tP_use {β : Type} {σ : Sig} {P : β → Env → Hp → Hp → Feet → Prop} {o : Option SE} {f : Option Int → Env → Out β} {Q : Option Int → Hp → Prop} {G H : Hp} {η : Env} {Fs : Feet} (R : Rel L G η σ H Fs) (h : Res X.K L W σ G H Fs P ((S.part o η).bind f))
    (k : ∀ i η1 G1 H1 Fs1, Rel L G1 η1 σ H1 Fs1 → Ext G H Fs G1 H1 Fs1 → Res X.K L W σ G1 H1 Fs1 P (f i η1) → Q i H1) : tP X.K L W o σ H Q := by
  cases o with
  | none => exact k none η G H Fs R Ext.refl h
  | some g =>
    have h1 := h.bind
    unfold S.part at h1
    refine ⟨G, η, Fs, R, h1.bind.mono fun d η1 G1 H1 Fs1 R1 E1 q v rv => ?_⟩
    cases d <;> first | exact (show False from q).elim | skip
    rename_i i
    cases rv
    exact ⟨i, rfl, k (some i) η1 G1 H1 Fs1 R1 E1 (q G1 H1 Fs1 R1 Ext.refl)⟩
theorem cutD_rep {G : Hp} {vs : List V} {ds : List D} {lo hi : Option Int} (r : RepL G vs ds) : RepL G (cutV vs lo hi) (cutD ds lo hi) := by
  unfold cutV cutD
  rw [r.length]
  exact (r.drop _).take _
def rSlB (K : PySem.W.Frag) : V → Option Int → Option Int → Hp → VK → Prop := fun x lo hi H Q => L2.rSlL K x lo hi H Q ∨ rSlA K x lo hi H Q
theorem cutD_all {ds : List D} {lo hi : Option Int} (h : HT.sIx ds.length 0 lo = 0 ∧ HT.sIx ds.length ds.length hi = ds.length) : cutD ds lo hi = ds := by
  unfold cutD; rw [h.1, h.2]; simp
theorem jf_slc {oa : Opd} {lo hi : Option Expr} {l u : Option SE} {p2 : Pos} (ha : PE X a (tO X.K L W oa)) (hl : PO X lo (tP X.K L W l)) (hu : PO X hi (tP X.K L W u)) :
    PE X (.Subscript a (.Slice lo hi none p2) pos) (tF X.K L W (S.slc oa l u)) := by
  refine PE.imp (pe_slice (SlR.or sl_list sl_tupA) ha hl hu) fun σ H Q ⟨G, η, Fs, R, q⟩ => ?_
  refine tO_use R q fun v p η1 G1 H1 Fs1 R1 E1 k1 q1 => ?_
  refine tP_use R1 q1 fun i η2 G2 H2 Fs2 R2 E2 q2 => ?_
  refine tP_use R2 q2 fun j η3 G3 H3 Fs3 R3 E3 q3 => ?_
  obtain ⟨⟨k, d⟩, e, q4⟩ := q3.lift
  cases hx : oa.fin p η3 with
  | none => rw [hx] at e; cases e
  | some x =>
    rw [hx] at e
    have fin : Fin2 G3 H3 k d Q := fin_tF (P := fun _ _ _ _ _ => True) R3 fun G' H' Fs' R' E' w F y o => q4 G' H' Fs' R' E' w F y fun a ha => .inr ((E1.trans (E2.trans E3)).noneOf (o a ha))
    have bo := ((k1.mono (E2.trans E3).g.sub).bor R3 hx)
    cases x <;> simp only [Option.bind_some, slD] at e <;> cases e
    · obtain ⟨a, xs, rfl, h1, r1⟩ := bo.tup R3.sub
      refine .inr ⟨a, xs, rfl, .of (R3.sub.tp _ _ h1), fun hw => ?_, fun hw p hp => fin.tupN R3.sub hp (cutD_rep r1)⟩
      rw [r1.length] at hw
      rw [cutD_all hw] at fin
      exact fin.same R3.sub (.tup h1 r1)
    · obtain ⟨a, xs, rfl, h1, r1⟩ := bo.lst R3.sub
      exact .inl ⟨a, xs, rfl, .inl h1, fun p hp => fin.lstN R3.sub hp (cutD_rep r1)⟩
end

/-! ### a slot's object is written -/
section
variable {L : Lents} {σ : Sig} {G H : Hp} {η : Env} {Fs : Feet}
theorem Sub.upd_out {G H : Hp} {a : Addr} {o : HO} (s : Sub G H) (h : G a = none) : Sub G (upd H a o) where
  rd := fun b u r => by
    by_cases e : b = a
    · subst e
      rcases r with z | ⟨x, z⟩
      · rw [h] at z; cases z
      · rw [h] at z; cases z
    · rcases s.rd b u r with z | ⟨x, z⟩
      · exact .inl (by rw [upd_ne e]; exact z)
      · exact .inr ⟨x, by rw [upd_ne e]; exact z⟩
  tp := fun b xs r => by
    by_cases e : b = a
    · subst e; rw [h] at r; cases r
    · rw [upd_ne e]; exact s.tp b xs r
  fz := fun b x u r => by
    by_cases e : b = a
    · subst e; rw [h] at r; cases r
    · rw [upd_ne e]; exact s.fz b x u r
theorem Ext.upd1 {G H : Hp} {Fs : Feet} {a : Addr} {o : HO} (h : foot Fs a) : Ext G H Fs G (upd H a o) Fs := by
  refine ⟨Le.refl G, fun b u e n => ?_, fun b z => .inl z, fun b z => .inl z, fun b e => ?_⟩
  · rw [upd_ne fun z => n (by rw [z]; exact h)]; exact e
  · by_cases z : b = a
    · subst z; rw [upd_same]; simp
    · rw [upd_ne z]; exact e
/-- the list of a slot that is owned 1 deep is written -/
theorem Rel.write1 (R : Rel L G η σ H Fs) {j : Nat} {l : Bool} {ds : List D} (e : η[j]? = some (.val 1 l (.lst ds))) :
    ∃ a vs, σ[j]? = some (some (.ref a)) ∧ H a = some (.lst vs) ∧ RepL G vs ds ∧ ∀ vs' ds', RepL G vs' ds' →
      Rel L G (η.set j (.val 1 l (.lst ds'))) σ (upd H a (.lst vs')) Fs ∧ Ext G H Fs G (upd H a (.lst vs')) Fs := by
  obtain ⟨v, h1, ⟨a, vs, F, e1, e2, e3, e4⟩, h3⟩ := R.slot j 1 l (.lst ds) e
  subst e1
  obtain ⟨r, e5⟩ := e4.to0
  subst e5
  refine ⟨a, vs, h1, e2, r, fun vs' ds' r' => ?_⟩
  have dis : G a = none := R.dis j a (by rw [e3]; exact List.mem_cons_self)
  have fl : foot (fun i => if i = j then [a] else []) a := ⟨j, by show a ∈ (if j = j then [a] else []); rw [if_pos rfl]; exact List.mem_cons_self⟩
  have E := Ext.upd1 (G := G) (H := H) (o := .lst vs') fl
  obtain ⟨r1, r2⟩ := R.swap e h1 E (R.sub.upd_out dis) (fun b ⟨i, hb⟩ => by
    have hb : b ∈ (if i = j then [a] else []) := hb
    by_cases hi : i = j
    · subst hi; rw [if_pos rfl] at hb; rw [e3]; exact hb
    · rw [if_neg hi] at hb; simp at hb) (k' := 1) (d' := .lst ds') (F' := [a]) ⟨a, vs', [], rfl, upd_same, rfl, OwnL.of0 r'⟩ (by simp) (fun b hb => by
      have z : b = a := by simpa using hb
      subst z; exact dis) fun b hb => by
      have z : b = a := by simpa using hb
      subst z; exact fl
  have ef : setF Fs j [a] = Fs := by
    funext i
    by_cases hi : i = j
    · subst hi; rw [setF_same, e3]
    · rw [setF_ne hi]
  rw [ef] at r1 r2
  exact ⟨r1, r2⟩
end
namespace S
/-- x[i] = e: e, x, i in turn -/
def setIx (j : Nat) (f g : SE) : SS := fun η => (f η).bind fun d η1 => match η1[j]? with
  | some (.val _ _ _) => (g η1).bind fun y η2 => match y, η2[j]? with
    | .int i, some (.val 1 l (.lst ds)) => (match ixN ds.length i with
      | some m => .ok .nx (η2.set j (.val 1 l (.lst (ds.set m d))))
      | none => .bad)
    | _, _ => .bad
  | _ => .bad
/-- a method of a list that a slot owns -/
def lm (j : Nat) (g : List D → List D → Option (D × List D)) (r : Env → Out (List D)) : SE := fun η => match η[j]? with
  | some (.val _ _ (.lst _)) => (r η).bind fun as η1 => match η1[j]? with
    | some (.val 1 l (.lst ds)) => (match g ds as with
      | some (d, ds') => .ok d (η1.set j (.val 1 l (.lst ds')))
      | none => .bad)
    | _ => .bad
  | _ => .bad
end S
section
variable {X : Cx} {L : Lents} {W : WX} {e a b c tg it : Expr} {es : List Expr} {pos : Pos} {ss : List Stmt}
theorem js_setIx {o i : Expr} {j : Nat} {f g : SE} {p : Pos} (he : PE X e (tE X.K L W f)) (ho : PE X o (tVar j)) (hi : PE X i (tE X.K L W g))
    (hst : ∀ v, assign (.Subscript o i p) X.env v = (do
      let ov ← holding [v] (eval o X.env)
      let iv ← holding [v, ov] (eval i X.env)
      standAt p
      holding [v, ov, iv] (setItem ov iv v)
      release [v, ov, iv] []) := by intro _; rfl)
    (hs : swapsWithSole [.Subscript o i p] e pos.line X.env = pure false := by rfl) (hw : swappedStores [.Subscript o i p] e X.env = pure none := by rfl) (h1 : (assignEach [.Subscript o i p] X.env).map (·.2) = [assign (.Subscript o i p) X.env] := by rfl) :
    PS X (.Assign [.Subscript o i p] e pos) (tS X.K L W (S.setIx j f g)) := by
  refine PS.imp (ps_asg he (pg_sub ho hi set_list hst) hs hw h1) fun D σ H ⟨G, η, Fs, R, q⟩ => ⟨G, η, Fs, R, (ResS.bind q).mono fun d η1 G1 H1 Fs1 R1 E1 q1 v rv => ?_⟩
  cases z : η1[j]? with
  | none => simp only [z] at q1; exact q1.elim
  | some sl =>
    cases sl with
    | no => simp only [z] at q1; exact q1.elim
    | val k l d0 =>
      simp only [z] at q1
      obtain ⟨x, hx, _⟩ := R1.slot j k l d0 z
      refine ⟨x, hx, G1, η1, Fs1, R1, (ResS.bind q1).mono fun y η2 G2 H2 Fs2 R2 E2 q2 w rw' => ?_⟩
      cases y <;> first | exact (show False from q2).elim | skip
      rename_i i
      cases rw'
      cases z2 : η2[j]? with
      | none => simp only [z2] at q2; exact q2.elim
      | some sl2 =>
        rw [z2] at q2
        split at q2
        · rename_i i0 l2 ds y1 y2
          cases y1
          obtain ⟨m, hm, q3⟩ : ∃ m, ixN ds.length i = some m ∧ ResS X.K L W D G2 H2 Fs2 (.ok .nx (η2.set j (.val 1 l2 (.lst (ds.set m d))))) := by
            cases hm : ixN ds.length i with
            | none => rw [hm] at q2; exact q2.elim
            | some m => rw [hm] at q2; exact ⟨m, rfl, q2⟩
          obtain ⟨a, vs, s1, s2, s3, s4⟩ := R2.write1 (z2.trans y2)
          rw [hx] at s1; cases s1
          obtain ⟨r1, r2⟩ := s4 (vs.set m v) (ds.set m d) (RepL.set (rv.mono E2.g.sub) m s3)
          exact ⟨a, vs, i, m, rfl, rfl, s2, by rw [s3.length]; exact hm, q3 σ G2 _ Fs2 r1 r2⟩
        · exact q2.elim
/-- what the rule of a method asks is given by its meaning -/
def MethD (r : V → List V → Hp → VK → Prop) (g : List D → List D → Option (D × List D)) : Prop :=
  ∀ (G H : Hp) (a : Addr) (vs : List V) (ds : List D) (ws : List V) (as : List D) (d : D) (ds' : List D) (Q : VK), H a = some (.lst vs) → RepL G vs ds → Sub G H → RepL G ws as → g ds as = some (d, ds') →
    (∀ u vs', Rep G u d → RepL G vs' ds' → Q u (upd H a (.lst vs'))) → r (.ref a) ws H Q
theorem lm_use {σ : Sig} {H : Hp} {Q : VK} {r : V → List V → Hp → VK → Prop} {j : Nat} {g : List D → List D → Option (D × List D)} {row : Env → Out (List D)} (hm : MethD r g) (h : tE X.K L W (S.lm j g row) σ H Q) :
    tVar j σ H fun x H1 => tyV X.K "list" x H1 ∧ tL X.K L W row σ H1 fun xs H2 => r x xs H2 Q := by
  obtain ⟨G, η, Fs, R, q⟩ := h
  unfold S.lm at q
  cases z : η[j]? with
  | none => simp only [z] at q; exact q.elim
  | some sl =>
    rw [z] at q
    split at q
    · rename_i k l ds0 y0
      obtain ⟨x, hx, r0⟩ := R.rep (z.trans y0)
      refine ⟨x, hx, ?_, G, η, Fs, R, q.bind.mono fun as η1 G1 H1 Fs1 R1 E1 q1 ws rws => ?_⟩
      · cases r0 with
        | lst h1 h2 => exact .inl ⟨rfl, _, .inl h1⟩
      · cases z1 : η1[j]? with
        | none => simp only [z1] at q1; exact q1.elim
        | some sl1 =>
          rw [z1] at q1
          split at q1
          · rename_i l1 ds y3
            cases hg : g ds as with
            | none => rw [hg] at q1; exact q1.elim
            | some p =>
              rw [hg] at q1
              obtain ⟨a, vs, s1, s2, s3, s4⟩ := R1.write1 (z1.trans y3)
              rw [hx] at s1; cases s1
              refine hm G1 H1 a vs ds ws as p.1 p.2 Q s2 s3 R1.sub rws hg fun u vs' ru rvs => ?_
              obtain ⟨r1, r2⟩ := s4 vs' p.2 rvs
              exact q1 G1 _ Fs1 r1 r2 u ru
          · exact q1.elim
    · exact q.elim
theorem tL_nil {σ : Sig} {H : Hp} {Q : List V → Hp → Prop} (h : tL X.K L W S.nil σ H Q) : Q [] H := by
  obtain ⟨G, η, Fs, R, q⟩ := h
  exact q G H Fs R Ext.refl [] .nil
theorem je_lm0 {o : Expr} {j : Nat} {name : Str} {id : String} {apos cpos : Pos} {r : V → List V → Hp → VK → Prop} {g : List D → List D → Option (D × List D)} (hd : MethD r g) (slot : PySem.Slot "list" name id) (hty : typeOf (.builtin id) = pure (.type "method_descriptor")) (hm : MtR X id r) (ho : PE X o (tVar j))
    (hbase : attributeBase o name X.env (eval o X.env) = eval o X.env := by rfl) (hline : (apos.endLine == cpos.line) = true := by rfl) : PE X (.Call (.Attribute o name apos) [] [] cpos) (tE X.K L W (S.lm j g S.nil)) :=
  PE.imp (pe_bm0 PySem.F.plainAttrs_list slot hty hm ho hbase hline) fun σ H Q h => by
    obtain ⟨x, h1, h2, h3⟩ := lm_use hd h
    exact ⟨x, h1, h2, tL_nil h3⟩
theorem je_lm {o : Expr} {j : Nat} {name : Str} {id : String} {apos cpos : Pos} {r : V → List V → Hp → VK → Prop} {g : List D → List D → Option (D × List D)} {row : Env → Out (List D)} (hd : MethD r g) (slot : PySem.Slot "list" name id) (hty : typeOf (.builtin id) = pure (.type "method_descriptor")) (hm : MtR X id r) (ho : PE X o (tVar j)) (ha : PA X (e :: es) (tL X.K L W row))
    (hbase : attributeBase o name X.env (eval o X.env) = eval o X.env := by rfl)
    (hfew : ((backTo cpos (starEach (e :: es) X.env)).all (fun x => !x.1) && (backToKw cpos (keywordEach [] X.env)).all (fun x => x.1.isSome)
      && decide ((e :: es).length + ([] : List Keyword).length + (if ([] : List Keyword).isEmpty then 0 else 1) < 30)) = true := by rfl)
    (hline : (apos.endLine == cpos.line) = true := by rfl) (hs : starEach (e :: es) X.env = (false, eval e X.env) :: starEach es X.env := by rfl) (hplain : (backTo cpos (starEach es X.env)).any (·.1) = false := by rfl) :
    PE X (.Call (.Attribute o name apos) (e :: es) [] cpos) (tE X.K L W (S.lm j g row)) :=
  PE.imp (pe_bm PySem.F.plainAttrs_list slot hty hm ho ha hbase hfew hline hs hplain) fun σ H Q h => lm_use hd h
/-! ### the methods -/
def appendD : List D → List D → Option (D × List D)
  | ds, [d] => if ds.length < sizeLine then some (.non, ds ++ [d]) else none
  | _, _ => none
def popD : List D → List D → Option (D × List D)
  | ds, [] => ds[ds.length - 1]?.map fun d => (d, ds.dropLast)
  | _, _ => none
def popAtD : List D → List D → Option (D × List D)
  | ds, [.int i] => if -(2 ^ 63) ≤ i ∧ i < 2 ^ 63 then (seqIndex? i ds.length).bind fun k => ds[k]?.map fun d => (d, ds.eraseIdx k) else none
  | _, _ => none
def insertD : List D → List D → Option (D × List D)
  | ds, [.int i, d] => if ds.length < sizeLine ∧ 0 ≤ i ∧ i < 2 ^ 63 then some (.non, ds.take i.toNat ++ [d] ++ ds.drop i.toNat) else none
  | _, _ => none
def extendD : List D → List D → Option (D × List D)
  | ds, [.lst es] => if ds.length + es.length ≤ sizeLine then some (.non, ds ++ es) else none
  | _, _ => none
def reverseD : List D → List D → Option (D × List D)
  | ds, [] => some (.non, ds.reverse)
  | _, _ => none
def clearD : List D → List D → Option (D × List D)
  | _, [] => some (.non, [])
  | _, _ => none
theorem RepL.dropLast {G : Hp} : ∀ {vs : List V} {ds : List D}, RepL G vs ds → RepL G vs.dropLast ds.dropLast
  | _, _, .nil => .nil
  | _, _, .cons r .nil => .nil
  | _, _, .cons r (.cons r2 t) => .cons r (RepL.dropLast (.cons r2 t))
theorem RepL.eraseIdx {G : Hp} : ∀ {vs : List V} {ds : List D} (k : Nat), RepL G vs ds → RepL G (vs.eraseIdx k) (ds.eraseIdx k)
  | _, _, _, .nil => .nil
  | _, _, 0, .cons _ t => t
  | _, _, k + 1, .cons r t => .cons r (RepL.eraseIdx k t)
theorem md_append : MethD rAppend appendD := by
  intro G H a vs ds ws as d ds' Q hH r s rw' h q
  unfold appendD at h
  split at h <;> try cases h
  split at h <;> cases h
  rename_i hz
  cases rw' with
  | cons r1 r2 => cases r2; exact ⟨a, vs, _, rfl, rfl, hH, by rw [r.length]; exact hz, q .non _ .non (r.append (.cons r1 .nil))⟩
theorem md_pop : MethD rPop popD := by
  intro G H a vs ds ws as d ds' Q hH r s rw' h q
  unfold popD at h
  split at h <;> try cases h
  cases e : ds[ds.length - 1]? with
  | none => rw [e] at h; cases h
  | some y =>
    rw [e] at h; cases h
    obtain ⟨v, h1, h2⟩ := r.get e
    cases rw'
    exact ⟨a, vs, v, rfl, rfl, hH, by rw [r.length]; exact h1, q v _ h2 r.dropLast⟩
theorem md_popAt : MethD rPopAt popAtD := by
  intro G H a vs ds ws as d ds' Q hH r s rw' h q
  unfold popAtD at h
  split at h <;> try cases h
  rename_i i
  split at h <;> try cases h
  rename_i hi
  cases e : seqIndex? i ds.length with
  | none => rw [e] at h; cases h
  | some k =>
    rw [e] at h
    have h : (ds[k]?.map fun d => (d, ds.eraseIdx k)) = some (d, ds') := h
    cases e2 : ds[k]? with
    | none => rw [e2] at h; cases h
    | some y =>
      rw [e2] at h; cases h
      obtain ⟨v, h1, h2⟩ := r.get e2
      cases rw' with
      | cons r1 r2 => cases r2; cases r1; exact ⟨a, vs, i, k, v, rfl, rfl, hH, hi.1, hi.2, by rw [r.length]; exact e, h1, q v _ h2 (r.eraseIdx k)⟩
theorem md_insert : MethD (fun x vs H Q => ∃ (l : Addr) (xs : List V) (i : Int) (y : V), x = .ref l ∧ vs = [.int i, y] ∧ H l = some (.lst xs) ∧ xs.length < sizeLine ∧ 0 ≤ i ∧ i < 2 ^ 63 ∧
    Q .non (upd H l (.lst (xs.take i.toNat ++ [y] ++ xs.drop i.toNat)))) insertD := by
  intro G H a vs ds ws as d ds' Q hH r s rw' h q
  unfold insertD at h
  split at h <;> try cases h
  split at h <;> cases h
  rename_i i d hz
  cases rw' with
  | cons r1 r2 => cases r2 with
    | cons r2 r3 => cases r3; cases r1; exact ⟨a, vs, i, _, rfl, rfl, hH, by rw [r.length]; exact hz.1, hz.2.1, hz.2.2, q .non _ .non (((r.take _).append (.cons r2 .nil)).append (r.drop _))⟩
theorem md_reverse : MethD rReverse reverseD := by
  intro G H a vs ds ws as d ds' Q hH r s rw' h q
  unfold reverseD at h
  split at h <;> cases h
  cases rw'
  exact ⟨a, vs, rfl, rfl, hH, q .non _ .non r.reverse⟩
theorem md_clear : MethD rClear clearD := by
  intro G H a vs ds ws as d ds' Q hH r s rw' h q
  unfold clearD at h
  split at h <;> cases h
  cases rw'
  exact ⟨a, vs, rfl, rfl, hH, q .non _ .non .nil⟩
/-- extend, the source a list whether it is locked or not -/
def rExtend2 : V → List V → Hp → VK → Prop := fun x vs H Q => ∃ l b xs zs, x = .ref l ∧ vs = [.ref b] ∧ H l = some (.lst xs) ∧ Rd H b (.lst zs) ∧ xs.length + zs.length ≤ sizeLine ∧ Q .non (upd H l (.lst (xs ++ zs)))
theorem mt_extend2 : MtR X "list.extend" rExtend2 := by
  intro pins s σ H x vs v us Q I rx rv h
  obtain ⟨l, b, xs, zs, rfl, rfl, hH, hB, hz, q⟩ := h
  cases rx
  obtain ⟨u, rfl, ru⟩ := rv.one
  cases ru
  obtain ⟨z, its, n, r, hl, e⟩ := I.lstM hH
  obtain ⟨z2, its2, n2, r2, hl2, e2⟩ := rdLst I hB
  have hsz : its.toArray.size + its2.toArray.size ≤ sizeLine := by rw [List.size_toArray, List.size_toArray]; omega
  have hlong : ¬ (!its.toArray.isEmpty && Builtin.List.listTooLong (its.toArray.size + its2.toArray.size)) = true := by
    rw [notLongL hsz, Bool.and_false]
    exact Bool.false_ne_true
  refine call_meets F.slot_list_extend ⟨_, e, rfl⟩ F.entry_list_extend (F.args_list_extend_2 _ _)
    (AutoSeq1.list_extend_list_list_0 l its.toArray n b its2.toArray n2 hlong (by rw [List.size_toArray]; omega) (by omega)) ⟨e, e2, ?_⟩
  refine ⟨.non, _, I.lset (its' := its ++ its2) hH e (by simp) (r.append r2) ?_, rfl, q⟩
  rw [List.length_append]
  omega
theorem md_extend : MethD rExtend2 extendD := by
  intro G H a vs ds ws as d ds' Q hH r s rw' h q
  unfold extendD at h
  split at h <;> try cases h
  split at h <;> cases h
  rename_i es hz
  cases rw' with
  | cons r1 r2 =>
    cases r2
    cases r1 with
    | lst h1 h2 => exact ⟨a, _, vs, _, rfl, rfl, hH, s.rd _ _ h1, by rw [r.length, h2.length]; exact hz, q .non _ .non (r.append h2)⟩
end
end DV

/-! DV12: comprehensions. -/
namespace DV
open PySem PySem.Spec PyProof.Rows L2 RZ

namespace S
def hide (η : Env) : List Nat → Env
  | [] => η
  | v :: vs => (hide η vs).set v .no
def mix (η0 η1 : Env) : List Nat → Env
  | [] => η1
  | v :: vs => (mix η0 η1 vs).set v (η0[v]?.getD .no)
def still1 : Slot → Bool
  | .no => true
  | .val 0 false _ => true
  | _ => false
def still (vs : List Nat) (η : Env) : Bool := vs.all fun i => still1 (η[i]?.getD .no)
def compL (g : SG) (tt : ST) (f : SF) (k : Nat) (vs : List Nat) : List D → List D → Env → Out (List D)
  | [], acc, η => .ok acc η
  | d :: ds, acc, η => match g d (hide η vs) with
    | .ok _ η1 => (match tt η1 with
      | .ok true η2 => (match f η2 with
        | .ok p η3 => if p.1 = k ∧ acc.length < sizeLine then compL g tt f k vs ds (acc ++ [p.2]) η3 else .bad
        | _ => .bad)
      | .ok false η2 => compL g tt f k vs ds acc η2
      | _ => .bad)
    | _ => .bad
def comp (k : Nat) (vs : List Nat) (it : SI) (g : SG) (tt : ST) (f : SF) : SF := fun η => (it η).bind fun ds η1 => if still vs η1 = true then (match compL g tt f k vs ds [] η1 with
  | .ok es η2 => .ok (k + 1, .lst es) (mix η1 η2 vs)
  | _ => .bad) else .bad
end S

section
variable {L : Lents} {G H G' H' G1 H1 : Hp} {η η1 η2 : Env} {σ σ' : Sig} {Fs Fs' Fs1 : Feet} {vs : List Nat}
theorem hide_len : ∀ vs : List Nat, (S.hide η vs).length = η.length
  | [] => rfl
  | v :: vs => by unfold S.hide; rw [List.length_set, hide_len vs]
theorem mix_len : ∀ vs : List Nat, (S.mix η1 η2 vs).length = η2.length
  | [] => rfl
  | v :: vs => by unfold S.mix; rw [List.length_set, mix_len vs]
theorem hide_in : ∀ {vs : List Nat} {i : Nat}, i ∈ vs → i < η.length → (S.hide η vs)[i]? = some .no
  | [], _, h, _ => by simp at h
  | v :: vs, i, h, hl => by
    unfold S.hide
    by_cases e : i = v
    · subst e; exact get_set_self (by rw [hide_len]; exact hl)
    · rw [get_set_ne e]; exact hide_in ((List.mem_cons.mp h).resolve_left e) hl
theorem hide_out : ∀ {vs : List Nat} {i : Nat}, i ∉ vs → (S.hide η vs)[i]? = η[i]?
  | [], _, _ => rfl
  | v :: vs, i, h => by
    unfold S.hide
    rw [get_set_ne fun e => h (by rw [e]; exact List.mem_cons_self)]
    exact hide_out fun z => h (List.mem_cons_of_mem _ z)
theorem mix_in : ∀ {vs : List Nat} {i : Nat}, i ∈ vs → i < η2.length → (S.mix η1 η2 vs)[i]? = some (η1[i]?.getD .no)
  | [], _, h, _ => by simp at h
  | v :: vs, i, h, hl => by
    unfold S.mix
    by_cases e : i = v
    · subst e; exact get_set_self (by rw [mix_len]; exact hl)
    · rw [get_set_ne e]; exact mix_in ((List.mem_cons.mp h).resolve_left e) hl
theorem mix_out : ∀ {vs : List Nat} {i : Nat}, i ∉ vs → (S.mix η1 η2 vs)[i]? = η2[i]?
  | [], _, _ => rfl
  | v :: vs, i, h => by
    unfold S.mix
    rw [get_set_ne fun e => h (by rw [e]; exact List.mem_cons_self)]
    exact mix_out fun z => h (List.mem_cons_of_mem _ z)
theorem wipe_out : ∀ {vs : List Nat} {i : Nat}, i ∉ vs → (wipe σ vs)[i]? = σ[i]?
  | [], _, _ => rfl
  | v :: vs, i, h => by
    unfold wipe
    rw [get_set_ne fun e => h (by rw [e]; exact List.mem_cons_self)]
    exact wipe_out fun z => h (List.mem_cons_of_mem _ z)
theorem wipe_in : ∀ {vs : List Nat} {i : Nat}, i ∈ vs → i < σ.length → (wipe σ vs)[i]? = some none
  | [], _, h, _ => by simp at h
  | v :: vs, i, h, hl => by
    unfold wipe
    by_cases e : i = v
    · subst e; exact get_set_self (by rw [wipe_length]; exact hl)
    · rw [get_set_ne e]; exact wipe_in ((List.mem_cons.mp h).resolve_left e) hl
theorem wipe_ext (hl : σ.length = σ'.length) (h : ∀ i, i ∉ vs → σ[i]? = σ'[i]?) : wipe σ vs = wipe σ' vs := by
  apply List.ext_getElem?
  intro i
  by_cases hi : i ∈ vs
  · by_cases h2 : i < σ.length
    · rw [wipe_in hi h2, wipe_in hi (by omega)]
    · rw [List.getElem?_eq_none (by rw [wipe_length]; omega), List.getElem?_eq_none (by rw [wipe_length]; omega)]
  · rw [wipe_out hi, wipe_out hi]; exact h i hi
theorem wipe_wipe : wipe (wipe σ vs) vs = wipe σ vs := wipe_ext (wipe_length σ vs) fun i hi => wipe_out hi
/-- the block's names are forgotten -/
theorem Rel.hide (R : Rel L G η σ H Fs) (hL : ∀ p ∈ L.2, p.1 ∉ vs) : ∃ Fs', Rel L G (S.hide η vs) (wipe σ vs) H Fs' ∧ ∀ a, foot Fs' a → foot Fs a := by
  have lenσ : σ.length = η.length := R.len.symm
  refine ⟨fun i => if i ∈ vs then [] else Fs i, ⟨R.sub, by rw [hide_len, wipe_length]; exact R.len, by rw [hide_len]; exact R.wid, fun i k l d e => ?_, fun i e => ?_, fun i => ?_, fun i a h => ?_, fun i j a h h' => ?_, fun p hp => ?_⟩, fun a ⟨i, h⟩ => ?_⟩
  · by_cases hi : i ∈ vs
    · have hl : i < η.length := by
        have := (List.getElem?_eq_some_iff.mp e).1
        rw [hide_len] at this; exact this
      rw [hide_in hi hl] at e; cases e
    · rw [hide_out hi] at e
      simp only [if_neg hi]
      rw [wipe_out hi]
      exact R.slot i k l d e
  · by_cases hi : i ∈ vs
    · simp only [if_pos hi]
    · simp only [if_neg hi]
      exact R.emp i fun k l d z => e k l d (by rw [hide_out hi]; exact z)
  · by_cases hi : i ∈ vs
    · simp only [if_pos hi]; exact List.nodup_nil
    · simp only [if_neg hi]; exact R.nod i
  · by_cases hi : i ∈ vs
    · simp only [if_pos hi] at h; simp at h
    · simp only [if_neg hi] at h; exact R.dis i a h
  · by_cases hi : i ∈ vs
    · simp only [if_pos hi] at h; simp at h
    · by_cases hj : j ∈ vs
      · simp only [if_pos hj] at h'; simp at h'
      · simp only [if_neg hi] at h; simp only [if_neg hj] at h'; exact R.sep i j a h h'
  · obtain ⟨k, d, z1, z2⟩ := R.lnt p hp
    exact ⟨k, d, by rw [hide_out (hL p hp)]; exact z1, by rw [wipe_out (hL p hp)]; exact z2⟩
  · by_cases hi : i ∈ vs
    · simp only [if_pos hi] at h; simp at h
    · simp only [if_neg hi] at h; exact ⟨i, h⟩
theorem still_get (h : S.still vs η = true) {i : Nat} (hi : i ∈ vs) {k : Nat} {l : Bool} {d : D} (e : η[i]? = some (.val k l d)) : k = 0 ∧ l = false := by
  have z := List.all_eq_true.mp h i hi
  rw [e] at z
  cases k with
  | succ k => cases z
  | zero => cases l with
    | true => cases z
    | false => exact ⟨rfl, rfl⟩
theorem still_lents (R : Rel L G η σ H Fs) (h : S.still vs η = true) : ∀ p ∈ L.2, p.1 ∉ vs := fun p hp hi => by
  obtain ⟨k, d, z1, _⟩ := R.lnt p hp
  cases (still_get h hi z1).2
/-- what the block's names held before comes back -/
theorem Rel.unhide (R1 : Rel L G1 η1 σ H1 Fs1) (h : S.still vs η1 = true) (g : Le G1 G) (R : Rel L G (S.hide η2 vs) (wipe σ vs) H Fs) : Rel L G (S.mix η1 η2 vs) σ H Fs := by
  have hl : η2.length = η1.length := by rw [R1.wid, ← R.wid, hide_len]
  refine ⟨R.sub, by rw [mix_len, hl]; exact R1.len, by rw [mix_len, hl]; exact R1.wid, fun i k l d e => ?_, fun i e => ?_, R.nod, R.dis, R.sep, fun p hp => ?_⟩
  · by_cases hi : i ∈ vs
    · have hi2 : i < η2.length := by
        have := (List.getElem?_eq_some_iff.mp e).1
        rw [mix_len] at this; exact this
      rw [mix_in hi hi2] at e
      cases z : η1[i]? with
      | none => rw [z] at e; cases e
      | some s =>
        rw [z] at e
        have e : s = .val k l d := by injection e
        subst e
        obtain ⟨rfl, rfl⟩ := still_get h hi z
        obtain ⟨v, y1, y2, _⟩ := R1.slot i 0 false d z
        have em : Fs i = [] := R.emp i fun k l d q => by rw [hide_in hi hi2] at q; cases q
        exact ⟨v, y1, ⟨y2.1.mono g.sub, em⟩, fun z => by cases z⟩
    · rw [mix_out hi] at e
      obtain ⟨v, y1, y2, y3⟩ := R.slot i k l d (by rw [hide_out hi]; exact e)
      rw [wipe_out hi] at y1
      exact ⟨v, y1, y2, y3⟩
  · by_cases hi : i ∈ vs
    · exact R.emp i fun k l d q => by
        have hi2 : i < η2.length := by
          have := (List.getElem?_eq_some_iff.mp q).1
          rw [hide_len] at this; exact this
        rw [hide_in hi hi2] at q; cases q
    · exact R.emp i fun k l d q => e k l d (by rw [mix_out hi]; rw [hide_out hi] at q; exact q)
  · have hi := still_lents R1 h p hp
    obtain ⟨k, d, z1, z2⟩ := R.lnt p hp
    rw [hide_out hi] at z1
    rw [wipe_out hi] at z2
    exact ⟨k, d, by rw [mix_out hi]; exact z1, z2⟩
/-- a new object that nobody of the environment owns is written -/
theorem Ext.updN (E : Ext G1 H1 Fs1 G H Fs) {D : Addr} {o : HO} (h1 : H1 D = none) : Ext G1 H1 Fs1 G (upd H D o) Fs where
  g := E.g
  h := fun a u e n => by
    rw [upd_ne fun z => by rw [z, h1] at e; cases e]
    exact E.h a u e n
  n := E.n
  f := E.f
  d := fun a e => by
    by_cases z : a = D
    · subst z; exact absurd h1 e
    · rw [upd_ne z]; exact E.d a e
theorem Rel.updN (R : Rel L G η σ H Fs) {D : Addr} {o : HO} (h : G D = none) (nf : ¬ foot Fs D) : Rel L G η σ (upd H D o) Fs where
  sub := R.sub.upd_out h
  len := R.len
  wid := R.wid
  slot := fun i k l d e => by
    obtain ⟨v, y1, y2, y3⟩ := R.slot i k l d e
    exact ⟨v, y1, y2.mono (Sub.refl G) k fun a ha => upd_ne fun z => nf ⟨i, by rw [← z]; exact ha⟩, y3⟩
  emp := R.emp
  nod := R.nod
  dis := R.dis
  sep := R.sep
  lnt := R.lnt
/-- one more item -/
theorem Apart.push {k : Nat} {D : Addr} {F : List Addr} {y : V} {d : DV.D} {F' : List Addr} {acc : List DV.D} (x : Apart G H Fs (k + 1) (.ref D) (.lst acc) F) (y' : Apart G H Fs k y d F') (df : ∀ a ∈ F', a ∉ F) :
    ∃ vs, H D = some (.lst vs) ∧ vs.length = acc.length ∧ G D = none ∧ ¬ foot Fs D ∧ Apart G (upd H D (.lst (vs ++ [y]))) Fs (k + 1) (.ref D) (.lst (acc ++ [d])) (F ++ F') := by
  obtain ⟨a, vs, Fl, e1, e2, e3, e4⟩ := x.own
  cases e1
  have hD : D ∈ F := by rw [e3]; exact List.mem_cons_self
  have nd := x.nod
  rw [e3] at nd
  have hDl : D ∉ Fl := (List.nodup_cons.mp nd).1
  refine ⟨vs, e2, e4.length, x.dis D hD, x.sep D hD, ⟨D, vs ++ [y], Fl ++ F', rfl, upd_same, by rw [e3]; rfl, ?_⟩, ?_, fun a ha => ?_, fun a ha => ?_⟩
  · refine OwnL.append (e4.impF fun v d F2 r z => r.mono (Sub.refl G) k fun b hb => upd_ne fun q => hDl (by rw [← q]; exact z b hb)) ?_
    have := OwnL.cons (R := Own G (upd H D (.lst (vs ++ [y]))) k) (y'.own.mono (Sub.refl G) k fun b hb => upd_ne fun q => df b hb (by rw [q]; exact hD)) OwnL.nil
    rw [List.append_nil] at this; exact this
  · rw [List.nodup_append]
    exact ⟨x.nod, y'.nod, fun a ha b hb q => df b hb (by rw [← q]; exact ha)⟩
  · exact (List.mem_append.mp ha).elim (x.dis a) (y'.dis a)
  · exact (List.mem_append.mp ha).elim (x.sep a) (y'.sep a)
end

section
variable {X : Cx} {L : Lents} {W : WX} {e a b c tg it : Expr} {es : List Expr} {pos : Pos} {ss : List Stmt} {vs : List Nat}
/-! ### the block's targets -/
def tGv (L : Lents) (vs : List Nat) (g : SG) : TG := fun v σ H Q => ∃ G η Fs d η', Rel L G η σ H Fs ∧ Rep G v d ∧ g d η = .ok () η' ∧ ∀ σ' G' H' Fs', Rel L G' η' σ' H' Fs' → Ext G H Fs G' H' Fs' → wipe σ' vs = wipe σ vs → Q σ' H'
def tGsv (L : Lents) (ws : List Nat) (gs : List SG) : TGs := fun vs σ H Q => ∃ G η Fs ds η', Rel L G η σ H Fs ∧ RepL G vs ds ∧ S.names gs ds η = .ok () η' ∧ ∀ σ' G' H' Fs', Rel L G' η' σ' H' Fs' → Ext G H Fs G' H' Fs' → wipe σ' ws = wipe σ ws → Q σ' H'
theorem jgv_name {i : Nat} {x : Str} (hN : X.N.Nodup) (hi : X.N[i]? = some x) (hx : Loc X.env.scope x) (hf : X.fn x = true ∨ X.env.scope.names.lookup x = some .local) (hv : i ∈ vs) : PG X (.Name x pos) (tGv L vs (S.name i)) := by
  refine PG.imp (pg_name hN hi hx hf) fun v σ H Q ⟨G, η, Fs, d, η', R, r, e, q⟩ => ?_
  unfold S.name at e
  split at e <;> cases e
  rename_i s
  obtain ⟨Fs2, R2, f2⟩ := R.stored (Apart.zero r) s fun _ _ => .inr (.inr trivial)
  exact q _ G H Fs2 R2 (Ext.refl.feet fun a ha => (f2 a ha).elim (fun z => by simp at z) .inl) (wipe_ext (by rw [List.length_set]) fun j hj => get_set_ne fun z => hj (by rw [z]; exact hv))
theorem jgsv_nil : PGs X [] (tGsv L vs []) := PGs.imp pgs_nil fun ws σ H Q ⟨G, η, Fs, ds, η', R, r, e, q⟩ => by
  cases r with
  | nil => cases e; exact ⟨rfl, q σ G H Fs R Ext.refl rfl⟩
  | cons _ _ => cases e
theorem jgsv_cons {g : SG} {gs : List SG} (h : PG X e (tGv L vs g)) (hr : PGs X es (tGsv L vs gs)) (hs : (assignEach (e :: es) X.env).map (·.2) = assign e X.env :: (assignEach es X.env).map (·.2) := by rfl) : PGs X (e :: es) (tGsv L vs (g :: gs)) := by
  refine PGs.imp (pgs_cons h hr hs) fun ws σ H Q ⟨G, η, Fs, ds, η', R, r, e, q⟩ => ?_
  cases r with
  | nil => cases e
  | @cons v vs d ds r1 r2 =>
    have e : (g d η).bind (fun _ η1 => S.names gs ds η1) = .ok () η' := e
    cases z : g d η with
    | bad => rw [z] at e; cases e
    | exc c η1 => rw [z] at e; cases e
    | ok u η1 =>
      rw [z] at e
      exact ⟨v, vs, rfl, G, η, Fs, d, η1, R, r1, z, fun σ1 G1 H1 Fs1 R1 E1 w1 => ⟨G1, η1, Fs1, ds, η', R1, r2.mono E1.g.sub, e, fun σ2 G2 H2 Fs2 R2 E2 w2 => q σ2 G2 H2 Fs2 R2 (E1.trans E2) (w2.trans w1)⟩⟩
theorem jgv_tup {gs : List SG} {k n : Nat} (hc : X.calm = true) (h : PGs X es (tGsv L vs gs)) (hl : gs.length = n) (hn : (assignEach es X.env).length = n := by rfl) (hst : (assignEach es X.env).findIdx? (·.1) = none := by rfl) : PG X (.Tuple es k pos) (tGv L vs (S.gtup gs)) := by
  refine PG.imp (pg_tup hc h hn hst) fun v σ H Q ⟨G, η, Fs, d, η', R, r, e, q⟩ => ?_
  unfold S.gtup at e
  cases d <;> first | (exact absurd e (by intro z; cases z)) | skip
  rename_i ds
  cases r with
  | tup h1 h2 => exact ⟨_, _, rfl, .of (R.sub.tp _ _ h1), by rw [h2.length, ← names_len e]; exact hl, G, η, Fs, ds, η', R, h2, e, q⟩
theorem jts_nil : PTs X [] (tT X.K L W (S.ct true)) := ⟨fun pins s σ H Q I h => pts_nil.run pins s σ H Q I (by
  obtain ⟨G, η, Fs, R, q⟩ := h
  exact q G H Fs R Ext.refl)⟩
theorem jts_one {t : ST} (h : PT X c (tT X.K L W t)) : PTs X [c] (tT X.K L W t) := pts_one h
/-- nothing is let out of a block -/
abbrev WN : WX := fun _ _ _ _ => False

/-- the turns of a comprehension, what is walked being known -/
theorem lc_turns {K : PySem.W.Frag} {σ : Sig} {G1 H1 : Hp} {Fs1 : Feet} {η1 η0 : Env} {Q : VK} {k : Nat} {g : SG} {tt : ST} {f : SF} {ds es0 : List DV.D} {J : It} {D : Addr} (wJ : Walks G1 H1 Fs1 ds J) (R1 : Rel L G1 η1 σ H1 Fs1) (hst : S.still vs η1 = true) (hD : H1 D = none)
    (z : S.compL g tt f k vs ds [] η1 = .ok es0 η0) (q1 : ∀ G' H' Fs', Rel L G' (S.mix η1 η0 vs) σ H' Fs' → Ext G1 H1 Fs1 G' H' Fs' → ∀ v F, Apart G' H' Fs' (k + 1) v (.lst es0) F → (∀ a ∈ F, foot Fs1 a ∨ H1 a = none) → Q v H') :
    ∃ Wi : Nat → Nat → Hp → Prop, (∃ m, Wi 0 m (upd H1 D (.lst []))) ∧ ∀ i m H, Wi i m H → (J.stop i H ∧ Q (.ref D) H) ∨ (J.go i H ∧ ∃ Nx : Hp → Prop, (∀ H', Nx H' → ∃ m', m' < m ∧ Wi (i + 1) m' H') ∧ ∀ x H', J.yld i H x H' → tGv L vs g x (wipe σ vs) H' fun σ2 H2 => wipe σ2 vs = wipe σ vs ∧ tT K L WN tt σ2 H2 fun b H3 =>
      if b = true then tF K L WN f σ2 H3 fun y H4 => ∃ acc, H4 D = some (.lst acc) ∧ acc.length < sizeLine ∧ Nx (upd H4 D (.lst (acc ++ [y]))) else Nx H3) := by
  have hL := still_lents R1 hst
  have nD1 : G1 D = none := R1.sub.free hD
  obtain ⟨Fs2, R2, f2⟩ := R1.hide hL
  have nf : ¬ foot Fs1 D := R1.noFoot hD
  refine ⟨fun i m H => m = ds.length - i ∧ i ≤ ds.length ∧ ∃ G2 η2 Fs2 acc F, Rel L G2 (S.hide η2 vs) (wipe σ vs) H Fs2 ∧ Ext G1 H1 Fs1 G2 H Fs2 ∧ Apart G2 H Fs2 (k + 1) (.ref D) (.lst acc) F ∧ (∀ a ∈ F, foot Fs1 a ∨ H1 a = none) ∧ S.compL g tt f k vs (ds.drop i) acc η2 = .ok es0 η0,
    ⟨_, rfl, Nat.zero_le _, G1, η1, Fs2, [], [D], R2.updN nD1 fun z => nf (f2 D z), (Ext.refl.feet fun a ha => .inl (f2 a ha)).updN hD, ⟨⟨D, [], [], rfl, upd_same, rfl, .nil⟩, by simp, fun a ha => ?_, fun a ha => ?_⟩, fun a ha => ?_, by rw [List.drop_zero]; exact z⟩, ?_⟩
  · have e : a = D := by simpa using ha
    subst e; exact nD1
  · have e : a = D := by simpa using ha
    subst e; exact fun z => nf (f2 a z)
  · have e : a = D := by simpa using ha
    subst e; exact .inr hD
  · rintro i m H ⟨rfl, hi, G2, η2, Fs2, acc, F, R2, E2, x2, fr, e2⟩
    obtain ⟨w1, w2⟩ := wJ i G2 H Fs2 E2 R2.sub
    by_cases hlt : i < ds.length
    · obtain ⟨go, y⟩ := w2 hlt
      refine .inr ⟨go, fun H' => i + 1 ≤ ds.length ∧ ∃ G2 η2 Fs2 acc F, Rel L G2 (S.hide η2 vs) (wipe σ vs) H' Fs2 ∧ Ext G1 H1 Fs1 G2 H' Fs2 ∧ Apart G2 H' Fs2 (k + 1) (.ref D) (.lst acc) F ∧ (∀ a ∈ F, foot Fs1 a ∨ H1 a = none) ∧ S.compL g tt f k vs (ds.drop (i + 1)) acc η2 = .ok es0 η0,
        fun H' p => ⟨ds.length - (i + 1), by omega, rfl, p⟩, fun x H3 yx => ?_⟩
      obtain ⟨d, G3, hd, N, rx⟩ := y x H3 yx
      have ed : ds.drop i = d :: ds.drop (i + 1) := by
        have hd' := List.getElem?_eq_some_iff.mp hd
        rw [List.drop_eq_getElem_cons hlt, hd'.2]
      rw [ed] at e2
      unfold S.compL at e2
      have R3 := R2.new N
      have E3 := E2.trans (N.ext (Fs := Fs2))
      have x3 := x2.ext (N.ext (Fs := Fs2))
      cases zg : g d (S.hide η2 vs) with
      | bad => simp only [zg] at e2; cases e2
      | exc c η3 => simp only [zg] at e2; cases e2
      | ok u η3 =>
        simp only [zg] at e2
        refine ⟨G3, S.hide η2 vs, Fs2, d, η3, R3, rx, zg, fun σ4 G4 H4 Fs4 R4 E4 hw => ⟨by rw [hw, wipe_wipe], G4, η3, Fs4, R4, ?_⟩⟩
        have hw4 : wipe σ4 vs = wipe σ vs := by rw [hw, wipe_wipe]
        have x4 := x3.ext E4
        cases zt : tt η3 with
        | bad => simp only [zt] at e2; cases e2
        | exc c η4 => simp only [zt] at e2; cases e2
        | ok b η4 =>
          simp only [zt] at e2
          intro G5 H5 Fs5 R5 E5
          have E05 := (E3.trans E4).trans E5
          have x5 := x4.ext E5
          cases b with
          | false =>
            simp only at e2
            obtain ⟨Fs6, R6, f6⟩ := R5.hide (vs := vs) hL
            rw [hw4] at R6
            exact ⟨hlt, G5, η4, Fs6, acc, F, R6, E05.feet fun a ha => E05.f a (f6 a ha), x5.feet f6, fr, e2⟩
          | true =>
            simp only at e2
            refine ⟨G5, η4, Fs5, R5, ?_⟩
            cases zf : f η4 with
            | bad => simp only [zf] at e2; cases e2
            | exc c η5 => simp only [zf] at e2; cases e2
            | ok p η5 =>
              simp only [zf] at e2
              split at e2
              · rename_i hp
                obtain ⟨hp1, hp2⟩ := hp
                intro G6 H6 Fs6 R6 E6 v Fv xv ov
                rw [hp1] at xv
                have x6 := x5.ext E6
                have dj : ∀ a ∈ Fv, a ∉ F := fun a ha hF => by
                  rcases ov a ha with z | z
                  · exact x5.sep a hF z
                  · exact x5.there a hF z
                obtain ⟨ws, s1, s2, s3, s4, s5⟩ := x6.push xv dj
                have E06 := E05.trans E6
                obtain ⟨Fs7, R7, f7⟩ := R6.hide (vs := vs) hL
                rw [hw4] at R7
                refine ⟨ws, s1, by rw [s2]; exact hp2, hlt, G6, η5, Fs7, acc ++ [p.2], F ++ Fv, R7.updN s3 fun z => s4 (f7 D z), (E06.feet fun a ha => E06.f a (f7 a ha)).updN hD, s5.feet f7, fun a ha => ?_, e2⟩
                rcases List.mem_append.mp ha with z | z
                · exact fr a z
                · rcases ov a z with y | y
                  · exact E05.f a y
                  · exact .inr (E05.noneOf y)
              · cases e2
    · have ei : i = ds.length := by omega
      subst ei
      rw [List.drop_length] at e2
      cases e2
      have R9 := Rel.unhide R1 hst E2.g R2
      exact .inl ⟨w1 (Nat.le_refl _), q1 G2 H Fs2 R9 E2 (.ref D) F x2 fr⟩
theorem lc_use {σ : Sig} {H : Hp} {Q : VK} {k : Nat} {itf : SI} {g : SG} {tt : ST} {f : SF} (h : tF X.K L W (S.comp k vs itf g tt f) σ H Q) :
    tLc (tI X.K L W itf) (tGv L vs g) (tT X.K L WN tt) (tF X.K L WN f) vs σ H Q := by
  obtain ⟨G, η, Fs, R, q⟩ := h
  refine ⟨G, η, Fs, R, q.bind.mono fun ds η1 G1 H1 Fs1 R1 E1 q1 J wJ D hD => ?_⟩
  split at q1
  · rename_i hst
    cases z : S.compL g tt f k vs ds [] η1 with
    | bad => simp only [z] at q1; exact q1.elim
    | exc c η2 => simp only [z] at q1; exact q1.elim
    | ok es0 η0 =>
      simp only [z] at q1
      exact lc_turns wJ R1 hst hD z fun G' H' Fs' R' E' v F x fr => q1 G' H' Fs' R' E' v F x fun a ha => (fr a ha).elim (E1.f a) fun z => .inr (E1.noneOf z)
  · exact q1.elim
theorem jf_lc {elt : Expr} {ifs : List Expr} {scope : Scope} {own : List (Str × Nat)} {k : Nat} {itf : SI} {g : SG} {tt : ST} {f : SF} (hc : X.calm = true) (hN : X.N.Nodup) (hi : PI X tg it (tI X.K L W itf)) (ok : BlkOk X.N X.env.scope scope own) (hv : own.map (·.2) = vs)
    (hg : ∀ (s : Shared) (H : Hp) (C : Addr) (cl : List (Str × Addr)) (fp : List Addr), PG (X.blk s H scope (compEnvC scope cl C X.env) fp) tg (tGv L vs g)) (ht : ∀ (s : Shared) (H : Hp) (C : Addr) (cl : List (Str × Addr)) (fp : List Addr), PTs (X.blk s H scope (compEnvC scope cl C X.env) fp) ifs (tT X.K L WN tt))
    (he : ∀ (s : Shared) (H : Hp) (C : Addr) (cl : List (Str × Addr)) (fp : List Addr), PE (X.blk s H scope (compEnvC scope cl C X.env) fp) elt (tF X.K L WN f)) (hs : ∀ x, foldedSetIterable it X.env x = pure x := by intro _; rfl) :
    PE X (.ListComp elt [⟨tg, it, ifs, 0⟩] scope pos) (tF X.K L W (S.comp k vs itf g tt f)) := by
  subst hv
  exact PE.imp (pe_lc hc hN hi ok hg ht he hs) fun σ H Q h => lc_use h
theorem js_setLc {i : Nat} {y : Str} {py spos : Pos} {elt : Expr} {ifs : List Expr} {scope : Scope} {own : List (Str × Nat)} {k : Nat} {itf : SI} {g : SG} {tt : ST} {f : SF} (hc : X.calm = true) (hN : X.N.Nodup) (hy : X.N[i]? = some y) (hyl : X.env.scope.names.lookup y = some .local)
    (hsw : swapsWith (.ListComp elt [⟨tg, it, ifs, 0⟩] scope pos) (some (.Name y py)) spos.line X.env = pure true) (hi : PI X tg it (tI X.K L W itf)) (ok : BlkOk X.N X.env.scope scope own) (hv : own.map (·.2) = vs)
    (hg : ∀ (s : Shared) (H : Hp) (C : Addr) (cl : List (Str × Addr)) (fp : List Addr), PG (X.blk s H scope (compEnvC scope cl C X.env) fp) tg (tGv L vs g)) (ht : ∀ (s : Shared) (H : Hp) (C : Addr) (cl : List (Str × Addr)) (fp : List Addr), PTs (X.blk s H scope (compEnvC scope cl C X.env) fp) ifs (tT X.K L WN tt))
    (he : ∀ (s : Shared) (H : Hp) (C : Addr) (cl : List (Str × Addr)) (fp : List Addr), PE (X.blk s H scope (compEnvC scope cl C X.env) fp) elt (tF X.K L WN f)) (hs : ∀ x, foldedSetIterable it X.env x = pure x := by intro _; rfl) :
    PS X (.Assign [.Name y py] (.ListComp elt [⟨tg, it, ifs, 0⟩] scope pos) spos) (tS X.K L W (S.asg i (S.comp k vs itf g tt f))) := by
  subst hv
  refine PS.imp (ps_setLc hc hN hy hyl hsw hi ok hg ht he hs) fun D σ H q => ?_
  exact lc_use (asg_use q)
end
end DV

/-! DV13: built-ins, parallel stores, chains of comparisons. -/
namespace DV
open PySem PySem.Spec PyProof.Rows L2 RZ

/-! ### meanings -/
def lenD : List D → Option D
  | [.lst ds] => some (.int ds.length)
  | [.tup ds] => some (.int ds.length)
  | [.str x] => if x.length ≤ sizeLine then some (.int x.length) else none
  | _ => none
def absD : List D → Option D
  | [.int i] => some (.int (if i < 0 then -i else i))
  | _ => none
def maxI : List Int → Int
  | [] => 0
  | [i] => i
  | i :: is => let m := maxI is; if m > i then m else i
def minI : List Int → Int
  | [] => 0
  | [i] => i
  | i :: is => let m := minI is; if m < i then m else i
def maxD : List D → Option D
  | [.int i, .int j] => some (.int (if j > i then j else i))
  | [.lst ds] => match intsOf ds with
    | some (n :: ns) => some (.int (maxI (n :: ns)))
    | _ => none
  | _ => none
def minD : List D → Option D
  | [.int i, .int j] => some (.int (if j < i then j else i))
  | [.lst ds] => match intsOf ds with
    | some (n :: ns) => some (.int (minI (n :: ns)))
    | _ => none
  | _ => none
def sumD : List D → Option D
  | [.lst ds] => (intsOf ds).map fun ns => .int ns.sum
  | _ => none
def blsOf : List D → Option (List Bool)
  | [] => some []
  | .bl b :: ds => (blsOf ds).map (b :: ·)
  | _ :: _ => none
def allD : List D → Option D
  | [.lst ds] => (blsOf ds).map fun bs => .bl (bs.all id)
  | _ => none
def anyD : List D → Option D
  | [.lst ds] => (blsOf ds).map fun bs => .bl (bs.any id)
  | _ => none
def intD : List D → Option D
  | [.int i] => some (.int i)
  | [.bl b] => some (.int (if b then 1 else 0))
  | _ => none
def listD : List D → Option (Nat × D)
  | [.lst ds] => some (1, .lst ds)
  | [.tup ds] => some (1, .lst ds)
  | _ => none
def tupleD : List D → Option (Nat × D)
  | [.lst ds] => some (0, .tup ds)
  | [.tup ds] => some (0, .tup ds)
  | _ => none
def sortedI : List D → Option (Nat × D)
  | [.lst ds] => (intsOf ds).map fun ns => (1, .lst ((ns.mergeSort (fun a b => decide (a ≤ b))).map .int))
  | _ => none
theorem maxI_mem : ∀ {n : Int} {ns : List Int}, maxI (n :: ns) ∈ n :: ns
  | n, [] => by simp [maxI]
  | n, m :: ns => by
    have ih := maxI_mem (n := m) (ns := ns)
    show (if maxI (m :: ns) > n then maxI (m :: ns) else n) ∈ n :: m :: ns
    split
    · exact List.mem_cons_of_mem _ ih
    · exact List.mem_cons_self
theorem le_maxI : ∀ {n : Int} {ns : List Int} {y : Int}, y ∈ n :: ns → y ≤ maxI (n :: ns)
  | n, [], y, h => by simp at h; subst h; simp [maxI]
  | n, m :: ns, y, h => by
    show y ≤ (if maxI (m :: ns) > n then maxI (m :: ns) else n)
    rcases List.mem_cons.mp h with e | h
    · subst e; split <;> omega
    · have ih := le_maxI h; split <;> omega
theorem minI_mem : ∀ {n : Int} {ns : List Int}, minI (n :: ns) ∈ n :: ns
  | n, [] => by simp [minI]
  | n, m :: ns => by
    have ih := minI_mem (n := m) (ns := ns)
    show (if minI (m :: ns) < n then minI (m :: ns) else n) ∈ n :: m :: ns
    split
    · exact List.mem_cons_of_mem _ ih
    · exact List.mem_cons_self
theorem minI_le : ∀ {n : Int} {ns : List Int} {y : Int}, y ∈ n :: ns → minI (n :: ns) ≤ y
  | n, [], y, h => by simp at h; subst h; simp [minI]
  | n, m :: ns, y, h => by
    show (if minI (m :: ns) < n then minI (m :: ns) else n) ≤ y
    rcases List.mem_cons.mp h with e | h
    · subst e; split <;> omega
    · have ih := minI_le h; split <;> omega
theorem blsOf_rep {H : Hp} : ∀ {vs : List V} {ds : List D} {bs : List Bool}, RepL H vs ds → blsOf ds = some bs → vs = bs.map V.bl
  | _, _, _, .nil, e => by cases e; rfl
  | _, _, bs, .cons (d := d) (ds := ds) r t, e => by
    cases d <;> simp only [blsOf] at e <;> try cases e
    rename_i i
    cases q : blsOf ds with
    | none => rw [q] at e; cases e
    | some ms =>
      rw [q] at e; cases e
      cases r
      rw [blsOf_rep t q]; rfl

section
variable {K : PySem.W.Frag}
theorem cd_len : CallD (fun xs H Q => ∃ x n, xs = [x] ∧ LenV K x H n ∧ Q (.int n) H) lenD := by
  intro H vs ds d Q r h q
  unfold lenD at h
  split at h <;> try cases h
  · cases r with
    | cons r1 r2 =>
      cases r2; cases r1 with
      | lst h1 h2 => exact ⟨_, _, rfl, .inl ⟨_, .inl h1, rfl⟩, by rw [h2.length]; exact q _ fun _ => .int _⟩
  · cases r with
    | cons r1 r2 =>
      cases r2; cases r1 with
      | tup h1 h2 => exact ⟨_, _, rfl, .inr ⟨_, .of h1, rfl⟩, by rw [h2.length]; exact q _ fun _ => .int _⟩
  · split at h <;> cases h
    rename_i hz
    cases r with
    | cons r1 r2 => cases r2; cases r1; exact ⟨_, _, rfl, ⟨hz, rfl⟩, q _ fun _ => .int _⟩
theorem cd_abs : CallD (fun xs H Q => ∃ i, xs = [.int i] ∧ Q (.int (if i < 0 then -i else i)) H) absD := by
  intro H vs ds d Q r h q
  unfold absD at h
  split at h <;> cases h
  cases r with
  | cons r1 r2 => cases r2; cases r1; exact ⟨_, rfl, q _ fun _ => .int _⟩
theorem cd_max : CallD (fun xs H Q => (∃ i j, xs = [.int i, .int j] ∧ Q (.int (if j > i then j else i)) H) ∨ rMax K xs H Q) maxD := by
  intro H vs ds d Q r h q
  unfold maxD at h
  split at h <;> try cases h
  · cases r with
    | cons r1 r2 => cases r2 with
      | cons r2 r3 => cases r3; cases r1; cases r2; exact .inl ⟨_, _, rfl, q _ fun _ => .int _⟩
  · split at h <;> cases h
    rename_i n ns hn
    cases r with
    | cons r1 r2 =>
      cases r2; cases r1 with
      | lst h1 h2 =>
        refine .inr ⟨_, n :: ns, rfl, .inl (by rw [← intsOf_rep h2 hn]; exact h1), by simp, fun m hm hy => ?_⟩
        have e : m = maxI (n :: ns) := by
          have a := le_maxI hm
          have b := hy _ maxI_mem
          omega
        rw [e]; exact q _ fun _ => .int _
theorem cd_min : CallD (fun xs H Q => (∃ i j, xs = [.int i, .int j] ∧ Q (.int (if j < i then j else i)) H) ∨ rMin K xs H Q) minD := by
  intro H vs ds d Q r h q
  unfold minD at h
  split at h <;> try cases h
  · cases r with
    | cons r1 r2 => cases r2 with
      | cons r2 r3 => cases r3; cases r1; cases r2; exact .inl ⟨_, _, rfl, q _ fun _ => .int _⟩
  · split at h <;> cases h
    rename_i n ns hn
    cases r with
    | cons r1 r2 =>
      cases r2; cases r1 with
      | lst h1 h2 =>
        refine .inr ⟨_, n :: ns, rfl, .inl (by rw [← intsOf_rep h2 hn]; exact h1), by simp, fun m hm hy => ?_⟩
        have e : m = minI (n :: ns) := by
          have a := minI_le hm
          have b := hy _ minI_mem
          omega
        rw [e]; exact q _ fun _ => .int _
theorem cd_sum : CallD (rSum K) sumD := by
  intro H vs ds d Q r h q
  unfold sumD at h
  split at h <;> try cases h
  rename_i ds0
  cases hn : intsOf ds0 with
  | none => rw [hn] at h; cases h
  | some ns =>
    rw [hn] at h; cases h
    cases r with
    | cons r1 r2 =>
      cases r2; cases r1 with
      | lst h1 h2 => exact ⟨_, ns, rfl, .inl (by rw [← intsOf_rep h2 hn]; exact h1), q _ fun _ => .int _⟩
theorem cd_all : CallD (rAll K) allD := by
  intro H vs ds d Q r h q
  unfold allD at h
  split at h <;> try cases h
  rename_i ds0
  cases hn : blsOf ds0 with
  | none => rw [hn] at h; cases h
  | some ns =>
    rw [hn] at h; cases h
    cases r with
    | cons r1 r2 =>
      cases r2; cases r1 with
      | lst h1 h2 => exact ⟨_, ns, rfl, .inl (by rw [← blsOf_rep h2 hn]; exact h1), q _ fun _ => .bl _⟩
theorem cd_any : CallD (rAny K) anyD := by
  intro H vs ds d Q r h q
  unfold anyD at h
  split at h <;> try cases h
  rename_i ds0
  cases hn : blsOf ds0 with
  | none => rw [hn] at h; cases h
  | some ns =>
    rw [hn] at h; cases h
    cases r with
    | cons r1 r2 =>
      cases r2; cases r1 with
      | lst h1 h2 => exact ⟨_, ns, rfl, .inl (by rw [← blsOf_rep h2 hn]; exact h1), q _ fun _ => .bl _⟩
theorem cd_int : CallD (fun xs H Q => (∃ i, xs = [.int i] ∧ Q (.int i) H) ∨ ∃ k, xs = [.bl k] ∧ Q (.int (if k then 1 else 0)) H) intD := by
  intro H vs ds d Q r h q
  unfold intD at h
  split at h <;> cases h
  · cases r with
    | cons r1 r2 => cases r2; cases r1; exact .inl ⟨_, rfl, q _ fun _ => .int _⟩
  · cases r with
    | cons r1 r2 => cases r2; cases r1; exact .inr ⟨_, rfl, q _ fun _ => .int _⟩
theorem BorL.one {G H : Hp} {vs : List V} {d : D} (h : BorL G H vs [d]) : ∃ v, vs = [v] ∧ Bor G H v d := by
  cases h with
  | cons b t => cases t; exact ⟨_, rfl, b⟩
theorem cf_list : CallF (fun xs H Q => ∃ p ys, xs = [.ref p] ∧ (SqL K H p ys ∨ SqT K H p ys) ∧ ∀ l, H l = none → Q (.ref l) (upd H l (.lst ys))) listD := by
  intro G H vs ds k d Q s r h fin
  unfold listD at h
  split at h <;> cases h
  · obtain ⟨v, rfl, b⟩ := r.one
    obtain ⟨a, ys, rfl, h1, r1⟩ := b.lst s
    exact ⟨a, ys, rfl, .inl (.inl h1), fun l hl => fin.lstN s hl r1⟩
  · obtain ⟨v, rfl, b⟩ := r.one
    obtain ⟨a, ys, rfl, h1, r1⟩ := b.tup s
    exact ⟨a, ys, rfl, .inr (.of (s.tp _ _ h1)), fun l hl => fin.lstN s hl r1⟩
theorem cf_tuple : CallF (fun xs H Q => ∃ p ys, xs = [.ref p] ∧ ((SqL K H p ys ∧ ∀ l, H l = none → Q (.ref l) (upd H l (.tup ys))) ∨ (SqT K H p ys ∧ Q (.ref p) H))) tupleD := by
  intro G H vs ds k d Q s r h fin
  unfold tupleD at h
  split at h <;> cases h
  · obtain ⟨v, rfl, b⟩ := r.one
    obtain ⟨a, ys, rfl, h1, r1⟩ := b.lst s
    exact ⟨a, ys, rfl, .inl ⟨.inl h1, fun l hl => fin.tupN s hl r1⟩⟩
  · obtain ⟨v, rfl, b⟩ := r.one
    obtain ⟨a, ys, rfl, h1, r1⟩ := b.tup s
    exact ⟨a, ys, rfl, .inr ⟨.of (s.tp _ _ h1), fin.same s (.tup h1 r1)⟩⟩
theorem RepL.ints {G : Hp} : ∀ (ns : List Int), RepL G (ns.map V.int) (ns.map D.int)
  | [] => .nil
  | n :: ns => .cons (.int n) (RepL.ints ns)
theorem cf_sortedI : CallF (rSortedI K) sortedI := by
  intro G H vs ds k d Q s r h fin
  unfold sortedI at h
  split at h <;> try cases h
  rename_i ds0
  cases hn : intsOf ds0 with
  | none => rw [hn] at h; cases h
  | some ns =>
    rw [hn] at h; cases h
    obtain ⟨v, rfl, b⟩ := r.one
    obtain ⟨a, ys, rfl, h1, r1⟩ := b.lst s
    refine ⟨a, ns, rfl, .inl (by rw [← intsOf_rep r1 hn]; exact h1), fun ns' p hp hs hl => ?_⟩
    have e : ns' = ns.mergeSort (fun a b => decide (a ≤ b)) := by
      refine List.Perm.eq_of_pairwise (le := fun a b => a ≤ b) (fun a b _ _ h1 h2 => by omega) hs ?_ (hp.trans (List.mergeSort_perm ns _).symm)
      have := List.pairwise_mergeSort (le := fun a b : Int => decide (a ≤ b)) (fun a b c h1 h2 => by simp at *; omega) (fun a b => by simp; omega) ns
      exact this.imp fun h => by simpa using h
    rw [e]
    exact fin.lstN s hl (RepL.ints _)
end

/-! ### isinstance -/
def tyD : D → String
  | .non => "NoneType"
  | .bl _ => "bool"
  | .int _ => "int"
  | .str _ => "str"
  | .tup _ => "tuple"
  | .lst _ => "list"
  | .dK _ => "dict"
  | .dT _ => "dict"
def isiD (T : String) : D → Option Bool
  | .dT _ => none
  | d => kitB (tyD d) T
def S.isi (T : String) (o : Opd) : SE := fun η => (o.pre η).bind fun p η1 => lift ((o.deep p η1).bind fun d => (isiD T d).map D.bl) η1
theorem Rep.ty {K : PySem.W.Frag} {H : Hp} {v : V} {d : D} {T : String} {b : Bool} (r : Rep H v d) (h : isiD T d = some b) : TyX K H v (.type (tyD d)) ∧ kitB (tyD d) T = some b := by
  cases r with
  | non => exact ⟨.base .non, h⟩
  | bl b => exact ⟨.base (.bl b), h⟩
  | int i => exact ⟨.base (.int i), h⟩
  | str x => exact ⟨.base (.str x), h⟩
  | tup h1 h2 => exact ⟨.base (.tup h1), h⟩
  | lst h1 h2 =>
    rcases h1 with h1 | ⟨o, h1⟩
    · exact ⟨.base (.lst h1), h⟩
    · exact ⟨.base (.frz h1), h⟩
  | dK h1 h2 h3 =>
    rcases h1 with h1 | ⟨o, h1⟩
    · exact ⟨.base (.dK h1), h⟩
    · exact ⟨.fDict h1, h⟩
  | dT h1 h2 h3 => cases h
section
variable {X : Cx} {L : Lents} {W : WX} {e a b c tg it : Expr} {es : List Expr} {pos : Pos} {ss : List Stmt}
theorem je_isi {o : Opd} {T : String} {N : Str} {p pT : Pos} (ha : PE X a (tO X.K L W o)) (hg : Gl X "isinstance") (hm : X.mg "isinstance" = none) (hgT : Gl X N) (hmT : X.mg N = none) (hvT : bootBuiltins N = some (.type T)) (hnT : N ≠ "__name__" := by decide) (hdT : (N == ("__debug__" : Str)) = false := by decide)
    (he : starEach (a :: [.Name N pT]) X.env = (false, eval a X.env) :: starEach [.Name N pT] X.env := by rfl) (he2 : starEach (.Name N pT :: []) X.env = (false, eval (.Name N pT) X.env) :: starEach [] X.env := by rfl) (hpl : (backTo pos (starEach [.Name N pT] X.env)).any (·.1) = false := by rfl) :
    PE X (.Call (.Name "isinstance" p) [a, .Name N pT] [] pos) (tE X.K L W (S.isi T o)) := by
  refine PE.imp (pe_callB (call_isi (X := X)) hg hm (by decide +kernel) (pa_cons ha (pa_cons (pe_bltn (v := .ty T) hgT hmT hvT rfl hnT hdT) pa_nil he2) he) (by decide) (by decide) he hpl) fun σ H Q ⟨G, η, Fs, R, q⟩ => ?_
  refine tO_use R q fun v p η1 G1 H1 Fs1 R1 E1 k1 q1 => ?_
  obtain ⟨d, e, q3⟩ := q1.lift
  cases hx : o.deep p η1 with
  | none => rw [hx] at e; cases e
  | some x =>
    rw [hx] at e
    have e : (isiD T x).map D.bl = some d := e
    cases hb : isiD T x with
    | none => rw [hb] at e; cases e
    | some b =>
      rw [hb] at e; cases e
      obtain ⟨t1, t2⟩ := (k1.rep R1 hx).ty (K := X.K) hb
      exact ⟨v, .ty T, _, _, b, rfl, .ty T, t1, kit_ty t2, q3 G1 H1 Fs1 R1 Ext.refl _ (.bl b)⟩

/-! ### a, b = x, y: both local names -/
theorem js_par2 {i j : Nat} {x y : Str} {r : Env → Out (List D)} {px py pt : Pos} {kt k2 pt2} (hc : X.calm = true) (hN : X.N.Nodup) (hi : X.N[i]? = some x) (hj : X.N[j]? = some y) (hij : i ≠ j)
    (hx : X.env.scope.names.lookup x = some .local) (hy : X.env.scope.names.lookup y = some .local) (ha : PA X [a, b] (tL X.K L W r))
    (hw : swappedStores [.Tuple [.Name x px, .Name y py] kt pt] (.Tuple [a, b] k2 pt2) X.env = pure (some [x, y]))
    (hs : swapsWithSole [.Tuple [.Name x px, .Name y py] kt pt] (.Tuple [a, b] k2 pt2) pos.line X.env = pure false := by rfl) :
    PS X (.Assign [.Tuple [.Name x px, .Name y py] kt pt] (.Tuple [a, b] k2 pt2) pos) (tS X.K L W (S.par [i, j] r)) := by
  refine PS.imp (ps_par hc hN hi hj hij hx hy ha hw hs) fun D σ H ⟨G, η, Fs, R, q⟩ => ⟨G, η, Fs, R, (ResS.bind q).mono fun ds η1 G1 H1 Fs1 R1 E1 q1 vs rv => ?_⟩
  cases rv with
  | nil => exact (show False from q1).elim
  | @cons v1 vs1 d1 ds1 r1 t =>
    cases z : S.name i d1 η1 with
    | bad => simp only [List.map, S.names, z] at q1; exact (show False from q1).elim
    | exc c η2 => simp only [List.map, S.names, z] at q1; exact (show False from q1).elim
    | ok u η2 =>
      cases t with
      | nil => simp only [List.map, S.names, z] at q1; exact (show False from q1).elim
      | @cons v2 vs2 d2 ds2 r2 t2 =>
        simp only [List.map, S.names, z, bind_ok] at q1
        cases z2 : S.name j d2 η2 with
        | bad => simp only [z2] at q1; exact (show False from q1).elim
        | exc c η3 => simp only [z2] at q1; exact (show False from q1).elim
        | ok u2 η3 =>
          simp only [z2, bind_ok] at q1
          cases t2 with
          | cons _ _ => exact (show False from q1).elim
          | nil =>
            have q1 : ResS X.K L W D G1 H1 Fs1 (.ok .nx η3) := q1
            unfold S.name at z z2
            split at z <;> cases z
            rename_i s1
            split at z2 <;> cases z2
            rename_i s2 _
            obtain ⟨Fs2, R2, f2⟩ := R1.stored (Apart.zero r1) s1 fun _ _ => .inr (.inr trivial)
            obtain ⟨Fs3, R3, f3⟩ := R2.stored (Apart.zero r2) s2 fun _ _ => .inr (.inr trivial)
            exact ⟨_, _, rfl, q1 _ G1 H1 Fs3 R3 (Ext.refl.feet fun a ha => (f3 a ha).elim (fun z => by simp at z) fun z => (f2 a z).elim (fun z => by simp at z) .inl)⟩

/-! ### a op b op' c, b a whole number -/
def S.chainB (g g' : D → D → Option Bool) (x : D) (y : D) (c : SE) : SE := fun η => match y with
  | .int j => (match g x (.int j) with
    | some true => (c η).bind fun z η3 => lift ((g' (.int j) z).map D.bl) η3
    | some false => .ok (.bl false) η
    | none => .bad)
  | _ => .bad
def S.chain (g g' : D → D → Option Bool) (a b c : SE) : SE := fun η => (a η).bind fun x η1 => (b η1).bind fun y η2 => S.chainB g g' x y c η2
theorem chain_use {σ : Sig} {H : Hp} {Q : VK} {r r' : R2} {g g' : D → D → Option Bool} {fa fb fc : SE} (hs : Cmp2 r g) (hs' : Cmp2 r' g') (h : tE X.K L W (S.chain g g' fa fb fc) σ H Q) :
    tChain r r' (tE X.K L W fa) (tE X.K L W fb) (tE X.K L W fc) σ H Q := by
  obtain ⟨G, η, Fs, R, q⟩ := h
  refine ⟨G, η, Fs, R, q.bind.mono fun x η1 G1 H1 Fs1 R1 E1 q1 v rv => ⟨G1, η1, Fs1, R1, q1.bind.mono fun y η2 G2 H2 Fs2 R2 E2 q2 w rw' => ?_⟩⟩
  unfold S.chainB at q2
  split at q2
  · rename_i j
    cases rw'
    cases hg : g x (.int j) with
    | none => rw [hg] at q2; exact q2.elim
    | some k =>
      rw [hg] at q2
      refine hs H2 v (.int j) x (.int j) k _ (rv.mono (E2.g.sub.trans R2.sub)) (.int j) hg ⟨k, rfl, ?_⟩
      cases k with
      | false => exact q2 G2 H2 Fs2 R2 Ext.refl _ (.bl false)
      | true =>
        refine ⟨G2, η2, Fs2, R2, (Res.bind q2).mono fun z η3 G3 H3 Fs3 R3 E3 q3 u ru => ?_⟩
        obtain ⟨d, e, q4⟩ := q3.lift
        cases hg' : g' (.int j) z with
        | none => rw [hg'] at e; cases e
        | some k' =>
          rw [hg'] at e; cases e
          exact hs' H3 (.int j) u (.int j) z k' Q (.int j) (ru.mono R3.sub) hg' (q4 G3 H3 Fs3 R3 Ext.refl _ (.bl k'))
  · exact q2.elim
theorem je_chain {op op' : CmpOp} {r r' : R2} {g g' : D → D → Option Bool} {fa fb fc : SE} (ho : OpR X (compareOp op) r) (ho' : OpR X (compareOp op') r') (hs : Cmp2 r g) (hs' : Cmp2 r' g') (ha : PE X a (tE X.K L W fa)) (hb : PE X b (tE X.K L W fb)) (hc : PE X c (tE X.K L W fc))
    (hm : lastMarks [op, op'] [b, c] = false := by with_unfolding_all rfl) : PE X (.Compare a [op, op'] [b, c] pos) (tE X.K L W (S.chain g g' fa fb fc)) :=
  PE.imp (pe_chain ho ho' ha hb hc hm) fun σ H Q h => chain_use hs hs' h
theorem jt_chain {op op' : CmpOp} {r r' : R2} {g g' : D → D → Option Bool} {fa fb fc : SE} (ho : OpR X (compareOp op) r) (ho' : OpR X (compareOp op') r') (hs : Cmp2 r g) (hs' : Cmp2 r' g') (ha : PE X a (tE X.K L W fa)) (hb : PE X b (tE X.K L W fb)) (hc : PE X c (tE X.K L W fc))
    (hm : lastMarks [op, op'] [b, c] = false := by with_unfolding_all rfl) : PT X (.Compare a [op, op'] [b, c] pos) (tT X.K L W (S.tst (S.chain g g' fa fb fc))) :=
  PT.imp (pt_chain ho ho' ha hb hc hm) fun σ H Q h => chain_use hs hs' (tst_use h)
end
end DV

/-! DV14: the head, defs by name, a law's end. -/
namespace DV
open PySem PySem.Spec PyProof.Rows L2 RZ

/-! ### the head's Hook, the lists left out -/
def noL (g : Addr → Option Obj) : Addr → Option Obj := fun a => match g a with
  | some o => (match o.cls with
    | .type c => if c = "list" then none else some o
    | _ => some o)
  | none => none
theorem noL_get {g : Addr → Option Obj} {a : Addr} {o : Obj} (h : noL g a = some o) : g a = some o ∧ o.cls ≠ .type "list" := by
  unfold noL at h
  cases e : g a with
  | none => rw [e] at h; cases h
  | some u =>
    rw [e] at h
    obtain ⟨cls, dd, dt, sl⟩ := u
    cases cls with
    | type c =>
      have h : (if c = "list" then none else some (⟨.type c, dd, dt, sl⟩ : Obj)) = some o := h
      split at h
      · cases h
      · rename_i hc
        cases h
        exact ⟨rfl, fun z => hc (Value.type.inj z)⟩
    | _ => cases h; exact ⟨rfl, fun z => by cases z⟩
def obsN (n : Nat) (fa : List He.Fa) (fn : List He.DefD) (g : Addr → Option Obj) : He.AlD := He.obsD fa fn (He.frG (noL g) (He.asD g n))
def hookN (n : Nat) (fa : List He.Fa) (fn : List He.DefD) : PySem.W.Hook where
  α := He.AlD
  obs := fun s => obsN n fa fn s.heap.get?
  val := fun _ => He.valD fn
  says := fun _ h => ∃ K : PySem.W.Frag, (K.In h ∧ ∀ a o, K.lookup a = some o → o.cls ≠ .type "list") ∧ He.SaysD fa fn K
  of := fun _ _ e => ⟨_, ⟨fun a o q => (noL_get (He.frG_at _ q)).1, fun a o q => (noL_get (He.frG_at _ q)).2⟩, e⟩
  keeps := fun _ _ _ ⟨K, ⟨hK, hl⟩, c⟩ k => ⟨K, ⟨PySem.W.Frag.In.keeps hK k, hl⟩, c⟩
theorem obsN_eq {n : Nat} {fa : List He.Fa} {fn : List He.DefD} {g : Addr → Option Obj} {s : Shared} (h : ∀ a, g a = s.heap.get? a) : obsN n fa fn g = (hookN n fa fn).obs s := by
  have e : g = s.heap.get? := funext h
  rw [e] <;> rfl

/-! ### a def by its name -/
def Has (P : Program) (w : World) (K : PySem.W.Frag) (mg : Str → Option Value) (base : Heap) (x : Str) (ps : List Str) (k : Nat) (F : FnSem) (io : List Bool) : Prop :=
  ∃ fd, mg x = some (.ref (He.ga K x)) ∧ PySem.W.keepIn K (.ref (He.ga K x)) = true ∧ Binds K fd ps [] ∧ FnOk P w K mg base (L2.CX P w) k (He.ga K x) fd ps (spF K F io)
section
variable {P : Program} {w : World} {K : PySem.W.Frag} {mg : Str → Option Value} {base : Heap} {x qual : Str} {params : Arguments} {body : List Stmt} {scope : Scope} {fd : FuncData}
theorem has_of {N ps : List Str} {io : List Bool} {k : Nat} {sem : SS} (F : FunD K x qual params body scope [] [] (He.ga K x) fd) (S' : FnScope N ps scope) (hio : io.length = ps.length) (g : mg x = some (.ref (He.ga K x)))
    (hb : ∀ (kV doc pm : Value) (an : Option Addr) (cdv ct : Value) (us : List Value), us.length = ps.length → bindArgs (PySem.W.fnOf x qual params body scope .none kV doc pm an cdv ct) ⟨us, []⟩ = pure (ps.zip us))
    (hbody : ∀ (cdv : Value) (A : Around) (outer : List PySem.Env) (s : Shared) (H : Hp) (E : XK) (L : Lents), Room k (A.deeper (envOfC qual scope s.heap.objs.size (He.ga K x) cdv)) →
      PSs (cxOf (L2.CX P w) P w K mg base N qual scope (He.ga K x) cdv A outer s H E) body (tS K L (fun cls d _ H' => E cls d H') sem)) :
    Has P w K mg base x ps (k + 1) (S.run sem N.length io) io := ⟨fd, g, F.kp, F.bindsN hb, fn_sem F S' hio hbody⟩
end
theorem takes_blk {X : Cx} {s : Shared} {H : Hp} {scope : Scope} {cenv : PySem.Env} {fp : List Addr} : Takes (X.blk s H scope cenv fp) WN := fun u s' ⟨a, B, sI, pins, σ, H, cls, d, e, I, nb, up, sky, na, os, ag, w⟩ => w
section
variable {X : Cx} {L : Lents} {W : WX} {k : Nat} {ps : List Str} {x : Str} {p pos : Pos} {e : Expr} {es : List Expr} {F : FnSem}
theorem jf_callH {as : List S.Arg} {io : List Bool} (h : Has X.prog X.w X.K X.mg X.base x ps k F io) (hr : Room k X.A) (hg : Gl X x) (tk : Takes X W) (hio : io = as.map S.Arg.isLend) (h1 : oneLend as = true) (ha : PA X (e :: es) (tArgs X.K L W as))
    (hdb : (x == ("__debug__" : Str)) = false := by decide) (he : starEach (e :: es) X.env = (false, eval e X.env) :: starEach es X.env := by rfl) (hpl : (backTo pos (starEach es X.env)).any (·.1) = false := by rfl) :
    PE X (.Call (.Name x p) (e :: es) [] pos) (tF X.K L W (S.call F as)) := by
  obtain ⟨fd, g, kp, b, Fk⟩ := h
  exact jf_call Fk hr hg g kp b tk hio h1 ha hdb he hpl
end

/-! ### a law's end -/
theorem law_sp {K : PySem.W.Frag} {H : Hp} {a : Addr} {ns : List Int} {F : FnSem} (nl : ∀ a o, K.lookup a = some o → o.cls ≠ .type "list") (hS : SqL K H a (ns.map V.int)) (hF : ∃ k bk, F [(0, .lst (ns.map .int))] = .ok k (.bl true) bk) :
    spF K F [false] [.ref a] H (fun v _ => v = .bl true) fun _ _ _ => False := by
  obtain ⟨k, bk, hF⟩ := hF
  have hR : Rd H a (.lst (ns.map V.int)) := by
    rcases hS with h | ⟨o, its, n, e, hc, _⟩
    · exact h
    · exact absurd hc (nl a o e)
  refine ⟨rfl, H, [(0, .lst (ns.map .int))], fun _ => [], rfl, ⟨Sub.refl H, rfl, rfl, fun i k l d e => ?_, fun _ _ => rfl, fun _ => List.nodup_nil, fun i a h => by simp at h, fun i j a h => by simp at h, fun p hp => by cases hp⟩, ?_⟩
  · match i, e with
    | 0, e => cases e; exact ⟨.ref a, rfl, ⟨.lst hR (RepL.ints ns), rfl⟩, fun z => by cases z⟩
    | i + 1, e => cases e
  · rw [hF]
    intro G' H' Fs' v Fv R E x o
    have : Rep H' v (.bl true) := x.own.rep R.sub k fun _ _ => rfl
    cases this; rfl
theorem law_end {l : PySem.W.OpenLaw} {n k : Nat} {q : Program} {loose : List Str} {XP : (Str → Option Value) → Heap → Prop} {YP : World → Heap → Prop} {d : DefRec} {x : Str} {F : FnSem}
    (hn : l.most = some n) (hn2 : n ≤ sizeLine) (hdf : d.params.defaults = []) (hr : Room k callerA)
    (hF : ∀ (w : World) (mg : Str → Option Value) (fa : Addr) (h : Heap), YP w h → h.Ns mainGlobals mg → mg d.name = some (.ref fa) →
      ∃ (K : PySem.W.Frag) (fd : FuncData), K.In h ∧ (∀ a o, K.lookup a = some o → o.cls ≠ .type "list") ∧ (∀ (s : Shared) (u : Value), BindsTo s fd ⟨[u], []⟩ [(x, u)]) ∧
        ∀ base : Heap, K.In base → base.Ns mainGlobals mg → FnOk l.prog w K mg base (L2.CX l.prog w) k fa fd [x] (spF K F [false]))
    (hM : ∀ ns : List Int, ns.length ≤ n → ∃ k bk, F [(0, .lst (ns.map .int))] = .ok k (.bl true) bk) :
    PySem.W.WalkO q loose XP YP l.row.toRowW d [] (fun f vs => PySem.call f vs) := by
  refine Att.attach_call hn hdf fun w s₀ s₁ mg mb fa o pm cd doc a vs ns G Y ho hd hcd hmg hobj hints hlen hg => ?_
  obtain ⟨K, fd, KX, nl, hb, hFk⟩ := hF w mg fa _ Y G.T.g hmg
  refine law_call KX G.T.g G.T.b G.T.builtins G.T.nolimit hg hobj hints (Nat.le_trans hlen hn2) hr hFk hb (fun H hO hS => law_sp nl hS (hM ns hlen)) fun H e s' z => ?_
  obtain ⟨_, _, _, _, _, _, _, _, _, _, _, _, _, f⟩ := z
end DV

/-! DV15: how meanings are worked out. -/
namespace DV
open PySem PySem.Spec PyProof.Rows L2 RZ
/-- what may be stored anew -/
def Slot.free : Slot → Bool
  | .val _ true _ => false
  | _ => true
@[simp] theorem free_no : Slot.free .no = true := rfl
@[simp] theorem free_val {k : Nat} {d : D} : Slot.free (.val k false d) = true := rfl
@[simp] theorem free_lent {k : Nat} {d : D} : Slot.free (.val k true d) = false := rfl
section
variable {η : Env} {f g h : SE} {F F' : SF} {t u : ST} {b c : SS} {o p : Opd} {i j : Nat} {d : D}
@[simp] theorem v_up : S.up f η = (f η).bind fun d η' => .ok (0, d) η' := rfl
@[simp] theorem v_fz : S.fz F η = (F η).bind fun p η' => .ok p.2 η' := rfl
@[simp] theorem v_c : S.c d η = .ok d η := rfl
@[simp] theorem v_ct {x : Bool} : S.ct x η = .ok x η := rfl
@[simp] theorem v_var : S.var i η = match η[i]? with
  | some (.val 0 _ d) => .ok d η
  | some (.val (_ + 1) false d) => .ok d (η.set i (.val 0 false d))
  | _ => .bad := rfl
@[simp] theorem v_mov : S.mov i η = match η[i]? with
  | some (.val k false d) => .ok (k, d) (η.set i .no)
  | _ => .bad := rfl
@[simp] theorem v_bin {g : D → D → Option (Nat × D)} : S.bin g o p η = (o.pre η).bind fun x η1 => (p.pre η1).bind fun y η2 => lift ((o.fin x η2).bind fun x => (p.fin y η2).bind fun y => g x y) η2 := rfl
@[simp] theorem v_un {g : D → Option (Nat × D)} : S.un g o η = (o.pre η).bind fun p η1 => lift ((o.fin p η1).bind g) η1 := rfl
@[simp] theorem v_cmp {g : D → D → Option Bool} : S.cmp g o p η = (o.pre η).bind fun x η1 => (p.pre η1).bind fun y η2 => lift ((o.deep x η2).bind fun x => (p.deep y η2).bind fun y => (g x y).map D.bl) η2 := rfl
@[simp] theorem v_tst : S.tst f η = (f η).bind fun d η' => lift (S.truth d) η' := rfl
@[simp] theorem v_truth {x : Bool} : S.truth (.bl x) = some x := rfl
@[simp] theorem v_band : S.band f g η = (f η).bind fun d η1 => match d with
  | .bl true => g η1
  | .bl false => .ok (.bl false) η1
  | _ => .bad := rfl
@[simp] theorem v_bor : S.bor f g η = (f η).bind fun d η1 => match d with
  | .bl false => g η1
  | .bl true => .ok (.bl true) η1
  | _ => .bad := rfl
@[simp] theorem v_bnot : S.bnot f η = (f η).bind fun d η1 => match d with
  | .bl b => .ok (.bl (!b)) η1
  | _ => .bad := rfl
@[simp] theorem v_tand : S.tand t u η = (t η).bind fun x η1 => if x = true then u η1 else .ok false η1 := rfl
@[simp] theorem v_tor : S.tor t u η = (t η).bind fun x η1 => if x = true then .ok true η1 else u η1 := rfl
@[simp] theorem v_tnot : S.tnot t η = (t η).bind fun x η1 => .ok (!x) η1 := rfl
@[simp] theorem v_ite : S.ite t F F' η = (t η).bind fun x η1 => if x = true then F η1 else F' η1 := rfl
@[simp] theorem v_nil : S.nil η = .ok [] η := rfl
@[simp] theorem v_cons {r : Env → Out (List D)} : S.cons f r η = (f η).bind fun d η1 => (r η1).bind fun ds η2 => .ok (d :: ds) η2 := rfl
@[simp] theorem v_tup {r : Env → Out (List D)} : S.tup r η = (r η).bind fun ds η1 => lift (if ds.length ≤ sizeLine then some (.tup ds) else none) η1 := rfl
@[simp] theorem v_lst {r : Env → Out (List D)} : S.lst r η = (r η).bind fun ds η1 => lift (if ds.length ≤ sizeLine then some (1, .lst ds) else none) η1 := rfl
@[simp] theorem v_preL0 : S.preL [] η = .ok [] η := rfl
@[simp] theorem v_preL1 {os : List Opd} : S.preL (o :: os) η = (o.pre η).bind fun p η1 => (S.preL os η1).bind fun ps η2 => .ok (p :: ps) η2 := rfl
@[simp] theorem v_finL0 {ps : List (Option D)} : S.finL [] ps η = some [] := rfl
@[simp] theorem v_finL1 {os : List Opd} {x : Option D} {ps : List (Option D)} : S.finL (o :: os) (x :: ps) η = (o.fin x η).bind fun d => (S.finL os ps η).bind fun ds => some (d :: ds) := rfl
@[simp] theorem v_deepL0 {ps : List (Option D)} : S.deepL [] ps η = some [] := rfl
@[simp] theorem v_deepL1 {os : List Opd} {x : Option D} {ps : List (Option D)} : S.deepL (o :: os) (x :: ps) η = (o.deep x η).bind fun d => (S.deepL os ps η).bind fun ds => some (d :: ds) := rfl
@[simp] theorem v_fn {g : List D → Option (Nat × D)} {os : List Opd} : S.fn g os η = (S.preL os η).bind fun ps η1 => lift ((S.finL os ps η1).bind g) η1 := rfl
@[simp] theorem v_fnd {g : List D → Option D} {os : List Opd} : S.fnd g os η = (S.preL os η).bind fun ps η1 => lift ((S.deepL os ps η1).bind g) η1 := rfl
@[simp] theorem v_preE : (Opd.ex f).pre η = (f η).bind fun d η' => .ok (some d) η' := rfl
@[simp] theorem v_preN : (Opd.nm i).pre η = match η[i]? with
  | some (.val _ _ _) => .ok none η
  | _ => .bad := rfl
@[simp] theorem v_finE {x : Option D} : (Opd.ex f).fin x η = x := rfl
@[simp] theorem v_finN {x : Option D} : (Opd.nm i).fin x η = slot1 η[i]? := rfl
@[simp] theorem v_deepE {x : Option D} : (Opd.ex f).deep x η = x := rfl
@[simp] theorem v_deepN {x : Option D} : (Opd.nm i).deep x η = slotA η[i]? := rfl
@[simp] theorem v_slot10 {l : Bool} : slot1 (some (.val 0 l d)) = some d := rfl
@[simp] theorem v_slot11 {l : Bool} : slot1 (some (.val 1 l d)) = some d := rfl
@[simp] theorem v_slotA {k : Nat} {l : Bool} : slotA (some (.val k l d)) = some d := rfl
@[simp] theorem v_pass : S.pass η = .ok .nx η := rfl
@[simp] theorem v_brk : S.brk η = .ok .bk η := rfl
@[simp] theorem v_cnt : S.cnt η = .ok .ct η := rfl
@[simp] theorem v_thn {b : SS} : S.flowThen .nx b η = b η := rfl
@[simp] theorem v_thb {b : SS} : S.flowThen .bk b η = .ok .bk η := rfl
@[simp] theorem v_thc {b : SS} : S.flowThen .ct b η = .ok .ct η := rfl
@[simp] theorem v_thr {b : SS} {k : Nat} : S.flowThen (.rt k d) b η = .ok (.rt k d) η := rfl
@[simp] theorem v_seq : S.seq b c η = (b η).bind fun fl η1 => S.flowThen fl c η1 := rfl
@[simp] theorem v_asg : S.asg i F η = (F η).bind fun p η1 => if S.stores i η1 = true then .ok .nx (η1.set i (.val p.1 false p.2)) else .bad := rfl
@[simp] theorem v_stores : S.stores i η = match η[i]? with
  | some s => s.free
  | none => false := by
  unfold S.stores
  cases η[i]? with
  | none => rfl
  | some s => cases s with
    | no => rfl
    | val k l d => cases l <;> rfl
@[simp] theorem v_drop : S.drop f η = (f η).bind fun _ η1 => .ok .nx η1 := rfl
@[simp] theorem v_ret : S.ret F η = (F η).bind fun p η1 => .ok (.rt p.1 p.2) η1 := rfl
@[simp] theorem v_retN : S.retN η = .ok (.rt 0 .non) η := rfl
@[simp] theorem v_ifs : S.ifs t b c η = (t η).bind fun x η1 => if x = true then b η1 else c η1 := rfl
@[simp] theorem v_raise {x : Str} : S.raise x η = .exc x η := rfl
@[simp] theorem v_name : S.name i d η = if S.stores i η = true then .ok () (η.set i (.val 0 false d)) else .bad := rfl
@[simp] theorem v_names0 : S.names [] [] η = .ok () η := rfl
@[simp] theorem v_names1 {g : SG} {gs : List SG} {ds : List D} : S.names (g :: gs) (d :: ds) η = (g d η).bind fun _ η1 => S.names gs ds η1 := rfl
@[simp] theorem v_gtup {gs : List SG} {ds : List D} : S.gtup gs (.tup ds) η = S.names gs ds η := rfl
@[simp] theorem v_asgG {g : SG} : S.asgG f g η = (f η).bind fun d η1 => match g d η1 with
  | .ok _ η2 => .ok .nx η2
  | _ => .bad := rfl
@[simp] theorem v_par {is : List Nat} {r : Env → Out (List D)} : S.par is r η = (r η).bind fun ds η1 => match S.names (is.map S.name) ds η1 with
  | .ok _ η2 => .ok .nx η2
  | _ => .bad := rfl
@[simp] theorem v_fors {it : SI} {g : SG} : S.fors it g b η = (it η).bind fun ds η1 => S.forL g b ds η1 := rfl
@[simp] theorem v_items : S.items f η = (f η).bind fun d η1 => lift (S.seqOf d) η1 := rfl
@[simp] theorem v_seqL {ds : List D} : S.seqOf (.lst ds) = some ds := rfl
@[simp] theorem v_seqT {ds : List D} : S.seqOf (.tup ds) = some ds := rfl
@[simp] theorem v_isi {T : String} : S.isi T o η = (o.pre η).bind fun p η1 => lift ((o.deep p η1).bind fun d => (isiD T d).map D.bl) η1 := rfl
@[simp] theorem v_slc {lo hi : Option SE} : S.slc o lo hi η = (o.pre η).bind fun p η1 => (S.part lo η1).bind fun l η2 => (S.part hi η2).bind fun u η3 => lift ((o.fin p η3).bind (slD l u)) η3 := rfl
@[simp] theorem v_part0 : S.part none η = .ok none η := rfl
@[simp] theorem v_part1 : S.part (some f) η = (f η).bind fun d η1 => match d with
    | .int i => .ok (some i) η1
    | _ => .bad := rfl
@[simp] theorem v_slL {l u : Option Int} {ds : List D} : slD l u (.lst ds) = some (1, .lst (cutD ds l u)) := rfl
@[simp] theorem v_slT {l u : Option Int} {ds : List D} : slD l u (.tup ds) = some (0, .tup (cutD ds l u)) := rfl
@[simp] theorem v_setIx : S.setIx j f g η = (f η).bind fun d η1 => match η1[j]? with
  | some (.val _ _ _) => (g η1).bind fun y η2 => (match y, η2[j]? with
    | .int i, some (.val 1 l (.lst ds)) => (match ixN ds.length i with
      | some m => .ok .nx (η2.set j (.val 1 l (.lst (ds.set m d))))
      | none => .bad)
    | _, _ => .bad)
  | _ => .bad := rfl
@[simp] theorem v_lm {g : List D → List D → Option (D × List D)} {r : Env → Out (List D)} : S.lm j g r η = match η[j]? with
  | some (.val _ _ (.lst _)) => (r η).bind fun as η1 => (match η1[j]? with
    | some (.val 1 l (.lst ds)) => (match g ds as with
      | some (d, ds') => .ok d (η1.set j (.val 1 l (.lst ds')))
      | none => .bad)
    | _ => .bad)
  | _ => .bad := rfl
@[simp] theorem v_chain {g1 g2 : D → D → Option Bool} : S.chain g1 g2 f g h η = (f η).bind fun x η1 => (g η1).bind fun y η2 => S.chainB g1 g2 x y h η2 := rfl
@[simp] theorem v_chainB {g1 g2 : D → D → Option Bool} {n : Int} : S.chainB g1 g2 d (.int n) h η = match g1 d (.int n) with
    | some true => (h η).bind fun z η3 => lift ((g2 (.int n) z).map D.bl) η3
    | some false => .ok (.bl false) η
    | none => .bad := rfl
@[simp] theorem v_range1 : S.range1 f η = (f η).bind fun d η1 => match d with
  | .int j => if -(2 ^ 62) ≤ j ∧ j < 2 ^ 62 then .ok (S.rangeL 0 j.toNat) η1 else .bad
  | _ => .bad := rfl
@[simp] theorem v_preA0 : S.preA [] η = .ok [] η := rfl
@[simp] theorem v_preAE {as : List S.Arg} : S.preA (.ex f :: as) η = (f η).bind fun d η1 => (S.preA as η1).bind fun ps η2 => .ok (some d :: ps) η2 := rfl
@[simp] theorem v_preAL {as : List S.Arg} : S.preA (.lend j :: as) η = match η[j]? with
    | some (.val _ _ _) => (S.preA as η).bind fun ps η2 => .ok (none :: ps) η2
    | _ => .bad := rfl
@[simp] theorem v_finA0 {ps : List (Option D)} : S.finA [] ps η = some [] := by cases ps <;> rfl
@[simp] theorem v_finAE {as : List S.Arg} {ps : List (Option D)} : S.finA (.ex f :: as) (some d :: ps) η = (S.finA as ps η).map ((0, d) :: ·) := rfl
@[simp] theorem v_finAL {as : List S.Arg} {x : Option D} {ps : List (Option D)} : S.finA (.lend j :: as) (x :: ps) η = match η[j]? with
    | some (.val k _ d) => (S.finA as ps η).map ((k, d) :: ·)
    | _ => none := by cases x <;> rfl
@[simp] theorem v_put0 {bk : Env} : S.putBack [] bk η = some η := rfl
@[simp] theorem v_putE {as : List S.Arg} {s : Slot} {bk : Env} : S.putBack (.ex f :: as) (s :: bk) η = S.putBack as bk η := rfl
@[simp] theorem v_putL {as : List S.Arg} {k : Nat} {l : Bool} {bk : Env} : S.putBack (.lend j :: as) (.val k l d :: bk) η = match η[j]? with
    | some (.val _ l _) => S.putBack as bk (η.set j (.val k l d))
    | _ => none := rfl
@[simp] theorem v_call {G : FnSem} {as : List S.Arg} : S.call G as η = (S.preA as η).bind fun ps η1 => match S.finA as ps η1 with
  | none => .bad
  | some xs => match G xs with
    | .ok k d bk => (match S.putBack as bk η1 with
      | some η2 => .ok (k, d) η2
      | none => .bad)
    | .exc c bk => (match S.putBack as bk η1 with
      | some η2 => .exc c η2
      | none => .bad)
    | .bad => .bad := rfl
theorem v_run {body : SS} {n : Nat} {io : List Bool} {args : List (Nat × D)} : S.run body n io args = if args.length = io.length then match body (S.mkEnv args io ++ List.replicate (n - args.length) Slot.no) with
    | .ok (.rt k d) η => .ok k d (S.back io η)
    | .ok .nx η => .ok 0 .non (S.back io η)
    | .exc c η => .exc c (S.back io η)
    | _ => .bad
  else .bad := rfl
@[simp] theorem v_mk0 : S.mkEnv [] [] = [] := rfl
@[simp] theorem v_mk1 {a : Nat × D} {l : Bool} {as : List (Nat × D)} {ls : List Bool} : S.mkEnv (a :: as) (l :: ls) = .val a.1 l a.2 :: S.mkEnv as ls := rfl
@[simp] theorem v_bk0 : S.back [] η = [] := by unfold S.back; simp
@[simp] theorem v_bkT {s : Slot} {ls : List Bool} : S.back (true :: ls) (s :: η) = s :: S.back ls η := rfl
@[simp] theorem v_bkF {s : Slot} {ls : List Bool} : S.back (false :: ls) (s :: η) = .no :: S.back ls η := rfl
/-! ### operations on known shapes -/
@[simp] theorem v_addI {a b : Int} : addD (.int a) (.int b) = some (0, .int (a + b)) := rfl
@[simp] theorem v_subI {a b : Int} : subD (.int a) (.int b) = some (0, .int (a - b)) := rfl
@[simp] theorem v_negI {a : Int} : negD (.int a) = some (0, .int (-a)) := rfl
@[simp] theorem v_mulL {a b : Int} (h : a.natAbs < 2 ^ 64) : mulD (.int a) (.int b) = some (0, .int (a * b)) := if_pos (.inl h)
@[simp] theorem v_mulR {a b : Int} (h : b.natAbs < 2 ^ 64) : mulD (.int a) (.int b) = some (0, .int (a * b)) := if_pos (.inr (.inl h))
theorem v_mulW {a b : Int} (h : a.natAbs.log2 + b.natAbs.log2 < 1000000) : mulD (.int a) (.int b) = some (0, .int (a * b)) := if_pos (.inr (.inr h))
theorem v_mulI {a b : Int} (h : a.natAbs < 2 ^ 64 ∨ b.natAbs < 2 ^ 64) : mulD (.int a) (.int b) = some (0, .int (a * b)) := by
  exact if_pos (h.elim .inl fun h => .inr (.inl h))
@[simp] theorem v_fdivI {a b : Int} (h : 0 < b ∧ b.natAbs.log2 < 9000) : fdivD (.int a) (.int b) = some (0, .int (a / b)) := by
  exact (if_pos h.1).trans (if_pos h.2)
theorem log2_lt {b : Int} {n : Nat} (h : b.natAbs < 2 ^ n) (hn : n ≤ 9000) (h0 : n ≠ 0) : b.natAbs.log2 < 9000 := by
  by_cases z : b.natAbs = 0
  · rw [z]; decide
  · exact Nat.lt_of_lt_of_le ((Nat.log2_lt z).mpr h) hn
@[simp] theorem v_fdivS {a b : Int} (h : 0 < b ∧ b < 18446744073709551616) : fdivD (.int a) (.int b) = some (0, .int (a / b)) :=
  v_fdivI ⟨h.1, log2_lt (n := 64) (by omega) (by decide) (by decide)⟩
@[simp] theorem v_modI {a b : Int} (h : 0 < b) : modD (.int a) (.int b) = some (0, .int (a % b)) := by
  exact if_pos h
@[simp] theorem v_powI {a b : Int} (h : 0 ≤ b ∧ b ≤ 1000000 ∧ a.natAbs < 2 ^ 64) : powD (.int a) (.int b) = some (0, .int (a ^ b.toNat)) := by
  exact if_pos h
@[simp] theorem v_ltI {a b : Int} : ltD (.int a) (.int b) = some (decide (a < b)) := rfl
@[simp] theorem v_leI {a b : Int} : leD (.int a) (.int b) = some (decide (a ≤ b)) := rfl
@[simp] theorem v_gtI {a b : Int} : gtD (.int a) (.int b) = some (decide (b < a)) := rfl
@[simp] theorem v_geI {a b : Int} : geD (.int a) (.int b) = some (decide (b ≤ a)) := rfl
@[simp] theorem v_lenL {ds : List D} : lenD [.lst ds] = some (.int ds.length) := rfl
@[simp] theorem v_lenT {ds : List D} : lenD [.tup ds] = some (.int ds.length) := rfl
@[simp] theorem v_absI {a : Int} : absD [.int a] = some (.int a.natAbs) := by
  show some (D.int (if a < 0 then -a else a)) = _
  congr 2; split <;> omega
@[simp] theorem v_max2 {a b : Int} : maxD [.int a, .int b] = some (.int (max a b)) := by
  show some (D.int (if b > a then b else a)) = _
  congr 2; split <;> omega
@[simp] theorem v_min2 {a b : Int} : minD [.int a, .int b] = some (.int (min a b)) := by
  show some (D.int (if b < a then b else a)) = _
  congr 2; split <;> omega
@[simp] theorem v_intI {a : Int} : intD [.int a] = some (.int a) := rfl
@[simp] theorem v_intB {b : Bool} : intD [.bl b] = some (.int (if b then 1 else 0)) := rfl
@[simp] theorem v_listL {ds : List D} : listD [.lst ds] = some (1, .lst ds) := rfl
@[simp] theorem v_listT {ds : List D} : listD [.tup ds] = some (1, .lst ds) := rfl
@[simp] theorem v_tupL {ds : List D} : tupleD [.lst ds] = some (0, .tup ds) := rfl
@[simp] theorem v_tupT {ds : List D} : tupleD [.tup ds] = some (0, .tup ds) := rfl
@[simp] theorem v_ixL {ds : List D} {i : Int} : ixD (.lst ds) (.int i) = (atI ds i).map (0, ·) := rfl
@[simp] theorem v_ixT {ds : List D} {i : Int} : ixD (.tup ds) (.int i) = (atI ds i).map (0, ·) := rfl
theorem at_nat {α : Type} {ds : List α} {i : Int} (h : 0 ≤ i) : atI ds i = ds[i.toNat]? := by
  unfold atI ixN
  rw [if_pos h]
  by_cases h2 : i < ds.length
  · rw [if_pos h2]; rfl
  · rw [if_neg h2]; exact (List.getElem?_eq_none (by omega)).symm
theorem at_neg {α : Type} {ds : List α} {i : Int} (h : i < 0) (h2 : -(ds.length : Int) ≤ i) : atI ds i = ds[(i + ds.length).toNat]? := by
  unfold atI ixN
  rw [if_neg (by omega), if_pos h2]; rfl
@[simp] theorem at0 {α : Type} {a : α} {ds : List α} : atI (a :: ds) 0 = some a := by rw [at_nat (by decide)]; rfl
@[simp] theorem at1 {α : Type} {a b : α} {ds : List α} : atI (a :: b :: ds) 1 = some b := by rw [at_nat (by decide)]; rfl
@[simp] theorem at2 {α : Type} {a b c : α} {ds : List α} : atI (a :: b :: c :: ds) 2 = some c := by rw [at_nat (by decide)]; rfl
@[simp] theorem at3 {α : Type} {a b c d : α} {ds : List α} : atI (a :: b :: c :: d :: ds) 3 = some d := by rw [at_nat (by decide)]; rfl
@[simp] theorem at4 {α : Type} {a b c d e : α} {ds : List α} : atI (a :: b :: c :: d :: e :: ds) 4 = some e := by rw [at_nat (by decide)]; rfl
@[simp] theorem ixN0 {n : Nat} : ixN (n + 1) 0 = some 0 := by
  unfold ixN; rw [if_pos (by decide), if_pos (by omega)]; rfl
@[simp] theorem ixN1 {n : Nat} : ixN (n + 1 + 1) 1 = some 1 := by
  unfold ixN; rw [if_pos (by decide), if_pos (by omega)]; rfl
end
end DV

/-! DV16: loops and comprehensions worked out. -/
namespace DV
open PySem PySem.Spec PyProof.Rows L2 RZ

/-! ### for -/
/-- one turn -/
def S.turn (g : SG) (body : SS) (d : D) : SS := fun η => match g d η with
  | .ok _ η1 => body η1
  | _ => .bad
section
variable {g : SG} {body : SS} {d : D} {ds : List D} {η η' : Env}
@[simp] theorem v_turn : S.turn g body d η = match g d η with
  | .ok _ η1 => body η1
  | _ => .bad := rfl
theorem forL_nil : S.forL g body [] η = .ok .nx η := rfl
theorem forL_cons : S.forL g body (d :: ds) η = (S.turn g body d η).bind fun fl η2 => match fl with
      | .nx => S.forL g body ds η2
      | .ct => S.forL g body ds η2
      | .bk => .ok .nx η2
      | .rt k d => .ok (.rt k d) η2 := by
  rw [S.forL]
  unfold S.turn
  cases g d η <;> rfl
/-- every turn goes on: I i before turn i -/
theorem forL_run (I : Nat → Env → Prop) (h : ∀ i (hi : i < ds.length) η, I i η → ∃ η', (S.turn g body ds[i] η = .ok .nx η' ∨ S.turn g body ds[i] η = .ok .ct η') ∧ I (i + 1) η') :
    ∀ n i η, i + n = ds.length → I i η → ∃ η', S.forL g body (ds.drop i) η = .ok .nx η' ∧ I ds.length η'
  | 0, i, η, e, hI => by
    have e : i = ds.length := by omega
    subst e
    rw [List.drop_length]
    exact ⟨η, rfl, hI⟩
  | n + 1, i, η, e, hI => by
    have hi : i < ds.length := by omega
    obtain ⟨η1, h1, h2⟩ := h i hi η hI
    obtain ⟨η2, h3, h4⟩ := forL_run I h n (i + 1) η1 (by omega) h2
    refine ⟨η2, ?_, h4⟩
    rw [List.drop_eq_getElem_cons hi, forL_cons]
    rcases h1 with h1 | h1 <;> rw [h1] <;> exact h3
theorem forL_all (I : Nat → Env → Prop) (h0 : I 0 η) (h : ∀ i (hi : i < ds.length) η, I i η → ∃ η', (S.turn g body ds[i] η = .ok .nx η' ∨ S.turn g body ds[i] η = .ok .ct η') ∧ I (i + 1) η') :
    ∃ η', S.forL g body ds η = .ok .nx η' ∧ I ds.length η' := by
  have := forL_run I h ds.length 0 η (by omega) h0
  rw [List.drop_zero] at this; exact this
/-- every turn goes on, what holds does not know which turn it is -/
theorem forL_same (I : Env → Prop) (h0 : I η) (h : ∀ d ∈ ds, ∀ η, I η → ∃ η', (S.turn g body d η = .ok .nx η' ∨ S.turn g body d η = .ok .ct η') ∧ I η') : ∃ η', S.forL g body ds η = .ok .nx η' ∧ I η' :=
  forL_all (fun _ => I) h0 fun i hi η hI => h _ (List.getElem_mem hi) η hI
/-- the first turn that returns -/
theorem forL_ret (I : Nat → Env → Prop) {n k : Nat} {r : D} (hn : n < ds.length) (h0 : I 0 η) (h : ∀ i (hi : i < n) η, I i η → ∃ η', (S.turn g body (ds[i]'(by omega)) η = .ok .nx η' ∨ S.turn g body (ds[i]'(by omega)) η = .ok .ct η') ∧ I (i + 1) η')
    {Q : Env → Prop} (hr : ∀ η, I n η → ∃ η', S.turn g body ds[n] η = .ok (.rt k r) η' ∧ Q η') : ∃ η', S.forL g body ds η = .ok (.rt k r) η' ∧ Q η' := by
  have key : ∀ m i η, i + m = n → I i η → ∃ η', S.forL g body (ds.drop i) η = .ok (.rt k r) η' ∧ Q η' := by
    intro m
    induction m with
    | zero =>
      intro i η e hI
      have e : i = n := by omega
      subst e
      obtain ⟨η1, h1, hq⟩ := hr η hI
      rw [List.drop_eq_getElem_cons hn, forL_cons, h1]
      exact ⟨η1, rfl, hq⟩
    | succ m ih =>
      intro i η e hI
      obtain ⟨η1, h1, h2⟩ := h i (by omega) η hI
      obtain ⟨η2, h3, hq⟩ := ih (i + 1) η1 (by omega) h2
      refine ⟨η2, ?_, hq⟩
      rw [List.drop_eq_getElem_cons (show i < ds.length by omega), forL_cons]
      rcases h1 with h1 | h1 <;> rw [h1] <;> exact h3
  have := key n 0 η (by omega) h0
  rw [List.drop_zero] at this; exact this

theorem find_range {p : Nat → Bool} {M n : Nat} (h : (List.range M).find? p = some n) : n < M ∧ p n = true ∧ ∀ i, i < n → p i = false := by
  obtain ⟨h1, h2, h3⟩ := List.find?_range_eq_some.mp h
  exact ⟨List.mem_range.mp h2, h1, fun i hi => by simpa using h3 i hi⟩
theorem find_none {p : Nat → Bool} {M : Nat} (h : (List.range M).find? p = none) : ∀ i, i < M → p i = false := fun i hi => by
  have := List.find?_eq_none.mp h i (List.mem_range.mpr hi)
  simpa using this
/-- a loop that returns at the first turn of which p speaks -/
theorem forL_search (I : Env → Prop) (p : Nat → Bool) (r : Nat → Nat × D) (h0 : I η) (h : ∀ i (hi : i < ds.length) η, I η → ∃ η', I η' ∧ S.turn g body ds[i] η = if p i = true then .ok (.rt (r i).1 (r i).2) η' else .ok .nx η') :
    ∃ η', I η' ∧ S.forL g body ds η = match (List.range ds.length).find? p with
      | some n => .ok (.rt (r n).1 (r n).2) η'
      | none => .ok .nx η' := by
  cases hf : (List.range ds.length).find? p with
  | some n =>
    obtain ⟨h1, h2, h3⟩ := find_range hf
    obtain ⟨η', e1, e2⟩ := forL_ret (g := g) (body := body) (fun _ => I) (n := n) (k := (r n).1) (r := (r n).2) h1 h0 (fun i hi η hI => by
      obtain ⟨η', z1, z2⟩ := h i (by omega) η hI
      rw [h3 i hi] at z2
      exact ⟨η', .inl z2, z1⟩) (Q := I) fun η hI => by
      obtain ⟨η', z1, z2⟩ := h n h1 η hI
      rw [if_pos h2] at z2
      exact ⟨η', z2, z1⟩
    exact ⟨η', e2, e1⟩
  | none =>
    have h3 := find_none hf
    obtain ⟨η', e1, e2⟩ := forL_all (g := g) (body := body) (fun _ => I) h0 fun i hi η hI => by
      obtain ⟨η', z1, z2⟩ := h i hi η hI
      rw [h3 i hi] at z2
      exact ⟨η', .inl z2, z1⟩
    exact ⟨η', e2, e1⟩

/-! ### while -/
variable {t : ST} {c : SS} {α : Type}
theorem whileN_run (E : α → Env) (I Q : α → Prop) (m : α → Nat)
    (h : ∀ x, I x → (∃ x', t (E x) = .ok false (E x') ∧ Q x') ∨ ∃ η1 x', t (E x) = .ok true η1 ∧ (c η1 = .ok .nx (E x') ∨ c η1 = .ok .ct (E x')) ∧ I x' ∧ m x' < m x) :
    ∀ n x, m x ≤ n → I x → ∃ k x', S.whileN t c k (E x) = some (.ok .nx (E x')) ∧ Q x' := by
  intro n
  induction n with
  | zero =>
    intro x hx hI
    rcases h x hI with ⟨x', h1, h2⟩ | ⟨η1, x', h1, h2, h3, h4⟩
    · exact ⟨1, x', by simp [S.whileN, h1], h2⟩
    · omega
  | succ n ih =>
    intro x hx hI
    rcases h x hI with ⟨x', h1, h2⟩ | ⟨η1, x', h1, h2, h3, h4⟩
    · exact ⟨1, x', by simp [S.whileN, h1], h2⟩
    · obtain ⟨k, x2, h5, h6⟩ := ih x' (by omega) h3
      refine ⟨k + 1, x2, ?_, h6⟩
      rcases h2 with h2 | h2 <;> simp [S.whileN, h1, h2, h5]
/-- E x: the environment by its data; m goes down -/
theorem whl_run (E : α → Env) (I Q : α → Prop) (m : α → Nat) {x : α} (hI : I x)
    (h : ∀ x, I x → (∃ x', t (E x) = .ok false (E x') ∧ Q x') ∨ ∃ η1 x', t (E x) = .ok true η1 ∧ (c η1 = .ok .nx (E x') ∨ c η1 = .ok .ct (E x')) ∧ I x' ∧ m x' < m x) :
    ∃ x', S.whl t c (E x) = .ok .nx (E x') ∧ Q x' := by
  obtain ⟨k, x', h1, h2⟩ := whileN_run E I Q m h (m x) x (Nat.le_refl _) hI
  exact ⟨x', S.whl_of h1, h2⟩
end

/-! ### comprehensions -/
def S.step (g : SG) (tt : ST) (f : SF) (d : D) : Env → Out (Option (Nat × D)) := fun η => (g d η).bind fun _ η1 => (tt η1).bind fun b η2 => if b = true then (f η2).bind fun p η3 => .ok (some p) η3 else .ok none η2
section
variable {g : SG} {tt : ST} {f : SF} {k : Nat} {vs : List Nat} {d : D} {ds acc : List D} {η η' : Env} {it : SI}
@[simp] theorem v_step : S.step g tt f d η = (g d η).bind fun _ η1 => (tt η1).bind fun b η2 => if b = true then (f η2).bind fun p η3 => .ok (some p) η3 else .ok none η2 := rfl
theorem compL_cons : S.compL g tt f k vs (d :: ds) acc η = match S.step g tt f d (S.hide η vs) with
  | .ok (some p) η3 => if p.1 = k ∧ acc.length < sizeLine then S.compL g tt f k vs ds (acc ++ [p.2]) η3 else .bad
  | .ok none η2 => S.compL g tt f k vs ds acc η2
  | _ => .bad := by
  rw [S.compL]
  unfold S.step
  cases g d (S.hide η vs) with
  | bad => rfl
  | exc c η1 => rfl
  | ok u η1 =>
    simp only [bind_ok]
    cases tt η1 with
    | bad => rfl
    | exc c η2 => rfl
    | ok b η2 =>
      cases b with
      | false => rfl
      | true =>
        simp only [bind_ok, if_true]
        cases f η2 <;> rfl
/-- each turn gives at most one item; I: what holds of the environment, the block's names hidden -/
theorem compL_run (I : Nat → List D → Env → Prop) (h : ∀ i (hi : i < ds.length) acc η, I i acc (S.hide η vs) → acc.length ≤ i → ∃ o η', S.step g tt f ds[i] (S.hide η vs) = .ok o η' ∧ (∀ p, o = some p → p.1 = k) ∧ I (i + 1) (acc ++ (o.map (·.2)).toList) (S.hide η' vs)) (hs : ds.length ≤ sizeLine) :
    ∀ n i acc η, i + n = ds.length → acc.length ≤ i → I i acc (S.hide η vs) → ∃ es η', S.compL g tt f k vs (ds.drop i) acc η = .ok es η' ∧ I ds.length es (S.hide η' vs) ∧ es.length ≤ ds.length
  | 0, i, acc, η, e, ha, hI => by
    have e : i = ds.length := by omega
    subst e
    rw [List.drop_length]
    exact ⟨acc, η, rfl, hI, ha⟩
  | n + 1, i, acc, η, e, ha, hI => by
    have hi : i < ds.length := by omega
    obtain ⟨o, η1, h1, h2, h3⟩ := h i hi acc η hI ha
    rw [List.drop_eq_getElem_cons hi, compL_cons, h1]
    cases o with
    | none =>
      simp only [Option.map_none, Option.toList_none, List.append_nil] at h3
      exact compL_run I h hs n (i + 1) acc η1 (by omega) (by omega) h3
    | some p =>
      simp only [Option.map_some, Option.toList_some] at h3
      obtain ⟨es, η2, h4, h5⟩ := compL_run I h hs n (i + 1) (acc ++ [p.2]) η1 (by omega) (by rw [List.length_append, List.length_singleton]; omega) h3
      refine ⟨es, η2, ?_, h5⟩
      show (if p.1 = k ∧ acc.length < sizeLine then _ else _) = _
      rw [if_pos ⟨h2 p rfl, by omega⟩]
      exact h4
theorem mix_same (h : S.hide η' vs = S.hide η vs) (hv : ∀ i ∈ vs, i < η.length) : S.mix η η' vs = η := by
  have hl : η'.length = η.length := by
    have := congrArg List.length h
    rw [hide_len, hide_len] at this; exact this
  apply List.ext_getElem?
  intro i
  by_cases hi : i ∈ vs
  · rw [mix_in hi (by rw [hl]; exact hv i hi)]
    rw [List.getElem?_eq_getElem (hv i hi)]; rfl
  · rw [mix_out hi, ← hide_out (η := η') hi, h, hide_out hi]
/-- a comprehension whose turns leave the environment as it is: φ d the item, if any -/
theorem comp_pure (φ : D → Option D) {η1 : Env} (hit : it η = .ok ds η1) (hst : S.still vs η1 = true) (hs : ds.length ≤ sizeLine) (hv : ∀ i ∈ vs, i < η1.length)
    (h : ∀ d ∈ ds, ∃ η', S.step g tt f d (S.hide η1 vs) = .ok ((φ d).map fun x => (k, x)) η' ∧ S.hide η' vs = S.hide η1 vs) : S.comp k vs it g tt f η = .ok (k + 1, .lst (ds.filterMap φ)) η1 := by
  obtain ⟨es, η2, h1, ⟨h2, h3⟩, _⟩ := compL_run (g := g) (tt := tt) (f := f) (k := k) (vs := vs) (ds := ds) (fun i acc η => acc = (ds.take i).filterMap φ ∧ η = S.hide η1 vs) (fun i hi acc η ⟨e1, e2⟩ _ => by
    obtain ⟨η', h1, h2⟩ := h _ (List.getElem_mem hi)
    rw [e2]
    refine ⟨_, η', h1, fun p hp => ?_, ?_, h2⟩
    · cases q : φ ds[i] with
      | none => rw [q] at hp; cases hp
      | some x => rw [q] at hp; cases hp; rfl
    · rw [e1, List.take_succ_eq_append_getElem hi, List.filterMap_append]
      congr 1
      cases q : φ ds[i] <;> simp [q]) hs ds.length 0 [] η1 (by omega) (Nat.zero_le _) ⟨by simp, rfl⟩
  rw [List.drop_zero] at h1
  rw [List.take_length] at h2
  unfold S.comp
  rw [hit]
  simp only [bind_ok]
  rw [if_pos hst, h1]
  simp only
  rw [mix_same h3 hv, h2]
theorem comp_map (φ : D → D) {η1 : Env} (hit : it η = .ok ds η1) (hst : S.still vs η1 = true) (hs : ds.length ≤ sizeLine) (hv : ∀ i ∈ vs, i < η1.length)
    (h : ∀ d ∈ ds, ∃ η', S.step g tt f d (S.hide η1 vs) = .ok (some (k, φ d)) η' ∧ S.hide η' vs = S.hide η1 vs) : S.comp k vs it g tt f η = .ok (k + 1, .lst (ds.map φ)) η1 := by
  rw [comp_pure (fun d => some (φ d)) hit hst hs hv h]
  congr 3
  induction ds with
  | nil => rfl
  | cons d ds ih => simp
/-- a comprehension that changes the environment: each turn gives one item -/
theorem comp_one (I : Env → Prop) (P : D → Prop) {η1 : Env} (hit : it η = .ok ds η1) (hst : S.still vs η1 = true) (hs : ds.length ≤ sizeLine) (h0 : I (S.hide η1 vs))
    (h : ∀ d ∈ ds, ∀ η, I (S.hide η vs) → ∃ e η', S.step g tt f d (S.hide η vs) = .ok (some (k, e)) η' ∧ P e ∧ I (S.hide η' vs)) :
    ∃ es η2, S.comp k vs it g tt f η = .ok (k + 1, .lst es) (S.mix η1 η2 vs) ∧ es.length = ds.length ∧ (∀ e ∈ es, P e) ∧ I (S.hide η2 vs) := by
  obtain ⟨es, η2, h1, ⟨h2, h3, h4⟩, _⟩ := compL_run (g := g) (tt := tt) (f := f) (k := k) (vs := vs) (ds := ds) (fun i acc η => acc.length = i ∧ (∀ e ∈ acc, P e) ∧ I η) (fun i hi acc η ⟨e1, e2, e3⟩ _ => by
    obtain ⟨e, η', h1, h2, h3⟩ := h _ (List.getElem_mem hi) η e3
    refine ⟨_, η', h1, fun p hp => by cases hp; rfl, by simp [e1], fun x hx => ?_, h3⟩
    simp at hx
    rcases hx with hx | hx
    · exact e2 x hx
    · subst hx; exact h2) hs ds.length 0 [] η1 (by omega) (Nat.zero_le _) ⟨rfl, fun _ h => by simp at h, h0⟩
  rw [List.drop_zero] at h1
  refine ⟨es, η2, ?_, h2, h3, h4⟩
  unfold S.comp
  rw [hit]
  simp only [bind_ok]
  rw [if_pos hst, h1]
end

/-! ### draws -/
/-- F(pot, many) draws a whole number below many, the pot stays sound -/
def IsDraw (F : FnSem) (Ok : D → Prop) : Prop := ∀ pot (m : Int), Ok pot → 0 < m → m.natAbs.log2 < 9000 → ∃ r p, 0 ≤ r ∧ r < m ∧ Ok p ∧ F [(1, pot), (0, .int m)] = .ok 0 (.int r) [.val 1 true p, .no]
end DV

/-! DV17: equality, shapes, types, worked out. -/
namespace DV
open PySem PySem.Spec PyProof.Rows L2 RZ

@[simp] theorem isi_int_non  : isiD "int" .non = some false := by show kitB "NoneType" "int" = some false; decide +kernel
@[simp] theorem isi_int_bl {b : Bool} : isiD "int" (.bl b) = some true := by show kitB "bool" "int" = some true; decide +kernel
@[simp] theorem isi_int_int {i : Int} : isiD "int" (.int i) = some true := by show kitB "int" "int" = some true; decide +kernel
@[simp] theorem isi_int_str {x : Str} : isiD "int" (.str x) = some false := by show kitB "str" "int" = some false; decide +kernel
@[simp] theorem isi_int_tup {ds : List D} : isiD "int" (.tup ds) = some false := by show kitB "tuple" "int" = some false; decide +kernel
@[simp] theorem isi_int_lst {ds : List D} : isiD "int" (.lst ds) = some false := by show kitB "list" "int" = some false; decide +kernel
@[simp] theorem isi_int_dK {kvs : List (Key × D)} : isiD "int" (.dK kvs) = some false := by show kitB "dict" "int" = some false; decide +kernel
@[simp] theorem isi_bool_non  : isiD "bool" .non = some false := by show kitB "NoneType" "bool" = some false; decide +kernel
@[simp] theorem isi_bool_bl {b : Bool} : isiD "bool" (.bl b) = some true := by show kitB "bool" "bool" = some true; decide +kernel
@[simp] theorem isi_bool_int {i : Int} : isiD "bool" (.int i) = some false := by show kitB "int" "bool" = some false; decide +kernel
@[simp] theorem isi_bool_str {x : Str} : isiD "bool" (.str x) = some false := by show kitB "str" "bool" = some false; decide +kernel
@[simp] theorem isi_bool_tup {ds : List D} : isiD "bool" (.tup ds) = some false := by show kitB "tuple" "bool" = some false; decide +kernel
@[simp] theorem isi_bool_lst {ds : List D} : isiD "bool" (.lst ds) = some false := by show kitB "list" "bool" = some false; decide +kernel
@[simp] theorem isi_bool_dK {kvs : List (Key × D)} : isiD "bool" (.dK kvs) = some false := by show kitB "dict" "bool" = some false; decide +kernel
@[simp] theorem isi_str_non  : isiD "str" .non = some false := by show kitB "NoneType" "str" = some false; decide +kernel
@[simp] theorem isi_str_bl {b : Bool} : isiD "str" (.bl b) = some false := by show kitB "bool" "str" = some false; decide +kernel
@[simp] theorem isi_str_int {i : Int} : isiD "str" (.int i) = some false := by show kitB "int" "str" = some false; decide +kernel
@[simp] theorem isi_str_str {x : Str} : isiD "str" (.str x) = some true := by show kitB "str" "str" = some true; decide +kernel
@[simp] theorem isi_str_tup {ds : List D} : isiD "str" (.tup ds) = some false := by show kitB "tuple" "str" = some false; decide +kernel
@[simp] theorem isi_str_lst {ds : List D} : isiD "str" (.lst ds) = some false := by show kitB "list" "str" = some false; decide +kernel
@[simp] theorem isi_str_dK {kvs : List (Key × D)} : isiD "str" (.dK kvs) = some false := by show kitB "dict" "str" = some false; decide +kernel
@[simp] theorem isi_tuple_non  : isiD "tuple" .non = some false := by show kitB "NoneType" "tuple" = some false; decide +kernel
@[simp] theorem isi_tuple_bl {b : Bool} : isiD "tuple" (.bl b) = some false := by show kitB "bool" "tuple" = some false; decide +kernel
@[simp] theorem isi_tuple_int {i : Int} : isiD "tuple" (.int i) = some false := by show kitB "int" "tuple" = some false; decide +kernel
@[simp] theorem isi_tuple_str {x : Str} : isiD "tuple" (.str x) = some false := by show kitB "str" "tuple" = some false; decide +kernel
@[simp] theorem isi_tuple_tup {ds : List D} : isiD "tuple" (.tup ds) = some true := by show kitB "tuple" "tuple" = some true; decide +kernel
@[simp] theorem isi_tuple_lst {ds : List D} : isiD "tuple" (.lst ds) = some false := by show kitB "list" "tuple" = some false; decide +kernel
@[simp] theorem isi_tuple_dK {kvs : List (Key × D)} : isiD "tuple" (.dK kvs) = some false := by show kitB "dict" "tuple" = some false; decide +kernel
@[simp] theorem isi_list_non  : isiD "list" .non = some false := by show kitB "NoneType" "list" = some false; decide +kernel
@[simp] theorem isi_list_bl {b : Bool} : isiD "list" (.bl b) = some false := by show kitB "bool" "list" = some false; decide +kernel
@[simp] theorem isi_list_int {i : Int} : isiD "list" (.int i) = some false := by show kitB "int" "list" = some false; decide +kernel
@[simp] theorem isi_list_str {x : Str} : isiD "list" (.str x) = some false := by show kitB "str" "list" = some false; decide +kernel
@[simp] theorem isi_list_tup {ds : List D} : isiD "list" (.tup ds) = some false := by show kitB "tuple" "list" = some false; decide +kernel
@[simp] theorem isi_list_lst {ds : List D} : isiD "list" (.lst ds) = some true := by show kitB "list" "list" = some true; decide +kernel
@[simp] theorem isi_list_dK {kvs : List (Key × D)} : isiD "list" (.dK kvs) = some false := by show kitB "dict" "list" = some false; decide +kernel
@[simp] theorem isi_dict_non  : isiD "dict" .non = some false := by show kitB "NoneType" "dict" = some false; decide +kernel
@[simp] theorem isi_dict_bl {b : Bool} : isiD "dict" (.bl b) = some false := by show kitB "bool" "dict" = some false; decide +kernel
@[simp] theorem isi_dict_int {i : Int} : isiD "dict" (.int i) = some false := by show kitB "int" "dict" = some false; decide +kernel
@[simp] theorem isi_dict_str {x : Str} : isiD "dict" (.str x) = some false := by show kitB "str" "dict" = some false; decide +kernel
@[simp] theorem isi_dict_tup {ds : List D} : isiD "dict" (.tup ds) = some false := by show kitB "tuple" "dict" = some false; decide +kernel
@[simp] theorem isi_dict_lst {ds : List D} : isiD "dict" (.lst ds) = some false := by show kitB "list" "dict" = some false; decide +kernel
@[simp] theorem isi_dict_dK {kvs : List (Key × D)} : isiD "dict" (.dK kvs) = some true := by show kitB "dict" "dict" = some true; decide +kernel
mutual
/-- no bools within -/
def nb : D → Bool
  | .non => true
  | .int _ => true
  | .str _ => true
  | .tup ds => nbL ds
  | .lst ds => nbL ds
  | _ => false
def nbL : List D → Bool
  | [] => true
  | d :: ds => nb d && nbL ds
end
mutual
theorem eqv_nb : ∀ {a b : D}, nb a = true → nb b = true → (eqv a b = true ↔ a = b)
  | .non, b, _, h => by
    cases b <;> simp [eqv, py, PyData.eqv, nb] at h ⊢
  | .int i, b, _, h => by
    cases b <;> simp [eqv, py, PyData.eqv, nb] at h ⊢
  | .str x, b, _, h => by
    cases b <;> simp [eqv, py, PyData.eqv, nb] at h ⊢
  | .tup xs, b, h', h => by
    cases b <;> simp [eqv, py, PyData.eqv, nb] at h ⊢
    exact eqvL_nb (by simpa [nb] using h') h
  | .lst xs, b, h', h => by
    cases b <;> simp [eqv, py, PyData.eqv, nb] at h ⊢
    exact eqvL_nb (by simpa [nb] using h') h
  | .bl _, _, h, _ => by simp [nb] at h
  | .dK _, _, h, _ => by simp [nb] at h
  | .dT _, _, h, _ => by simp [nb] at h
theorem eqvL_nb : ∀ {a b : List D}, nbL a = true → nbL b = true → (PyData.eqvAll (pyL a) (pyL b) = true ↔ a = b)
  | [], [], _, _ => by simp [pyL, PyData.eqvAll]
  | [], _ :: _, _, _ => by simp [pyL, PyData.eqvAll]
  | _ :: _, [], _, _ => by simp [pyL, PyData.eqvAll]
  | x :: xs, y :: ys, h, h' => by
    have h1 : nb x = true ∧ nbL xs = true := by simpa [nbL] using h
    have h2 : nb y = true ∧ nbL ys = true := by simpa [nbL] using h'
    have e1 := eqv_nb h1.1 h2.1
    have e2 := eqvL_nb h1.2 h2.2
    unfold eqv at e1
    simp only [pyL, PyData.eqvAll, Bool.and_eq_true, e1, e2, List.cons.injEq]
end
@[simp] theorem nb_non : nb .non = true := by simp [nb]
@[simp] theorem nb_int {i : Int} : nb (.int i) = true := by simp [nb]
@[simp] theorem nb_str {x : Str} : nb (.str x) = true := by simp [nb]
@[simp] theorem nb_tup {ds : List D} : nb (.tup ds) = nbL ds := by simp [nb]
@[simp] theorem nb_lst {ds : List D} : nb (.lst ds) = nbL ds := by simp [nb]
@[simp] theorem nbL_nil : nbL [] = true := by simp [nbL]
@[simp] theorem nbL_cons {d : D} {ds : List D} : nbL (d :: ds) = (nb d && nbL ds) := by simp [nbL]
theorem nbL_all : ∀ {ds : List D}, (∀ d ∈ ds, nb d = true) → nbL ds = true
  | [], _ => by simp
  | d :: ds, h => by simp [h d (by simp), nbL_all fun x hx => h x (List.mem_cons_of_mem _ hx)]
@[simp] theorem nbL_ints {ns : List Int} : nbL (ns.map .int) = true := nbL_all fun d h => by
  obtain ⟨n, _, e⟩ := List.mem_map.mp h
  subst e; simp
@[simp] theorem ok_non {n : Nat} : okD n .non = true := by simp [okD]
@[simp] theorem ok_bl {n : Nat} {b : Bool} : okD n (.bl b) = true := by simp [okD]
@[simp] theorem ok_int {n : Nat} {i : Int} : okD n (.int i) = true := by simp [okD]
@[simp] theorem ok_str {n : Nat} {x : Str} : okD n (.str x) = PyData.strOk x := by simp [okD]
@[simp] theorem ok_tup {n : Nat} {ds : List D} (h : n ≠ 0) : okD n (.tup ds) = okL (n - 1) ds := by
  cases n with
  | zero => exact absurd rfl h
  | succ n => simp [okD]
@[simp] theorem ok_lst {n : Nat} {ds : List D} (h : n ≠ 0) : okD n (.lst ds) = okL (n - 1) ds := by
  cases n with
  | zero => exact absurd rfl h
  | succ n => simp [okD]
@[simp] theorem okL_nil {n : Nat} : okL n [] = true := by simp [okL]
@[simp] theorem okL_cons {n : Nat} {d : D} {ds : List D} : okL n (d :: ds) = (okD n d && okL n ds) := by simp [okL]
theorem okL_all {n : Nat} : ∀ {ds : List D}, (∀ d ∈ ds, okD n d = true) → okL n ds = true
  | [], _ => by simp
  | d :: ds, h => by simp [h d (by simp), okL_all fun x hx => h x (List.mem_cons_of_mem _ hx)]
@[simp] theorem okL_ints {n : Nat} {ns : List Int} : okL n (ns.map .int) = true := okL_all fun d h => by
  obtain ⟨n, _, e⟩ := List.mem_map.mp h
  subst e; simp
theorem small_ok {n : Nat} (h : n ≤ 16777216) : n ≤ sizeLine := by rw [sizeLine_eq]; exact h
/-- == of data without bools -/
theorem eqD_nb {a b : D} (ha : okD 16 a = true) (hb : okD 16 b = true) (na : nb a = true) (nb' : nb b = true) [Decidable (a = b)] : eqD a b = some (decide (a = b)) := by
  unfold eqD
  rw [if_pos ⟨ha, hb⟩]
  congr 1
  rw [Bool.eq_iff_iff, eqv_nb na nb', decide_eq_true_eq]
theorem neD_nb {a b : D} (ha : okD 16 a = true) (hb : okD 16 b = true) (na : nb a = true) (nb' : nb b = true) [Decidable (a = b)] : neD a b = some (!decide (a = b)) := by
  unfold neD
  rw [if_pos ⟨ha, hb⟩]
  congr 2
  rw [Bool.eq_iff_iff, eqv_nb na nb', decide_eq_true_eq]
@[simp] theorem eqD_int {a b : Int} : eqD (.int a) (.int b) = some (decide (a = b)) := by
  unfold eqD
  rw [if_pos ⟨by simp, by simp⟩]
  congr 1
@[simp] theorem neD_int {a b : Int} : neD (.int a) (.int b) = some (!decide (a = b)) := by
  unfold neD
  rw [if_pos ⟨by simp, by simp⟩]
  congr 2
theorem eqD_self {a : D} (ha : okD 16 a = true) (na : nb a = true) : eqD a a = some true := by
  unfold eqD
  rw [if_pos ⟨ha, ha⟩, (eqv_nb na na).mpr rfl]
theorem neD_self {a : D} (ha : okD 16 a = true) (na : nb a = true) : neD a a = some false := by
  unfold neD
  rw [if_pos ⟨ha, ha⟩, (eqv_nb na na).mpr rfl]; rfl
@[simp] theorem intsOf_ints : ∀ {ns : List Int}, intsOf (ns.map .int) = some ns
  | [] => rfl
  | n :: ns => by simp [intsOf, intsOf_ints (ns := ns)]
@[simp] theorem min_l2 {a b : Int} : minD [.lst [.int a, .int b]] = some (.int (min a b)) := by
  show some (D.int (minI [a, b])) = _
  congr 2
  show (if b < a then b else a) = _
  split <;> omega
@[simp] theorem max_l2 {a b : Int} : maxD [.lst [.int a, .int b]] = some (.int (max a b)) := by
  show some (D.int (maxI [a, b])) = _
  congr 2
  show (if b > a then b else a) = _
  split <;> omega
@[simp] theorem sum_l2 {a b : Int} : sumD [.lst [.int a, .int b]] = some (.int (a + b)) := by
  show some (D.int [a, b].sum) = _
  congr 2
  simp
@[simp] theorem blsOf_bls : ∀ {bs : List Bool}, blsOf (bs.map .bl) = some bs
  | [] => rfl
  | n :: ns => by simp [blsOf, blsOf_bls (bs := ns)]
@[simp] theorem sum_ints {ns : List Int} : sumD [.lst (ns.map .int)] = some (.int ns.sum) := by simp [sumD]
@[simp] theorem all_bls {bs : List Bool} : allD [.lst (bs.map .bl)] = some (.bl (bs.all id)) := by simp [allD]
@[simp] theorem any_bls {bs : List Bool} : anyD [.lst (bs.map .bl)] = some (.bl (bs.any id)) := by simp [anyD]
theorem at_map {α β : Type} {f : α → β} {xs : List α} {i : Int} : atI (xs.map f) i = (atI xs i).map f := by
  unfold atI
  rw [List.length_map]
  cases ixN xs.length i with
  | none => rfl
  | some j => simp
@[simp] theorem at_ints {ns : List Int} {i : Int} : atI (ns.map D.int) i = (atI ns i).map D.int := at_map
@[simp] theorem rangeL_len {lo : Int} {n : Nat} : (S.rangeL lo n).length = n := by unfold S.rangeL; simp
@[simp] theorem rangeL_get {lo : Int} {n i : Nat} (h : i < (S.rangeL lo n).length) : (S.rangeL lo n)[i] = .int (lo + i) := (List.getElem_map ..).trans (by rw [List.getElem_range])
theorem rangeL_mem {lo : Int} {n : Nat} {d : D} (h : d ∈ S.rangeL lo n) : ∃ i : Nat, i < n ∧ d = .int (lo + i) := by
  unfold S.rangeL at h
  obtain ⟨i, h1, h2⟩ := List.mem_map.mp h
  exact ⟨i, List.mem_range.mp h1, h2.symm⟩
def cutI {α : Type} (ns : List α) (lo hi : Option Int) : List α := (ns.drop (HT.sIx ns.length 0 lo)).take (HT.sIx ns.length ns.length hi - HT.sIx ns.length 0 lo)
theorem cutD_map {α : Type} {f : α → D} {ns : List α} {lo hi : Option Int} : cutD (ns.map f) lo hi = (cutI ns lo hi).map f := by
  unfold cutD cutI; simp
@[simp] theorem cutD_ints {ns : List Int} {lo hi : Option Int} : cutD (ns.map .int) lo hi = (cutI ns lo hi).map .int := cutD_map
theorem cut_to {α : Type} {ns : List α} {r : Int} (h : 0 ≤ r) : cutI ns none (some r) = ns.take r.toNat := by
  unfold cutI HT.sIx
  simp only [List.drop_zero, Nat.sub_zero]
  rw [if_neg (by omega)]
  by_cases h2 : r.toNat ≤ ns.length
  · rw [Nat.min_eq_left h2]
  · rw [Nat.min_eq_right (by omega), List.take_length, List.take_of_length_le (by omega)]
theorem cut_from {α : Type} {ns : List α} {r : Int} (h : 0 ≤ r) : cutI ns (some r) none = ns.drop r.toNat := by
  unfold cutI HT.sIx
  simp only
  rw [if_neg (by omega)]
  by_cases h2 : r.toNat ≤ ns.length
  · rw [Nat.min_eq_left h2, List.take_of_length_le (by rw [List.length_drop]; omega)]
  · rw [Nat.min_eq_right (by omega), List.drop_length, List.drop_eq_nil_of_le (by omega)]; simp
theorem cutI_len_le {α : Type} {ns : List α} {lo hi : Option Int} : (cutI ns lo hi).length ≤ ns.length := by
  unfold cutI; rw [List.length_take, List.length_drop]; omega
@[simp] theorem add_tups {xs ys : List Int} (h : xs.length + ys.length ≤ 16777216) : addD (.tup (xs.map .int)) (.tup (ys.map .int)) = some (0, .tup ((xs ++ ys).map .int)) := by
  show (if (xs.map D.int).length + (ys.map D.int).length ≤ sizeLine then some (0, D.tup (xs.map .int ++ ys.map .int)) else none) = _
  rw [List.length_map, List.length_map, if_pos (small_ok h), List.map_append]
@[simp] theorem add_tup1 {xs : List Int} {i : Int} (h : xs.length + 1 ≤ 16777216) : addD (.tup (xs.map .int)) (.tup [.int i]) = some (0, .tup ((xs ++ [i]).map .int)) := add_tups (ys := [i]) h
@[simp] theorem add_lsts {xs ys : List Int} (h : xs.length + ys.length ≤ 16777216) : addD (.lst (xs.map .int)) (.lst (ys.map .int)) = some (1, .lst ((xs ++ ys).map .int)) := by
  show (if (xs.map D.int).length + (ys.map D.int).length ≤ sizeLine then some (1, D.lst (xs.map .int ++ ys.map .int)) else none) = _
  rw [List.length_map, List.length_map, if_pos (small_ok h), List.map_append]
theorem at_some {α : Type} {xs : List α} {i : Int} (h1 : -(xs.length : Int) ≤ i) (h2 : i < xs.length) : ∃ v, atI xs i = some v ∧ v ∈ xs := by
  by_cases h : 0 ≤ i
  · rw [at_nat h]
    exact ⟨_, List.getElem?_eq_getElem (show i.toNat < xs.length by omega), List.getElem_mem _⟩
  · rw [at_neg (by omega) h1]
    exact ⟨_, List.getElem?_eq_getElem (show (i + xs.length).toNat < xs.length by omega), List.getElem_mem _⟩
@[simp] theorem pop_ints {ns : List Int} (h : ns ≠ []) : popD (ns.map .int) [] = some (.int (ns.getLast h), ns.dropLast.map .int) := by
  have hl : 0 < ns.length := List.length_pos_iff.mpr h
  unfold popD
  simp [List.getElem?_map, List.getLast_eq_getElem]
/-- items are dropped from a list's end while a test says so -/
theorem pop_loop {t : ST} {c : SS} (E : List Int → Env) (per : Nat) {N : Nat} (h1 : ∀ sh, sh.length ≤ N → ∃ b, t (E sh) = .ok b (E sh) ∧ (b = true → per < sh.length))
    (h3 : ∀ sh, per < sh.length → sh.length ≤ N → c (E sh) = .ok .nx (E sh.dropLast)) {sh : List Int} (hl : per ≤ sh.length) (hN : sh.length ≤ N) : ∃ sh', S.whl t c (E sh) = .ok .nx (E sh') ∧ per ≤ sh'.length ∧ sh'.length ≤ sh.length := by
  refine whl_run E (fun x => per ≤ x.length ∧ x.length ≤ sh.length) (fun x => per ≤ x.length ∧ x.length ≤ sh.length) List.length ⟨hl, Nat.le_refl _⟩ fun x ⟨i1, i2⟩ => ?_
  obtain ⟨b, e, hb⟩ := h1 x (by omega)
  cases b with
  | false => exact .inl ⟨x, e, i1, i2⟩
  | true => exact .inr ⟨_, x.dropLast, e, .inl (h3 x (hb rfl) (by omega)), ⟨by rw [List.length_dropLast]; have := hb rfl; omega, by rw [List.length_dropLast]; omega⟩, by rw [List.length_dropLast]; have := hb rfl; omega⟩
theorem ints_of {es : List D} (h : ∀ e ∈ es, ∃ i : Int, e = .int i) : ∃ ns : List Int, es = ns.map .int := by
  induction es with
  | nil => exact ⟨[], rfl⟩
  | cons e es ih =>
    obtain ⟨i, rfl⟩ := h e (by simp)
    obtain ⟨ns, rfl⟩ := ih fun x hx => h x (List.mem_cons_of_mem _ hx)
    exact ⟨i :: ns, rfl⟩
/-- a comprehension of items that draw on what E holds -/
theorem comp_draws {it : SI} {g : SG} {tt : ST} {f : SF} {k : Nat} {vs : List Nat} {ds : List D} {η : Env} {α : Type} (E : α → Env) (Ok : α → Prop) (P : D → Prop) {p0 : α} (hit : it η = .ok ds (E p0)) (hp : Ok p0) (hst : S.still vs (E p0) = true) (hs : ds.length ≤ 16777216)
    (hv : ∀ p q, (E p).length = (E q).length ∧ ∀ i ∈ vs, i < (E p).length ∧ (E p)[i]? = (E q)[i]?)
    (h : ∀ d ∈ ds, ∀ p, Ok p → ∃ e p' η', S.step g tt f d (S.hide (E p) vs) = .ok (some (k, e)) η' ∧ P e ∧ S.hide η' vs = S.hide (E p') vs ∧ Ok p') :
    ∃ es p, S.comp k vs it g tt f η = .ok (k + 1, .lst es) (E p) ∧ Ok p ∧ es.length = ds.length ∧ ∀ e ∈ es, P e := by
  obtain ⟨es, η2, e1, e2, e3, p, e4, e5⟩ := comp_one (g := g) (tt := tt) (f := f) (k := k) (fun η => ∃ p, Ok p ∧ η = S.hide (E p) vs) P hit hst (small_ok hs) ⟨p0, hp, rfl⟩ fun d hd η ⟨p, h1, h2⟩ => by
    obtain ⟨e, p', η', h3, h4, h5, h6⟩ := h d hd p h1
    exact ⟨e, η', by rw [h2]; exact h3, h4, p', h6, h5⟩
  refine ⟨es, p, ?_, e4, e2, e3⟩
  rw [e1]
  congr 1
  have hl : η2.length = (E p).length := by
    have := congrArg List.length e5
    rw [hide_len, hide_len] at this; exact this
  apply List.ext_getElem?
  intro i
  by_cases hi : i ∈ vs
  · obtain ⟨y1, y2⟩ := (hv p0 p).2 i hi
    rw [mix_in hi (by rw [hl, ← (hv p0 p).1]; exact y1), ← y2, List.getElem?_eq_getElem y1]; rfl
  · rw [mix_out hi, ← hide_out (η := η2) hi, e5, hide_out hi]
theorem comp_ints {it : SI} {g : SG} {tt : ST} {f : SF} {vs : List Nat} {ds : List D} {η : Env} {α : Type} (E : α → Env) (Ok : α → Prop) (P : Int → Prop) {p0 : α} (hit : it η = .ok ds (E p0)) (hp : Ok p0) (hst : S.still vs (E p0) = true) (hs : ds.length ≤ 16777216)
    (hv : ∀ p q, (E p).length = (E q).length ∧ ∀ i ∈ vs, i < (E p).length ∧ (E p)[i]? = (E q)[i]?)
    (h : ∀ d ∈ ds, ∀ p, Ok p → ∃ i p' η', S.step g tt f d (S.hide (E p) vs) = .ok (some (0, .int i)) η' ∧ P i ∧ S.hide η' vs = S.hide (E p') vs ∧ Ok p') :
    ∃ ns : List Int, ∃ p, S.comp 0 vs it g tt f η = .ok (1, .lst (ns.map .int)) (E p) ∧ Ok p ∧ ns.length = ds.length ∧ ∀ n ∈ ns, P n := by
  obtain ⟨es, p, h1, h2, h3, h4⟩ := comp_draws E Ok (fun e => ∃ i : Int, e = .int i ∧ P i) hit hp hst hs hv fun d hd p hp => by
    obtain ⟨i, p', η', z1, z2, z3, z4⟩ := h d hd p hp
    exact ⟨_, p', η', z1, ⟨i, rfl, z2⟩, z3, z4⟩
  obtain ⟨ns, rfl⟩ := ints_of fun e he => let ⟨i, z, _⟩ := h4 e he; ⟨i, z⟩
  refine ⟨ns, p, h1, h2, by simpa using h3, fun n hn => ?_⟩
  obtain ⟨i, z1, z2⟩ := h4 (.int n) (List.mem_map_of_mem hn)
  cases z1; exact z2
end DV

/-! DV18: in, not in. -/
namespace DV
open PySem PySem.Spec PyProof.Rows L2 RZ
/-- x in c, c a list or a tuple of data -/
def memD (x : D) (ds : List D) : Bool := ds.any fun z => eqv z x
def inD : D → D → Option Bool
  | x, .lst ds => if okD 16 x = true ∧ okD 16 (.lst ds) = true then some (memD x ds) else none
  | x, .tup ds => if okD 16 x = true ∧ okD 16 (.tup ds) = true then some (memD x ds) else none
  | _, _ => none
def ninD (x c : D) : Option Bool := (inD x c).map (!·)
theorem pyL_any : ∀ {ds : List D} {x : D}, (pyL ds).any (fun z => PyData.eqv z (py x)) = memD x ds
  | [], _ => rfl
  | d :: ds, x => by
    have ih := pyL_any (ds := ds) (x := x)
    simp only [pyL, List.any_cons, memD] at ih ⊢
    rw [ih]; rfl
def rInT (K : PySem.W.Frag) (neg : Bool) : R2 := fun x y H Q => ∃ d ds, Dp K H x d ∧ Dp K H y (.tuple ds) ∧ SeqAt.shaped d = true ∧ SeqAt.shaped (.tuple ds) = true ∧ Q (.bl (if neg then !ds.any fun z => PyData.eqv z d else ds.any fun z => PyData.eqv z d)) H
section
variable {X : Cx}
theorem room_tup {A : Around} {ds : List PyData} {d : PyData} (sd : SeqAt.shaped d = true) (hu : A.units + 65 < cLine) : A.units + 1 + min (PyData.depthAll ds) d.depth < cLine := room_in_shaped sd hu
theorem op_inT (hu : X.A.units + 65 < cLine) : OpR X (compareOp .In) (rInT X.K false) := by
  intro pins s σ H x y v u Q I rx ry h
  obtain ⟨d, ds, hd, he, sd, se, q⟩ := h
  obtain ⟨as, r1⟩ := Dp.reads I d x v hd rx
  obtain ⟨bs, r2⟩ := Dp.reads I (.tuple ds) y u he ry
  exact SeqAt.in_tuple_reads r2 r1 (SeqAt.canLay_of_shaped se) (SeqAt.canLay_of_shaped sd) (room_in_shaped sd hu) ⟨.bl _, H, I, rfl, q⟩
theorem op_ninT (hu : X.A.units + 65 < cLine) : OpR X (compareOp .NotIn) (rInT X.K true) := by
  intro pins s σ H x y v u Q I rx ry h
  obtain ⟨d, ds, hd, he, sd, se, q⟩ := h
  obtain ⟨as, r1⟩ := Dp.reads I d x v hd rx
  obtain ⟨bs, r2⟩ := Dp.reads I (.tuple ds) y u he ry
  exact SeqAt.notIn_tuple_reads r2 r1 (SeqAt.canLay_of_shaped se) (SeqAt.canLay_of_shaped sd) (room_in_shaped sd hu) ⟨.bl _, H, I, rfl, q⟩
def rInA (K : PySem.W.Frag) : R2 := fun x y H Q => rInD K x y H Q ∨ rInT K false x y H Q
def rNinA (K : PySem.W.Frag) : R2 := fun x y H Q => rNotInD K x y H Q ∨ rInT K true x y H Q
theorem op_inA (hu : X.A.units + 65 < cLine) : OpR X (compareOp .In) (rInA X.K) := (op_inD hu).or (op_inT hu)
theorem op_ninA (hu : X.A.units + 65 < cLine) : OpR X (compareOp .NotIn) (rNinA X.K) := (op_notInD hu).or (op_ninT hu)
variable {K : PySem.W.Frag}
theorem cz_in : Cmp2 (rInA K) inD := by
  intro H v w dx dy b Q rx ry h q
  unfold inD at h
  split at h <;> try cases h
  · split at h <;> cases h
    rename_i ho
    refine .inl ⟨py dx, _, rx.dp 16 _ _ ho.1, ry.dp 16 _ _ ho.2, shaped_ok ho.1, shaped_ok ho.2, ?_⟩
    rw [pyL_any]; exact q
  · split at h <;> cases h
    rename_i ho
    refine .inr ⟨py dx, _, rx.dp 16 _ _ ho.1, ry.dp 16 _ _ ho.2, shaped_ok ho.1, shaped_ok ho.2, ?_⟩
    rw [pyL_any]; exact q
theorem cz_nin : Cmp2 (rNinA K) ninD := by
  intro H v w dx dy b Q rx ry h q
  unfold ninD inD at h
  split at h <;> try cases h
  · split at h <;> cases h
    rename_i ho
    refine .inl ⟨py dx, _, rx.dp 16 _ _ ho.1, ry.dp 16 _ _ ho.2, shaped_ok ho.1, shaped_ok ho.2, ?_⟩
    rw [pyL_any]; exact q
  · split at h <;> cases h
    rename_i ho
    refine .inr ⟨py dx, _, rx.dp 16 _ _ ho.1, ry.dp 16 _ _ ho.2, shaped_ok ho.1, shaped_ok ho.2, ?_⟩
    show Q (.bl (!(pyL _).any _)) H
    rw [pyL_any]; exact q
end
theorem u65 {k : Nat} {A : Around} (hr : Room k A) : A.units + 65 < cLine := by have := hr.un; omega
theorem memD_nb {x : D} {ds : List D} (hx : nb x = true) (hd : nbL ds = true) : memD x ds = true ↔ x ∈ ds := by
  induction ds with
  | nil => simp [memD]
  | cons d ds ih =>
    have h : nb d = true ∧ nbL ds = true := by simpa using hd
    have e := eqv_nb h.1 hx
    have ih := ih h.2
    simp only [memD, List.any_cons, Bool.or_eq_true, List.mem_cons] at ih ⊢
    rw [e, ih]
    constructor
    · rintro (z | z)
      · exact .inl z.symm
      · exact .inr z
    · rintro (z | z)
      · exact .inl z.symm
      · exact .inr z
theorem inL {x : D} {ds : List D} (h1 : okD 16 x = true) (h2 : okD 16 (.lst ds) = true) : inD x (.lst ds) = some (memD x ds) := if_pos ⟨h1, h2⟩
theorem inT {x : D} {ds : List D} (h1 : okD 16 x = true) (h2 : okD 16 (.tup ds) = true) : inD x (.tup ds) = some (memD x ds) := if_pos ⟨h1, h2⟩
theorem memD_map {α : Type} {f : α → D} {x : α} {xs : List α} (inj : ∀ a b, f a = f b → a = b) (nf : ∀ a, nb (f a) = true) [DecidableEq α] : memD (f x) (xs.map f) = decide (x ∈ xs) := by
  rw [Bool.eq_iff_iff, memD_nb (nf x) (nbL_all fun d h => by obtain ⟨a, _, e⟩ := List.mem_map.mp h; rw [← e]; exact nf a), decide_eq_true_eq]
  constructor
  · intro h
    obtain ⟨a, h1, h2⟩ := List.mem_map.mp h
    rw [← inj a x h2]; exact h1
  · exact fun h => List.mem_map_of_mem h
end DV

/-! DV19: dicts. -/
namespace DV
open PySem PySem.Spec PyProof.Rows L2 RZ
def keyD : D → Option Key
  | .int i => some (.inl i)
  | .str x => some (.inr x)
  | _ => none
def keysD : List D → Option (List Key)
  | [] => some []
  | d :: ds => (keyD d).bind fun k => (keysD ds).map (k :: ·)
def keyV : Key → D
  | .inl i => .int i
  | .inr x => .str x
section
variable {κ : Type} [DecidableEq κ]
def lookD (kvs : List (κ × D)) (k : κ) : Option D := (kvs.find? fun kv => decide (kv.1 = k)).map (·.2)
def putD (kvs : List (κ × D)) (k : κ) (v : D) : List (κ × D) :=
  if (kvs.any fun kv => decide (kv.1 = k)) = true then kvs.map (fun kv => if kv.1 = k then (kv.1, v) else kv) else kvs ++ [(k, v)]
theorem look_rep {G : Hp} {k : κ} : ∀ {vs : List (κ × V)} {ds : List (κ × D)}, vs.map (·.1) = ds.map (·.1) → RepL G (vs.map (·.2)) (ds.map (·.2)) → match lookD ds k with
    | some d => ∃ v, valV vs k = some v ∧ Rep G v d
    | none => valV vs k = none
  | [], [], _, _ => rfl
  | [], _ :: _, e, _ => by cases e
  | _ :: _, [], e, _ => by cases e
  | (a, v) :: vs, (b, d) :: ds, e, r => by
    simp only [List.map_cons, List.cons.injEq] at e r
    cases r with
    | cons r1 r2 =>
      have ih := look_rep (k := k) e.2 r2
      obtain ⟨e1, e2⟩ := e
      subst e1
      by_cases h : a = k
      · subst h
        simp only [lookD, valV, List.find?_cons, decide_true, Option.map_some]
        exact ⟨v, rfl, r1⟩
      · simp only [lookD, valV, List.find?_cons, h, decide_false] at ih ⊢
        exact ih
theorem put_keys {k : κ} {v : V} {d : D} {vs : List (κ × V)} {ds : List (κ × D)} (e : vs.map (·.1) = ds.map (·.1)) : (putK vs k v).map (·.1) = (putD ds k d).map (·.1) := by
  have h : (vs.any fun kv => decide (kv.1 = k)) = ds.any fun kv => decide (kv.1 = k) := by
    have a : ∀ l : List (κ × V), (l.any fun kv => decide (kv.1 = k)) = (l.map (·.1)).any fun x => decide (x = k) := fun l => by rw [List.any_map]; rfl
    have b : ∀ l : List (κ × D), (l.any fun kv => decide (kv.1 = k)) = (l.map (·.1)).any fun x => decide (x = k) := fun l => by rw [List.any_map]; rfl
    rw [a, b, e]
  unfold putK putD
  rw [h]
  split
  · rw [List.map_map, List.map_map]
    have a : (vs.map ((·.1) ∘ fun kv => if kv.1 = k then (kv.1, v) else kv)) = vs.map (·.1) := List.map_congr_left fun p _ => by simp only [Function.comp]; split <;> rfl
    have b : (ds.map ((·.1) ∘ fun kv => if kv.1 = k then (kv.1, d) else kv)) = ds.map (·.1) := List.map_congr_left fun p _ => by simp only [Function.comp]; split <;> rfl
    rw [a, b, e]
  · simp [e]
theorem put_rep {G : Hp} {k : κ} {v : V} {d : D} (rv : Rep G v d) {vs : List (κ × V)} {ds : List (κ × D)} (e : vs.map (·.1) = ds.map (·.1)) (r : RepL G (vs.map (·.2)) (ds.map (·.2))) : RepL G ((putK vs k v).map (·.2)) ((putD ds k d).map (·.2)) := by
  have h : (vs.any fun kv => decide (kv.1 = k)) = ds.any fun kv => decide (kv.1 = k) := by
    have a : ∀ l : List (κ × V), (l.any fun kv => decide (kv.1 = k)) = (l.map (·.1)).any fun x => decide (x = k) := fun l => by rw [List.any_map]; rfl
    have b : ∀ l : List (κ × D), (l.any fun kv => decide (kv.1 = k)) = (l.map (·.1)).any fun x => decide (x = k) := fun l => by rw [List.any_map]; rfl
    rw [a, b, e]
  unfold putK putD
  rw [h]
  split
  · clear h
    rename_i hh
    clear hh
    induction vs generalizing ds with
    | nil => cases ds with
      | nil => exact .nil
      | cons _ _ => cases e
    | cons p vs ih => cases ds with
      | nil => cases e
      | cons q ds =>
        obtain ⟨a, v'⟩ := p
        obtain ⟨b, d'⟩ := q
        simp only [List.map_cons, List.cons.injEq] at e r ⊢
        obtain ⟨e1, e2⟩ := e
        subst e1
        cases r with
        | cons r1 r2 =>
          by_cases hk : a = k
          · simp only [hk, if_true]; exact .cons rv (ih e2 r2)
          · simp only [hk, if_false]; exact .cons r1 (ih e2 r2)
  · rw [List.map_append, List.map_append]
    exact r.append (.cons rv .nil)
end
theorem key_rep {G : Hp} {v : V} {d : D} {k : Key} (r : Rep G v d) (h : keyD d = some k) : v = kV k := by
  cases d <;> simp only [keyD] at h <;> cases h <;> cases r <;> rfl
theorem keys_rep {G : Hp} : ∀ {vs : List V} {ds : List D} {ks : List Key}, RepL G vs ds → keysD ds = some ks → vs = ks.map kV
  | _, _, _, .nil, h => by cases h; rfl
  | _, _, ks, .cons (d := d) (ds := ds) r t, h => by
    have h : (keyD d).bind (fun k => (keysD ds).map (k :: ·)) = some ks := h
    cases e1 : keyD d with
    | none => rw [e1] at h; cases h
    | some k =>
      rw [e1] at h
      have h : (keysD ds).map (k :: ·) = some ks := h
      cases e2 : keysD ds with
      | none => rw [e2] at h; cases h
      | some ks' =>
        rw [e2] at h; cases h
        rw [key_rep r e1, keys_rep t e2]; rfl
/-- what a dict tells of a key -/
def getD' : D → D → Option (Option D)
  | .dK kvs, k => (keyD k).map (lookD kvs)
  | .dT kvs, .tup ks => (keysD ks).map (lookD kvs)
  | _, _ => none
def DgetOk (G H : Hp) (a : Addr) (w : V) : Option D → Prop
  | some d => ∃ u, DGet H a w (some u) ∧ Rep G u d
  | none => DGet H a w none
theorem dget_rep {G H : Hp} {v w : V} {dx dy : D} {o : Option D} (s : Sub G H) (bx : Bor G H v dx) (by' : Bor G H w dy) (h : getD' dx dy = some o) : ∃ a, v = .ref a ∧ DgetOk G H a w o := by
  cases dx <;> first | (cases h; done) | skip
  · rename_i kvs
    have h : (keyD dy).map (lookD kvs) = some o := h
    cases e : keyD dy with
    | none => rw [e] at h; cases h
    | some k =>
      rw [e] at h; cases h
      obtain ⟨a, vs, rfl, h1, h2, h3⟩ := bx.dK s
      have ew : w = kV k := key_rep (by'.rep s) e
      refine ⟨a, rfl, ?_⟩
      have l := look_rep (k := k) h2 h3
      cases q : lookD kvs k with
      | none => rw [q] at l; exact .inl ⟨vs, k, h1, ew, l.symm⟩
      | some d => rw [q] at l; obtain ⟨u, y1, y2⟩ := l; exact ⟨u, .inl ⟨vs, k, h1, ew, y1.symm⟩, y2⟩
  · rename_i kvs
    cases dy <;> first | (cases h; done) | skip
    rename_i ks
    have h : (keysD ks).map (lookD kvs) = some o := h
    cases e : keysD ks with
    | none => rw [e] at h; cases h
    | some k =>
      rw [e] at h; cases h
      obtain ⟨a, vs, rfl, h1, h2, h3⟩ := bx.dT s
      obtain ⟨b, ws, rfl, h4, h5⟩ := by'.tup s
      have ew : ws = k.map kV := keys_rep h5 e
      subst ew
      refine ⟨a, rfl, ?_⟩
      have l := look_rep (k := k) h2 h3
      cases q : lookD kvs k with
      | none => rw [q] at l; exact .inr ⟨vs, k, b, h1, rfl, s.tp _ _ h4, l.symm⟩
      | some d => rw [q] at l; obtain ⟨u, y1, y2⟩ := l; exact ⟨u, .inr ⟨vs, k, b, h1, rfl, s.tp _ _ h4, y1.symm⟩, y2⟩
/-! ### d[k] beside xs[i] -/
def ixA : D → D → Option (Nat × D)
  | .dK kvs, k => ((getD' (.dK kvs) k).bind id).map (0, ·)
  | .dT kvs, k => ((getD' (.dT kvs) k).bind id).map (0, ·)
  | x, y => ixD x y
def rIxDct : R2 := fun x y H Q => ∃ a v, x = .ref a ∧ DGet H a y (some v) ∧ Q v H
section
variable {X : Cx}
theorem ix_dct (hu : X.A.units + 1 < cLine) : IxR X rIxDct := by
  intro value slice pins s σ H x y v u Q I rx ry h hs
  obtain ⟨a, w, rfl, g, q⟩ := h
  cases rx
  exact tail_any (dict_typeIs I g) PySem.F.slot_dict_getitem.lookup (d_getItem hu I g ry fun w' s3 I3 rw' => ⟨w, H, I3, rw', q⟩) hs
def rIxA (K : PySem.W.Frag) : R2 := fun x y H Q => rIx K x y H Q ∨ rIxDct x y H Q
theorem ix_all (hu : X.A.units + 1 < cLine) : IxR X (rIxA X.K) := ix_seq.or (ix_dct hu)
theorem sz_ixA {K : PySem.W.Frag} : Op2 (rIxA K) ixA := by
  intro G H v w dx dy k d Q s bx by' h fin
  unfold ixA at h
  split at h
  · rename_i kvs
    cases e : getD' (.dK kvs) dy with
    | none => rw [e] at h; cases h
    | some o =>
      rw [e] at h
      cases o with
      | none => cases h
      | some d' =>
        cases h
        obtain ⟨a, rfl, u, g, r⟩ := dget_rep s bx by' e
        exact .inr ⟨a, u, rfl, g, fin.same s r⟩
  · rename_i kvs
    cases e : getD' (.dT kvs) dy with
    | none => rw [e] at h; cases h
    | some o =>
      rw [e] at h
      cases o with
      | none => cases h
      | some d' =>
        cases h
        obtain ⟨a, rfl, u, g, r⟩ := dget_rep s bx by' e
        exact .inr ⟨a, u, rfl, g, fin.same s r⟩
  · exact .inl (sz_ix G H v w dx dy k d Q s bx by' h fin)
variable {L : Lents} {W : WX} {e a b c tg it : Expr} {es : List Expr} {pos : Pos} {ss : List Stmt}
theorem jf_ixA {oa ob : Opd} (hu : X.A.units + 1 < cLine) (ha : PE X a (tO X.K L W oa)) (hb : PE X b (tO X.K L W ob)) (hs : PlainIx b) : PE X (.Subscript a b pos) (tF X.K L W (S.bin ixA oa ob)) :=
  PE.imp (pe_ix (ix_all hu) ha hb hs) fun σ H Q h => bin_use sz_ixA h
end
@[simp] theorem ixA_lst {ds : List D} {k : D} : ixA (.lst ds) k = ixD (.lst ds) k := rfl
@[simp] theorem ixA_tup {ds : List D} {k : D} : ixA (.tup ds) k = ixD (.tup ds) k := rfl
@[simp] theorem ixA_str {x : Str} {k : D} : ixA (.str x) k = ixD (.str x) k := rfl
theorem u1 {k : Nat} {A : Around} (hr : Room k A) : A.units + 1 < cLine := by have := hr.un; omega

/-! ### in: values frozen or of one level -/
def inA : D → D → Option Bool
  | k, .dK kvs => (getD' (.dK kvs) k).map (·.isSome)
  | k, .dT kvs => (getD' (.dT kvs) k).map (·.isSome)
  | x, c => inD x c
def ninA (x c : D) : Option Bool := (inA x c).map (!·)
def rInDct (neg : Bool) : R2 := fun x y H Q => ∃ a o, y = .ref a ∧ DGet H a x o ∧ Q (.bl (if neg then !o.isSome else o.isSome)) H
section
variable {X : Cx}
theorem op_inDct (hu : X.A.units + 1 < cLine) : OpR X (compareOp .In) (rInDct false) := by
  intro pins s σ H x y v u Q I rx ry h
  obtain ⟨a, o, rfl, g, q⟩ := h
  cases ry
  exact d_in hu I g rx fun s3 I3 => ⟨.bl o.isSome, H, I3, rfl, q⟩
theorem op_ninDct (hu : X.A.units + 1 < cLine) : OpR X (compareOp .NotIn) (rInDct true) := by
  intro pins s σ H x y v u Q I rx ry h
  obtain ⟨a, o, rfl, g, q⟩ := h
  cases ry
  exact d_notIn hu I g rx fun s3 I3 => ⟨.bl (!o.isSome), H, I3, rfl, q⟩
def rInB' (K : PySem.W.Frag) : R2 := fun x y H Q => rInA K x y H Q ∨ rInDct false x y H Q
def rNinB' (K : PySem.W.Frag) : R2 := fun x y H Q => rNinA K x y H Q ∨ rInDct true x y H Q
theorem op_inB (hu : X.A.units + 65 < cLine) : OpR X (compareOp .In) (rInB' X.K) := (op_inA hu).or (op_inDct (by omega))
theorem op_ninB (hu : X.A.units + 65 < cLine) : OpR X (compareOp .NotIn) (rNinB' X.K) := (op_ninA hu).or (op_ninDct (by omega))
theorem getD_top {H : Hp} {v w : V} {dx dy : D} {o : Option D} (rx : Rep H v dx) (ry : Rep H w dy) (h : getD' dx dy = some o) : ∃ a r, v = .ref a ∧ DGet H a w r ∧ r.isSome = o.isSome := by
  obtain ⟨a, e, g⟩ := dget_rep (Sub.refl H) (.inl rx) (.inl ry) h
  cases o with
  | none => exact ⟨a, none, e, g, rfl⟩
  | some d => obtain ⟨u, g, _⟩ := g; exact ⟨a, some u, e, g, rfl⟩
theorem cz_inB {K : PySem.W.Frag} : Cmp2 (rInB' K) inA := by
  intro H v w dx dy b Q rx ry h q
  unfold inA at h
  split at h
  · rename_i kvs
    cases e : getD' (.dK kvs) dx with
    | none => rw [e] at h; cases h
    | some o =>
      rw [e] at h; cases h
      obtain ⟨a, r, rfl, g, e2⟩ := getD_top ry rx e
      exact .inr ⟨a, r, rfl, g, by rw [e2]; exact q⟩
  · rename_i kvs
    cases e : getD' (.dT kvs) dx with
    | none => rw [e] at h; cases h
    | some o =>
      rw [e] at h; cases h
      obtain ⟨a, r, rfl, g, e2⟩ := getD_top ry rx e
      exact .inr ⟨a, r, rfl, g, by rw [e2]; exact q⟩
  · exact .inl (cz_in H v w dx dy b Q rx ry h q)
theorem cz_ninB {K : PySem.W.Frag} : Cmp2 (rNinB' K) ninA := by
  intro H v w dx dy b Q rx ry h q
  unfold ninA inA at h
  split at h
  · rename_i kvs
    cases e : getD' (.dK kvs) dx with
    | none => rw [e] at h; cases h
    | some o =>
      rw [e] at h; cases h
      obtain ⟨a, r, rfl, g, e2⟩ := getD_top ry rx e
      exact .inr ⟨a, r, rfl, g, by rw [e2]; exact q⟩
  · rename_i kvs
    cases e : getD' (.dT kvs) dx with
    | none => rw [e] at h; cases h
    | some o =>
      rw [e] at h; cases h
      obtain ⟨a, r, rfl, g, e2⟩ := getD_top ry rx e
      exact .inr ⟨a, r, rfl, g, by rw [e2]; exact q⟩
  · exact .inl (cz_nin H v w dx dy b Q rx ry h q)
end
@[simp] theorem inA_lst {x : D} {ds : List D} : inA x (.lst ds) = inD x (.lst ds) := rfl
@[simp] theorem inA_tup {x : D} {ds : List D} : inA x (.tup ds) = inD x (.tup ds) := rfl
end DV

/-! DV20: dicts: made, written, counted, walked. -/
namespace DV
open PySem PySem.Spec PyProof.Rows L2 RZ
section
variable {L : Lents} {σ : Sig} {G H : Hp} {η : Env} {Fs : Feet}
/-- the one object of a slot is written -/
theorem Rel.writeAny (R : Rel L G η σ H Fs) {j : Nat} {l : Bool} {d d' : D} {a : Addr} {o' : HO} (e : η[j]? = some (.val 1 l d)) (h1 : σ[j]? = some (some (.ref a))) (e3 : Fs j = [a]) (x : Own G (upd H a o') 1 (.ref a) d' [a]) :
    Rel L G (η.set j (.val 1 l d')) σ (upd H a o') Fs ∧ Ext G H Fs G (upd H a o') Fs := by
  have dis : G a = none := R.dis j a (by rw [e3]; exact List.mem_cons_self)
  have fl : foot (fun i => if i = j then [a] else []) a := ⟨j, by show a ∈ (if j = j then [a] else []); rw [if_pos rfl]; exact List.mem_cons_self⟩
  have E := Ext.upd1 (G := G) (H := H) (o := o') fl
  obtain ⟨r1, r2⟩ := R.swap e h1 E (R.sub.upd_out dis) (fun b ⟨i, hb⟩ => by
    have hb : b ∈ (if i = j then [a] else []) := hb
    by_cases hi : i = j
    · subst hi; rw [if_pos rfl] at hb; rw [e3]; exact hb
    · rw [if_neg hi] at hb; simp at hb) (k' := 1) (d' := d') (F' := [a]) x (by simp) (fun b hb => by
      have z : b = a := by simpa using hb
      subst z; exact dis) fun b hb => by
      have z : b = a := by simpa using hb
      subst z; exact fl
  have ef : setF Fs j [a] = Fs := by
    funext i
    by_cases hi : i = j
    · subst hi; rw [setF_same, e3]
    · rw [setF_ne hi]
  rw [ef] at r1 r2
  exact ⟨r1, r2⟩
theorem Rel.writeK (R : Rel L G η σ H Fs) {j : Nat} {l : Bool} {kvs : List (Key × D)} (e : η[j]? = some (.val 1 l (.dK kvs))) :
    ∃ a vs, σ[j]? = some (some (.ref a)) ∧ H a = some (.dK vs) ∧ vs.map (·.1) = kvs.map (·.1) ∧ RepL G (vs.map (·.2)) (kvs.map (·.2)) ∧ ∀ vs' kvs', vs'.map (·.1) = kvs'.map (·.1) → RepL G (vs'.map (·.2)) (kvs'.map (·.2)) →
      Rel L G (η.set j (.val 1 l (.dK kvs'))) σ (upd H a (.dK vs')) Fs ∧ Ext G H Fs G (upd H a (.dK vs')) Fs := by
  obtain ⟨v, h1, ⟨a, vs, F, e1, e2, e3, e5, e4⟩, h3⟩ := R.slot j 1 l (.dK kvs) e
  subst e1
  obtain ⟨r, e6⟩ := e4.to0
  subst e6
  exact ⟨a, vs, h1, e2, e5, r, fun vs' kvs' k' r' => R.writeAny e h1 e3 ⟨a, vs', [], rfl, upd_same, rfl, k', OwnL.of0 r'⟩⟩
theorem Rel.writeT (R : Rel L G η σ H Fs) {j : Nat} {l : Bool} {kvs : List (List Key × D)} (e : η[j]? = some (.val 1 l (.dT kvs))) :
    ∃ a vs, σ[j]? = some (some (.ref a)) ∧ H a = some (.dT vs) ∧ vs.map (·.1) = kvs.map (·.1) ∧ RepL G (vs.map (·.2)) (kvs.map (·.2)) ∧ ∀ vs' kvs', vs'.map (·.1) = kvs'.map (·.1) → RepL G (vs'.map (·.2)) (kvs'.map (·.2)) →
      Rel L G (η.set j (.val 1 l (.dT kvs'))) σ (upd H a (.dT vs')) Fs ∧ Ext G H Fs G (upd H a (.dT vs')) Fs := by
  obtain ⟨v, h1, ⟨a, vs, F, e1, e2, e3, e5, e4⟩, h3⟩ := R.slot j 1 l (.dT kvs) e
  subst e1
  obtain ⟨r, e6⟩ := e4.to0
  subst e6
  exact ⟨a, vs, h1, e2, e5, r, fun vs' kvs' k' r' => R.writeAny e h1 e3 ⟨a, vs', [], rfl, upd_same, rfl, k', OwnL.of0 r'⟩⟩
end
/-- c[k] = d -/
def stD : D → D → D → Option D
  | .lst ds, .int i, d => (ixN ds.length i).map fun m => .lst (ds.set m d)
  | .dK kvs, k, d => if kvs.length < sizeLine then (keyD k).map fun k => .dK (putD kvs k d) else none
  | .dT kvs, .tup ks, d => if kvs.length < sizeLine then (keysD ks).map fun k => .dT (putD kvs k d) else none
  | _, _, _ => none
namespace S
def setA (j : Nat) (f g : SE) : SS := fun η => (f η).bind fun d η1 => match η1[j]? with
  | some (.val _ _ _) => (g η1).bind fun y η2 => match η2[j]? with
    | some (.val 1 l c) => (match stD c y d with
      | some c' => .ok .nx (η2.set j (.val 1 l c'))
      | none => .bad)
    | _ => .bad
  | _ => .bad
def dnew (d : D) : SF := fun η => .ok (1, d) η
end S
def rSetA : TSet := fun o i v H Q => rSetL o i v H Q ∨ rSetD o i v H Q
theorem map_len {α β γ : Type} {xs : List (α × β)} {ys : List (α × γ)} (h : xs.map (·.1) = ys.map (·.1)) : xs.length = ys.length := by
  have := congrArg List.length h
  rw [List.length_map, List.length_map] at this; exact this
section
variable {X : Cx} {L : Lents} {W : WX} {e a b c tg it : Expr} {es : List Expr} {pos : Pos} {ss : List Stmt}
theorem set_any (hu : X.A.units + 1 < cLine) : PSet X rSetA := by
  intro pins s σ H o i v ov iv u Q I ro ri rv h
  rcases h with h | h
  · exact set_list pins s σ H o i v ov iv u Q I ro ri rv h
  · exact set_dict hu pins s σ H o i v ov iv u Q I ro ri rv h
theorem js_setA {o i : Expr} {j : Nat} {f g : SE} {p : Pos} (hu : X.A.units + 1 < cLine) (he : PE X e (tE X.K L W f)) (ho : PE X o (tVar j)) (hi : PE X i (tE X.K L W g))
    (hst : ∀ v, assign (.Subscript o i p) X.env v = (do
      let ov ← holding [v] (eval o X.env)
      let iv ← holding [v, ov] (eval i X.env)
      standAt p
      holding [v, ov, iv] (setItem ov iv v)
      release [v, ov, iv] []) := by intro _; rfl)
    (hs : swapsWithSole [.Subscript o i p] e pos.line X.env = pure false := by rfl) (hw : swappedStores [.Subscript o i p] e X.env = pure none := by rfl) (h1 : (assignEach [.Subscript o i p] X.env).map (·.2) = [assign (.Subscript o i p) X.env] := by rfl) :
    PS X (.Assign [.Subscript o i p] e pos) (tS X.K L W (S.setA j f g)) := by
  refine PS.imp (ps_asg he (pg_sub ho hi (set_any hu) hst) hs hw h1) fun D σ H ⟨G, η, Fs, R, q⟩ => ⟨G, η, Fs, R, (ResS.bind q).mono fun d η1 G1 H1 Fs1 R1 E1 q1 v rv => ?_⟩
  cases z : η1[j]? with
  | none => simp only [z] at q1; exact q1.elim
  | some sl =>
    cases sl with
    | no => simp only [z] at q1; exact q1.elim
    | val k l d0 =>
      simp only [z] at q1
      obtain ⟨x, hx, _⟩ := R1.slot j k l d0 z
      refine ⟨x, hx, G1, η1, Fs1, R1, (ResS.bind q1).mono fun y η2 G2 H2 Fs2 R2 E2 q2 w rw' => ?_⟩
      cases z2 : η2[j]? with
      | none => simp only [z2] at q2; exact q2.elim
      | some sl2 =>
        rw [z2] at q2
        split at q2
        · rename_i l2 c y2
          have z2 := z2.trans y2
          cases hc : stD c y d with
          | none => rw [hc] at q2; exact q2.elim
          | some c' =>
            rw [hc] at q2
            have rv2 := rv.mono E2.g.sub
            cases c <;> first | (cases hc; done) | skip
            · rename_i ds
              cases y <;> first | (cases hc; done) | skip
              rename_i i
              cases hm : ixN ds.length i with
              | none => simp only [stD, hm] at hc; cases hc
              | some m =>
                simp only [stD, hm, Option.map_some] at hc
                cases hc
                cases rw'
                obtain ⟨a, vs, s1, s2, s3, s4⟩ := R2.write1 z2
                rw [hx] at s1; cases s1
                obtain ⟨r1, r2⟩ := s4 (vs.set m v) (ds.set m d) (RepL.set rv2 m s3)
                exact .inl ⟨a, vs, i, m, rfl, rfl, s2, by rw [s3.length]; exact hm, q2 σ G2 _ Fs2 r1 r2⟩
            · rename_i kvs
              have hc : (if kvs.length < sizeLine then (keyD y).map fun k => DV.D.dK (putD kvs k d) else none) = some c' := hc
              split at hc
              · rename_i hz
                cases hk : keyD y with
                | none => rw [hk] at hc; cases hc
                | some k =>
                  rw [hk] at hc; cases hc
                  obtain ⟨a, vs, s1, s2, s3, s4, s5⟩ := R2.writeK z2
                  rw [hx] at s1; cases s1
                  obtain ⟨r1, r2⟩ := s5 (putK vs k v) (putD kvs k d) (put_keys s3) (put_rep rv2 s3 s4)
                  exact .inr ⟨a, _, rfl, .inl ⟨vs, k, s2, key_rep rw' hk, by rw [map_len s3]; exact hz, rfl⟩, q2 σ G2 _ Fs2 r1 r2⟩
              · cases hc
            · rename_i kvs
              cases y <;> first | (cases hc; done) | skip
              rename_i ks
              have hc : (if kvs.length < sizeLine then (keysD ks).map fun k => DV.D.dT (putD kvs k d) else none) = some c' := hc
              split at hc
              · rename_i hz
                cases hk : keysD ks with
                | none => rw [hk] at hc; cases hc
                | some k =>
                  rw [hk] at hc; cases hc
                  obtain ⟨a, vs, s1, s2, s3, s4, s5⟩ := R2.writeT z2
                  rw [hx] at s1; cases s1
                  cases rw' with
                  | tup t1 t2 =>
                    have ew := keys_rep t2 hk
                    subst ew
                    obtain ⟨r1, r2⟩ := s5 (putK vs k v) (putD kvs k d) (put_keys s3) (put_rep rv2 s3 s4)
                    exact .inr ⟨a, _, rfl, .inr ⟨vs, k, _, s2, rfl, R2.sub.tp _ _ t1, by rw [map_len s3]; exact hz, rfl⟩, q2 σ G2 _ Fs2 r1 r2⟩
              · cases hc
        · exact q2.elim
theorem new_own1 {σ : Sig} {G H : Hp} {η : Env} {Fs : Feet} {Q : VK} {p : Addr} {o : HO} {d : D} (R : Rel L G η σ H Fs) (hp : H p = none) (x : Own G (upd H p o) 1 (.ref p) d [p])
    (q : Res X.K L W σ G H Fs (fun p _ G' H' Fs' => ∀ v F, Apart G' H' Fs' p.1 v p.2 F → (∀ a ∈ F, foot Fs a ∨ H a = none) → Q v H') (.ok (1, d) η)) : Q (.ref p) (upd H p o) := by
  have N := New.own (o := o) R.sub hp
  refine q _ _ _ (R.new N) N.ext _ [p] ⟨x, by simp, fun a ha => ?_, fun a ha => ?_⟩ fun a ha => ?_
  · have e : a = p := by simpa using ha
    subst e; exact R.sub.free hp
  · have e : a = p := by simpa using ha
    subst e; exact R.noFoot hp
  · have e : a = p := by simpa using ha
    subst e; exact .inr hp
theorem jf_dnewK : PE X (.Dict [] [] pos) (tF X.K L W (S.dnew (.dK []))) :=
  PE.imp pe_dnewK fun σ H Q ⟨G, η, Fs, R, q⟩ p hp => new_own1 (d := .dK []) R hp ⟨p, [], [], rfl, upd_same, rfl, rfl, .nil⟩ q
theorem jf_dnewT : PE X (.Dict [] [] pos) (tF X.K L W (S.dnew (.dT []))) :=
  PE.imp pe_dnewT fun σ H Q ⟨G, η, Fs, R, q⟩ p hp => new_own1 (d := .dT []) R hp ⟨p, [], [], rfl, upd_same, rfl, rfl, .nil⟩ q
end
end DV

/-! DV21: loops and comprehensions over a dict that a name holds. -/
namespace DV
open PySem PySem.Spec PyProof.Rows L2 RZ
def keysOf : D → Option (List D)
  | .dK kvs => some (kvs.map fun p => keyV p.1)
  | .dT kvs => some (kvs.map fun p => .tup (p.1.map keyV))
  | _ => none
namespace S
def keys (j : Nat) : SI := fun η => (S.var j η).bind fun d η1 => lift (keysOf d) η1
def forsD (j : Nat) (g : SG) (body : SS) : SS := fun η => match S.fors (keys j) g body η with
  | .ok fl η' => .ok fl η'
  | _ => .bad
/-- a value made while the dict of a name is walked -/
def locked (f : SF) : SF := fun η => match f η with
  | .ok p η' => .ok p η'
  | _ => .bad
end S
def Dct : HO → Prop
  | .dK _ => True
  | .dT _ => True
  | _ => False
section
variable {L : Lents} {σ : Sig} {G H G' H' : Hp} {η : Env} {Fs Fs' : Feet} {a : Addr} {u : HO} {od : Obj}
theorem Rel.reH (R : Rel L G η σ H Fs) (s : Sub G H') (h : ∀ b, foot Fs b → H' b = H b) : Rel L G η σ H' Fs where
  sub := s
  len := R.len
  wid := R.wid
  slot := fun i k l d e => by
    obtain ⟨v, y1, y2, y3⟩ := R.slot i k l d e
    exact ⟨v, y1, y2.mono (Sub.refl G) k fun b hb => h b ⟨i, hb⟩, y3⟩
  emp := R.emp
  nod := R.nod
  dis := R.dis
  sep := R.sep
  lnt := R.lnt
theorem Sub.lock (s : Sub G H) (g : G a = some u) (du : Dct u) : Sub G (upd H a (.frz od u)) where
  rd := fun b w r => by
    by_cases e : b = a
    · subst e
      rcases r with z | ⟨o, z⟩
      · rw [g] at z; cases z; exact .inr ⟨od, upd_same⟩
      · rw [g] at z; cases z; exact du.elim
    · rcases s.rd b w r with z | ⟨o, z⟩
      · exact .inl (by rw [upd_ne e]; exact z)
      · exact .inr ⟨o, by rw [upd_ne e]; exact z⟩
  tp := fun b xs r => by
    by_cases e : b = a
    · subst e; rw [g] at r; cases r; exact du.elim
    · rw [upd_ne e]; exact s.tp b xs r
  fz := fun b o w r => by
    by_cases e : b = a
    · subst e; rw [g] at r; cases r; exact du.elim
    · rw [upd_ne e]; exact s.fz b o w r
theorem Sub.unlock (s : Sub G H) (g : G a = some u) (du : Dct u) : Sub G (upd H a u) where
  rd := fun b w r => by
    by_cases e : b = a
    · subst e
      rcases r with z | ⟨o, z⟩
      · rw [g] at z; cases z; exact .inl upd_same
      · rw [g] at z; cases z; exact du.elim
    · rcases s.rd b w r with z | ⟨o, z⟩
      · exact .inl (by rw [upd_ne e]; exact z)
      · exact .inr ⟨o, by rw [upd_ne e]; exact z⟩
  tp := fun b xs r => by
    by_cases e : b = a
    · subst e; rw [g] at r; cases r; exact du.elim
    · rw [upd_ne e]; exact s.tp b xs r
  fz := fun b o w r => by
    by_cases e : b = a
    · subst e; rw [g] at r; cases r; exact du.elim
    · rw [upd_ne e]; exact s.fz b o w r
theorem Rel.notFoot (R : Rel L G η σ H Fs) (g : G a = some u) : ¬ foot Fs a := fun ⟨i, h⟩ => by rw [R.dis i a h] at g; cases g
theorem Rel.lock (R : Rel L G η σ H Fs) (g : G a = some u) (du : Dct u) : Rel L G η σ (upd H a (.frz od u)) Fs :=
  R.reH (R.sub.lock g du) fun b hb => upd_ne fun z => R.notFoot g (by rw [← z]; exact hb)
theorem Rel.unlock (R : Rel L G η σ H Fs) (g : G a = some u) (du : Dct u) : Rel L G η σ (upd H a u) Fs :=
  R.reH (R.sub.unlock g du) fun b hb => upd_ne fun z => R.notFoot g (by rw [← z]; exact hb)
/-- behind a locked stretch -/
theorem Ext.locked (E : Ext G (upd H a (.frz od u)) Fs G' H' Fs') (nf : ¬ foot Fs a) (h : H a = some u) : H' a = some (.frz od u) ∧ Ext G H Fs G' (upd H' a u) Fs' := by
  refine ⟨E.h a _ upd_same nf, E.g, fun b o e n => ?_, fun b z => ?_, fun b z => ?_, fun b z => ?_⟩
  · by_cases hb : b = a
    · subst hb; rw [h] at e; cases e; exact upd_same
    · rw [upd_ne hb]; exact E.h b o (by rw [upd_ne hb]; exact e) n
  · rcases E.n b z with y | y | y
    · exact .inl y
    · exact .inr (.inl y)
    · by_cases hb : b = a
      · subst hb; rw [upd_same] at y; exact y.elim
      · rw [upd_ne hb] at y; exact .inr (.inr y)
  · rcases E.f b z with y | y
    · exact .inl y
    · by_cases hb : b = a
      · subst hb; rw [upd_same] at y; cases y
      · rw [upd_ne hb] at y; exact .inr y
  · by_cases hb : b = a
    · subst hb; rw [upd_same]; simp
    · rw [upd_ne hb]
      exact E.d b (by rw [upd_ne hb]; exact z)
end
theorem keyV_rep {G : Hp} (k : Key) : Rep G (kV k) (keyV k) := by
  cases k with
  | inl i => exact .int i
  | inr x => exact .str x
theorem keyVs_rep {G : Hp} : ∀ ks : List Key, RepL G (ks.map kV) (ks.map keyV)
  | [] => .nil
  | k :: ks => .cons (keyV_rep k) (keyVs_rep ks)
/-- what is walked: the keys, the dict locked -/
theorem walks_dK {G H : Hp} {Fs : Feet} {a : Addr} {o : Obj} {vs : List (Key × V)} {kvs : List (Key × D)} (h : H a = some (.frz o (.dK vs))) (nf : ¬ foot Fs a) (e : vs.map (·.1) = kvs.map (·.1)) : Walks G H Fs (kvs.map fun p => keyV p.1) (Itk a o vs) := by
  intro i G2 H2 Fs2 E s
  have h2 := E.h a _ h nf
  have hl : vs.length = kvs.length := map_len e
  refine ⟨fun hi => ⟨h2, by rw [List.length_map] at hi; omega⟩, fun hi => ⟨⟨h2, by rw [List.length_map] at hi; omega⟩, fun x H' ⟨e2, k, v, y1, y2⟩ => ?_⟩⟩
  subst e2; subst y2
  have y3 := congrArg (fun l => l[i]?) e
  simp only [List.getElem?_map, y1, Option.map_some] at y3
  cases q : kvs[i]? with
  | none => rw [q] at y3; cases y3
  | some p =>
    rw [q] at y3
    have ek : k = p.1 := by injection y3
    exact ⟨keyV p.1, G2, by simp [q], New.refl s, by rw [ek]; exact keyV_rep _⟩
theorem walks_dT {G H : Hp} {Fs : Feet} {a : Addr} {o : Obj} {vs : List (List Key × V)} {kvs : List (List Key × D)} (h : H a = some (.frz o (.dT vs))) (nf : ¬ foot Fs a) (e : vs.map (·.1) = kvs.map (·.1)) : Walks G H Fs (kvs.map fun p => .tup (p.1.map keyV)) (Itkt a o vs) := by
  intro i G2 H2 Fs2 E s
  have h2 := E.h a _ h nf
  have hl : vs.length = kvs.length := map_len e
  refine ⟨fun hi => ⟨h2, by rw [List.length_map] at hi; omega⟩, fun hi => ⟨⟨h2, by rw [List.length_map] at hi; omega⟩, fun x H' ⟨e2, k, v, b, y1, y2, y4⟩ => ?_⟩⟩
  subst e2; subst y2
  have y3 := congrArg (fun l => l[i]?) e
  simp only [List.getElem?_map, y1, Option.map_some] at y3
  cases q : kvs[i]? with
  | none => rw [q] at y3; cases y3
  | some p =>
    rw [q] at y3
    have ek : k = p.1 := by injection y3
    subst ek
    -- the key's tuple comes to be known
    have N : New G2 H' (frz G2 H' [b]) H' := by
      refine ⟨fun c o z => ?_, Le.refl H', frz_sub s, fun c z => ?_⟩
      · by_cases hc : c ∈ [b]
        · have ec : c = b := by simpa using hc
          subst ec
          rw [frz_in hc]
          cases o with
          | tup xs => exact s.tp c xs z
          | frz o' u => exact s.fz c o' u z
          | _ =>
            rcases s.rd c _ (.inl z) with y | ⟨o', y⟩
            · exact y
            · rw [y4] at y; cases y
        · rw [frz_out hc]; exact z
      · by_cases hc : c ∈ [b]
        · have ec : c = b := by simpa using hc
          subst ec
          exact .inr (by rw [y4]; trivial)
        · rw [frz_out hc] at z; exact .inl z
    refine ⟨.tup (p.1.map keyV), _, by simp [q], N, .tup ?_ (keyVs_rep p.1)⟩
    rw [frz_in (by simp)]; exact y4
theorem PS.or {X : Cx} {st : Stmt} {t t' : TS} (h : PS X st t) (h' : PS X st t') : PS X st (fun D σ H => t D σ H ∨ t' D σ H) := ⟨fun pins s σ H D I q => q.elim (h.run pins s σ H D I) (h'.run pins s σ H D I)⟩
theorem PE.or {X : Cx} {e : Expr} {t t' : TE} (h : PE X e t) (h' : PE X e t') : PE X e (fun σ H Q => t σ H Q ∨ t' σ H Q) := ⟨fun pins s σ H Q I q => q.elim (h.run pins s σ H Q I) (h'.run pins s σ H Q I)⟩
theorem lift_exc {α : Type} {o : Option α} {η η' : Env} {c : Str} (h : lift o η = .exc c η') : False := by cases o <;> cases h
/-- the keys of a dict's object -/
def DKeys (u : HO) (ds : List D) : Prop := (∃ (vs : List (Key × V)) (kvs : List (Key × D)), u = .dK vs ∧ ds = (kvs.map fun p => keyV p.1) ∧ vs.map (·.1) = kvs.map (·.1)) ∨
  ∃ (vs : List (List Key × V)) (kvs : List (List Key × D)), u = .dT vs ∧ ds = (kvs.map fun p => .tup (p.1.map keyV)) ∧ vs.map (·.1) = kvs.map (·.1)
theorem DKeys.dct {u : HO} {ds : List D} (h : DKeys u ds) : Dct u := by
  rcases h with ⟨vs, kvs, rfl, _⟩ | ⟨vs, kvs, rfl, _⟩ <;> trivial
theorem DKeys.mut {u : HO} {ds : List D} (h : DKeys u ds) : Mut (some u) := by
  rcases h with ⟨vs, kvs, rfl, _⟩ | ⟨vs, kvs, rfl, _⟩ <;> trivial
section
variable {L : Lents} {W : WX} {K : PySem.W.Frag} {σ : Sig} {H : Hp} {G : Hp} {η : Env} {Fs : Feet}
/-- the dict that name j holds, frozen; how it stands -/
theorem keys_use {P : List D → Env → Hp → Hp → Feet → Prop} (R : Rel L G η σ H Fs) {j : Nat} (q : Res K L W σ G H Fs P (S.keys j η)) :
    ∃ a u G1 η1 Fs1 ds, σ[j]? = some (some (.ref a)) ∧ Rel L G1 η1 σ H Fs1 ∧ Ext G H Fs G1 H Fs1 ∧ S.keys j η = .ok ds η1 ∧ DKeys u ds ∧ (∃ w, G1 a = some w) ∧ ((H a = some u ∧ G1 a = some u) ∨ ∃ o, H a = some (.frz o u)) := by
  have base : ∀ (v : V) (d : D) (G1 : Hp) (η1 : Env) (Fs1 : Feet), σ[j]? = some (some v) → Rel L G1 η1 σ H Fs1 → Ext G H Fs G1 H Fs1 → Rep G1 v d → S.var j η = .ok d η1 →
      ∃ a u G1 η1 Fs1 ds, σ[j]? = some (some (.ref a)) ∧ Rel L G1 η1 σ H Fs1 ∧ Ext G H Fs G1 H Fs1 ∧ S.keys j η = .ok ds η1 ∧ DKeys u ds ∧ (∃ w, G1 a = some w) ∧ ((H a = some u ∧ G1 a = some u) ∨ ∃ o, H a = some (.frz o u)) := fun v d G1 η1 Fs1 hv R1 E1 r hvar => by
    have hk : S.keys j η = lift (keysOf d) η1 := by unfold S.keys; rw [hvar]; rfl
    cases hd : keysOf d with
    | none => rw [hk, hd] at q; exact q.elim
    | some ds =>
      rw [hd] at hk
      cases d <;> first | (cases hd; done) | skip
      · rename_i kvs
        have hd : some (kvs.map fun p => keyV p.1) = some ds := hd
        have hd := Option.some.inj hd
        cases r with
        | @dK a vs _ h1 h2 h3 =>
          refine ⟨a, .dK vs, G1, η1, Fs1, ds, hv, R1, E1, hk, .inl ⟨vs, kvs, rfl, hd.symm, h2⟩, ?_, ?_⟩
          · rcases h1 with h1 | ⟨o, h1⟩
            · exact ⟨_, h1⟩
            · exact ⟨_, h1⟩
          · rcases h1 with h1 | ⟨o, h1⟩
            · rcases R1.sub.rd _ _ (.inl h1) with y | ⟨o, y⟩
              · exact .inl ⟨y, h1⟩
              · exact .inr ⟨o, y⟩
            · exact .inr ⟨o, R1.sub.fz _ _ _ h1⟩
      · rename_i kvs
        have hd : some (kvs.map fun p => D.tup (p.1.map keyV)) = some ds := hd
        have hd := Option.some.inj hd
        cases r with
        | @dT a vs _ h1 h2 h3 =>
          refine ⟨a, .dT vs, G1, η1, Fs1, ds, hv, R1, E1, hk, .inr ⟨vs, kvs, rfl, hd.symm, h2⟩, ?_, ?_⟩
          · rcases h1 with h1 | ⟨o, h1⟩
            · exact ⟨_, h1⟩
            · exact ⟨_, h1⟩
          · rcases h1 with h1 | ⟨o, h1⟩
            · rcases R1.sub.rd _ _ (.inl h1) with y | ⟨o, y⟩
              · exact .inl ⟨y, h1⟩
              · exact .inr ⟨o, y⟩
            · exact .inr ⟨o, R1.sub.fz _ _ _ h1⟩
  unfold S.keys at q
  cases z : η[j]? with
  | none => unfold S.var at q; simp only [z] at q; exact q.elim
  | some sl =>
    cases sl with
    | no => unfold S.var at q; simp only [z] at q; exact q.elim
    | val k l d =>
      cases k with
      | zero =>
        obtain ⟨v, h1, h2, _⟩ := R.slot j 0 l d z
        exact base v d G η Fs h1 R Ext.refl h2.1 (by unfold S.var; simp only [z])
      | succ k =>
        cases l with
        | true => unfold S.var at q; simp only [z] at q; exact q.elim
        | false =>
          obtain ⟨v, h1, h2, _⟩ := R.slot j (k + 1) false d z
          obtain ⟨R2, r, E⟩ := R.emptied z h1
          exact base v d _ _ _ h1 R2 E r (by unfold S.var; simp only [z])
/-- the turns over a locked dict -/
theorem keys_walk {a : Addr} {o : Obj} {u : HO} {ds : List D} {R : It → Hp → Prop} (h : H a = some (.frz o u)) (nf : ¬ foot Fs a) (dk : DKeys u ds) (q : ∀ J, Walks G H Fs ds J → R J H) :
    (∃ kvs, H a = some (.frz o (.dK kvs)) ∧ R (Itk a o kvs) H) ∨ ∃ kvs, H a = some (.frz o (.dT kvs)) ∧ R (Itkt a o kvs) H := by
  rcases dk with ⟨vs, kvs, rfl, rfl, e⟩ | ⟨vs, kvs, rfl, rfl, e⟩
  · exact .inl ⟨vs, h, q _ (walks_dK h nf e)⟩
  · exact .inr ⟨vs, h, q _ (walks_dT h nf e)⟩
end
section
variable {X : Cx} {L : Lents} {W : WX} {e a b c tg it : Expr} {es : List Expr} {pos : Pos} {ss : List Stmt} {vs : List Nat}
theorem js_forD {j : Nat} {g : SG} {body : SS} (hp : PassesOwn (model X.prog X.w) X.A X.env X.xe) (hc : X.calm = true) (ho : PE X e (tVar j)) (hg : PG X tg (tG L g)) (hb : PSs X ss (tS X.K L W body)) (hs : ∀ x, foldedSetIterable e X.env x = pure x) :
    PS X (.For tg e ss [] pos) (tS X.K L W (S.forsD j g body)) := by
  have P := ps_for (pos := pos) hp hc (pi_keys (tg := tg) ho) hg hb hs
  refine PS.imp (PS.or P (ps_lock P)) fun D σ H ⟨G, η, Fs, R, q⟩ => ?_
  unfold S.forsD at q
  have qk : Res X.K L W σ G H Fs (fun ds η1 G1 H1 Fs1 => S.forsD j g body η = S.forsD j g body η) (S.keys j η) := by
    cases z : S.keys j η with
    | bad => simp only [S.fors, z, bind_bad] at q; exact q
    | exc c η' => simp only [S.fors, z, bind_exc] at q; exact q.elim
    | ok ds η1 => exact fun _ _ _ _ _ => rfl
  obtain ⟨ad, u, G1, η1, Fs1, ds, hv, R1, E1, hk, dk, ⟨gw, hgw⟩, st⟩ := keys_use R qk
  have nf : ¬ foot Fs1 ad := fun ⟨i, h⟩ => by rw [R1.dis i ad h] at hgw; cases hgw
  simp only [S.fors, hk, bind_ok] at q
  cases hf : S.forL g body ds η1 with
  | bad => rw [hf] at q; exact q.elim
  | exc c η2 => rw [hf] at q; exact q.elim
  | ok fl η2 =>
    rw [hf] at q
    have q1 : ResS X.K L W D G1 H Fs1 (.ok fl η2) := ResS.later q E1
    rcases st with ⟨hH, hG⟩ | ⟨o, hH⟩
    · refine .inr ⟨ad, u, hH, dk.mut, fun od => ⟨.ref ad, hv, ad, od, rfl, ?_⟩⟩
      have R2 := R1.lock (od := od) hG dk.dct
      have q2 : ResS X.K L W ⟨fun σ' H' => H' ad = some (.frz od u) ∧ D.nx σ' (upd H' ad u), fun v H' => H' ad = some (.frz od u) ∧ D.rt v (upd H' ad u), fun σ' H' => H' ad = some (.frz od u) ∧ D.bk σ' (upd H' ad u), fun σ' H' => H' ad = some (.frz od u) ∧ D.ct σ' (upd H' ad u)⟩ G1 (upd H ad (.frz od u)) Fs1 (S.forL g body ds η1) := by
        rw [hf]
        cases fl with
        | nx =>
          intro σ' G' H' Fs' R' E'
          obtain ⟨z1, z2⟩ := E'.locked nf hH
          show H' ad = some (.frz od u) ∧ D.nx σ' (upd H' ad u)
          exact ⟨z1, q1 σ' G' _ Fs' (R'.unlock (E'.g _ _ hG) dk.dct) z2⟩
        | bk =>
          intro σ' G' H' Fs' R' E'
          obtain ⟨z1, z2⟩ := E'.locked nf hH
          show H' ad = some (.frz od u) ∧ D.bk σ' (upd H' ad u)
          exact ⟨z1, q1 σ' G' _ Fs' (R'.unlock (E'.g _ _ hG) dk.dct) z2⟩
        | ct =>
          intro σ' G' H' Fs' R' E'
          obtain ⟨z1, z2⟩ := E'.locked nf hH
          show H' ad = some (.frz od u) ∧ D.ct σ' (upd H' ad u)
          exact ⟨z1, q1 σ' G' _ Fs' (R'.unlock (E'.g _ _ hG) dk.dct) z2⟩
        | rt k d =>
            intro σ' G' H' Fs' v F R' E' x y
            obtain ⟨z1, z2⟩ := E'.locked nf hH
            have nF : ad ∉ F := fun z => by have := x.dis ad z; rw [E'.g _ _ hG] at this; cases this
            show H' ad = some (.frz od u) ∧ D.rt v (upd H' ad u)
            refine ⟨z1, q1 σ' G' _ Fs' v F (R'.unlock (E'.g _ _ hG) dk.dct) z2 ⟨x.own.mono (Sub.refl G') k fun b hb => upd_ne fun z => nF (by rw [← z]; exact hb), x.nod, x.dis, x.sep⟩ fun b hb => (y b hb).elim .inl fun z => .inr ?_⟩
            by_cases hba : b = ad
            · subst hba; rw [upd_same] at z; cases z
            · rw [upd_ne hba] at z; exact z
      rcases dk with ⟨vs, kvs, rfl, rfl, e⟩ | ⟨vs, kvs, rfl, rfl, e⟩
      · exact .inl ⟨vs, upd_same, for_core (walks_dK upd_same nf e) R2 q2⟩
      · exact .inr ⟨vs, upd_same, for_core (walks_dT upd_same nf e) R2 q2⟩
    · have q2 : ResS X.K L W D G1 H Fs1 (S.forL g body ds η1) := by rw [hf]; exact q1
      refine .inl ⟨.ref ad, hv, ad, o, rfl, ?_⟩
      rcases dk with ⟨vs, kvs, rfl, rfl, e⟩ | ⟨vs, kvs, rfl, rfl, e⟩
      · exact .inl ⟨vs, hH, for_core (walks_dK hH nf e) R1 q2⟩
      · exact .inr ⟨vs, hH, for_core (walks_dT hH nf e) R1 q2⟩
/-- a comprehension over a dict that a name holds -/
theorem lcD_use {σ : Sig} {H : Hp} {Q : VK} {j k : Nat} {g : SG} {tt : ST} {f : SF} (h : tF X.K L W (S.comp k vs (S.keys j) g tt f) σ H Q) :
    tLc (iKeys (tVar j)) (tGv L vs g) (tT X.K L WN tt) (tF X.K L WN f) vs σ H Q ∨ tLockE (tLc (iKeys (tVar j)) (tGv L vs g) (tT X.K L WN tt) (tF X.K L WN f) vs) σ H Q := by
  obtain ⟨G, η, Fs, R, q⟩ := h
  have qk : Res X.K L W σ G H Fs (fun ds η1 G1 H1 Fs1 => True) (S.keys j η) ∨ ∃ c η', S.keys j η = .exc c η' := by
    cases z : S.keys j η with
    | bad => unfold S.comp at q; rw [z] at q; exact q.elim
    | exc c η' => exact .inr ⟨c, η', rfl⟩
    | ok ds η1 => exact .inl fun _ _ _ _ _ => trivial
  rcases qk with qk | ⟨c, η', hx⟩
  · obtain ⟨ad, u, G1, η1, Fs1, ds, hv, R1, E1, hk, dk, ⟨gw, hgw⟩, st⟩ := keys_use R qk
    have nf : ¬ foot Fs1 ad := fun ⟨i, h⟩ => by rw [R1.dis i ad h] at hgw; cases hgw
    unfold S.comp at q
    rw [hk, bind_ok] at q
    split at q
    · rename_i hst
      cases z : S.compL g tt f k vs ds [] η1 with
      | bad => rw [z] at q; exact q.elim
      | exc c η2 => rw [z] at q; exact q.elim
      | ok es0 η0 =>
        rw [z] at q
        have q1 : ∀ G' H' Fs', Rel L G' (S.mix η1 η0 vs) σ H' Fs' → Ext G1 H Fs1 G' H' Fs' → ∀ v F, Apart G' H' Fs' (k + 1) v (.lst es0) F → (∀ a ∈ F, foot Fs1 a ∨ H a = none) → Q v H' :=
          fun G' H' Fs' R' E' v F x fr => q G' H' Fs' R' (E1.trans E') v F x fun a ha => (fr a ha).elim (E1.f a) .inr
        rcases st with ⟨hH, hG⟩ | ⟨o, hH⟩
        · refine .inr ⟨ad, u, hH, dk.mut, fun od => ⟨.ref ad, hv, ad, od, rfl, ?_⟩⟩
          have R2 := R1.lock (od := od) hG dk.dct
          have q2 : ∀ G' H' Fs', Rel L G' (S.mix η1 η0 vs) σ H' Fs' → Ext G1 (upd H ad (.frz od u)) Fs1 G' H' Fs' → ∀ v F, Apart G' H' Fs' (k + 1) v (.lst es0) F → (∀ a ∈ F, foot Fs1 a ∨ upd H ad (.frz od u) a = none) → H' ad = some (.frz od u) ∧ Q v (upd H' ad u) := by
            intro G' H' Fs' R' E' v F x fr
            obtain ⟨z1, z2⟩ := E'.locked nf hH
            have nF : ad ∉ F := fun z => by have := x.dis ad z; rw [E'.g _ _ hG] at this; cases this
            refine ⟨z1, q1 G' _ Fs' (R'.unlock (E'.g _ _ hG) dk.dct) z2 v F ⟨x.own.mono (Sub.refl G') (k + 1) fun b hb => upd_ne fun z => nF (by rw [← z]; exact hb), x.nod, x.dis, x.sep⟩ fun b hb => (fr b hb).elim .inl fun z => .inr ?_⟩
            by_cases hba : b = ad
            · subst hba; rw [upd_same] at z; cases z
            · rw [upd_ne hba] at z; exact z
          rcases dk with ⟨vs', kvs, rfl, rfl, e⟩ | ⟨vs', kvs, rfl, rfl, e⟩
          · exact .inl ⟨vs', upd_same, fun D hD => lc_turns (Q := fun v H' => H' ad = some (.frz od (.dK vs')) ∧ Q v (upd H' ad (.dK vs'))) (walks_dK upd_same nf e) R2 hst hD z q2⟩
          · exact .inr ⟨vs', upd_same, fun D hD => lc_turns (Q := fun v H' => H' ad = some (.frz od (.dT vs')) ∧ Q v (upd H' ad (.dT vs'))) (walks_dT upd_same nf e) R2 hst hD z q2⟩
        · refine .inl ⟨.ref ad, hv, ad, o, rfl, ?_⟩
          rcases dk with ⟨vs', kvs, rfl, rfl, e⟩ | ⟨vs', kvs, rfl, rfl, e⟩
          · exact .inl ⟨vs', hH, fun D hD => lc_turns (walks_dK hH nf e) R1 hst hD z q1⟩
          · exact .inr ⟨vs', hH, fun D hD => lc_turns (walks_dT hH nf e) R1 hst hD z q1⟩
    · exact q.elim
  · -- a name's reading raises nothing
    exfalso
    unfold S.keys S.var at hx
    split at hx
    · exact lift_exc hx
    · exact lift_exc hx
    · cases hx
theorem jf_lcD {elt : Expr} {ifs : List Expr} {scope : Scope} {own : List (Str × Nat)} {j k : Nat} {g : SG} {tt : ST} {f : SF} (hc : X.calm = true) (hN : X.N.Nodup) (hi : PE X it (tVar j)) (ok : BlkOk X.N X.env.scope scope own) (hv : own.map (·.2) = vs)
    (hg : ∀ (s : Shared) (H : Hp) (C : Addr) (cl : List (Str × Addr)) (fp : List Addr), PG (X.blk s H scope (compEnvC scope cl C X.env) fp) tg (tGv L vs g)) (ht : ∀ (s : Shared) (H : Hp) (C : Addr) (cl : List (Str × Addr)) (fp : List Addr), PTs (X.blk s H scope (compEnvC scope cl C X.env) fp) ifs (tT X.K L WN tt))
    (he : ∀ (s : Shared) (H : Hp) (C : Addr) (cl : List (Str × Addr)) (fp : List Addr), PE (X.blk s H scope (compEnvC scope cl C X.env) fp) elt (tF X.K L WN f)) (hs : ∀ x, foldedSetIterable it X.env x = pure x := by intro _; rfl) :
    PE X (.ListComp elt [⟨tg, it, ifs, 0⟩] scope pos) (tF X.K L W (S.comp k vs (S.keys j) g tt f)) := by
  subst hv
  have P := pe_lc (pos := pos) hc hN (pi_keys (tg := tg) hi) ok hg ht he hs
  exact PE.imp (PE.or P (pe_lock P)) fun σ H Q h => lcD_use h
end
end DV

/-! DV22: sorted(xs), xs a list of alike data. -/
namespace DV
open PySem PySem.Spec PyProof.Rows L2 RZ
open PySem.W (EachIs AllAlike Sortable alike alikeAll dataLe dataLt)
def leDat (a b : D) : Bool := dataLe false py a b
def tupish : D → Bool
  | .tup (_ :: _) => true
  | _ => false
def loose : D → Bool
  | .tup _ => false
  | .non => false
  | _ => true
/-- they may be sorted -/
def sortOk (ds : List D) : Bool := (ds.all fun a => ds.all fun b => alike (py a) (py b)) && (ds.all tupish || ds.all loose) && ds.all (okD 16)
def sortedD : List D → Option (Nat × D)
  | [.lst ds] => if sortOk ds = true then some (1, .lst (ds.mergeSort leDat)) else none
  | _ => none
def rSortedD (K : PySem.W.Frag) : List V → Hp → VK → Prop := fun vs H Q => ∃ (a : Addr) (bs : List (V × D)), vs = [V.ref a] ∧ SqL K H a (bs.map (·.1)) ∧ (∀ b ∈ bs, Dp K H b.1 (py b.2)) ∧ sortOk (bs.map (·.2)) = true ∧
  ∀ p, H p = none → Q (.ref p) (upd H p (.lst ((bs.mergeSort fun x y => leDat x.2 y.2).map (·.1))))
theorem each_of {X : Cx} {pins : List (Addr × Obj)} {σ : Sig} {H : Hp} {s : Shared} (I : Inv X pins σ H s) : ∀ {bs : List (V × D)} {us : List Value}, Vals (bs.map (·.1)) us → (∀ b ∈ bs, Dp X.K H b.1 (py b.2)) → EachIs (fun u (b : V × D) => RelV b.1 u) us bs ∧ EachIs (fun u (b : V × D) => ∃ as, Reads s.heap u (py b.2) as) us bs
  | [], _, r, _ => by cases r; exact ⟨.nil, .nil⟩
  | b :: bs, _, r, h => by
    cases r with
    | cons r1 r2 =>
      obtain ⟨i1, i2⟩ := each_of I r2 fun x hx => h x (List.mem_cons_of_mem _ hx)
      exact ⟨.cons r1 i1, .cons (Dp.reads I _ _ _ (h b List.mem_cons_self) r1) i2⟩
theorem vals_each : ∀ {bs : List (V × D)} {us : List Value}, EachIs (fun u (b : V × D) => RelV b.1 u) us bs → Vals (bs.map (·.1)) us
  | _, _, .nil => .nil
  | _, _, .cons r t => .cons r (vals_each t)
section
variable {X : Cx}
theorem cr_sortedD (hu : X.A.units + 65 < cLine) : CallR X (.builtin "sorted") (rSortedD X.K) := by
  intro pins s σ H vs us Q I r h
  obtain ⟨a, bs, rfl, hs, hd, ho, q⟩ := h
  obtain ⟨its, rv, hl, hz⟩ := I.list hs
  rw [Vals.ref1 r]
  obtain ⟨e1, e2⟩ := each_of I rv hd
  unfold sortOk at ho
  rw [Bool.and_eq_true, Bool.and_eq_true] at ho
  obtain ⟨⟨o1, o2⟩, o3⟩ := ho
  have hal : AllAlike (bs.map fun b => py b.2) := by
    intro d hd d' hd'
    obtain ⟨b, hb, rfl⟩ := List.mem_map.mp hd
    obtain ⟨b', hb', rfl⟩ := List.mem_map.mp hd'
    have := List.all_eq_true.mp o1 b.2 (List.mem_map_of_mem hb)
    exact List.all_eq_true.mp this b'.2 (List.mem_map_of_mem hb')
  have hk : Sortable (bs.map fun b => py b.2) := by
    rcases Bool.or_eq_true_iff.mp o2 with o2 | o2
    · refine .inl fun d hd => ?_
      obtain ⟨b, hb, rfl⟩ := List.mem_map.mp hd
      have := List.all_eq_true.mp o2 b.2 (List.mem_map_of_mem hb)
      match h : b.2, this with
      | .tup (x :: r), _ => exact ⟨_, _, rfl⟩
      | .tup [], z => cases z
      | .non, z => cases z
      | .bl _, z => cases z
      | .int _, z => cases z
      | .str _, z => cases z
      | .lst _, z => cases z
      | .dK _, z => cases z
      | .dT _, z => cases z
    · refine .inr fun d hd => ?_
      obtain ⟨b, hb, rfl⟩ := List.mem_map.mp hd
      have := List.all_eq_true.mp o2 b.2 (List.mem_map_of_mem hb)
      match h : b.2, this with
      | .tup _, z => cases z
      | .non, z => cases z
      | .bl _, _ => exact ⟨fun z => (by cases z), fun _ z => by cases z⟩
      | .int _, _ => exact ⟨fun z => (by cases z), fun _ z => by cases z⟩
      | .str _, _ => exact ⟨fun z => (by cases z), fun _ z => by cases z⟩
      | .lst _, _ => exact ⟨fun z => (by simp [py] at z), fun _ z => by simp [py] at z⟩
      | .dK _, _ => exact ⟨fun z => (by simp [py] at z), fun _ z => by simp [py] at z⟩
      | .dT _, _ => exact ⟨fun z => (by simp [py] at z), fun _ z => by simp [py] at z⟩
  have hlen : bs.length = its.length := by rw [← rv.length, List.length_map]
  refine PySem.W.sorted_data (enc := fun b : V × D => py b.2) (R := fun u b => RelV b.1 u) (vs := its) (bs := bs) hl.isList e1 e2 hal hk (by rw [List.length_map] at hz; exact hz) (fun b hb => ?_) fun out hout ho => ?_
  · have := List.all_eq_true.mp o3 b.2 (List.mem_map_of_mem hb)
    have := (okD_lay 16 b.2 this).2
    omega
  · obtain ⟨ep, he'⟩ := PyProof.Rows.sortedAll_at s.heap its (List.toArray out)
    have hle : (fun x y : V × D => leDat x.2 y.2) = dataLe false fun b : V × D => py b.2 := by
      funext x y; rfl
    refine ⟨.ref _, upd H (s.heap.objs.size + 1) (.lst ((bs.mergeSort fun x y => leDat x.2 y.2).map (·.1))), I.laid (t' := s.toks) (fun _ _ => PyProof.Rows.sortedAll_old) (Nat.le_succ _) ⟨?_, out, ep, ?_, he'⟩, rfl, q _ (I.hok.fresh (Nat.le_succ _))⟩
    · rw [List.length_map, (List.mergeSort_perm bs _).length_eq]; rw [List.length_map] at hz; exact hz
    · rw [hle]; exact vals_each ho
end
theorem zip_fst {G : Hp} : ∀ {vs : List V} {ds : List D}, RepL G vs ds → (vs.zip ds).map (·.1) = vs ∧ (vs.zip ds).map (·.2) = ds ∧ ∀ b ∈ vs.zip ds, Rep G b.1 b.2
  | _, _, .nil => ⟨rfl, rfl, fun _ h => by simp at h⟩
  | _, _, .cons r t => by
    obtain ⟨h1, h2, h3⟩ := zip_fst t
    refine ⟨by simp [h1], by simp [h2], fun b hb => ?_⟩
    rw [List.zip_cons_cons, List.mem_cons] at hb
    rcases hb with e | hb
    · subst e; exact r
    · exact h3 b hb
theorem repL_map {G : Hp} : ∀ {bs : List (V × D)}, (∀ b ∈ bs, Rep G b.1 b.2) → RepL G (bs.map (·.1)) (bs.map (·.2))
  | [], _ => .nil
  | b :: bs, h => .cons (h b List.mem_cons_self) (repL_map fun x hx => h x (List.mem_cons_of_mem _ hx))
theorem cf_sortedD {K : PySem.W.Frag} : CallF (rSortedD K) sortedD := by
  intro G H vs ds k d Q s r h fin
  unfold sortedD at h
  split at h <;> try cases h
  split at h <;> cases h
  rename_i ds0 ho
  obtain ⟨v, rfl, b⟩ := r.one
  obtain ⟨a, ys, rfl, h1, r1⟩ := b.lst s
  obtain ⟨z1, z2, z3⟩ := zip_fst r1
  have ho' := ho
  unfold sortOk at ho'
  rw [Bool.and_eq_true, Bool.and_eq_true] at ho'
  refine ⟨a, ys.zip ds0, rfl, .inl (by rw [z1]; exact h1), fun b hb => ?_, by rw [z2]; exact ho, fun p hp => ?_⟩
  · have hb2 : b.2 ∈ ds0 := by rw [← z2]; exact List.mem_map_of_mem hb
    exact ((z3 b hb).mono s).dp 16 _ _ (List.all_eq_true.mp ho'.2 b.2 hb2)
  · have e : ds0.mergeSort leDat = ((ys.zip ds0).mergeSort fun x y => leDat x.2 y.2).map (·.2) := by
      rw [List.map_mergeSort (s := leDat) (fun _ _ _ _ => rfl), z2]
    rw [e] at fin
    exact fin.lstN s hp (repL_map fun b hb => z3 b ((List.mergeSort_perm _ _).mem_iff.mp hb))
end DV
namespace DV
open PySem PySem.Spec PyProof.Rows L2 RZ
/-! ### over what a name holds, be it a list, a tuple or a dict -/
def isDct : Option D → Bool
  | some (.dK _) => true
  | some (.dT _) => true
  | _ => false
namespace S
def forsX (j : Nat) (g : SG) (body : SS) : SS := fun η => if isDct (slotA η[j]?) = true then forsD j g body η else fors (items (var j)) g body η
def compX (k : Nat) (vs : List Nat) (j : Nat) (g : SG) (tt : ST) (f : SF) : SF := fun η => if isDct (slotA η[j]?) = true then comp k vs (keys j) g tt f η else comp k vs (items (var j)) g tt f η
end S
section
variable {X : Cx} {L : Lents} {W : WX} {e a b c tg it : Expr} {es : List Expr} {pos : Pos} {ss : List Stmt} {vs : List Nat}
theorem js_forX {j : Nat} {g : SG} {body : SS} (hp : PassesOwn (model X.prog X.w) X.A X.env X.xe) (hc : X.calm = true) (ho : PE X e (tVar j)) (hg : PG X tg (tG L g)) (hb : PSs X ss (tS X.K L W body)) (hs : ∀ x, foldedSetIterable e X.env x = pure x) :
    PS X (.For tg e ss [] pos) (tS X.K L W (S.forsX j g body)) :=
  PS.imp (PS.or (js_forD hp hc ho hg hb hs) (js_for hp hc (ji_items (je_var ho)) hg hb hs)) fun D σ H ⟨G, η, Fs, R, q⟩ => by
    unfold S.forsX at q
    split at q
    · exact .inl ⟨G, η, Fs, R, q⟩
    · exact .inr ⟨G, η, Fs, R, q⟩
theorem jf_lcX {elt : Expr} {ifs : List Expr} {scope : Scope} {own : List (Str × Nat)} {j k : Nat} {g : SG} {tt : ST} {f : SF} (hc : X.calm = true) (hN : X.N.Nodup) (hi : PE X it (tVar j)) (ok : BlkOk X.N X.env.scope scope own) (hv : own.map (·.2) = vs)
    (hg : ∀ (s : Shared) (H : Hp) (C : Addr) (cl : List (Str × Addr)) (fp : List Addr), PG (X.blk s H scope (compEnvC scope cl C X.env) fp) tg (tGv L vs g)) (ht : ∀ (s : Shared) (H : Hp) (C : Addr) (cl : List (Str × Addr)) (fp : List Addr), PTs (X.blk s H scope (compEnvC scope cl C X.env) fp) ifs (tT X.K L WN tt))
    (he : ∀ (s : Shared) (H : Hp) (C : Addr) (cl : List (Str × Addr)) (fp : List Addr), PE (X.blk s H scope (compEnvC scope cl C X.env) fp) elt (tF X.K L WN f)) (hs : ∀ x, foldedSetIterable it X.env x = pure x := by intro _; rfl) :
    PE X (.ListComp elt [⟨tg, it, ifs, 0⟩] scope pos) (tF X.K L W (S.compX k vs j g tt f)) :=
  PE.imp (PE.or (jf_lcD hc hN hi ok hv hg ht he hs) (jf_lc hc hN (ji_items (je_var hi)) ok hv hg ht he hs)) fun σ H Q ⟨G, η, Fs, R, q⟩ => by
    unfold S.compX at q
    split at q
    · exact .inl ⟨G, η, Fs, R, q⟩
    · exact .inr ⟨G, η, Fs, R, q⟩
theorem js_setLcX {i : Nat} {y : Str} {py spos : Pos} {elt : Expr} {ifs : List Expr} {scope : Scope} {own : List (Str × Nat)} {j k : Nat} {g : SG} {tt : ST} {f : SF} (hc : X.calm = true) (hN : X.N.Nodup) (hy : X.N[i]? = some y) (hyl : X.env.scope.names.lookup y = some .local)
    (hsw : swapsWith (.ListComp elt [⟨tg, it, ifs, 0⟩] scope pos) (some (.Name y py)) spos.line X.env = pure true) (hi : PE X it (tVar j)) (ok : BlkOk X.N X.env.scope scope own) (hv : own.map (·.2) = vs)
    (hg : ∀ (s : Shared) (H : Hp) (C : Addr) (cl : List (Str × Addr)) (fp : List Addr), PG (X.blk s H scope (compEnvC scope cl C X.env) fp) tg (tGv L vs g)) (ht : ∀ (s : Shared) (H : Hp) (C : Addr) (cl : List (Str × Addr)) (fp : List Addr), PTs (X.blk s H scope (compEnvC scope cl C X.env) fp) ifs (tT X.K L WN tt))
    (he : ∀ (s : Shared) (H : Hp) (C : Addr) (cl : List (Str × Addr)) (fp : List Addr), PE (X.blk s H scope (compEnvC scope cl C X.env) fp) elt (tF X.K L WN f)) (hs : ∀ x, foldedSetIterable it X.env x = pure x := by intro _; rfl) :
    PS X (.Assign [.Name y py] (.ListComp elt [⟨tg, it, ifs, 0⟩] scope pos) spos) (tS X.K L W (S.asg i (S.compX k vs j g tt f))) := by
  subst hv
  have P := ps_setLc (py := py) (pos := pos) (spos := spos) hc hN hy hyl hsw (pi_keys (tg := tg) hi) ok hg ht he hs
  refine PS.imp (PS.or (PS.or P (ps_lock P)) (js_setLc (W := W) (k := k) hc hN hy hyl hsw (ji_items (je_var hi)) ok rfl hg ht he hs)) fun D σ H q => ?_
  obtain ⟨G, η, Fs, R, q⟩ := q
  by_cases hd : isDct (slotA η[j]?) = true
  · have e : S.asg i (S.compX k (own.map (·.2)) j g tt f) η = S.asg i (S.comp k (own.map (·.2)) (S.keys j) g tt f) η := by unfold S.asg S.compX; rw [if_pos hd]
    rw [e] at q
    rcases lcD_use (asg_use ⟨G, η, Fs, R, q⟩) with z | z
    · exact .inl (.inl z)
    · obtain ⟨d, u, h1, h2, h3⟩ := z
      exact .inl (.inr ⟨d, u, h1, h2, h3⟩)
  · have e : S.asg i (S.compX k (own.map (·.2)) j g tt f) η = S.asg i (S.comp k (own.map (·.2)) (S.items (S.var j)) g tt f) η := by unfold S.asg S.compX; rw [if_neg hd]
    rw [e] at q
    exact .inr ⟨G, η, Fs, R, q⟩
end
end DV

/-! DV23: sorted(d), d a dict. -/
namespace DV
open PySem PySem.Spec PyProof.Rows L2 RZ
open PySem.W (EachIs AllAlike Sortable alike alikeAll dataLe dataLt)
/-- the premises of sorting, from sortOk -/
theorem sort_premises {β : Type} {f : β → D} {bs : List β} (ho : sortOk (bs.map f) = true) : AllAlike (bs.map fun b => py (f b)) ∧ Sortable (bs.map fun b => py (f b)) ∧ ∀ b ∈ bs, (py (f b)).depth ≤ 16 := by
  unfold sortOk at ho
  rw [Bool.and_eq_true, Bool.and_eq_true] at ho
  obtain ⟨⟨o1, o2⟩, o3⟩ := ho
  refine ⟨?_, ?_, fun b hb => (okD_lay 16 _ (List.all_eq_true.mp o3 (f b) (List.mem_map_of_mem hb))).2⟩
  · intro d hd d' hd'
    obtain ⟨b, hb, rfl⟩ := List.mem_map.mp hd
    obtain ⟨b', hb', rfl⟩ := List.mem_map.mp hd'
    have := List.all_eq_true.mp o1 (f b) (List.mem_map_of_mem hb)
    exact List.all_eq_true.mp this (f b') (List.mem_map_of_mem hb')
  · rcases Bool.or_eq_true_iff.mp o2 with o2 | o2
    · refine .inl fun d hd => ?_
      obtain ⟨b, hb, rfl⟩ := List.mem_map.mp hd
      have := List.all_eq_true.mp o2 (f b) (List.mem_map_of_mem hb)
      match h : f b, this with
      | .tup (x :: r), _ => exact ⟨_, _, rfl⟩
      | .tup [], z => cases z
      | .non, z => cases z
      | .bl _, z => cases z
      | .int _, z => cases z
      | .str _, z => cases z
      | .lst _, z => cases z
      | .dK _, z => cases z
      | .dT _, z => cases z
    · refine .inr fun d hd => ?_
      obtain ⟨b, hb, rfl⟩ := List.mem_map.mp hd
      have := List.all_eq_true.mp o2 (f b) (List.mem_map_of_mem hb)
      match h : f b, this with
      | .tup _, z => cases z
      | .non, z => cases z
      | .bl _, _ => exact ⟨fun z => (by cases z), fun _ z => by cases z⟩
      | .int _, _ => exact ⟨fun z => (by cases z), fun _ z => by cases z⟩
      | .str _, _ => exact ⟨fun z => (by cases z), fun _ z => by cases z⟩
      | .lst _, _ => exact ⟨fun z => (by simp [py] at z), fun _ z => by simp [py] at z⟩
      | .dK _, _ => exact ⟨fun z => (by simp [py] at z), fun _ z => by simp [py] at z⟩
      | .dT _, _ => exact ⟨fun z => (by simp [py] at z), fun _ z => by simp [py] at z⟩
/-- a tuple key as data -/
def keyT (k : List Key) : D := .tup (k.map keyV)
def rSortDT : List V → Hp → VK → Prop := fun vs H Q => ∃ (d : Addr) (kvs : List (List Key × V)), vs = [V.ref d] ∧ Rd H d (.dT kvs) ∧ sortOk ((kvs.map (·.1)).map keyT) = true ∧
  ∀ (bs : List (List Key × Addr)) (p : Addr), H p = none → bs.map (·.1) = kvs.map (·.1) → (∀ b ∈ bs, H b.2 = some (.tup (b.1.map kV))) → Q (.ref p) (upd H p (.lst ((bs.mergeSort fun x y => leDat (keyT x.1) (keyT y.1)).map fun b => V.ref b.2)))
section
variable {X : Cx}
theorem cr_sortDT (hc : X.calm = true) (hu : X.A.units + 65 < cLine) : CallR X (.builtin "sorted") rSortDT := by
  intro pins s σ H xs us Q I r h
  obtain ⟨d, kvs, rfl, hd, hso, q⟩ := h
  obtain ⟨u, rfl, rx⟩ := r.one
  cases rx
  obtain ⟨z, hs, ks, pr, o, es, ep, ho, hx, hdt, he, hn⟩ := (show ObjOk X.prog X.w H s.heap d (.dT kvs) from hd.ok I.hok)
  have l1 : es.size = ks.length := size_of_entries he
  have l2 : kvs.length = ks.length := Paired.length pr
  refine Calls.call_function_entry PyProof.Rows.kind_sorted PyProof.Rows.plain_sorted PyProof.Rows.entry_sorted (PyProof.Rows.args_sorted1 _) ?_
  unfold Builtin.«sorted»
  refine wpAny_bind (m := checkCount "sorted" 1 1 _) (wpAny_pure ?_)
  refine wpAny_bind (PySem.W.kdu_collect (A := X.A.in1) (kdl_raw hs hx hdt) (I.ok.hd hc) ho (by omega) fun h' tk acc' kp it => ?_)
  have ea : acc'.toList = ks.map fun x => Value.ref x.2.1 := by
    have hl : acc'.toList.length = ks.length := by rw [Array.length_toList, it.1]; exact l1
    apply List.ext_getElem?
    intro j
    rw [List.getElem?_map]
    cases hj : acc'.toList[j]? with
    | none =>
      have h1 := List.getElem?_eq_none_iff.mp hj
      rw [List.getElem?_eq_none (by omega)]
      all_goals rfl
    | some v =>
      obtain ⟨en, hen, hv⟩ := it.2 j v (by rw [← Array.getElem?_toList]; exact hj)
      have qe := entry_at he j
      rw [hen] at qe
      cases hb : ks[j]? with
      | none =>
        rw [hb] at qe
        exact nomatch (show some en = none from qe)
      | some b =>
        rw [hb] at qe
        have e2 : en = entryOfKey (tupleKind (mixKind X.prog X.w)) b := Option.some.inj qe
        rw [hv, e2]
        all_goals rfl
  -- the keys with their tuples
  have kb : (ks.map fun x => (x.1, x.2.1)).map (·.1) = kvs.map (·.1) ∧ ∀ b ∈ ks.map fun x => (x.1, x.2.1), H b.2 = some (.tup (b.1.map kV)) := by
    clear ea he hn l1 l2 it hso q hd
    induction pr with
    | nil => exact ⟨rfl, fun _ h => by simp at h⟩
    | cons h t ih =>
      obtain ⟨i1, i2⟩ := ih (by simp only [List.length_cons] at z; omega)
      refine ⟨?_, ?_⟩
      · simp only [List.map_cons, List.cons.injEq]
        exact ⟨h.1.symm, i1⟩
      · intro b hb
        rw [List.map_cons, List.mem_cons] at hb
        rcases hb with e | hb
        · subst e; rw [← h.1]; exact h.2.1
        · exact i2 b hb
  generalize hbs : (ks.map fun x => (x.1, x.2.1)) = bs at kb
  have ea2 : acc'.toList = bs.map fun b => Value.ref b.2 := by rw [ea, ← hbs, List.map_map]; rfl
  have lb : bs.length = ks.length := by rw [← hbs, List.length_map]
  have I1 : Inv X pins σ H { s with heap := h', toks := tk } := I.kept kp
  have hlen : acc'.toList.length ≤ sizeLine := by rw [ea2, List.length_map, lb]; omega
  refine wpAny_bind (wpAny_newList ?_ hlen)
  have hoL : (h'.push (seqObj "list" acc'.toList.toArray 0)).get? h'.objs.size = some (seqObj "list" acc'.toList.toArray 0) := Heap.get?_push_size _ rfl
  show wpAny _ _ _ _ _ { s with heap := h'.push (seqObj "list" acc'.toList.toArray 0), toks := tk }
  have ho2 : sortOk (bs.map fun b => keyT b.1) = true := by
    have : (bs.map fun b => keyT b.1) = (kvs.map (·.1)).map keyT := by rw [← kb.1, List.map_map]; rfl
    rw [this]; exact hso
  obtain ⟨p1, p2, p3⟩ := sort_premises ho2
  have rd : ∀ b ∈ bs, ∃ as, Reads h' (.ref b.2) (py (keyT b.1)) as := fun b hb => by
    have r : Rep H (.ref b.2) (keyT b.1) := .tup (kb.2 b hb) (keyVs_rep b.1)
    have ok : okD 16 (keyT b.1) = true := by
      unfold sortOk at ho2
      rw [Bool.and_eq_true] at ho2
      exact List.all_eq_true.mp ho2.2 _ (List.mem_map_of_mem hb)
    exact Dp.reads I1 _ _ _ (r.dp 16 _ _ ok) rfl
  have e1 : EachIs (fun u (b : List Key × Addr) => u = Value.ref b.2) acc'.toList bs := by
    rw [ea2]
    clear ea2 rd p1 p2 p3 ho2 lb kb hbs ea hoL hlen
    induction bs with
    | nil => exact .nil
    | cons b bs ih => exact .cons rfl ih
  have e2 : EachIs (fun u (b : List Key × Addr) => ∃ as, Reads (h'.push (seqObj "list" acc'.toList.toArray 0)) u (py (keyT b.1)) as ∧ h'.objs.size ∉ as) acc'.toList bs := by
    have : ∀ (l : List (List Key × Addr)) (us : List Value), (∀ b ∈ l, b ∈ bs) → EachIs (fun u (b : List Key × Addr) => u = Value.ref b.2) us l → EachIs (fun u (b : List Key × Addr) => ∃ as, Reads (h'.push (seqObj "list" acc'.toList.toArray 0)) u (py (keyT b.1)) as ∧ h'.objs.size ∉ as) us l := by
      intro l us hl e
      induction e with
      | nil => exact .nil
      | @cons u b us l hu t ih =>
        refine .cons ?_ (ih fun x hx => hl x (List.mem_cons_of_mem _ hx))
        obtain ⟨as, ra⟩ := rd b (hl b List.mem_cons_self)
        subst hu
        refine ⟨as, PyProof.Rows.Reads.keeps (fun _ _ q => Heap.get?_push_of_some _ q) ra, fun hm => ?_⟩
        obtain ⟨ob, hob⟩ := PyProof.On.reads_mem_get ra _ hm
        exact absurd (Heap.lt_size hob) (Nat.lt_irrefl _)
    exact this bs _ (fun _ h => h) e1
  refine wpAny_bind (wpAny_holding (PySem.W.list_sort_data (A := X.A.in1) (s := { s with heap := h'.push (seqObj "list" acc'.toList.toArray 0), toks := tk }) hoL e1 e2 p1 p2 (by rw [lb]; omega) (fun b hb => ?_) fun out hout ho => ?_))
  · have := p3 b hb
    show X.A.units + 1 + 1 + _ < _
    omega
  · obtain ⟨e', he'⟩ := PyProof.Rows.sortedHeap_at (vs := acc'.toList) (out := List.toArray out) hoL
    have hle : (fun x y : List Key × Addr => leDat (keyT x.1) (keyT y.1)) = dataLe false fun b : List Key × Addr => py (keyT b.1) := by
      funext x y; rfl
    have rv : Vals ((bs.mergeSort fun x y => leDat (keyT x.1) (keyT y.1)).map fun b => V.ref b.2) out := by
      rw [hle]
      clear hout he'
      generalize (bs.mergeSort (dataLe false fun b : List Key × Addr => py (keyT b.1))) = l at ho
      induction ho with
      | nil => exact .nil
      | cons h t ih => exact .cons h ih
    refine wpAny_pure ⟨_, rfl, .ref h'.objs.size, upd H h'.objs.size (.lst ((bs.mergeSort fun x y => leDat (keyT x.1) (keyT y.1)).map fun b => V.ref b.2)), I1.laid (t' := tk) (fun b u e => ?_) (Nat.le_refl _) ⟨?_, out, e', rv, he'⟩, rfl, q bs _ (I1.hok.fresh (Nat.le_refl _)) kb.1 kb.2⟩
    · have hb : b < h'.objs.size := Heap.lt_size e
      rw [PyProof.Rows.sortedHeap_old (Nat.ne_of_lt hb) (by rw [size_push']; exact Nat.lt_succ_of_lt hb)]
      exact Heap.get?_push_of_some _ e
    · rw [List.length_map, (List.mergeSort_perm bs _).length_eq, lb]; omega
end
end DV
namespace DV
open PySem PySem.Spec PyProof.Rows L2 RZ
/-- sorted of a list, or of a dict -/
def sortedA : List D → Option (Nat × D)
  | [.dT kvs] => if sortOk (kvs.map fun p => keyT p.1) = true then some (1, .lst ((kvs.map fun p => keyT p.1).mergeSort leDat)) else none
  | ds => sortedD ds
def rSortedA (K : PySem.W.Frag) : List V → Hp → VK → Prop := fun vs H Q => rSortedD K vs H Q ∨ rSortDT vs H Q
/-- tuples come to be known -/
theorem learn {G H : Hp} {as : List Addr} (s : Sub G H) (h : ∀ a ∈ as, ∃ xs, H a = some (.tup xs)) : Le G (frz G H as) := fun c o z => by
  by_cases hc : c ∈ as
  · rw [frz_in hc]
    obtain ⟨xs, hx⟩ := h c hc
    cases o with
    | tup ys => exact s.tp c ys z
    | frz o' u => exact s.fz c o' u z
    | _ =>
      rcases s.rd c _ (.inl z) with y | ⟨o', y⟩
      · exact y
      · rw [hx] at y; cases y
  · rw [frz_out hc]; exact z
theorem CallR.or' {X : Cx} {f : Value} {r r' : List V → Hp → VK → Prop} (h : CallR X f r) (h' : CallR X f r') : CallR X f (fun xs H Q => r xs H Q ∨ r' xs H Q) := fun pins s σ H xs us Q I rx q => q.elim (h pins s σ H xs us Q I rx) (h' pins s σ H xs us Q I rx)
theorem cr_sortedA {X : Cx} (hc : X.calm = true) (hu : X.A.units + 65 < cLine) : CallR X (.builtin "sorted") (rSortedA X.K) := CallR.or' (cr_sortedD hu) (cr_sortDT hc hu)
theorem cf_sortedA {K : PySem.W.Frag} : CallF (rSortedA K) sortedA := by
  intro G H vs ds k d Q s r h fin
  unfold sortedA at h
  split at h
  · rename_i kvs
    split at h <;> cases h
    rename_i ho
    obtain ⟨v, rfl, b⟩ := r.one
    obtain ⟨a, ws, rfl, h1, h2, h3⟩ := b.dT s
    have hk : (ws.map (·.1)).map keyT = kvs.map fun p => keyT p.1 := by rw [h2, List.map_map]; rfl
    refine .inr ⟨a, ws, rfl, h1, by rw [hk]; exact ho, fun bs p hp e1 e2 => ?_⟩
    have tp : ∀ c ∈ bs.map (·.2), ∃ xs, H c = some (.tup xs) := fun c hc => by
      obtain ⟨b, hb, rfl⟩ := List.mem_map.mp hc
      exact ⟨_, e2 b hb⟩
    have np : G p = none := s.free hp
    have nb' : p ∉ bs.map (·.2) := fun hc => by
      obtain ⟨xs, hx⟩ := tp p hc
      rw [hp] at hx; cases hx
    have N : New G H (frz G H (bs.map (·.2))) (upd H p (.lst ((bs.mergeSort fun x y => leDat (keyT x.1) (keyT y.1)).map fun b => V.ref b.2))) := by
      refine ⟨learn s tp, upd_le hp, (frz_sub s).trans (upd_le hp).sub, fun c z => ?_⟩
      by_cases hc : c ∈ bs.map (·.2)
      · obtain ⟨xs, hx⟩ := tp c hc
        exact .inr (by rw [hx]; trivial)
      · rw [frz_out hc] at z; exact .inl z
    have e : (kvs.map fun p => keyT p.1).mergeSort leDat = (bs.mergeSort fun x y => leDat (keyT x.1) (keyT y.1)).map fun b => keyT b.1 := by
      rw [List.map_mergeSort (s := leDat) (fun _ _ _ _ => rfl), ← hk, ← e1, List.map_map]; rfl
    rw [e] at fin
    have rl : ∀ l : List (List Key × Addr), (∀ b ∈ l, b ∈ bs) → RepL (frz G H (bs.map (·.2))) (l.map fun b => V.ref b.2) (l.map fun b => keyT b.1) := by
      intro l
      induction l with
      | nil => exact fun _ => .nil
      | cons b l ih =>
        intro hl
        have hb := hl b List.mem_cons_self
        refine .cons (.tup ?_ (keyVs_rep b.1)) (ih fun x hx => hl x (List.mem_cons_of_mem _ hx))
        rw [frz_in (List.mem_map_of_mem hb)]; exact e2 b hb
    refine fin _ _ _ [p] N ⟨p, _, [], rfl, upd_same, rfl, OwnL.of0 (rl _ fun b hb => (List.mergeSort_perm _ _).mem_iff.mp hb)⟩ (by simp) fun c hc => ?_
    have ec : c = p := by simpa using hc
    subst ec
    exact ⟨by rw [frz_out nb']; exact np, hp⟩
  · exact .inl (cf_sortedD G H vs ds k d Q s r h fin)
end DV

/-! DV24: dicts and rows of whole numbers, worked out. -/
namespace DV
open PySem PySem.Spec PyProof.Rows L2 RZ
open PySem.W (alike alikeAll dataLe dataLt)
/-- a tuple of whole numbers -/
def tupI (t : List Int) : D := .tup (t.map .int)
def keyI (t : List Int) : List Key := t.map .inl
theorem pyL_ints : ∀ t : List Int, pyL (t.map .int) = t.map PyData.int
  | [] => rfl
  | i :: t => by simp only [List.map_cons, pyL, py, pyL_ints t]
theorem py_tupI (t : List Int) : py (tupI t) = .tuple (t.map PyData.int) := by unfold tupI; rw [py, pyL_ints]
theorem keyT_I (t : List Int) : keyT (keyI t) = tupI t := by
  unfold keyT keyI tupI
  rw [List.map_map]; rfl
theorem tupI_inj {a b : List Int} (h : tupI a = tupI b) : a = b := by
  unfold tupI at h
  injection h with h
  exact List.map_inj_right (fun x y h => by injection h) |>.mp h
theorem keyI_inj {a b : List Int} (h : keyI a = keyI b) : a = b := List.map_inj_right (fun x y h => by injection h) |>.mp h
@[simp] theorem nb_tupI {t : List Int} : nb (tupI t) = true := by unfold tupI; simp
@[simp] theorem ok_tupI {n : Nat} {t : List Int} (h : n ≠ 0) : okD n (tupI t) = true := by unfold tupI; rw [ok_tup h]; simp
theorem sortOk_ints {n : Nat} (hn : 1 ≤ n) {ts : List (List Int)} (h : ∀ t ∈ ts, t.length = n) : sortOk (ts.map tupI) = true := by
  unfold sortOk
  rw [Bool.and_eq_true, Bool.and_eq_true, Bool.or_eq_true]
  refine ⟨⟨List.all_eq_true.mpr fun a ha => List.all_eq_true.mpr fun b hb => ?_, .inl (List.all_eq_true.mpr fun a ha => ?_)⟩, List.all_eq_true.mpr fun a ha => ?_⟩
  · obtain ⟨x, _, rfl⟩ := List.mem_map.mp ha
    obtain ⟨y, _, rfl⟩ := List.mem_map.mp hb
    rw [py_tupI, py_tupI]
    show alikeAll _ _ = true
    exact PySem.W.alike_ints x y
  · obtain ⟨x, hx, rfl⟩ := List.mem_map.mp ha
    have := h x hx
    cases x with
    | nil => simp at this; omega
    | cons i r => rfl
  · obtain ⟨x, _, rfl⟩ := List.mem_map.mp ha
    simp
def leI (a b : List Int) : Bool := leDat (tupI a) (tupI b)
theorem sort_tupI (ts : List (List Int)) : (ts.map tupI).mergeSort leDat = (ts.mergeSort leI).map tupI := (List.map_mergeSort (r := leI) (s := leDat) (f := tupI) (l := ts) (fun _ _ _ _ => rfl)).symm
/-- a dict whose keys are tuples of whole numbers -/
def dI (kvs : List (List Int × D)) : D := .dT (kvs.map fun p => (keyI p.1, p.2))
theorem sorted_dI {n : Nat} (hn : 1 ≤ n) {kvs : List (List Int × D)} (h : ∀ p ∈ kvs, p.1.length = n) : sortedA [dI kvs] = some (1, .lst (((kvs.map (·.1)).mergeSort leI).map tupI)) := by
  have e : ((kvs.map fun p => (keyI p.1, p.2)).map fun p : List Key × D => keyT p.1) = (kvs.map (·.1)).map tupI := by
    rw [List.map_map, List.map_map]
    exact List.map_congr_left fun p _ => keyT_I p.1
  show (if sortOk ((kvs.map fun p => (keyI p.1, p.2)).map fun p => keyT p.1) = true then some (1, D.lst (((kvs.map fun p => (keyI p.1, p.2)).map fun p => keyT p.1).mergeSort leDat)) else none) = _
  rw [e, if_pos (sortOk_ints hn fun t ht => by obtain ⟨p, hp, rfl⟩ := List.mem_map.mp ht; exact h p hp), sort_tupI]
theorem sorted_tupI {n : Nat} (hn : 1 ≤ n) {ts : List (List Int)} (h : ∀ t ∈ ts, t.length = n) : sortedA [.lst (ts.map tupI)] = some (1, .lst ((ts.mergeSort leI).map tupI)) := by
  show (if sortOk (ts.map tupI) = true then some (1, D.lst ((ts.map tupI).mergeSort leDat)) else none) = _
  rw [if_pos (sortOk_ints hn h), sort_tupI]
theorem keysD_ints : ∀ t : List Int, keysD (t.map .int) = some (keyI t)
  | [] => rfl
  | i :: t => by
    show (keyD (.int i)).bind (fun k => (keysD (t.map .int)).map (k :: ·)) = _
    rw [keysD_ints t]; rfl
def putI (kvs : List (List Int × D)) (k : List Int) (v : D) : List (List Int × D) :=
  if (kvs.any fun kv => decide (kv.1 = k)) = true then kvs.map (fun kv => if kv.1 = k then (kv.1, v) else kv) else kvs ++ [(k, v)]
def lookI (kvs : List (List Int × D)) (k : List Int) : Option D := (kvs.find? fun kv => decide (kv.1 = k)).map (·.2)
theorem put_dI {kvs : List (List Int × D)} {k : List Int} {v : D} : putD (kvs.map fun p => (keyI p.1, p.2)) (keyI k) v = (putI kvs k v).map fun p => (keyI p.1, p.2) := by
  have hk : ∀ p : List Int × D, (keyI p.1 = keyI k) = (p.1 = k) := fun p => propext ⟨keyI_inj, fun h => by rw [h]⟩
  have ha : ((kvs.map fun p => (keyI p.1, p.2)).any fun kv => decide (kv.1 = keyI k)) = kvs.any fun kv => decide (kv.1 = k) := by
    rw [List.any_map]
    congr 1
    funext p
    simp only [Function.comp, hk]
  unfold putD putI
  rw [ha]
  split
  · rw [List.map_map, List.map_map]
    refine List.map_congr_left fun p _ => ?_
    simp only [Function.comp, hk]
    split <;> rfl
  · rw [List.map_append]; rfl
theorem look_dI {kvs : List (List Int × D)} {k : List Int} : lookD (kvs.map fun p => (keyI p.1, p.2)) (keyI k) = lookI kvs k := by
  have hk : ∀ p : List Int × D, (keyI p.1 = keyI k) = (p.1 = k) := fun p => propext ⟨keyI_inj, fun h => by rw [h]⟩
  unfold lookD lookI
  rw [List.find?_map]
  cases h : kvs.find? ((fun kv : List Key × D => decide (kv.1 = keyI k)) ∘ fun p => (keyI p.1, p.2)) with
  | none =>
    have : kvs.find? (fun kv => decide (kv.1 = k)) = none := by
      rw [← h]; congr 1; funext p; simp only [Function.comp, hk]
    rw [this]; rfl
  | some q =>
    have : kvs.find? (fun kv => decide (kv.1 = k)) = some q := by
      rw [← h]; congr 1; funext p; simp only [Function.comp, hk]
    rw [this]; rfl
theorem st_dI {kvs : List (List Int × D)} {k : List Int} {v : D} (h : kvs.length < 16777216) : stD (dI kvs) (tupI k) v = some (dI (putI kvs k v)) := by
  show (if (kvs.map fun p => (keyI p.1, p.2)).length < sizeLine then (keysD (k.map .int)).map fun k => D.dT (putD (kvs.map fun p => (keyI p.1, p.2)) k v) else none) = _
  rw [List.length_map, if_pos (by rw [sizeLine_eq]; exact h), keysD_ints]
  show some (D.dT (putD _ (keyI k) v)) = _
  rw [put_dI]; rfl
theorem get_dI {kvs : List (List Int × D)} {k : List Int} : getD' (dI kvs) (tupI k) = some (lookI kvs k) := by
  show (keysD (k.map .int)).map (lookD (kvs.map fun p => (keyI p.1, p.2))) = _
  rw [keysD_ints]
  show some (lookD _ (keyI k)) = _
  rw [look_dI]
theorem in_dI {kvs : List (List Int × D)} {k : List Int} : inA (tupI k) (dI kvs) = some (lookI kvs k).isSome := by
  show (getD' (dI kvs) (tupI k)).map (·.isSome) = _
  rw [get_dI]; rfl
theorem nin_dI {kvs : List (List Int × D)} {k : List Int} : ninA (tupI k) (dI kvs) = some (!(lookI kvs k).isSome) := by
  unfold ninA; rw [in_dI]; rfl
theorem ix_dI {kvs : List (List Int × D)} {k : List Int} {v : D} (h : lookI kvs k = some v) : ixA (dI kvs) (tupI k) = some (0, v) := by
  show ((getD' (dI kvs) (tupI k)).bind id).map (0, ·) = _
  rw [get_dI, h]; rfl
theorem putI_keys {kvs : List (List Int × D)} {k : List Int} {v : D} {p : List Int × D} (h : p ∈ putI kvs k v) : p.1 = k ∨ ∃ q ∈ kvs, q.1 = p.1 := by
  unfold putI at h
  split at h
  · obtain ⟨q, hq, e⟩ := List.mem_map.mp h
    split at e
    · rename_i hk; exact .inl (by rw [← e]; exact hk)
    · exact .inr ⟨q, hq, by rw [e]⟩
  · rcases List.mem_append.mp h with h | h
    · exact .inr ⟨p, h, rfl⟩
    · exact .inl (by have e : p = (k, v) := by simpa using h
                     rw [e])
theorem putI_len {kvs : List (List Int × D)} {k : List Int} {v : D} : (putI kvs k v).length ≤ kvs.length + 1 := by
  unfold putI; split <;> simp
theorem eq_tupI {a b : List Int} : eqD (tupI a) (tupI b) = some (decide (a = b)) := by
  unfold eqD
  rw [if_pos ⟨by simp, by simp⟩]
  congr 1
  rw [Bool.eq_iff_iff, eqv_nb (by simp) (by simp), decide_eq_true_eq]
  exact ⟨tupI_inj, fun h => by rw [h]⟩
theorem ne_tupI {a b : List Int} : neD (tupI a) (tupI b) = some (!decide (a = b)) := by
  unfold neD
  rw [if_pos ⟨by simp, by simp⟩]
  congr 2
  rw [Bool.eq_iff_iff, eqv_nb (by simp) (by simp), decide_eq_true_eq]
  exact ⟨tupI_inj, fun h => by rw [h]⟩
theorem lt_tupI {a b : List Int} : ltD (tupI a) (tupI b) = some (HT.lexLt a b) := by
  unfold tupI ltD
  simp
section
variable {η : Env} {f g h : SE} {j k : Nat} {d : D} {b : SS} {tg : SG} {vs : List Nat} {tt : ST} {F : SF}
@[simp] theorem v_setA : S.setA j f g η = (f η).bind fun d η1 => match η1[j]? with
  | some (.val _ _ _) => (g η1).bind fun y η2 => (match η2[j]? with
    | some (.val 1 l c) => (match stD c y d with
      | some c' => .ok .nx (η2.set j (.val 1 l c'))
      | none => .bad)
    | _ => .bad)
  | _ => .bad := rfl
@[simp] theorem st_lst {ds : List D} {i : Int} : stD (.lst ds) (.int i) d = (ixN ds.length i).map fun m => .lst (ds.set m d) := rfl
@[simp] theorem v_dnew : S.dnew d η = .ok (1, d) η := rfl
@[simp] theorem v_range2 : S.range2 f g η = (f η).bind fun d η1 => (g η1).bind fun e η2 => match d, e with
  | .int i, .int j => if -(2 ^ 62) ≤ i ∧ i < 2 ^ 62 ∧ -(2 ^ 62) ≤ j ∧ j < 2 ^ 62 then .ok (S.rangeL i (j - i).toNat) η2 else .bad
  | _, _ => .bad := rfl
@[simp] theorem isD_lst {ds : List D} : isDct (some (.lst ds)) = false := rfl
@[simp] theorem isD_tup {ds : List D} : isDct (some (.tup ds)) = false := rfl
@[simp] theorem isD_dI {kvs : List (List Int × D)} : isDct (some (dI kvs)) = true := rfl
theorem forsX_seq (hd : isDct (slotA η[j]?) = false) : S.forsX j tg b η = S.fors (S.items (S.var j)) tg b η := by unfold S.forsX; rw [hd]; rfl
theorem compX_seq (hd : isDct (slotA η[j]?) = false) : S.compX k vs j tg tt F η = S.comp k vs (S.items (S.var j)) tg tt F η := by unfold S.compX; rw [hd]; rfl
theorem forsX_dct (hd : isDct (slotA η[j]?) = true) : S.forsX j tg b η = S.forsD j tg b η := by unfold S.forsX; rw [hd]; rfl
theorem compX_dct (hd : isDct (slotA η[j]?) = true) : S.compX k vs j tg tt F η = S.comp k vs (S.keys j) tg tt F η := by unfold S.compX; rw [hd]; rfl
end
theorem log2_le {n k : Nat} (h : n < 2 ^ k) (hk : k ≠ 0) : n.log2 < k := by
  by_cases z : n = 0
  · rw [z]
    have : Nat.log2 0 = 0 := by decide
    omega
  · exact (Nat.log2_lt z).mpr h
theorem v_mulB {a b : Int} (ha : a.natAbs < 2 ^ 1000) (hb : b.natAbs < 2 ^ 1000) : mulD (.int a) (.int b) = some (0, .int (a * b)) :=
  v_mulW (by have := log2_le ha (by decide); have := log2_le hb (by decide); omega)
theorem max_ints {n : Int} {ns : List Int} : maxD [.lst ((n :: ns).map .int)] = some (.int (maxI (n :: ns))) := by
  show (match intsOf ((n :: ns).map .int) with
    | some (n :: ns) => some (D.int (maxI (n :: ns)))
    | _ => none) = _
  rw [intsOf_ints]
theorem min_ints {n : Int} {ns : List Int} : minD [.lst ((n :: ns).map .int)] = some (.int (minI (n :: ns))) := by
  show (match intsOf ((n :: ns).map .int) with
    | some (n :: ns) => some (D.int (minI (n :: ns)))
    | _ => none) = _
  rw [intsOf_ints]
end DV

/-! DV25: try, clauses without a name. -/
namespace DV
open PySem PySem.Spec PyProof.Rows L2 RZ
namespace S
/-- by a table: whether the clause of class x takes an exception of class c -/
def sub (tb : List (Str × Str × Bool)) (c x : Str) : Option Bool := match tb with
  | [] => none
  | p :: r => if p.1 = c ∧ p.2.1 = x then some p.2.2 else sub r c x
def hand (tb : List (Str × Str × Bool)) : List (Str × SS) → Str → SS
  | [], c => fun η => .exc c η
  | (x, h) :: r, c => fun η => match sub tb c x with
    | some true => h η
    | some false => hand tb r c η
    | none => .bad
def tr (tb : List (Str × Str × Bool)) (b : SS) (hs : List (Str × SS)) : SS := fun η => match b η with
  | .exc c η' => hand tb hs c η'
  | .ok fl η' => .ok fl η'
  | .bad => .bad
theorem sub_mem : ∀ {tb : List (Str × Str × Bool)} {c x : Str} {b : Bool}, sub tb c x = some b → (c, x, b) ∈ tb
  | [], _, _, _, h => by cases h
  | p :: r, c, x, b, h => by
    unfold sub at h
    split at h
    · rename_i z
      obtain ⟨p1, p2, p3⟩ := p
      obtain ⟨z1, z2⟩ := z
      simp only at z1 z2
      subst z1; subst z2
      cases h
      exact List.mem_cons_self
    · exact List.mem_cons_of_mem _ (sub_mem h)
end S
/-- the table is true -/
def SubOk (K : PySem.W.Frag) (tb : List (Str × Str × Bool)) : Prop := ∀ p ∈ tb, PySem.W.exmOne K (.ref (He.ga K p.1)) (.ref (He.ga K p.2.1)) = some p.2.2
inductive HdsT (X : Cx) (L : Lents) (W : WX) : List ExceptHandler → List (Str × SS) → Prop
  | nil : HdsT X L W [] []
  | cons {x : Str} {np pos' : Pos} {b₀ : Stmt} {suite : List Stmt} {hds : List ExceptHandler} {hs : List (Str × SS)} {h : SS} (hm : X.mg x = some (.ref (He.ga X.K x))) (hg : Gl X x) (hdb : (x == ("__debug__" : Str)) = false)
      (hsu : ∀ (a : Addr) (oe : Obj) (pn : List (Addr × Obj)), PSs (X.suite a ((a, oe) :: pn)) (b₀ :: suite) (tS X.K L W h)) (r : HdsT X L W hds hs) :
      HdsT X L W (.ExceptHandler (some (.Name x np)) none (b₀ :: suite) pos' :: hds) ((x, h) :: hs)
section
variable {X : Cx} {L : Lents} {W : WX}
def hdsL (K : PySem.W.Frag) (L : Lents) (W : WX) (hs : List (Str × SS)) : List (Value × (Addr → Value → Option Addr → TS)) := hs.map fun p => (.ref (He.ga K p.1), fun _ _ _ => tS K L W p.2)
theorem HdsT.ok {hds : List ExceptHandler} {hs : List (Str × SS)} (h : HdsT X L W hds hs) : HdsOk X hds (hdsL X.K L W hs) := by
  induction h with
  | nil => exact .nil
  | cons hm hg hdb hsu _ ih => exact .cons ⟨hg, hdb, .inl hm⟩ (fun a oe cls d pn _ _ => hsu a oe pn) ih
theorem hand_use {K : PySem.W.Frag} {tb : List (Str × Str × Bool)} (hT : SubOk K tb) {c : Str} {D : Ends} {G H : Hp} {η : Env} {Fs : Feet} : ∀ {hs : List (Str × SS)}, ResS K L W D G H Fs (S.hand tb hs c η) →
    ∀ σ' G' H' Fs', Rel L G' η σ' H' Fs' → Ext G H Fs G' H' Fs' → wMany K W D (hdsL K L W hs) (.ref (He.ga K c)) none σ' H'
  | [], q, σ', G', H', Fs', R, E => q σ' G' H' Fs' R E
  | (x, h) :: r, q, σ', G', H', Fs', R, E => by
    unfold S.hand at q
    cases e : S.sub tb c x with
    | none => simp only [e] at q; exact q.elim
    | some b =>
      simp only [e] at q
      refine ⟨b, hT _ (S.sub_mem e), fun hb a _ => ?_, fun hb => ?_⟩
      · subst hb
        exact ⟨G', η, Fs', R, ResS.later q E⟩
      · subst hb
        exact hand_use hT q σ' G' H' Fs' R E
theorem js_try {body : List Stmt} {h₀ : ExceptHandler} {hds : List ExceptHandler} {hs : List (Str × SS)} {tb : List (Str × Str × Bool)} {b : SS} {pos : Pos} (st : X.stack = X.env :: X.outer) (fr : X.env.frame = some X.env.locals) (tk : Takes X W) (hT : SubOk X.K tb)
    (hb : ∀ (W' : WX) (pn : List (Addr × Obj)) (xe : Value → Shared → Prop), Takes (X.tr pn xe) W' → PSs (X.tr pn xe) body (tS X.K L W' b)) (hh : HdsT X L W (h₀ :: hds) hs) :
    PS X (.Try body (h₀ :: hds) [] [] pos) (tS X.K L W (S.tr tb b hs)) := by
  refine PS.imp (ps_try_many st fr tk (fun W' pn xe tk' _ => hb W' pn xe tk') hh.ok) fun D σ H ⟨G, η, Fs, R, q⟩ => ⟨G, η, Fs, R, ?_⟩
  unfold S.tr at q
  cases e : b η with
  | bad => rw [e] at q; exact q.elim
  | ok fl η' =>
    rw [e] at q
    cases fl <;> exact q
  | exc c η' =>
    rw [e] at q
    exact hand_use hT q
@[simp] theorem v_tr {tb : List (Str × Str × Bool)} {b : SS} {hs : List (Str × SS)} {η : Env} : S.tr tb b hs η = match b η with
  | .exc c η' => S.hand tb hs c η'
  | .ok fl η' => .ok fl η'
  | .bad => .bad := rfl
end
end DV

/-! DV26: sorted(set(xs)), xs a list of tuples of whole numbers. -/
namespace DV
open PySem PySem.Spec PyProof.Rows L2 RZ
open PySem.W (EachIs AllAlike Sortable alike alikeAll dataLe dataLt)
theorem leI_eq (a b : List Int) : leI a b = decide (a ≤ b) := by
  show (!dataLt (py (tupI b)) (py (tupI a))) = _
  rw [py_tupI, py_tupI, PySem.W.dataLt_tuple]
  show (!PySem.W.rowLt _ _) = _
  rw [PySem.W.dataLt_ints]
  by_cases h : b < a
  · have : ¬ a ≤ b := fun r => List.not_lt.mpr r h
    simp [h, this]
  · have : a ≤ b := List.not_lt.mp h
    simp [h, this]
def tupsOf : List D → Option (List (List Int))
  | [] => some []
  | .tup ds :: r => (intsOf ds).bind fun t => (tupsOf r).map (t :: ·)
  | _ :: _ => none
theorem tupsOf_map : ∀ {ts : List (List Int)}, tupsOf (ts.map tupI) = some ts
  | [] => rfl
  | t :: ts => by
    show (intsOf (t.map .int)).bind (fun t => (tupsOf (ts.map tupI)).map (t :: ·)) = _
    rw [intsOf_ints, tupsOf_map]; rfl
def sortSetD : List D → Option (Nat × D)
  | [.lst ds] => match tupsOf ds with
    | some ts => if ts.length < 64 ∧ (ts.all fun t => decide (t ≠ [])) = true then some (1, .lst (((ts.eraseDups).mergeSort leI).map tupI)) else none
    | none => none
  | _ => none
theorem perm_map {α β : Type} {f : α → β} {xs ys : List β} (h : xs.Perm ys) : ∀ l : List α, ys = l.map f → ∃ l1 : List α, l1.Perm l ∧ xs = l1.map f := by
  induction h with
  | nil => exact fun l e => ⟨l, .refl l, e⟩
  | cons x h ih =>
    intro l e
    cases l with
    | nil => cases e
    | cons a l =>
      injection e with e1 e2
      obtain ⟨l1, p, e3⟩ := ih l e2
      exact ⟨a :: l1, p.cons a, by rw [List.map_cons, e3, e1]⟩
  | swap x y l0 =>
    intro l e
    match l, e with
    | a :: b :: l, e =>
      injection e with e1 e2
      injection e2 with e2 e3
      exact ⟨b :: a :: l, .swap a b l, by rw [List.map_cons, List.map_cons, ← e1, ← e2, ← e3]⟩
  | trans _ _ ih1 ih2 =>
    intro l e
    obtain ⟨l1, p1, e1⟩ := ih2 l e
    obtain ⟨l2, p2, e2⟩ := ih1 l1 e1
    exact ⟨l2, p2.trans p1, e2⟩
theorem dpAll_ints {K : PySem.W.Frag} {H : Hp} : ∀ t : List Int, DpAll K H (t.map V.int) (t.map PyData.int)
  | [] => .nil
  | i :: t => .cons (.int i) (dpAll_ints t)
theorem dp_tupI {K : PySem.W.Frag} {H : Hp} {a : Addr} {t : List Int} (h : SqT K H a (t.map V.int)) : Dp K H (.ref a) (py (tupI t)) := by
  rw [py_tupI]; exact .tup h (dpAll_ints t)
def rSortSet (K : PySem.W.Frag) (P : Program) (w : World) : List V → Hp → VK → Prop := fun vs H Q => ∃ (a : Addr) (l : List (Addr × List Int)), vs = [V.ref a] ∧ H a = some (SetTO P w a l) ∧ (∀ p ∈ l, SqT K H p.1 (p.2.map V.int)) ∧ (∀ p ∈ l, p.2 ≠ []) ∧
  ∀ (l' : List (Addr × List Int)) (p : Addr), H p = none → l'.Perm l → (l'.map (·.2)).Nodup → l'.Pairwise (fun q r => leI q.2 r.2 = true) → Q (.ref p) (upd H p (.lst (l'.map fun q => V.ref q.1)))
theorem sortOk_tups {ts : List (List Int)} (h : ∀ t ∈ ts, t ≠ []) : sortOk (ts.map tupI) = true := by
  unfold sortOk
  rw [Bool.and_eq_true, Bool.and_eq_true, Bool.or_eq_true]
  refine ⟨⟨List.all_eq_true.mpr fun a ha => List.all_eq_true.mpr fun b hb => ?_, .inl (List.all_eq_true.mpr fun a ha => ?_)⟩, List.all_eq_true.mpr fun a ha => ?_⟩
  · obtain ⟨x, _, rfl⟩ := List.mem_map.mp ha
    obtain ⟨y, _, rfl⟩ := List.mem_map.mp hb
    rw [py_tupI, py_tupI]
    show alikeAll _ _ = true
    exact PySem.W.alike_ints x y
  · obtain ⟨x, hx, rfl⟩ := List.mem_map.mp ha
    have := h x hx
    cases x with
    | nil => exact absurd rfl this
    | cons i r => rfl
  · obtain ⟨x, _, rfl⟩ := List.mem_map.mp ha
    simp
theorem leI_trans (a b c : List Int) : leI a b = true → leI b c = true → leI a c = true := by
  rw [leI_eq, leI_eq, leI_eq, decide_eq_true_eq, decide_eq_true_eq, decide_eq_true_eq]
  exact List.le_trans
theorem leI_total (a b : List Int) : (leI a b || leI b a) = true := by
  rw [leI_eq, leI_eq, Bool.or_eq_true, decide_eq_true_eq, decide_eq_true_eq]
  exact List.le_total a b
theorem leI_antisymm {a b : List Int} (h : leI a b = true) (h' : leI b a = true) : a = b := by
  rw [leI_eq, decide_eq_true_eq] at h h'
  exact List.le_antisymm h h'
section
variable {X : Cx}
theorem cr_sortSet (hc : X.calm = true) (hu : X.A.units + 65 < cLine) : CallR X (.builtin "sorted") (rSortSet X.K X.prog X.w) := by
  intro pins s σ H vs us Q I r h
  obtain ⟨a, l, rfl, ha, hk, hne, q⟩ := h
  obtain ⟨es, ep, t, R⟩ := (show SetT0 X.prog X.w s.heap a l from (I.hok a _ ha).1).full fun p hp => I.isT (hk p hp)
  rw [Vals.ref1 r]
  obtain ⟨o, ho, hex, hd⟩ := R.ob
  have z1 := R.size
  have z2 := R.few
  refine Calls.call_function_entry PyProof.Rows.kind_sorted PyProof.Rows.plain_sorted PyProof.Rows.entry_sorted (PyProof.Rows.args_sorted1 _) ?_
  unfold Builtin.«sorted»
  refine wpAny_bind (m := checkCount "sorted" 1 1 _) (wpAny_pure ?_)
  refine wpAny_bind (collect_set (A := X.A.in1) (I.ok.hd hc) ⟨o, ho, hex.1, hd⟩ R.fits (by unfold scanBound; omega) R.tab.ris R.led fun s1 its k1 hz g1 o1 pm => ?_)
  obtain ⟨l1, p1, e1⟩ := perm_map (f := fun q : Addr × List Int => Value.ref q.1) pm l (by rw [R.rows]; unfold rowsOf; rw [List.map_map]; rfl)
  have n1 : l1.length < 64 := by rw [p1.length_eq]; exact z2
  have hi : its.length = l1.length := by rw [e1, List.length_map]
  refine wpAny_bind (wpAny_newList ?_ (by rw [sizeLine_eq]; omega))
  have hoL : (s1.heap.push (seqObj "list" its.toArray 0)).get? s1.heap.objs.size = some (seqObj "list" its.toArray 0) := Heap.get?_push_size _ rfl
  have so : sortOk (l1.map fun q => tupI q.2) = true := by
    have := sortOk_tups (ts := l1.map (·.2)) fun t ht => by
      obtain ⟨q, hq, rfl⟩ := List.mem_map.mp ht
      exact hne q (p1.mem_iff.mp hq)
    rwa [List.map_map] at this
  obtain ⟨y1, y2, y3⟩ := sort_premises so
  have rd : ∀ q ∈ l1, ∃ as, Reads s1.heap (.ref q.1) (py (tupI q.2)) as ∧ ∀ b ∈ as, b < s1.heap.objs.size := fun q hq => by
    obtain ⟨as, ra⟩ := Dp.reads I _ _ _ (dp_tupI (hk q (p1.mem_iff.mp hq))) rfl
    have rk := PyProof.Rows.Reads.keeps k1 ra
    refine ⟨as, rk, fun b hb => ?_⟩
    obtain ⟨ob, hob⟩ := PyProof.On.reads_mem_get rk _ hb
    exact Heap.lt_size hob
  have b1 : EachIs (fun u (b : Addr × List Int) => u = Value.ref b.1) its l1 := by
    rw [e1]
    clear e1 rd y1 y2 y3 so hoL hi n1 p1 pm
    induction l1 with
    | nil => exact .nil
    | cons b bs ih => exact .cons rfl ih
  have b2 : EachIs (fun u (b : Addr × List Int) => ∃ as, Reads (s1.heap.push (seqObj "list" its.toArray 0)) u (py (tupI b.2)) as ∧ s1.heap.objs.size ∉ as) its l1 := by
    have : ∀ (bs : List (Addr × List Int)) (ws : List Value), (∀ b ∈ bs, b ∈ l1) → EachIs (fun u (b : Addr × List Int) => u = Value.ref b.1) ws bs → EachIs (fun u (b : Addr × List Int) => ∃ as, Reads (s1.heap.push (seqObj "list" its.toArray 0)) u (py (tupI b.2)) as ∧ s1.heap.objs.size ∉ as) ws bs := by
      intro bs ws hl e
      induction e with
      | nil => exact .nil
      | @cons u b ws bs hu t ih =>
        refine .cons ?_ (ih fun x hx => hl x (List.mem_cons_of_mem _ hx))
        obtain ⟨as, ra, lt⟩ := rd b (hl b List.mem_cons_self)
        subst hu
        exact ⟨as, PyProof.Rows.Reads.keeps (fun _ _ q => Heap.get?_push_of_some _ q) ra, fun hm => Nat.lt_irrefl _ (lt _ hm)⟩
    exact this l1 _ (fun _ h => h) b1
  refine wpAny_bind (wpAny_holding (PySem.W.list_sort_data (A := X.A.in1) (s := { s1 with heap := s1.heap.push (seqObj "list" its.toArray 0) }) hoL b1 b2 y1 y2 (by rw [sizeLine_eq]; omega) (fun b hb => ?_) fun out hout ho2 => ?_))
  · have := y3 b hb
    show X.A.units + 1 + 1 + _ < _
    omega
  · obtain ⟨c, hc'⟩ := PyProof.Rows.sortedHeap_at (vs := its) (out := List.toArray out) hoL
    have hle : (fun x y : Addr × List Int => leI x.2 y.2) = dataLe false fun b : Addr × List Int => py (tupI b.2) := by
      funext x y; rfl
    obtain ⟨l2, hl2⟩ : ∃ l2, l2 = l1.mergeSort fun x y => leI x.2 y.2 := ⟨_, rfl⟩
    have p2 : l2.Perm l1 := by rw [hl2]; exact List.mergeSort_perm _ _
    have pw : l2.Pairwise (fun x y => leI x.2 y.2 = true) := by
      rw [hl2]
      exact List.pairwise_mergeSort (fun a b c => leI_trans a.2 b.2 c.2) (fun a b => leI_total a.2 b.2) l1
    have rv : Vals (l2.map fun b => V.ref b.1) out := by
      rw [← hle, ← hl2] at ho2
      clear hl2 p2 pw hc' hout
      induction ho2 with
      | nil => exact .nil
      | cons h t ih => subst h; exact .cons rfl ih
    have hp : s.heap.objs.size ≤ s1.heap.objs.size := hz
    have kp : ∀ b u, s.heap.get? b = some u → (PyProof.Rows.sortedHeap (s1.heap.push (seqObj "list" its.toArray 0)) s1.heap.objs.size its (List.toArray out)).get? b = some u := fun b u e => by
      have e2 := k1 b u e
      have lt := Heap.lt_size e2
      rw [PyProof.Rows.sortedHeap_old (Nat.ne_of_lt lt) (by rw [size_push']; exact Nat.lt_succ_of_lt lt)]
      exact Heap.get?_push_of_some _ e2
    have hn : H s1.heap.objs.size = none := I.hok.fresh hp
    have nd : (l2.map (·.2)).Nodup := ((p2.trans p1).map (·.2)).nodup_iff.mpr R.nd
    have hlen : (l2.map fun q => V.ref q.1).length ≤ sizeLine := by rw [List.length_map, p2.length_eq, sizeLine_eq]; omega
    refine wpAny_pure ⟨_, rfl, ?_⟩
    have J : Inv X pins σ (upd H s1.heap.objs.size (.lst (l2.map fun q => V.ref q.1))) { s with heap := PyProof.Rows.sortedHeap (s1.heap.push (seqObj "list" its.toArray 0)) s1.heap.objs.size its (List.toArray out), gens := s1.gens, drawn := s1.drawn, toks := s1.toks } :=
      I.call (ch := []) (Un.laid kp hp hn) (I.hok.laid kp hp ⟨hlen, out, c, rv, hc'⟩) (by rw [g1]; exact I.bare) (fun _ z => nomatch z)
    have es : ({ s1 with heap := PyProof.Rows.sortedHeap (s1.heap.push (seqObj "list" its.toArray 0)) s1.heap.objs.size its (List.toArray out) } : Shared) = { s with heap := PyProof.Rows.sortedHeap (s1.heap.push (seqObj "list" its.toArray 0)) s1.heap.objs.size its (List.toArray out), gens := s1.gens, drawn := s1.drawn, toks := s1.toks } := by
      cases s1
      cases s
      cases o1
      rfl
    show ∃ (v : V) (H' : Hp), Inv X pins σ H' ({ s1 with heap := PyProof.Rows.sortedHeap (s1.heap.push (seqObj "list" its.toArray 0)) s1.heap.objs.size its (List.toArray out) } : Shared) ∧ RelV v (.ref s1.heap.objs.size) ∧ Q v H'
    rw [es]
    exact ⟨.ref _, _, J, rfl, q l2 _ hn (p2.trans p1) nd pw⟩
end
theorem nodup_dups : ∀ l : List (List Int), (l.eraseDups).Nodup := by
  intro l
  induction h : l.length using Nat.strongRecOn generalizing l with
  | _ n ih =>
    cases l with
    | nil => simp
    | cons t l =>
      rw [List.eraseDups_cons, List.nodup_cons]
      refine ⟨fun hm => ?_, ih (l.filter fun b => !b == t).length ?_ _ rfl⟩
      · have := List.mem_eraseDups.mp hm
        simp at this
      · have := List.length_filter_le (fun b => !b == t) l
        simp at h
        omega
/-- both calls, one within the other -/
def rSetSort (K : PySem.W.Frag) (P : Program) (w : World) : List V → Hp → VK → Prop := fun vs H Q => rSetOfT K P w vs H fun v H1 => rSortSet K P w [v] H1 Q
theorem tups_rep {G : Hp} : ∀ {vs : List V} {ds : List D} {ts : List (List Int)}, RepL G vs ds → tupsOf ds = some ts → ∃ ks : List (Addr × List Int), vs = ks.map (fun p => V.ref p.1) ∧ ks.map (·.2) = ts ∧ ∀ p ∈ ks, G p.1 = some (.tup (p.2.map V.int))
  | _, _, _, .nil, e => by cases e; exact ⟨[], rfl, rfl, fun _ h => by cases h⟩
  | _, _, ts, .cons (d := d) (ds := ds) r t, e => by
    cases d <;> simp only [tupsOf] at e <;> try cases e
    rename_i es
    cases h1 : intsOf es with
    | none => rw [h1] at e; cases e
    | some u =>
      rw [h1] at e
      cases h2 : tupsOf ds with
      | none => rw [h2] at e; cases e
      | some us =>
        rw [h2] at e; cases e
        obtain ⟨ks, k1, k2, k3⟩ := tups_rep t h2
        cases r with
        | tup g rl =>
          refine ⟨(_, u) :: ks, by rw [List.map_cons, k1], by rw [List.map_cons, k2], fun p hp => ?_⟩
          rcases List.mem_cons.mp hp with z | z
          · subst z
            rw [g, intsOf_rep rl h1]
          · exact k3 p z
theorem repL_tups {G : Hp} : ∀ {ks : List (Addr × List Int)}, (∀ p ∈ ks, G p.1 = some (.tup (p.2.map V.int))) → RepL G (ks.map fun p => V.ref p.1) ((ks.map (·.2)).map tupI)
  | [], _ => .nil
  | p :: ks, h => .cons (.tup (h p List.mem_cons_self) (RepL.ints p.2)) (repL_tups fun q hq => h q (List.mem_cons_of_mem _ hq))
theorem New.mut {G H : Hp} {a : Addr} {o : HO} (s : Sub G H) (h : H a = none) : New G H G (upd H a o) := ⟨Le.refl G, upd_le h, s.trans (upd_le h).sub, fun _ z => .inl z⟩
theorem New.then {G H G1 H1 G2 H2 : Hp} (x : New G H G1 H1) (y : New G1 H1 G2 H2) : New G H G2 H2 where
  g := x.g.trans y.g
  h := x.h.trans y.h
  s := y.s
  n := fun a z => by
    rcases y.n a z with q | q
    · exact x.n a q
    · refine .inr ?_
      cases e : H a with
      | none => trivial
      | some o => rw [x.h a o e] at q; exact q
theorem cf_setSort {K : PySem.W.Frag} {P : Program} {w : World} : CallF (rSetSort K P w) sortSetD := by
  intro G H vs ds k d Q s r h fin
  unfold sortSetD at h
  split at h <;> try cases h
  rename_i ds0
  split at h <;> try cases h
  rename_i ts hts
  split at h <;> cases h
  rename_i hok
  obtain ⟨v, rfl, b⟩ := r.one
  obtain ⟨a, ys, rfl, h1, r1⟩ := b.lst s
  obtain ⟨ks, k1, k2, k3⟩ := tups_rep r1 hts
  subst k1
  have lk : ks.length = ts.length := by rw [← k2, List.length_map]
  refine ⟨a, ks, rfl, .inl h1, fun p hp => .of (s.tp _ _ (k3 p hp)), by omega, fun c l hn hs hall => ?_⟩
  have g1 : ∀ p ∈ l, G p.1 = some (.tup (p.2.map V.int)) := fun p hp => k3 p (hs p hp)
  have s1 : Sub G (upd H c (SetTO P w c l)) := s.trans (upd_le hn).sub
  refine ⟨c, l, rfl, upd_same, fun p hp => .of (s1.tp _ _ (g1 p hp)), fun p hp => ?_, fun l' p hp pm nd pw => ?_⟩
  · have : p.2 ∈ ts := by rw [← k2]; exact List.mem_map_of_mem (hs p hp)
    exact of_decide_eq_true (List.all_eq_true.mp hok.2 _ this)
  · have e : l'.map (·.2) = (ts.eraseDups).mergeSort leI := by
      refine List.Perm.eq_of_pairwise (le := fun x y => leI x y = true) (fun x y _ _ => leI_antisymm) (List.pairwise_map.mpr pw) (List.pairwise_mergeSort leI_trans leI_total _) ?_
      refine ((List.perm_ext_iff_of_nodup nd (nodup_dups _)).mpr fun t => ?_).trans (List.mergeSort_perm _ _).symm
      rw [List.mem_eraseDups, (pm.map (·.2)).mem_iff]
      constructor
      · intro ht
        obtain ⟨q, hq, rfl⟩ := List.mem_map.mp ht
        rw [← k2]; exact List.mem_map_of_mem (hs q hq)
      · intro ht
        rw [← k2] at ht
        obtain ⟨q, hq, rfl⟩ := List.mem_map.mp ht
        exact hall q hq
    rw [← e] at fin
    have N := New.mut (o := SetTO P w c l) s hn
    have np : p ≠ c := fun z => by rw [z, upd_same] at hp; cases hp
    have hp0 : H p = none := by rw [upd_ne np] at hp; exact hp
    refine fin _ _ _ [p] (N.then (New.own s1 hp)) ⟨p, _, [], rfl, upd_same, rfl, OwnL.of0 (repL_tups fun q hq => g1 q (pm.mem_iff.mp hq))⟩ (by simp) fun b hb => ?_
    have eb : b = p := by simpa using hb
    subst eb
    exact ⟨s.free hp0, hp0⟩
section
variable {X : Cx} {L : Lents} {W : WX} {a : Expr} {p1 p2 q1 q2 : Pos}
theorem jf_setSort {e : Expr} {os : List Opd} (z : PE X e (tCB (rSortSet X.K X.prog X.w) (tCons (tCB (rSetOfT X.K X.prog X.w) (tOs X.K L W os)) tNil))) : PE X e (tF X.K L W (S.fn sortSetD os)) :=
  jf_callR (r := rSetSort X.K X.prog X.w) cf_setSort z
theorem u64 {k : Nat} {A : Around} (hr : Room k A) : A.units + 64 < cLine := by have := u65 hr; omega
end
end DV

/-! DV27: targets that take lists, too; parallel stores of values of their own; at += 1. -/
namespace DV
open PySem PySem.Spec PyProof.Rows L2 RZ
namespace S
/-- a, b, .. = a tuple or a list -/
def gsq (gs : List SG) : SG := fun d η => match d with
  | .tup ds => names gs ds η
  | .lst ds => names gs ds η
  | _ => .bad
def rowF : List SF → Env → Out (List (Nat × D))
  | [], η => .ok [] η
  | f :: fs, η => (f η).bind fun p η1 => (rowF fs η1).bind fun ps η2 => .ok (p :: ps) η2
def puts : List Nat → List (Nat × D) → Env → Option Env
  | [], [], η => some η
  | i :: is, p :: ps, η => if stores i η = true then puts is ps (η.set i (.val p.1 false p.2)) else none
  | _, _, _ => none
def parF (is : List Nat) (fs : List SF) : SS := fun η => (rowF fs η).bind fun ps η1 => match puts is ps η1 with
  | some η2 => .ok .nx η2
  | none => .bad
/-- x op= e, of whole numbers -/
def augI (i : Nat) (g : Int → Int → Int) (f : SE) : SS := fun η => match η[i]? with
  | some (.val _ _ (.int x)) => (f η).bind fun d η1 => (match d with
    | .int y => if stores i η1 = true then .ok .nx (η1.set i (.val 0 false (.int (g x y)))) else .bad
    | _ => .bad)
  | _ => .bad
end S
section
variable {X : Cx} {L : Lents} {W : WX} {a b c e : Expr} {es : List Expr} {pos : Pos}
theorem jg_sq {gs : List SG} {k n : Nat} (hc : X.calm = true) (h : PGs X es (tGs L gs)) (hl : gs.length = n) (hn : (assignEach es X.env).length = n := by rfl) (hst : (assignEach es X.env).findIdx? (·.1) = none := by rfl) : PG X (.Tuple es k pos) (tG L (S.gsq gs)) := by
  refine ⟨fun pins s σ H v u Q I r q => ?_⟩
  obtain ⟨G, η, Fs, d, η', R, rr, ee, q⟩ := q
  unfold S.gsq at ee
  cases d <;> first | (exact absurd ee (by intro z; cases z)) | skip
  · rename_i ds
    cases rr with
    | tup h1 h2 => exact (pg_tup hc h hn hst).run pins s σ H _ u Q I r ⟨_, _, rfl, .of (R.sub.tp _ _ h1), by rw [h2.length, ← names_len ee]; exact hl, G, η, Fs, ds, η', R, h2, ee, q⟩
  · rename_i ds
    cases rr with
    | lst h1 h2 => exact (pg_lst hc h hn hst).run pins s σ H _ u Q I r ⟨_, _, rfl, .inl (R.sub.rd _ _ h1), by rw [h2.length, ← names_len ee]; exact hl, G, η, Fs, ds, η', R, h2, ee, q⟩
/-! ### rows of values of their own -/
def tFs (K : PySem.W.Frag) (L : Lents) (W : WX) : List SF → TA
  | [] => tNil
  | f :: fs => tCons (tF K L W f) (tFs K L W fs)
inductive ApL (G H : Hp) (Fs : Feet) : List V → List (Nat × D) → List (List Addr) → Prop
  | nil : ApL G H Fs [] [] []
  | cons {v : V} {vs : List V} {p : Nat × D} {ps : List (Nat × D)} {F : List Addr} {FL : List (List Addr)} : Apart G H Fs p.1 v p.2 F → (∀ x ∈ F, ∀ F' ∈ FL, x ∉ F') → ApL G H Fs vs ps FL → ApL G H Fs (v :: vs) (p :: ps) (F :: FL)
theorem tFs_use {K : PySem.W.Frag} {β : Type} {P : β → Env → Hp → Hp → Feet → Prop} : ∀ {fs : List SF} {σ : Sig} {k : List (Nat × D) → Env → Out β} {Q : List V → Hp → Prop} {G H : Hp} {η : Env} {Fs : Feet} (R : Rel L G η σ H Fs) (h : Res K L W σ G H Fs P ((S.rowF fs η).bind k))
    (fin : ∀ vs ps η1 G1 H1 Fs1 FL, Rel L G1 η1 σ H1 Fs1 → Ext G H Fs G1 H1 Fs1 → ApL G1 H1 Fs1 vs ps FL → (∀ F ∈ FL, ∀ x ∈ F, foot Fs x ∨ H x = none) → Res K L W σ G1 H1 Fs1 P (k ps η1) → Q vs H1), tFs K L W fs σ H Q
  | [], σ, k, Q, G, H, η, Fs, R, h, fin => fin [] [] η G H Fs [] R Ext.refl .nil (fun _ z => by cases z) h
  | f :: fs, σ, k, Q, G, H, η, Fs, R, h, fin => by
    have e : (S.rowF (f :: fs) η).bind k = (f η).bind fun p η1 => (S.rowF fs η1).bind fun ps η2 => k (p :: ps) η2 := by
      show ((f η).bind fun p η1 => (S.rowF fs η1).bind fun ps η2 => .ok (p :: ps) η2).bind k = _
      cases f η with
      | bad => rfl
      | exc c η' => rfl
      | ok p η1 =>
        show ((S.rowF fs η1).bind fun ps η2 => .ok (p :: ps) η2).bind k = (S.rowF fs η1).bind fun ps η2 => k (p :: ps) η2
        cases S.rowF fs η1 <;> rfl
    rw [e] at h
    refine ⟨G, η, Fs, R, h.bind.mono fun p η1 G1 H1 Fs1 R1 E1 q1 v F x o => ?_⟩
    refine tFs_use R1 q1 fun vs ps η2 G2 H2 Fs2 FL R2 E2 al ol q2 => ?_
    refine fin (v :: vs) (p :: ps) η2 G2 H2 Fs2 (F :: FL) R2 (E1.trans E2) (.cons (x.ext E2) (fun y hy F' hF' hz => ?_) al) (fun F' hF' y hy => ?_) q2
    · rcases ol F' hF' y hz with z | z
      · exact x.sep y hy z
      · exact x.there y hy z
    · rcases List.mem_cons.mp hF' with z | z
      · subst z; exact o y hy
      · exact (ol F' z y hy).elim (E1.f y) fun w => .inr (E1.noneOf w)
def setsV : List Nat → List V → Sig → Sig
  | i :: is, v :: vs, σ => setsV is vs (σ.set i (some v))
  | _, _, σ => σ
theorem ApL.len {G H : Hp} {Fs : Feet} : ∀ {vs ps FL}, ApL G H Fs vs ps FL → vs.length = ps.length
  | _, _, _, .nil => rfl
  | _, _, _, .cons _ _ t => by rw [List.length_cons, List.length_cons, t.len]
theorem ApL.imp {G H : Hp} {Fs Fs' : Feet} : ∀ {vs ps FL}, ApL G H Fs vs ps FL → (∀ F ∈ FL, ∀ y ∈ F, foot Fs' y → foot Fs y) → ApL G H Fs' vs ps FL
  | _, _, _, .nil, _ => .nil
  | _, _, _, .cons x d t, h => .cons ⟨x.own, x.nod, x.dis, fun y hy z => x.sep y hy (h _ List.mem_cons_self y hy z)⟩ d (t.imp fun F hF => h F (List.mem_cons_of_mem _ hF))
theorem puts_use {G H : Hp} : ∀ {is : List Nat} {ps : List (Nat × D)} {vs : List V} {FL : List (List Addr)} {η η' : Env} {σ : Sig} {Fs : Feet}, Rel L G η σ H Fs → ApL G H Fs vs ps FL → S.puts is ps η = some η' →
    is.length = vs.length ∧ ∃ Fs', Rel L G η' (setsV is vs σ) H Fs' ∧ ∀ y, foot Fs' y → foot Fs y ∨ ∃ F ∈ FL, y ∈ F
  | [], [], _, _, η, η', σ, Fs, R, al, e => by
    cases al; cases e
    exact ⟨rfl, Fs, R, fun y hy => .inl hy⟩
  | i :: is, p :: ps, _, _, η, η', σ, Fs, R, al, e => by
    cases al with
    | cons x d t =>
      unfold S.puts at e
      split at e
      · rename_i s
        obtain ⟨Fs1, R1, f1⟩ := R.stored x s fun _ _ => .inr (.inr trivial)
        obtain ⟨hl, Fs2, R2, f2⟩ := puts_use R1 (t.imp fun F' hF' y hy z => (f1 y z).elim (fun w => absurd hy (d y w F' hF')) id) e
        refine ⟨by rw [List.length_cons, List.length_cons, hl], Fs2, R2, fun y hy => ?_⟩
        rcases f2 y hy with z | ⟨F', hF', z⟩
        · rcases f1 y z with w | w
          · exact .inr ⟨_, List.mem_cons_self, w⟩
          · exact .inl w
        · exact .inr ⟨F', List.mem_cons_of_mem _ hF', z⟩
      · cases e
  | [], _ :: _, _, _, _, _, _, _, _, al, e => by cases e
  | _ :: _, [], _, _, _, _, _, _, _, al, e => by cases e
theorem parF_use {K : PySem.W.Frag} {N : Ends} {σ : Sig} {H : Hp} {is : List Nat} {fs : List SF} {Q : List V → Hp → Prop} (h : tS K L W (S.parF is fs) N σ H) (fin : ∀ vs H1, is.length = vs.length → N.nx (setsV is vs σ) H1 → Q vs H1) : tFs K L W fs σ H Q := by
  obtain ⟨G, η, Fs, R, q⟩ := h
  have key : Res K L W σ G H Fs (fun (b : List (Nat × D)) η1 G1 H1 Fs1 => ResS K L W N G H Fs (match S.puts is b η1 with
      | some η2 => .ok .nx η2
      | none => .bad)) ((S.rowF fs η).bind fun ps η1 => .ok ps η1) := by
    unfold S.parF at q
    cases z : S.rowF fs η with
    | bad => rw [z] at q; exact q
    | exc c η1 => rw [z] at q; exact fun G1 H1 Fs1 R1 E1 => q σ G1 H1 Fs1 R1 E1
    | ok ps η1 => rw [z] at q; exact fun _ _ _ _ _ => q
  refine tFs_use R key fun vs ps η1 G1 H1 Fs1 FL R1 E1 al ol q3 => ?_
  have q3 : ResS K L W N G H Fs (match S.puts is ps η1 with
      | some η2 => .ok .nx η2
      | none => .bad) := q3 G1 H1 Fs1 R1 Ext.refl
  cases w : S.puts is ps η1 with
  | none => rw [w] at q3; exact q3.elim
  | some η2 =>
    rw [w] at q3
    obtain ⟨hl, Fs2, R2, f2⟩ := puts_use R1 al w
    refine fin vs H1 hl (q3 _ G1 H1 Fs2 R2 (E1.feet fun y hy => ?_))
    rcases f2 y hy with z | ⟨F, hF, z⟩
    · exact E1.f y z
    · exact ol F hF y z
theorem js_parF2 {i j : Nat} {x y : Str} {f g : SF} {px py pt : Pos} {kt k2 pt2} (hc : X.calm = true) (hN : X.N.Nodup) (hi : X.N[i]? = some x) (hj : X.N[j]? = some y) (hij : i ≠ j)
    (hx : X.env.scope.names.lookup x = some .local) (hy : X.env.scope.names.lookup y = some .local) (pa : PA X [a, b] (tFs X.K L W [f, g]))
    (hw : swappedStores [.Tuple [.Name x px, .Name y py] kt pt] (.Tuple [a, b] k2 pt2) X.env = pure (some [x, y]))
    (hs : swapsWithSole [.Tuple [.Name x px, .Name y py] kt pt] (.Tuple [a, b] k2 pt2) pos.line X.env = pure false := by rfl) :
    PS X (.Assign [.Tuple [.Name x px, .Name y py] kt pt] (.Tuple [a, b] k2 pt2) pos) (tS X.K L W (S.parF [i, j] [f, g])) := by
  refine PS.imp (ps_par hc hN hi hj hij hx hy pa hw hs) fun N σ H q => parF_use q fun vs H1 hl h => ?_
  match vs, hl, h with
  | [v, w], _, h => exact ⟨v, w, rfl, h⟩
theorem js_parF3 {i j l : Nat} {x y z : Str} {f g h : SF} {px py pz pt : Pos} {kt k2 pt2} (hc : X.calm = true) (hN : X.N.Nodup) (hi : X.N[i]? = some x) (hj : X.N[j]? = some y) (hl : X.N[l]? = some z) (hij : i ≠ j) (hil : i ≠ l) (hjl : j ≠ l)
    (hx : X.env.scope.names.lookup x = some .local) (hy : X.env.scope.names.lookup y = some .local) (hz : X.env.scope.names.lookup z = some .local) (pa : PA X [a, b, c] (tFs X.K L W [f, g, h]))
    (hw : swappedStores [.Tuple [.Name x px, .Name y py, .Name z pz] kt pt] (.Tuple [a, b, c] k2 pt2) X.env = pure (some [x, y, z]))
    (hs : swapsWithSole [.Tuple [.Name x px, .Name y py, .Name z pz] kt pt] (.Tuple [a, b, c] k2 pt2) pos.line X.env = pure false := by rfl) :
    PS X (.Assign [.Tuple [.Name x px, .Name y py, .Name z pz] kt pt] (.Tuple [a, b, c] k2 pt2) pos) (tS X.K L W (S.parF [i, j, l] [f, g, h])) := by
  refine PS.imp (ps_par3 hc hN hi hj hl hij hil hjl hx hy hz pa hw hs) fun N σ H q => parF_use q fun vs H1 hl h => ?_
  match vs, hl, h with
  | [u, v, w], _, h => exact ⟨u, v, w, rfl, h⟩
theorem jfs_nil : PA X [] (tFs X.K L W []) := pa_nil
theorem jfs_cons {f : SF} {fs : List SF} (h : PE X e (tF X.K L W f)) (hr : PA X es (tFs X.K L W fs)) (hs : starEach (e :: es) X.env = (false, eval e X.env) :: starEach es X.env := by rfl) : PA X (e :: es) (tFs X.K L W (f :: fs)) := pa_cons h hr hs
/-! ### x op= e -/
theorem js_augI {i : Nat} {x : Str} {op : Operator} {g : Int → Int → Int} {f : SE} {pos' : Pos} (hN : X.N.Nodup) (hi : X.N[i]? = some x) (hx : Loc X.env.scope x) (ho : PIp X op (ipI g)) (h : PE X e (tE X.K L W f))
    (hf : X.fn x = true ∨ X.env.scope.names.lookup x = some .local) : PS X (.AugAssign (.Name x pos') op e pos) (tS X.K L W (S.augI i g f)) := by
  refine PS.imp (ps_aug hN hi hx h ho hf) fun N σ H ⟨G, η, Fs, R, q⟩ => ?_
  unfold S.augI at q
  split at q
  · rename_i k l n z
    obtain ⟨v, h1, h2⟩ := R.rep z
    cases h2
    refine ⟨_, h1, G, η, Fs, R, (ResS.bind q).mono fun d η1 G1 H1 Fs1 R1 E1 q1 u ru => ?_⟩
    cases d <;> try exact (show False from q1).elim
    rename_i y
    cases ru
    have q1 : ResS X.K L W N G1 H1 Fs1 (if S.stores i η1 = true then .ok .nx (η1.set i (.val 0 false (.int (g n y)))) else .bad) := q1
    split at q1
    · rename_i s
      obtain ⟨Fs2, R2, f2⟩ := R1.stored (Apart.zero (.int (g n y))) s fun _ z => by simp at z
      exact ⟨_, _, rfl, rfl, q1 _ G1 H1 Fs2 R2 (Ext.refl.feet fun a ha => (f2 a ha).elim (fun z => by simp at z) .inl)⟩
    · exact q1.elim
  · exact q.elim
end
section
variable {η : Env} {f g h : SF} {fe : SE} {i j l : Nat} {gs : List SG} {ds : List D} {op : Int → Int → Int}
@[simp] theorem v_gsqT : S.gsq gs (.tup ds) η = S.names gs ds η := rfl
@[simp] theorem v_gsqL : S.gsq gs (.lst ds) η = S.names gs ds η := rfl
@[simp] theorem v_parF2 : S.parF [i, j] [f, g] η = (f η).bind fun p η1 => (g η1).bind fun q η2 => if S.stores i η2 = true then (if S.stores j (η2.set i (.val p.1 false p.2)) = true then .ok .nx ((η2.set i (.val p.1 false p.2)).set j (.val q.1 false q.2)) else .bad) else .bad := by
  unfold S.parF S.rowF
  cases f η with
  | bad => rfl
  | exc c η1 => rfl
  | ok p η1 =>
    simp only [bind_ok, S.rowF]
    cases g η1 with
    | bad => rfl
    | exc c η2 => rfl
    | ok q η2 =>
      simp only [bind_ok, S.puts]
      split
      · rename_i z
        split at z
        · rename_i s; rw [if_pos s]
          split at z
          · rename_i s2; rw [if_pos s2]; cases z; rfl
          · cases z
        · cases z
      · rename_i z
        split at z
        · rename_i s; rw [if_pos s]
          split at z
          · cases z
          · rename_i s2; rw [if_neg s2]
        · rename_i s; rw [if_neg s]
@[simp] theorem v_augI : S.augI i op fe η = match η[i]? with
  | some (.val _ _ (.int x)) => (fe η).bind fun d η1 => (match d with
    | .int y => if S.stores i η1 = true then .ok .nx (η1.set i (.val 0 false (.int (op x y)))) else .bad
    | _ => .bad)
  | _ => .bad := rfl
theorem v_parF : S.parF = fun is fs η => (S.rowF fs η).bind fun ps η1 => match S.puts is ps η1 with
  | some η2 => .ok .nx η2
  | none => .bad := rfl
@[simp] theorem v_rowF0 : S.rowF [] η = .ok [] η := rfl
@[simp] theorem v_rowF1 {fs : List SF} : S.rowF (f :: fs) η = (f η).bind fun p η1 => (S.rowF fs η1).bind fun ps η2 => .ok (p :: ps) η2 := rfl
@[simp] theorem v_puts0 : S.puts [] [] η = some η := rfl
@[simp] theorem v_puts1 {is : List Nat} {p : Nat × D} {ps : List (Nat × D)} : S.puts (i :: is) (p :: ps) η = if S.stores i η = true then S.puts is ps (η.set i (.val p.1 false p.2)) else none := rfl
@[simp] theorem v_parF3 : S.parF [i, j, l] [f, g, h] η = (S.rowF [f, g, h] η).bind fun ps η1 => match S.puts [i, j, l] ps η1 with
  | some η2 => .ok .nx η2
  | none => .bad := rfl
end
end DV

/-! DV28: max, min of a tuple of whole numbers. -/
namespace DV
open PySem PySem.Spec PyProof.Rows L2 RZ
theorem maxI_fold : ∀ (ns : List Int) (n : Int), ns.foldl max n = maxI (n :: ns)
  | [], n => rfl
  | k :: ns, n => by
    rw [List.foldl_cons, maxI_fold ns (max n k)]
    cases ns with
    | nil =>
      show max n k = if k > n then k else n
      split <;> omega
    | cons j r =>
      have e1 : maxI (max n k :: j :: r) = if maxI (j :: r) > max n k then maxI (j :: r) else max n k := rfl
      have e2 : maxI (n :: k :: j :: r) = if maxI (k :: j :: r) > n then maxI (k :: j :: r) else n := rfl
      have e3 : maxI (k :: j :: r) = if maxI (j :: r) > k then maxI (j :: r) else k := rfl
      rw [e1, e2, e3]
      generalize maxI (j :: r) = M
      repeat' split
      all_goals omega
theorem minI_fold : ∀ (ns : List Int) (n : Int), ns.foldl min n = minI (n :: ns)
  | [], n => rfl
  | k :: ns, n => by
    rw [List.foldl_cons, minI_fold ns (min n k)]
    cases ns with
    | nil =>
      show min n k = if k < n then k else n
      split <;> omega
    | cons j r =>
      have e1 : minI (min n k :: j :: r) = if minI (j :: r) < min n k then minI (j :: r) else min n k := rfl
      have e2 : minI (n :: k :: j :: r) = if minI (k :: j :: r) < n then minI (k :: j :: r) else n := rfl
      have e3 : minI (k :: j :: r) = if minI (j :: r) < k then minI (j :: r) else k := rfl
      rw [e1, e2, e3]
      generalize minI (j :: r) = M
      repeat' split
      all_goals omega
def rMaxT (K : PySem.W.Frag) : List V → Hp → VK → Prop := fun vs H Q => ∃ (a : Addr) (n : Int) (ns : List Int), vs = [V.ref a] ∧ SqT K H a ((n :: ns).map V.int) ∧ Q (.int (maxI (n :: ns))) H
def rMinT (K : PySem.W.Frag) : List V → Hp → VK → Prop := fun vs H Q => ∃ (a : Addr) (n : Int) (ns : List Int), vs = [V.ref a] ∧ SqT K H a ((n :: ns).map V.int) ∧ Q (.int (minI (n :: ns))) H
section
variable {X : Cx}
theorem alike_all_ints (n : Int) (ns : List Int) : PySem.W.AlikeAll (PyData.int n :: ns.map .int) := by
  have f : ∀ e ∈ PyData.int n :: ns.map .int, ∃ i, e = PyData.int i := fun e he => by
    rcases List.mem_cons.mp he with z | z
    · exact ⟨n, z⟩
    · obtain ⟨i, _, h⟩ := List.mem_map.mp z; exact ⟨i, h.symm⟩
  refine ⟨fun d hd d' hd' => ?_, fun d hd => ?_⟩
  · obtain ⟨i, rfl⟩ := f d hd
    obtain ⟨j, rfl⟩ := f d' hd'
    simp [PySem.W.alike]
  · obtain ⟨i, rfl⟩ := f d hd
    exact fun z => by cases z
theorem cr_maxT (hc : X.calm = true) (hu : X.A.units + 65 < cLine) : CallR X (.builtin "max") (rMaxT X.K) := by
  intro pins s σ H vs us Q I r h
  obtain ⟨a, n, ns, rfl, hs, q⟩ := h
  obtain ⟨its, rv, ht, hz⟩ := I.tuple hs
  rw [Vals.ref1 r]
  obtain ⟨as, ra⟩ := Dp.readsAll I _ _ _ (dpAll_ints (n :: ns)) rv
  have dep : PyData.depthAll (PyData.int n :: ns.map PyData.int) = 0 := PySem.W.depth_ints (n :: ns)
  refine PySem.W.max_tuple_data (I.ok.hd hc) ht ra (alike_all_ints n ns) (by rw [dep]; omega) fun i v h' tk bs hi rd hk => ?_
  rw [PySem.W.maxD_ints, maxI_fold] at rd
  cases rd
  exact ⟨.int _, H, I.kept hk, ⟨_, rfl⟩, q⟩
theorem cr_minT (hc : X.calm = true) (hu : X.A.units + 65 < cLine) : CallR X (.builtin "min") (rMinT X.K) := by
  intro pins s σ H vs us Q I r h
  obtain ⟨a, n, ns, rfl, hs, q⟩ := h
  obtain ⟨its, rv, ht, hz⟩ := I.tuple hs
  rw [Vals.ref1 r]
  obtain ⟨as, ra⟩ := Dp.readsAll I _ _ _ (dpAll_ints (n :: ns)) rv
  have dep : PyData.depthAll (PyData.int n :: ns.map PyData.int) = 0 := PySem.W.depth_ints (n :: ns)
  refine PySem.W.min_tuple_data (I.ok.hd hc) ht ra (alike_all_ints n ns) (by rw [dep]; omega) fun i v h' tk bs hi rd hk => ?_
  rw [PySem.W.minD_ints, minI_fold] at rd
  cases rd
  exact ⟨.int _, H, I.kept hk, ⟨_, rfl⟩, q⟩
end
def maxA : List D → Option D
  | [.tup ds] => match intsOf ds with
    | some (n :: ns) => some (.int (maxI (n :: ns)))
    | _ => none
  | ds => maxD ds
def minA : List D → Option D
  | [.tup ds] => match intsOf ds with
    | some (n :: ns) => some (.int (minI (n :: ns)))
    | _ => none
  | ds => minD ds
theorem cd_maxA {K : PySem.W.Frag} {r : List V → Hp → VK → Prop} (h : CallD r maxD) : CallD (fun vs H Q => rMaxT K vs H Q ∨ r vs H Q) maxA := by
  intro H vs ds d Q rl e fin
  unfold maxA at e
  split at e
  · rename_i es
    split at e <;> try cases e
    rename_i n ns hi
    cases rl with
    | cons r1 r2 =>
      cases r2
      cases r1 with
      | tup g rr => exact .inl ⟨_, n, ns, rfl, .of (by rw [← intsOf_rep rr hi]; exact g), fin _ fun G => .int _⟩
  · exact .inr (h H vs _ d Q rl e fin)
theorem cd_minA {K : PySem.W.Frag} {r : List V → Hp → VK → Prop} (h : CallD r minD) : CallD (fun vs H Q => rMinT K vs H Q ∨ r vs H Q) minA := by
  intro H vs ds d Q rl e fin
  unfold minA at e
  split at e
  · rename_i es
    split at e <;> try cases e
    rename_i n ns hi
    cases rl with
    | cons r1 r2 =>
      cases r2
      cases r1 with
      | tup g rr => exact .inl ⟨_, n, ns, rfl, .of (by rw [← intsOf_rep rr hi]; exact g), fin _ fun G => .int _⟩
  · exact .inr (h H vs _ d Q rl e fin)
@[simp] theorem v_maxA_lst {ds : List D} : maxA [.lst ds] = maxD [.lst ds] := rfl
@[simp] theorem v_maxA_two {i j : Int} : maxA [.int i, .int j] = some (.int (max i j)) := v_max2
@[simp] theorem v_minA_lst {ds : List D} : minA [.lst ds] = minD [.lst ds] := rfl
@[simp] theorem v_minA_two {i j : Int} : minA [.int i, .int j] = some (.int (min i j)) := v_min2
theorem v_maxA_tup {n : Int} {ns : List Int} : maxA [.tup ((n :: ns).map .int)] = some (.int (maxI (n :: ns))) := by
  show (match intsOf ((n :: ns).map D.int) with
    | some (n :: ns) => some (D.int (maxI (n :: ns)))
    | _ => none) = _
  rw [intsOf_ints]
theorem v_minA_tup {n : Int} {ns : List Int} : minA [.tup ((n :: ns).map .int)] = some (.int (minI (n :: ns))) := by
  show (match intsOf ((n :: ns).map D.int) with
    | some (n :: ns) => some (D.int (minI (n :: ns)))
    | _ => none) = _
  rw [intsOf_ints]
@[simp] theorem v_maxA_pair {i j : Int} : maxA [.tup [.int i, .int j]] = some (.int (max i j)) := by
  rw [show ([.int i, .int j] : List D) = [i, j].map .int from rfl, v_maxA_tup]
  congr 2
  show (if j > i then j else i) = _
  split <;> omega
@[simp] theorem v_minA_pair {i j : Int} : minA [.tup [.int i, .int j]] = some (.int (min i j)) := by
  rw [show ([.int i, .int j] : List D) = [i, j].map .int from rfl, v_minA_tup]
  congr 2
  show (if j < i then j else i) = _
  split <;> omega
end DV

/-! DV29: calls that borrow what names hold and give back a truth or a number; comprehensions over a list that stays owned. -/
namespace DV
open PySem PySem.Spec PyProof.Rows L2 RZ
def scD : D → Bool
  | .non => true
  | .bl _ => true
  | .int _ => true
  | .str _ => true
  | _ => false
theorem scD_rep {G H M : Hp} {k : Nat} {v : V} {d : D} {F : List Addr} (s : scD d = true) (o : Own G H k v d F) : ∀ M : Hp, Rep M v d := by
  intro M
  cases d with
  | non => cases k <;> (cases o.1; exact .non)
  | bl b => cases k <;> (cases o.1; exact .bl b)
  | int i => cases k <;> (cases o.1; exact .int i)
  | str x => cases k <;> (cases o.1; exact .str x)
  | _ => cases s
namespace S
def callB (F : FnSem) (os : List Opd) : SE := fun η => (preL os η).bind fun ps η1 => match deepL os ps η1 with
  | none => .bad
  | some ds => match F (ds.map fun d => (0, d)) with
    | .ok _ d _ => if scD d = true then .ok d η1 else .bad
    | .exc c _ => .exc c η1
    | .bad => .bad
/-- over the list that slot j owns; the block does not use it -/
def compN (k : Nat) (vs : List Nat) (j : Nat) (g : SG) (tt : ST) (f : SF) : SF := fun η => match η[j]? with
  | some (.val 1 false (.lst ds)) => if still vs (η.set j .no) = true ∧ j ∉ vs then (match compL g tt f k vs ds [] (η.set j .no) with
    | .ok es η2 => (match η2[j]? with
      | some .no => .ok (k + 1, .lst es) ((mix (η.set j .no) η2 vs).set j (.val 1 false (.lst ds)))
      | _ => .bad)
    | _ => .bad) else .bad
  | _ => .bad
end S
section
variable {X : Cx} {L : Lents} {W : WX} {e a b c tg it : Expr} {es : List Expr} {pos p : Pos} {vs : List Nat} {x : Str} {ps : List Str} {k : Nat} {F : FnSem}
theorem borrow_rel {H : Hp} {us : List V} {ds : List D} (r : RepL H us ds) : Rel (us.length, lentsAt 0 (us.map fun _ => false) us) H (S.mkEnv (ds.map fun d => (0, d)) (us.map fun _ => false)) (us.map some) H (fun _ => []) := by
  have hl := r.length
  have hlen : (S.mkEnv (ds.map fun d => (0, d)) (us.map fun _ => false)).length = us.length := by unfold S.mkEnv; rw [List.length_zipWith, List.length_map, List.length_map]; omega
  refine ⟨Sub.refl H, by rw [hlen, List.length_map], hlen, fun i k l d e => ?_, fun _ _ => rfl, fun _ => List.nodup_nil, fun i a h => by simp at h, fun i j a h => by simp at h, fun q hq => ?_⟩
  · obtain ⟨h1, h2⟩ := mkEnv_get.mp e
    rw [List.getElem?_map] at h1 h2
    cases q : ds[i]? with
    | none => rw [q] at h1; cases h1
    | some d' =>
      rw [q] at h1
      have h1 : some (0, d') = some (k, d) := h1
      injection h1 with h1
      injection h1 with hk hd
      subst hk; subst hd
      obtain ⟨v, hv, rv⟩ := r.get q
      refine ⟨v, by rw [List.getElem?_map, hv]; rfl, ⟨rv, rfl⟩, fun hl => ?_⟩
      rw [hv] at h2
      cases h2
      cases hl
  · obtain ⟨i, h1, h2, h3⟩ := lentsAt_mem.mp hq
    rw [List.getElem?_map] at h2
    cases q : us[i]? with
    | none => rw [q] at h2; cases h2
    | some v => rw [q] at h2; cases h2
theorem KnL.len {σ : Sig} {G : Hp} : ∀ {us os ps}, KnL σ G us os ps → us.length = os.length
  | _, _, _, .nil => rfl
  | _, _, _, .cons _ t => by rw [List.length_cons, List.length_cons, t.len]
theorem callB_use {K : PySem.W.Frag} {σ : Sig} {H : Hp} {Q : VK} {os : List Opd} (h : tE K L W (S.callB F os) σ H Q) : tOs K L W os σ H fun us H1 => spF K F (os.map fun _ => false) us H1 Q (WE W σ) := by
  obtain ⟨G, η, Fs, R, q⟩ := h
  refine tOs_use R q fun us ps η1 G1 H1 Fs1 R1 E1 k1 q1 => ?_
  have eio : (os.map fun _ => false) = us.map fun _ => false := by rw [List.map_const', List.map_const', k1.len]
  rw [eio]
  cases hx : S.deepL os ps η1 with
  | none => simp only [hx] at q1; exact q1.elim
  | some ds =>
    simp only [hx] at q1
    have rr := k1.rep R1 hx
    have hl := rr.length
    have after : ∀ {G' H' : Hp} {Fs' : Feet}, Ext H1 H1 (fun _ => []) G' H' Fs' → Rel L G1 η1 σ H' Fs1 ∧ Ext G1 H1 Fs1 G1 H' Fs1 := fun {G' H' Fs'} E' => by
      have le : Le H1 H' := fun y o e => E'.h y o e fun ⟨_, z⟩ => by simp at z
      refine ⟨⟨R1.sub.trans le.sub, R1.len, R1.wid, fun i k l d e => ?_, R1.emp, R1.nod, R1.dis, R1.sep, R1.lnt⟩, Le.refl G1, fun y o e _ => le y o e, fun y z => .inl z, fun y z => .inl z, E'.d⟩
      obtain ⟨v, y1, y2, y3⟩ := R1.slot i k l d e
      refine ⟨v, y1, y2.mono (Sub.refl G1) k fun y hy => ?_, y3⟩
      obtain ⟨u, hu, _⟩ := y2.mem k y hy
      rw [hu, le y u hu]
    refine ⟨by rw [List.length_map], H1, ds.map fun d => (0, d), fun _ => [], by rw [List.length_map, List.length_map, hl], by have := borrow_rel rr; rw [List.length_map]; exact this, ?_⟩
    cases hF : F (ds.map fun d => (0, d)) with
    | bad => simp only [hF] at q1; exact q1.elim
    | exc c bk =>
      simp only [hF] at q1
      intro G' H' Fs' R' E'
      obtain ⟨r1, r2⟩ := after E'
      exact q1 G1 H' Fs1 r1 r2
    | ok k d bk =>
      simp only [hF] at q1
      intro G' H' Fs' v Fv R' E' y o
      split at q1
      · rename_i hs
        obtain ⟨r1, r2⟩ := after E'
        exact q1 G1 H' Fs1 r1 r2 v (scD_rep (M := G1) hs y.own G1)
      · exact q1.elim
theorem je_callB {io : List Bool} {os : List Opd} (h : Has X.prog X.w X.K X.mg X.base x ps k F io) (hr : Room k X.A) (hg : Gl X x) (tk : Takes X W) (hio : io = os.map fun _ => false) (ha : PA X (e :: es) (tOs X.K L W os))
    (hdb : (x == ("__debug__" : Str)) = false := by decide) (he : starEach (e :: es) X.env = (false, eval e X.env) :: starEach es X.env := by rfl) (hpl : (backTo pos (starEach es X.env)).any (·.1) = false := by rfl) :
    PE X (.Call (.Name x p) (e :: es) [] pos) (tE X.K L W (S.callB F os)) := by
  obtain ⟨fd, g, kp, bd, Fk⟩ := h
  subst hio
  exact PE.imp (pe_callS Fk hr hg g kp bd (fun σ => passAt tk σ) ha hdb he hpl) fun σ H Q q => callB_use q
/-! ### a comprehension over a list that stays owned -/
theorem walks_own {K : PySem.W.Frag} {G0 H0 : Hp} {Fs0 : Feet} {y : Addr} {ds : List D} {Fo : List Addr} (h : Apart G0 H0 Fs0 1 (.ref y) (.lst ds) Fo) : Walks G0 H0 Fs0 ds (Itl K y) := by
  intro i G2 H Fs2 E s
  obtain ⟨a', xs, Fl, e1, e2, e3, e4⟩ := (h.ext E).own
  cases e1
  have r := (e4.to0).1
  have q : SqL K H y xs := .inl (.inl e2)
  refine ⟨fun hi => ⟨xs, q, by rw [r.length]; exact hi⟩, fun hi => ?_⟩
  have hx : i < xs.length := by rw [r.length]; exact hi
  refine ⟨⟨xs, xs[i], q, by simp [hx]⟩, fun z H' ⟨e, yy⟩ => ?_⟩
  subst e
  obtain ⟨d, z1, z2⟩ := r.getV (yy xs q)
  exact ⟨d, G2, z1, New.refl s, z2⟩
theorem lcN_use {σ : Sig} {H : Hp} {Q : VK} {k j : Nat} {g : SG} {tt : ST} {f : SF} (h : tF X.K L W (S.compN k vs j g tt f) σ H Q) :
    tLc (iList X.K (tVar j)) (tGv L vs g) (tT X.K L WN tt) (tF X.K L WN f) vs σ H Q := by
  obtain ⟨G, η, Fs, R, q⟩ := h
  unfold S.compN at q
  split at q
  · rename_i ds hj
    split at q
    · rename_i hs
      obtain ⟨hst, hjv⟩ := hs
      cases z : S.compL g tt f k vs ds [] (η.set j .no) with
      | bad => simp only [z] at q; exact q.elim
      | exc c η2 => simp only [z] at q; exact q.elim
      | ok es0 η0 =>
        simp only [z] at q
        split at q
        · rename_i hno
          obtain ⟨v, hv, R1, ap⟩ := R.drop hj
          obtain ⟨y, xs, Fl, e1, e2, e3, e4⟩ := ap.own
          subst e1
          have sub : ∀ w, foot (setF Fs j []) w → foot Fs w := fun w hw => by
            rcases foot_setF hw with z | ⟨i, _, z⟩
            · simp at z
            · exact ⟨i, z⟩
          refine ⟨.ref y, hv, y, rfl, ⟨xs, .inl (.inl e2)⟩, fun D hD => ?_⟩
          refine lc_turns (walks_own ap) R1 hst hD z fun G' H' Fs' R' E' v F x fr => ?_
          have ap' := ap.ext E'
          have hlen : j < (S.mix (η.set j .no) η0 vs).length := by
            have := (List.getElem?_eq_some_iff.mp hno).1
            rw [mix_len]; exact this
          have hm : (S.mix (η.set j .no) η0 vs)[j]? = some .no := by rw [mix_out hjv]; exact hno
          have R2 := R'.put ap' hlen hm
          have es : σ.set j (some (V.ref y)) = σ := by
            apply List.ext_getElem?
            intro i
            by_cases hi : i = j
            · subst hi; rw [get_set_self (List.getElem?_eq_some_iff.mp hv).1, hv]
            · rw [get_set_ne hi]
          rw [es] at R2
          refine q G' H' _ R2 ⟨E'.g, fun w o e n => E'.h w o e fun z => n (sub w z), fun w e => ?_, fun w e => ?_, E'.d⟩ v F ⟨x.own, x.nod, x.dis, fun w hw hf => ?_⟩ fun w hw => ?_
          · rcases E'.n w e with z | z | z
            · exact .inl z
            · exact .inr (.inl (sub w z))
            · exact .inr (.inr z)
          · rcases foot_setF e with z | ⟨i, hi, z⟩
            · exact .inl ⟨j, z⟩
            · exact (E'.f w ⟨i, z⟩).elim (fun y => .inl (sub w y)) .inr
          · rcases foot_setF hf with z | ⟨i, hi, z⟩
            · rcases fr w hw with y | y
              · exact ap.sep w z y
              · exact ap.there w z y
            · exact x.sep w hw ⟨i, z⟩
          · exact (fr w hw).elim (fun z => .inl (sub w z)) .inr
        · exact q.elim
    · exact q.elim
  · exact q.elim
theorem jf_lcN {elt : Expr} {ifs : List Expr} {scope : Scope} {own : List (Str × Nat)} {j k : Nat} {g : SG} {tt : ST} {f : SF} (hc : X.calm = true) (hN : X.N.Nodup) (hi : PE X it (tVar j)) (ok : BlkOk X.N X.env.scope scope own) (hv : own.map (·.2) = vs)
    (hg : ∀ (s : Shared) (H : Hp) (C : Addr) (cl : List (Str × Addr)) (fp : List Addr), PG (X.blk s H scope (compEnvC scope cl C X.env) fp) tg (tGv L vs g)) (ht : ∀ (s : Shared) (H : Hp) (C : Addr) (cl : List (Str × Addr)) (fp : List Addr), PTs (X.blk s H scope (compEnvC scope cl C X.env) fp) ifs (tT X.K L WN tt))
    (he : ∀ (s : Shared) (H : Hp) (C : Addr) (cl : List (Str × Addr)) (fp : List Addr), PE (X.blk s H scope (compEnvC scope cl C X.env) fp) elt (tF X.K L WN f)) (hs : ∀ x, foldedSetIterable it X.env x = pure x := by intro _; rfl) :
    PE X (.ListComp elt [⟨tg, it, ifs, 0⟩] scope pos) (tF X.K L W (S.compN k vs j g tt f)) := by
  subst hv
  exact PE.imp (pe_lc hc hN (pi_list hi) ok hg ht he hs) fun σ H Q h => lcN_use h
theorem js_setLcN {i : Nat} {y : Str} {py spos : Pos} {elt : Expr} {ifs : List Expr} {scope : Scope} {own : List (Str × Nat)} {j k : Nat} {g : SG} {tt : ST} {f : SF} (hc : X.calm = true) (hN : X.N.Nodup) (hy : X.N[i]? = some y) (hyl : X.env.scope.names.lookup y = some .local)
    (hsw : swapsWith (.ListComp elt [⟨tg, it, ifs, 0⟩] scope pos) (some (.Name y py)) spos.line X.env = pure true) (hi : PE X it (tVar j)) (ok : BlkOk X.N X.env.scope scope own) (hv : own.map (·.2) = vs)
    (hg : ∀ (s : Shared) (H : Hp) (C : Addr) (cl : List (Str × Addr)) (fp : List Addr), PG (X.blk s H scope (compEnvC scope cl C X.env) fp) tg (tGv L vs g)) (ht : ∀ (s : Shared) (H : Hp) (C : Addr) (cl : List (Str × Addr)) (fp : List Addr), PTs (X.blk s H scope (compEnvC scope cl C X.env) fp) ifs (tT X.K L WN tt))
    (he : ∀ (s : Shared) (H : Hp) (C : Addr) (cl : List (Str × Addr)) (fp : List Addr), PE (X.blk s H scope (compEnvC scope cl C X.env) fp) elt (tF X.K L WN f)) (hs : ∀ x, foldedSetIterable it X.env x = pure x := by intro _; rfl) :
    PS X (.Assign [.Name y py] (.ListComp elt [⟨tg, it, ifs, 0⟩] scope pos) spos) (tS X.K L W (S.asg i (S.compN k vs j g tt f))) := by
  subst hv
  refine PS.imp (ps_setLc hc hN hy hyl hsw (pi_list hi) ok hg ht he hs) fun D σ H q => ?_
  exact lcN_use (asg_use q)
end
namespace S
def ownL : Option Slot → Bool
  | some (.val 1 false (.lst _)) => true
  | _ => false
def compY (k : Nat) (vs : List Nat) (j : Nat) (g : SG) (tt : ST) (f : SF) : SF := fun η => if ownL η[j]? = true then compN k vs j g tt f η else compX k vs j g tt f η
end S
section
variable {X : Cx} {L : Lents} {W : WX} {tg it : Expr} {pos : Pos} {vs : List Nat}
theorem jf_lcY {elt : Expr} {ifs : List Expr} {scope : Scope} {own : List (Str × Nat)} {j k : Nat} {g : SG} {tt : ST} {f : SF} (hc : X.calm = true) (hN : X.N.Nodup) (hi : PE X it (tVar j)) (ok : BlkOk X.N X.env.scope scope own) (hv : own.map (·.2) = vs)
    (hg : ∀ (s : Shared) (H : Hp) (C : Addr) (cl : List (Str × Addr)) (fp : List Addr), PG (X.blk s H scope (compEnvC scope cl C X.env) fp) tg (tGv L vs g)) (ht : ∀ (s : Shared) (H : Hp) (C : Addr) (cl : List (Str × Addr)) (fp : List Addr), PTs (X.blk s H scope (compEnvC scope cl C X.env) fp) ifs (tT X.K L WN tt))
    (he : ∀ (s : Shared) (H : Hp) (C : Addr) (cl : List (Str × Addr)) (fp : List Addr), PE (X.blk s H scope (compEnvC scope cl C X.env) fp) elt (tF X.K L WN f)) (hs : ∀ x, foldedSetIterable it X.env x = pure x := by intro _; rfl) :
    PE X (.ListComp elt [⟨tg, it, ifs, 0⟩] scope pos) (tF X.K L W (S.compY k vs j g tt f)) :=
  PE.imp (PE.or (jf_lcN hc hN hi ok hv hg ht he hs) (jf_lcX hc hN hi ok hv hg ht he hs)) fun σ H Q ⟨G, η, Fs, R, q⟩ => by
    unfold S.compY at q
    split at q
    · exact .inl ⟨G, η, Fs, R, q⟩
    · exact .inr ⟨G, η, Fs, R, q⟩
end
section
variable {η : Env} {g : SG} {tt : ST} {f : SF} {k j : Nat} {vs : List Nat} {ds : List D} {os : List Opd} {F : FnSem}
@[simp] theorem v_callB : S.callB F os η = (S.preL os η).bind fun ps η1 => match S.deepL os ps η1 with
  | none => .bad
  | some ds => match F (ds.map fun d => (0, d)) with
    | .ok _ d _ => if scD d = true then .ok d η1 else .bad
    | .exc c _ => .exc c η1
    | .bad => .bad := rfl
@[simp] theorem scD_bl {b : Bool} : scD (.bl b) = true := rfl
@[simp] theorem scD_int {i : Int} : scD (.int i) = true := rfl
@[simp] theorem scD_non : scD .non = true := rfl
@[simp] theorem scD_str {x : Str} : scD (.str x) = true := rfl
theorem compY_own (h : η[j]? = some (.val 1 false (.lst ds))) : S.compY k vs j g tt f η = S.compN k vs j g tt f η := by
  unfold S.compY; rw [h]; rfl
/-- a comprehension over an owned list whose turns leave the environment as it is -/
theorem compN_pure (φ : D → Option D) (hj : η[j]? = some (.val 1 false (.lst ds))) (hst : S.still vs (η.set j .no) = true) (hjv : j ∉ vs) (hs : ds.length ≤ sizeLine) (hv : ∀ i ∈ vs, i < η.length)
    (h : ∀ d ∈ ds, ∃ η', S.step g tt f d (S.hide (η.set j .no) vs) = .ok ((φ d).map fun x => (k, x)) η' ∧ S.hide η' vs = S.hide (η.set j .no) vs) : S.compN k vs j g tt f η = .ok (k + 1, .lst (ds.filterMap φ)) η := by
  have c := comp_pure (it := fun η => .ok ds η) φ (η := η.set j .no) (η1 := η.set j .no) (g := g) (tt := tt) (f := f) (k := k) (vs := vs) (ds := ds) rfl hst hs (fun i hi => by rw [List.length_set]; exact hv i hi) h
  unfold S.comp at c
  simp only [bind_ok] at c
  rw [if_pos hst] at c
  unfold S.compN
  rw [hj]
  simp only
  rw [if_pos ⟨hst, hjv⟩]
  have hjl : j < η.length := (List.getElem?_eq_some_iff.mp hj).1
  cases z : S.compL g tt f k vs ds [] (η.set j .no) with
  | bad => rw [z] at c; cases c
  | exc x η2 => rw [z] at c; cases c
  | ok es η2 =>
    rw [z] at c
    simp only at c
    injection c with c1 c2
    have hm : (S.mix (η.set j .no) η2 vs)[j]? = some .no := by rw [c2]; exact get_set_self hjl
    rw [mix_out hjv] at hm
    simp only [hm]
    rw [c1, c2]
    congr 1
    apply List.ext_getElem?
    intro i
    by_cases hi : i = j
    · subst hi; rw [get_set_self (by rw [List.length_set]; exact hjl), hj]
    · rw [get_set_ne hi, get_set_ne hi]
end
end DV

/-! DV30: an error caught by a name and kept in another; isinstance asked of it. -/
namespace DV
open PySem PySem.Spec PyProof.Rows L2 RZ
/-- a caught error of the class cls that a name still holds -/
def keptO (cls : Value) (d : Option Addr) (a : Addr) : HO := .ext fun h => ∃ (ob : Obj) (fs : Array Value), h.get? a = some ob ∧ Zc cls d ob ∧ ob.data = .fields fs
section
variable {X : Cx} {pins : List (Addr × Obj)} {σ : L2.St} {H : Hp} {s : Shared}
theorem Inv.track {a : Addr} {ob : Obj} {fs : Array Value} {cls : Value} {d : Option Addr} (I : Inv X pins σ H s) (e : s.heap.get? a = some ob) (z : Zc cls d ob) (f : ob.data = .fields fs) (na : H a = none) (n0 : X.s_0.heap.get? a = none) (nl : a ≠ X.env.locals)
    (np : ∀ p ∈ X.pn ++ pins, p.1 ≠ a) : Inv X pins σ (upd H a (keptO cls d a)) s := by
  have n1 : ∀ {b : Addr} {o : HO}, H b = some o → b ≠ a := fun q => ne_of_none q na
  refine ⟨I.ok, I.os, I.bare, ⟨I.base.keep, I.base.slot, fun b o q n hb => ?_, I.base.there, fun b xs q => ?_, fun b o u q => ?_, fun b ps q => ?_⟩, I.loc, I.cell, ?_, fun x c q => ?_, fun p hp => ?_, ?_, I.len⟩
  · rw [upd_ne fun w => by rw [w, n0] at q; cases q]
    exact I.base.free b o q n hb
  · have r := I.base.tups b xs q
    rw [upd_ne (n1 r)]; exact r
  · have r := I.base.frzs b o u q
    rw [upd_ne (n1 r)]; exact r
  · obtain ⟨more, r⟩ := I.base.tbls b ps q
    exact ⟨more, by rw [upd_ne (n1 r)]; exact r⟩
  · rw [upd_ne (Ne.symm nl)]; exact I.free
  · obtain ⟨v, o, ho, hv⟩ := I.cell x c q
    rw [upd_ne fun w => by rw [w, e] at ho; cases ho; rw [f] at hv; cases hv]
    exact I.freeC x c q
  · obtain ⟨p1, p2, p3⟩ := I.pin p hp
    exact ⟨p1, by rw [upd_ne (np p hp)]; exact p2, p3⟩
  · exact HOk.laidN I.hok (fun _ _ q => q) na ⟨⟨ob, fs, e, z, f⟩, ⟨ob, e⟩, fun _ _ ⟨o, v, q, r⟩ k => ⟨o, v, k o q, r⟩⟩
end
def wKept (K : PySem.W.Frag) (c : Value) (i : Nat) (ts : Addr → Value → Option Addr → TS) (Wo : WX) (D : Ends) : WX := fun cls d σ H =>
  ∃ b, PySem.W.exmOne K cls c = some b ∧ (b = true → ∀ a, H a = none → ts a cls d { nx := fun σ1 H1 => D.nx (σ1.set i none) (upd H1 a (keptO cls d a)), rt := fun _ _ => False } (σ.set i (some (.ref a))) H) ∧ (b = false → Wo cls d σ H)
section
variable {X : Cx} {x n : Str} {c : Value} {i : Nat} {bd su : List Stmt} {s1st : Stmt} {np pos ps' : Pos} {tb : WX → TS} {ts : Addr → Value → Option Addr → TS} {Wo : WX}
theorem ps_try_kept (hex : X.ex = []) (stk : X.stack = X.env :: X.outer) (frm : X.env.frame = some X.env.locals) (nd : X.N.Nodup) (hi : X.N[i]? = some n) (loc : X.env.kindOf n = some .local) (nm : Names X x c) (tk : Takes X Wo)
    (hb : ∀ (W : WX) (pn : List (Addr × Obj)) (xe : Value → Shared → Prop), Takes (X.tr pn xe) W → PSs (X.tr pn xe) bd (tb W))
    (hs : ∀ (a : Addr) (ob : Obj) (cls : Value) (d : Option Addr) (pn : List (Addr × Obj)), PSs (X.suite a ((a, ob) :: pn)) (s1st :: su) (ts a cls d)) :
    PS X (.Try bd [.ExceptHandler (some (.Name x np)) (some n) (s1st :: su) ps'] [] [] pos) (fun D σ H => tb (wKept X.K c i ts Wo D) D σ H) := by
  refine ⟨fun pins s σ H D I pre => ?_⟩
  have good := I.ok
  have frms : X.A.frames = some (X.env :: X.outer) := by rw [good.frames, stk]
  have lsc : Loc X.env.scope n := .inl loc
  let clauses : List ExceptHandler := [.ExceptHandler (some (.Name x np)) (some n) (s1st :: su) ps']
  let air : Value → Shared → Prop := fun e q1 => wpAny (model X.prog X.w) X.A (noteFrame e X.env) (fun _ q2 => wpAny (model X.prog X.w) X.A (setFlight e none) (fun _ q3 => wpAny (model X.prog X.w) X.A (handleBy e X.env clauses) (SP X pins D) X.xe q3) X.xe q2) X.xe q1
  refine wpAny_Try_except ?_
  have body := (hb (wKept X.K c i ts Wo D) (X.pn ++ pins) air (fun u t ht => ?tk)).run [] s σ H D (I.toTry _) pre
  refine wpAny_mono body (fun fl q1 hq => ?_) (fun e q1 he => he)
  · cases fl with
    | next => obtain ⟨σa, Ha, Ja, qa⟩ := hq; exact wpAny_execs_nil ⟨σa, Ha, Ja.ofTry good, qa⟩
    | brk => obtain ⟨σa, Ha, Ja, qa⟩ := hq; exact ⟨σa, Ha, Ja.ofTry good, qa⟩
    | cont => obtain ⟨σa, Ha, Ja, qa⟩ := hq; exact ⟨σa, Ha, Ja.ofTry good, qa⟩
    | ret u => obtain ⟨va, σa, Ha, Ja, ra, qa⟩ := hq; exact ⟨va, σa, Ha, Ja.ofTry good, ra, qa⟩
  case tk =>
    obtain ⟨a, B, sJ, pinJ, σJ, HJ, cls, d, rfl, I0, ground, ups, inSky, aN, oss, bare, b, eb, onYes, onNo⟩ := ht
    have IJ : Inv X pins σJ HJ sJ := I0.ofTry good
    have inSky2 : Sky B (X.env :: X.outer) a (Zc cls d) X.env.locals t.heap := by rw [← stk]; exact inSky
    show wpAny (model X.prog X.w) X.A (noteFrame (.ref a) X.env) _ _ _
    refine Sky.land Zc.steady frms frm inSky2 fun hA flA upA => ?_
    have IA : Inv X pins σJ HJ { t with heap := hA } := IJ.landed ground flA.1 (ups.trans upA) oss bare
    obtain ⟨obA, fsA, getA, zA, dA⟩ := flA.there
    have aFr : ∀ {h : Heap} {o : Obj} {vs : Array Value}, h.FunFrames B (X.env :: X.outer) → h.get? a = some o → o.data = .fields vs → a ∉ frs (X.env :: X.outer) := fun {h o vs} ff e1 e2 mem => by
      obtain ⟨_, o2, e3, no⟩ := ff.mem mem
      rw [e1] at e3; cases e3
      exact no _ e2
    have aNo := aFr flA.2.2.1 getA dA
    have aL : a ≠ X.env.locals := fun w => aNo (List.mem_filterMap.mpr ⟨X.env, List.mem_cons_self, by rw [frm, w]⟩)
    have aF : a ∉ X.fs := fun mem => by
      obtain ⟨e, e1, e2⟩ := List.mem_filterMap.mp mem
      exact aNo (List.mem_filterMap.mpr ⟨e, List.mem_cons_of_mem _ e1, e2⟩)
    -- what stood before the error is not the error
    have young : ∀ b o, sJ.heap.get? b = some o → b ∉ frs (X.env :: X.outer) → b ≠ a := fun b o e1 e2 w => by
      have e3 := ground b o e1 (by rw [show (X.tr (X.pn ++ pins) air).stack = X.env :: X.outer from stk]; exact e2)
      rw [w, flA.2.1] at e3
      cases e3
    have a0 : X.s_0.heap.get? a = none := by
      cases e0 : X.s_0.heap.get? a with
      | none => rfl
      | some o =>
        obtain ⟨o2, e1⟩ := IJ.base.there a o e0 (by rw [hex]; exact List.not_mem_nil)
        exact absurd rfl (young a o2 e1 aNo)
    have aP : ∀ p ∈ X.pn ++ pins, p.1 ≠ a := fun p hp => by
      obtain ⟨e1, _, e2, e3, _⟩ := IJ.pin p hp
      refine young p.1 p.2 e1 fun mem => ?_
      obtain ⟨e, m1, m2⟩ := List.mem_filterMap.mp mem
      rcases List.mem_cons.mp m1 with w | w
      · rw [w, frm] at m2; exact e2 (Option.some.inj m2).symm
      · exact e3 (List.mem_filterMap.mpr ⟨e, w, m2⟩)
    have SA := IA.suite getA dA aN aL aF
    refine wpAny_handleBy_cons (codeAny_handlers_test ?_) (by intro w; cases w)
    have tyL : PySem.W.Looks (model X.prog X.w) hA (typeOf (.ref a)) cls := fun A Q E s2 k q => wpAny_typeOf_ref (k _ _ getA) (by rw [zA.1]; exact q)
    have exL := PySem.W.exm_one (M := model X.prog X.w) (IA.kIn) tyL eb
    have read : ∀ {Q : Value → Shared → Prop} {E : Value → Shared → Prop}, Q c { t with heap := hA } → wpAny (model X.prog X.w) (X.A.mark (some (.ref a))) (eval (.Name x np) X.env) Q E { t with heap := hA } := fun {Q E} q => by
      obtain ⟨g1, g2, g3 | ⟨g3, g4, g5⟩⟩ := nm
      · exact ld_glob (X := X.suite a ((a, obA) :: (X.pn ++ pins))) SA g1 g3 q g2
      · exact ld_blt (X := X.suite a ((a, obA) :: (X.pn ++ pins))) SA g1 g3 g4 q g5 g2
    refine read (exL.here ?_)
    cases b with
    | true =>
      refine codeAny_handlers_suite_as ?_
      refine HandSPX.lands_againZ flA fun hB flB upB => ?_
      have IB : Inv X pins σJ HJ { t with heap := hB } := IJ.landed ground flB.1 ((ups.trans upA).trans upB) oss bare
      obtain ⟨obB, fsB, getB, zB, dB⟩ := flB.there
      have SB := IB.suite getB dB aN aL aF
      refine store_ok (X := X.suite a ((a, obB) :: (X.pn ++ pins))) (v := .ref a) SB nd hi lsc rfl (fun q5 SC => ?_) (.inr loc)
      refine wpAny_mono ((hs a obB cls d (X.pn ++ pins)).run [] q5 _ HJ _ SC (onYes rfl a aN)) (fun fl q6 hq => ?_) (fun _ _ w => False.elim w)
      cases fl with
      | next =>
        obtain ⟨σD, HD, SD, qD⟩ := hq
        obtain ⟨g1, g2, _⟩ := SD.pin (a, obB) (by rw [List.append_nil]; exact List.mem_cons_self)
        have ID : Inv X pins σD (upd HD a (keptO cls d a)) q6 := Inv.track (SD.unsuite good) g1 zB dB g2 a0 aL aP
        exact gone_ok ID nd hi loc fun q7 IE => ⟨_, _, IE, qD⟩
      | brk => obtain ⟨_, _, _, w⟩ := hq; exact w.elim
      | cont => obtain ⟨_, _, _, w⟩ := hq; exact w.elim
      | ret u => obtain ⟨_, _, _, _, _, w⟩ := hq; exact w.elim
    | false =>
      show wpAny _ X.A (handleBy (.ref a) X.env []) _ _ _
      refine wpAny_handleBy_nil ?_
      obtain ⟨_, _, _, ob, fs, T, oT, _, e1, _, e2, e3, _⟩ := id flA
      unfold PySem.passOn
      refine wpAny_bind (wpAny_field e1 e2 e3 ?_)
      rw [if_neg (show ¬ ((Value.ref T == Value.none) = true) from by simp)]
      have on : wpAny (model X.prog X.w) X.A (setFlight (.ref a) X.env.frame) (fun _ q4 => wpAny (model X.prog X.w) X.A (throw (.ref a) : Sem PySem.Flow) (SP X pins D) X.xe q4) X.xe { t with heap := hA } := by
        rw [frm]
        exact HandSPX.setFlight_upZ flA fun hB held upB => wpAny_throw (tk _ _ ⟨a, B, sJ, pins, σJ, HJ, cls, d, rfl, IJ, ground, (ups.trans upA).trans upB, .inr (.inr (by rw [stk]; exact held)), aN, oss, bare, onNo rfl⟩)
      first
        | exact wpAny_bind (wpAny_pure (wpAny_bind on))
        | exact wpAny_bind on
end
/-! ### isinstance of a kept error -/
/-- what is asked of the class c of a caught error -/
def errB (K : PySem.W.Frag) (c : Str) : Bool :=
  decide (PySem.W.findIn K (.ref (He.ga K c)) "__getattribute__" = some (some (.builtin "BaseException.__getattribute__"))) && (decide (PySem.W.findIn K (.ref (He.ga K c)) "__getattr__" = some none) &&
    (decide (PySem.W.subIn K (.ref (He.ga K c)) (.type "BaseException") = some true) && (PySem.W.hasDictIn K (He.ga K c) && (decide (PySem.W.findIn K (.ref (He.ga K c)) "__class__" = some (some (.builtin "object.__class__"))) &&
      (decide (PySem.W.specialIn K (.builtin "object.__class__") "__get__" = some (some (.builtin "getset_descriptor.__get__"))) && (decide (PySem.W.takesIn K (.builtin "object.__class__") = some true) && decide (PySem.W.mroIn K (He.ga K c) (.type "object") = some true)))))))
theorem errB_ok {K : PySem.W.Frag} {c : Str} (h : errB K c = true) : ExcC K (He.ga K c) := by
  unfold errB at h
  simp only [Bool.and_eq_true, decide_eq_true_eq] at h
  obtain ⟨h1, h2, h3, h4, h5, h6, h7, h8⟩ := h
  exact ⟨h1, h2, h3, h4, h5, h6, h7, h8⟩
/-- a class: an own one by its name, or a built-in one -/
inductive Cl where
  | own (x : Str)
  | blt (t : String)
def Cl.v (K : PySem.W.Frag) : Cl → V
  | .own x => .ref (He.ga K x)
  | .blt t => .ty t
def Cl.u (K : PySem.W.Frag) : Cl → Value
  | .own x => .ref (He.ga K x)
  | .blt t => .type t
theorem Cl.rel {K : PySem.W.Frag} : ∀ (x : Cl) {u : Value}, RelV (x.v K) u → u = x.u K
  | .own _, _, r => r
  | .blt _, _, r => r
theorem Cl.rel_ {K : PySem.W.Frag} : ∀ (x : Cl), RelV (x.v K) (x.u K)
  | .own _ => rfl
  | .blt _ => rfl
theorem Cl.rels {K : PySem.W.Frag} : ∀ (xs : List Cl) {us : List Value}, Vals (xs.map (Cl.v K)) us → us = xs.map (Cl.u K)
  | [], _, .nil => rfl
  | x :: xs, _, .cons r rs => by rw [Cl.rel x r, Cl.rels xs rs]; rfl
def Kept (K : PySem.W.Frag) (H : Hp) (a : Addr) (c : Str) : Prop := H a = some (keptO (.ref (He.ga K c)) none a)
def rKept (K : PySem.W.Frag) : List V → Hp → VK → Prop := fun vs H Q => ∃ (c : Str) (a : Addr) (b : Bool), Kept K H a c ∧ errB K c = true ∧
  ((∃ x : Cl, vs = [.ref a, x.v K] ∧ PySem.W.kitOne K (.ref (He.ga K c)) (x.u K) = some b) ∨ ∃ (t : Addr) (xs : List Cl), vs = [.ref a, .ref t] ∧ H t = some (.tup (xs.map (Cl.v K))) ∧ PySem.W.kitAny K (.ref (He.ga K c)) (xs.map (Cl.u K)) = some b) ∧ Q (.bl b) H
section
variable {X : Cx}
theorem call_kept : CallR X (.builtin "isinstance") (rKept X.K) := by
  intro pins s σ H vs us Q I r h
  obtain ⟨c, a, b, hk, hb, h, q⟩ := h
  have C := errB_ok hb
  obtain ⟨⟨⟨oc, od, oda, osl⟩, fs, get, ⟨z1, z2⟩, dat⟩, _⟩ := I.hok a _ hk
  dsimp only at z1 z2 dat
  subst z1 z2 dat
  have at_ : PySem.W.InstAt s.heap a ⟨.ref (He.ga X.K c), none, .fields fs, osl⟩ (He.ga X.K c) none := ⟨get, rfl, rfl, trivial⟩
  have Z := PySem.W.handS_kitx_exc (K := X.K) (x := a) (ox := ⟨.ref (He.ga X.K c), none, .fields fs, osl⟩) C.hg C.hk C.hs C.hd C.ha C.hn C.ht C.hm
  rcases h with ⟨x, rfl, e⟩ | ⟨t, xs, rfl, ht, e⟩
  · cases r with
    | cons r1 rr =>
      cases rr with
      | cons r2 rr =>
        cases rr
        cases r1
        rw [x.rel r2]
        exact PySem.W.kia_one Z I.kIn at_ e (fun z => nomatch z) fun tk => ⟨.bl b, H, I.kept (t' := tk) fun _ _ z => z, rfl, q⟩
  · cases r with
    | cons r1 rr =>
      cases rr with
      | cons r2 rr =>
        cases rr
        cases r1
        cases r2
        obtain ⟨_, its, rv, o, ho, hc, n, hd⟩ := I.hok t _ ht
        rw [Cl.rels xs rv] at hd
        obtain ⟨tc, td, tda, tsl⟩ := o
        dsimp only at hc hd
        subst hc hd
        exact PySem.W.kia_tup Z I.kIn at_ ho e (fun z => nomatch z) fun tk => ⟨.bl b, H, I.kept (t' := tk) fun _ _ z => z, rfl, q⟩
/-! ### tests of a kept error: slot j holds it, g knows some slots' truths -/
def Knows (g : List (Nat × Bool)) (σ : L2.St) : Prop := ∀ p ∈ g, σ[p.1]? = some (some (.bl p.2))
def ErrE (X : Cx) (e : Expr) (j : Nat) (c : Str) (g : List (Nat × Bool)) (r : Bool) : Prop := ∃ te, PE X e te ∧ ∀ (σ : L2.St) (H : Hp) (a : Addr) (Q : VK), σ[j]? = some (some (.ref a)) → Kept X.K H a c → Knows g σ → (∀ H', Le H H' → Q (.bl r) H') → te σ H Q
def ErrS (X : Cx) (ss : List Stmt) (j : Nat) (c : Str) (g : List (Nat × Bool)) (ks : List Nat) (r : Bool) : Prop := ∃ T, PSs X ss T ∧ ∀ (D : Ends) (σ : L2.St) (H : Hp) (a : Addr), σ[j]? = some (some (.ref a)) → Kept X.K H a c → Knows g σ → (∀ k ∈ ks, k < σ.length) →
  (∀ (σ' : L2.St) (H' : Hp), σ'.length = σ.length → (∀ i, i ∉ ks → σ'[i]? = σ[i]?) → Le H H' → D.rt (.bl r) H') → T D σ H
variable {e e2 : Expr} {rest : List Expr} {st : Stmt} {ss : List Stmt} {j k : Nat} {c m : Str} {g : List (Nat × Bool)} {ks : List Nat} {r r2 b : Bool} {pos p p2 p3 : Pos}
/-- the names of classes -/
inductive ClsE (X : Cx) : List Expr → List Cl → Prop
  | nil : ClsE X [] []
  | own {x : Str} {p : Pos} {es : List Expr} {xs : List Cl} (hm : X.mg x = some (.ref (He.ga X.K x))) (hg : Gl X x) (hd : (x == ("__debug__" : Str)) = false) (h : ClsE X es xs) : ClsE X (.Name x p :: es) (.own x :: xs)
  | blt {x : Str} {t : String} {p : Pos} {es : List Expr} {xs : List Cl} (hm : X.mg x = none) (hg : Gl X x) (hb : bootBuiltins x = some (.type t)) (hn : x ≠ "__name__") (hd : (x == ("__debug__" : Str)) = false) (h : ClsE X es xs) : ClsE X (.Name x p :: es) (.blt t :: xs)
theorem ClsE.pa {es : List Expr} {xs : List Cl} (h : ClsE X es xs) : ∃ t, PA X es t ∧ ∀ σ H Q, Q (xs.map (Cl.v X.K)) H → t σ H Q := by
  induction h with
  | nil => exact ⟨_, pa_nil, fun _ _ _ q => q⟩
  | own hm hg hd _ ih =>
    obtain ⟨t, h1, h2⟩ := ih
    exact ⟨_, pa_cons (pe_glob (v := Cl.v X.K (.own _)) hg hm rfl hd) h1, fun σ H Q q => h2 σ H _ q⟩
  | blt hm hg hb hn hd _ ih =>
    obtain ⟨t, h1, h2⟩ := ih
    exact ⟨_, pa_cons (pe_bltn (v := Cl.v X.K (.blt _)) hg hm hb rfl hn hd) h1, fun σ H Q q => h2 σ H _ q⟩
theorem err_one {x : Cl} (hj : X.N[j]? = some m) (hv : Vis X.env.scope m) (hd : (m == ("__debug__" : Str)) = false) (hcd : (m == ("__classdict__" : Str)) = false) (hI : Gl X "isinstance") (hm : X.mg "isinstance" = none) (hc : ClsE X [e2] [x]) (hb : errB X.K c = true)
    (ho : PySem.W.kitOne X.K (.ref (He.ga X.K c)) (x.u X.K) = some r) : ErrE X (.Call (.Name "isinstance" p) [.Name m p2, e2] [] pos) j c g r := by
  obtain ⟨t, h1, h2⟩ := hc.pa
  cases hc <;> exact ⟨_, pe_callB call_kept hI hm (by rfl) (pa_cons (pe_var hj hv hd hcd) h1), fun σ H a Q hs hk _ q => ⟨_, hs, h2 σ H _ ⟨c, a, r, hk, hb, .inl ⟨_, rfl, ho⟩, q H (Le.refl H)⟩⟩⟩
theorem err_any {es : List Expr} {xs : List Cl} {kt : Nat} (hj : X.N[j]? = some m) (hv : Vis X.env.scope m) (hd : (m == ("__debug__" : Str)) = false) (hcd : (m == ("__classdict__" : Str)) = false) (hI : Gl X "isinstance") (hm : X.mg "isinstance" = none) (hc : ClsE X es xs) (hl : xs.length ≤ sizeLine) (hb : errB X.K c = true)
    (ho : PySem.W.kitAny X.K (.ref (He.ga X.K c)) (xs.map (Cl.u X.K)) = some r) : ErrE X (.Call (.Name "isinstance" p) [.Name m p2, .Tuple es kt p3] [] pos) j c g r := by
  obtain ⟨t, h1, h2⟩ := hc.pa
  refine ⟨_, pe_callB call_kept hI hm (by rfl) (pa_cons (pe_var hj hv hd hcd) (pa_cons (pe_tup h1) pa_nil)), fun σ H a Q hs hk _ q => ⟨_, hs, h2 σ H _ ⟨by rw [List.length_map]; exact hl, fun d hn => ?_⟩⟩⟩
  have up : Le H (upd H d (.tup (xs.map (Cl.v X.K)))) := fun b o e1 => by rw [upd_ne (ne_of_none e1 hn)]; exact e1
  exact ⟨c, a, r, up _ _ hk, hb, .inr ⟨d, xs, rfl, upd_same, ho⟩, q _ up⟩
theorem err_var (hk : X.N[k]? = some m) (hv : Vis X.env.scope m) (hd : (m == ("__debug__" : Str)) = false) (hcd : (m == ("__classdict__" : Str)) = false) (hg : (k, r) ∈ g) : ErrE X (.Name m p) j c g r :=
  ⟨_, pe_var hk hv hd hcd, fun σ H _ Q _ _ kn q => ⟨_, kn _ hg, q H (Le.refl H)⟩⟩
theorem err_not (h : ErrE X e j c g r) : ErrE X (.UnaryOp .Not e pos) j c g (!r) := by
  obtain ⟨t, h1, h2⟩ := h
  exact ⟨_, pe_not h1, fun σ H a Q hs hk kn q => h2 σ H a _ hs hk kn fun H' l => ⟨r, rfl, q H' l⟩⟩
theorem err_last (h : ErrE X e j c g r) : ErrE X (.BoolOp .And [e] pos) j c g r := by
  obtain ⟨t, h1, h2⟩ := h
  exact ⟨_, pe_one h1, h2⟩
theorem err_and (h : ErrE X e j c g true) (h' : ErrE X (.BoolOp .And (e2 :: rest) pos) j c g r) : ErrE X (.BoolOp .And (e :: e2 :: rest) pos) j c g r := by
  obtain ⟨t, h1, h2⟩ := h
  obtain ⟨t', h3, h4⟩ := h'
  exact ⟨_, pe_and h1 h3, fun σ H a Q hs hk kn q => h2 σ H a _ hs hk kn fun H' l => ⟨true, rfl, h4 σ H' a Q hs (l _ _ hk) kn fun H'' l2 => q H'' (l.trans l2)⟩⟩
theorem err_ret (h : ErrE X e j c g r) : ErrS X [.Return (some e) pos] j c g ks r := by
  obtain ⟨t, h1, h2⟩ := h
  exact ⟨_, pss_one (ps_ret h1), fun D σ H a hs hk kn _ q => h2 σ H a _ hs hk kn fun H' l => q σ H' rfl (fun _ _ => rfl) l⟩
theorem err_set (h : ErrE X e j c g b) (hN : X.N.Nodup) (hi : X.N[k]? = some m) (hx : Loc X.env.scope m) (hf : X.fn m = true ∨ X.env.scope.names.lookup m = some .local) (hkj : k ≠ j) (hkg : ∀ p ∈ g, p.1 ≠ k) (hks : k ∈ ks)
    (hsw : swapsWith e (some (.Name m p2)) pos.line X.env = pure false) (hr : ErrS X ss j c ((k, b) :: g) ks r) : ErrS X (.Assign [.Name m p2] e pos :: ss) j c g ks r := by
  obtain ⟨t, h1, h2⟩ := h
  obtain ⟨T, h3, h4⟩ := hr
  refine ⟨_, pss_cons (ps_set hN hi hx h1 hsw hf) h3, fun D σ H a hs hk kn len q => h2 σ H a _ hs hk kn fun H' l => ?_⟩
  refine h4 D (σ.set k (some (.bl b))) H' a (by rw [List.getElem?_set_ne hkj]; exact hs) (l _ _ hk) (fun p hp => ?_) (fun i hi => by rw [List.length_set]; exact len i hi) fun σ' H'' e1 e2 l2 => ?_
  · rcases List.mem_cons.mp hp with w | w
    · subst w
      exact List.getElem?_set_self (len k hks)
    · rw [List.getElem?_set_ne (Ne.symm (hkg p w))]; exact kn p w
  · refine q σ' H'' (by rw [e1, List.length_set]) (fun i hi => ?_) (l.trans l2)
    rw [e2 i hi, List.getElem?_set_ne fun w => hi (by rw [← w]; exact hks)]
end
/-! ### the statement, with what follows it -/
namespace S
def wipes (ks : List Nat) (η : Env) : Env := ks.foldl (fun e k => e.set k .no) η
/-- try: b, except cl as n: a name = n; then tests of the error of class c that b raises, that end with r; ks: the slots that hold other than plain things after -/
def refd (tb : List (Str × Str × Bool)) (b : SS) (cl c : Str) (ks : List Nat) (r : Bool) : SS := fun η => match b η with
  | .exc c' η' => if c' = c ∧ sub tb c cl = some true ∧ ks.all (fun k => stores k η') = true then .ok (.rt 0 (.bl r)) (wipes ks η') else .bad
  | _ => .bad
end S
section
variable {L : Lents} {σ : Sig} {G H H' : Hp} {η : Env} {Fs : Feet}
theorem stores_set {k i : Nat} (h : S.stores k η = true) : S.stores k (η.set i .no) = true := by
  unfold S.stores at h ⊢
  by_cases e : k = i
  · subst e
    have hk : k < η.length := by
      cases q : η[k]? with
      | none => rw [q] at h; cases h
      | some sl => exact (List.getElem?_eq_some_iff.mp q).1
    rw [get_set_self hk]
  · rw [get_set_ne e]; exact h
theorem stores_len {k : Nat} (h : S.stores k η = true) : k < η.length := by
  unfold S.stores at h
  cases q : η[k]? with
  | none => rw [q] at h; cases h
  | some sl => exact (List.getElem?_eq_some_iff.mp q).1
theorem Rel.wipes (R : Rel L G η σ H Fs) {ks : List Nat} (h : ∀ k ∈ ks, S.stores k η = true) : ∃ Fs', Rel L G (S.wipes ks η) σ H Fs' ∧ ∀ a, foot Fs' a → foot Fs a := by
  induction ks generalizing η Fs with
  | nil => exact ⟨Fs, R, fun _ q => q⟩
  | cons k ks ih =>
    have h1 := h k List.mem_cons_self
    have R1 := R.forget (i := k) fun n d e => by unfold S.stores at h1; rw [e] at h1; cases h1
    obtain ⟨Fs', R2, f⟩ := ih R1 fun i hi => stores_set (h i (List.mem_cons_of_mem _ hi))
    refine ⟨Fs', R2, fun a q => ?_⟩
    obtain ⟨i, m⟩ := f a q
    by_cases e : i = k
    · subst e; rw [setF_same] at m; cases m
    · rw [setF_ne e] at m; exact ⟨i, m⟩
theorem wipes_no {ks : List Nat} {i : Nat} (h : η[i]? = some .no) : (S.wipes ks η)[i]? = some .no := by
  induction ks generalizing η with
  | nil => exact h
  | cons k ks ih =>
    refine ih ?_
    by_cases e : i = k
    · subst e; exact get_set_self (List.getElem?_eq_some_iff.mp h).1
    · rw [get_set_ne e]; exact h
theorem wipes_at {ks : List Nat} {i : Nat} (hi : i ∈ ks) (h : i < η.length) : (S.wipes ks η)[i]? = some .no := by
  induction ks generalizing η with
  | nil => cases hi
  | cons k ks ih =>
    rcases List.mem_cons.mp hi with e | e
    · subst e; exact wipes_no (η := η.set i .no) (get_set_self h)
    · exact ih e (by rw [List.length_set]; exact h)
theorem Rel.sigma (R : Rel L G η σ H Fs) {σ' : Sig} (hl : σ'.length = σ.length) (h : ∀ i : Nat, η[i]? ≠ some Slot.no → σ'[i]? = σ[i]?) : Rel L G η σ' H Fs where
  sub := R.sub
  len := R.len.trans hl.symm
  wid := R.wid
  slot := fun i k l d e => by rw [h i (by rw [e]; intro w; cases w)]; exact R.slot i k l d e
  emp := R.emp
  nod := R.nod
  dis := R.dis
  sep := R.sep
  lnt := fun p hp => by
    obtain ⟨k, d, e1, e2⟩ := R.lnt p hp
    exact ⟨k, d, e1, by rw [h p.1 (by rw [e1]; intro w; cases w)]; exact e2⟩
end
section
variable {X : Cx} {L : Lents} {W : WX}
theorem js_refd {body ss : List Stmt} {x n m c : Str} {i j : Nat} {ks : List Nat} {r : Bool} {tb : List (Str × Str × Bool)} {b : SS} {np p1 p2 p3 pos pos' : Pos} (st : X.stack = X.env :: X.outer) (fr : X.env.frame = some X.env.locals) (hex : X.ex = []) (nd : X.N.Nodup) (hi : X.N[i]? = some n) (hj : X.N[j]? = some m) (hij : i ≠ j)
    (loc : X.env.kindOf n = some .local) (vn : Vis X.env.scope n) (dn : (n == ("__debug__" : Str)) = false) (cn : (n == ("__classdict__" : Str)) = false) (lm : Loc X.env.scope m) (fm : X.fn m = true ∨ X.env.scope.names.lookup m = some .local)
    (hm : X.mg x = some (.ref (He.ga X.K x))) (hg : Gl X x) (hdb : (x == ("__debug__" : Str)) = false) (tk : Takes X W) (hT : SubOk X.K tb) (hik : i ∈ ks) (hjk : j ∈ ks)
    (hsw : swapsWith (.Name n p2) (some (.Name m p1)) p3.line X.env = pure false)
    (hb : ∀ (W' : WX) (pn : List (Addr × Obj)) (xe : Value → Shared → Prop), Takes (X.tr pn xe) W' → PSs (X.tr pn xe) body (tS X.K L W' b)) (hr : ErrS X ss j c [] ks r) :
    PSs X (.Try body [.ExceptHandler (some (.Name x np)) (some n) [.Assign [.Name m p1] (.Name n p2) p3] pos'] [] [] pos :: ss) (tS X.K L W (S.refd tb b x c ks r)) := by
  obtain ⟨T, h3, h4⟩ := hr
  refine PSs.imp (pss_cons (ps_try_kept (ts := fun _ _ _ => tAsg (tVar i) (gName j)) (c := .ref (He.ga X.K x)) (tb := fun W' => tS X.K L W' b) hex st fr nd hi loc ⟨hg, hdb, .inl hm⟩ tk (fun W' pn xe tk' => hb W' pn xe tk') fun a ob cls d pn => pss_one (ps_set (X := X.suite a ((a, ob) :: pn)) nd hj lm (pe_var (X := X.suite a ((a, ob) :: pn)) hi vn dn cn) hsw fm)) h3) fun D σ H ⟨G, η, Fs, R, q⟩ => ⟨G, η, Fs, R, ?_⟩
  unfold S.refd at q
  cases e : b η with
  | bad => rw [e] at q; exact q.elim
  | ok fl η' => rw [e] at q; exact q.elim
  | exc c' η' =>
    rw [e] at q
    dsimp only at q
    split at q
    · rename_i cond
      obtain ⟨rfl, hsub, hst⟩ := cond
      intro σ' G' H' Fs' R' E'
      refine ⟨true, hT _ (S.sub_mem hsub), fun _ a na => ?_, fun w => by cases w⟩
      have st' : ∀ k ∈ ks, S.stores k η' = true := fun k hk => List.all_eq_true.mp hst k hk
      have hil : i < σ'.length := by rw [← R'.len]; exact stores_len (st' i hik)
      have hjl : j < σ'.length := by rw [← R'.len]; exact stores_len (st' j hjk)
      refine ⟨.ref a, List.getElem?_set_self hil, ?_⟩
      refine h4 D _ (upd H' a (keptO (.ref (He.ga X.K c')) none a)) a ?_ upd_same (fun p hp => by cases hp) (fun k hk => ?_) fun σ2 H2 e1 e2 l => ?_
      · rw [List.getElem?_set_ne hij]
        exact List.getElem?_set_self (by rw [List.length_set]; exact hjl)
      · rw [List.length_set, List.length_set, List.length_set, ← R'.len]
        exact stores_len (st' k hk)
      · have up : Le H' H2 := fun d o z => l d o (by rw [upd_ne (ne_of_none z na)]; exact z)
        obtain ⟨F2, R2, f2⟩ := R'.wipes st'
        have R3 := R2.reH (R2.sub.trans up.sub) fun d hd => by
          obtain ⟨k, mm⟩ := hd
          obtain ⟨u, z, _⟩ := R2.mem mm
          rw [z]; exact up _ _ z
        have R4 := R3.sigma (σ' := σ2) (by rw [e1, List.length_set, List.length_set, List.length_set]) fun k hk => by
          have nk : k ∉ ks := fun w => hk (wipes_at w (stores_len (st' k w)))
          rw [e2 k nk, List.getElem?_set_ne fun w => nk (by rw [← w]; exact hik), List.getElem?_set_ne fun w => nk (by rw [← w]; exact hjk), List.getElem?_set_ne fun w => nk (by rw [← w]; exact hik)]
        have E2 : Ext G' H' Fs' G' H2 F2 := ⟨Le.refl _, fun d o z _ => up d o z, fun d z => .inl z, fun d z => .inl (f2 d z), fun d z w => by
          cases z2 : H' d with
          | none => exact z z2
          | some o => rw [up d o z2] at w; cases w⟩
        exact q σ2 G' H2 F2 (.bl r) [] R4 (E'.trans E2) (Apart.zero (.bl r)) fun d hd => by cases hd
    · exact q.elim
@[simp] theorem v_refd {tb : List (Str × Str × Bool)} {b : SS} {cl c : Str} {ks : List Nat} {r : Bool} {η : Env} : S.refd tb b cl c ks r η = match b η with
  | .exc c' η' => if c' = c ∧ S.sub tb c cl = some true ∧ ks.all (fun k => S.stores k η') = true then .ok (.rt 0 (.bl r)) (S.wipes ks η') else .bad
  | _ => .bad := rfl
end
/-! ### the head's hook, with a test of one's own -/
def obsE (n : Nat) (fa : List He.Fa) (fn : List He.DefD) (ex : PySem.W.Frag → Bool) (g : Addr → Option Obj) : He.AlD :=
  ((He.obsD fa fn (He.frG (noL g) (He.asD g n))).1 && ex (He.frG (noL g) (He.asD g n)), (He.obsD fa fn (He.frG (noL g) (He.asD g n))).2)
def hookE (n : Nat) (fa : List He.Fa) (fn : List He.DefD) (ex : PySem.W.Frag → Bool) : PySem.W.Hook where
  α := He.AlD
  obs := fun s => obsE n fa fn ex s.heap.get?
  val := fun _ => He.valD fn
  says := fun _ h => ∃ K : PySem.W.Frag, (K.In h ∧ ∀ a o, K.lookup a = some o → o.cls ≠ .type "list") ∧ He.SaysD fa fn K ∧ ex K = true
  of := fun _ _ e => by
    obtain ⟨e1, e2⟩ := Prod.mk.inj e
    obtain ⟨e3, e4⟩ := Bool.and_eq_true_iff.mp e1
    exact ⟨_, ⟨fun a o q => (noL_get (He.frG_at _ q)).1, fun a o q => (noL_get (He.frG_at _ q)).2⟩, Prod.ext e3 e2, e4⟩
  keeps := fun _ _ _ ⟨K, ⟨hK, hl⟩, c, x⟩ k => ⟨K, ⟨PySem.W.Frag.In.keeps hK k, hl⟩, c, x⟩
theorem obsE_eq {n : Nat} {fa : List He.Fa} {fn : List He.DefD} {ex : PySem.W.Frag → Bool} {g : Addr → Option Obj} {s : Shared} (h : ∀ a, g a = s.heap.get? a) : obsE n fa fn ex g = (hookE n fa fn ex).obs s := by
  have e : g = s.heap.get? := funext h
  rw [e] <;> rfl
/-- a class is or isn't a class's -/
def oneB (K : PySem.W.Frag) (c : Str) (x : Cl) (b : Bool) : Bool := decide (PySem.W.kitOne K (.ref (He.ga K c)) (x.u K) = some b)
def anyB (K : PySem.W.Frag) (c : Str) (xs : List Cl) (b : Bool) : Bool := decide (PySem.W.kitAny K (.ref (He.ga K c)) (xs.map (Cl.u K)) = some b)
theorem oneB_ok {K : PySem.W.Frag} {c : Str} {x : Cl} {b : Bool} (h : oneB K c x b = true) : PySem.W.kitOne K (.ref (He.ga K c)) (x.u K) = some b := of_decide_eq_true h
theorem anyB_ok {K : PySem.W.Frag} {c : Str} {xs : List Cl} {b : Bool} (h : anyB K c xs b = true) : PySem.W.kitAny K (.ref (He.ga K c)) (xs.map (Cl.u K)) = some b := of_decide_eq_true h
end DV

/-! DV31: a law that takes str() of plain data: the law's own frame, in which no repr is under way. -/
namespace DV
open PySem PySem.Spec PyProof.Rows L2 RZ
/-! ### a def, called where A stands -/
def FnAt (A : Around) (P : Program) (w : World) (K : PySem.W.Frag) (mg : Str → Option Value) (base : Heap) (CX : CXT) (f : Addr) (fd : FuncData) (ps : List Str) (sp : Sp) : Prop :=
  ∀ (ou : List PySem.Env) (st : Shared) (H : Hp) (as : Args) (us : List Value) (vs : List V) (Q : VK) (E : XK), Env0 P w K mg base A ou st H → BindsTo st fd as (ps.zip us) → Vals vs us → sp vs H Q E →
    codeAny (model P w) A (.call (.ref f) as) (CR CX ou P w H st Q E) st
theorem fn_at {A : Around} {CX : CXT} {P : Program} {w : World} {K : PySem.W.Frag} {mg : Str → Option Value} {base : Heap} {k : Nat} {f : Addr} {name qual : Str} {params : Arguments} {body : List Stmt} {scope : Scope} {fd : FuncData} {N ps : List Str} {sp : Sp}
    (F : FunD K name qual params body scope [] [] f fd) (sc : FnScope N ps scope) (ln : ∀ vs H Q E, sp vs H Q E → vs.length = ps.length) (room : Room (k + 1) A)
    (bd : ∀ (cdv : Value) (ou : List PySem.Env) (st : Shared) (H : Hp) (vs : List V) (Q : VK) (E : XK), Room k (A.deeper (envOfC qual scope st.heap.objs.size f cdv)) → sp vs H Q E →
      ∃ t, PSs (cxOf CX P w K mg base N qual scope f cdv A ou st H E) body t ∧ t { nx := fun _ H' => Q .non H', rt := Q } (start N vs) H) : FnAt A P w K mg base CX f fd ps sp := by
  obtain ⟨_, _, _, _, _, _, _, cdv, _, _, rfl, look, code, _, _⟩ := F.ex
  intro ou st H as us vs Q E env bnd rel spq
  have keep : ∀ b o, base.get? b = some o → st.heap.get? b = some o := fun b o e => (env.bs b o e).1
  have inK : K.In st.heap := env.mod.kin.keeps keep
  have kinds : ∀ z ∈ ps.zip us, scope.names.lookup z.1 = some .local ∨ (scope.names.lookup z.1 = some .cell ∧ ((cellsFrom (st.heap.objs.size + 1) scope.names []).lookup z.1).isSome = true) := by
    rintro ⟨n, v⟩ hz
    have h1 := sc.par n (List.of_mem_zip hz).1
    exact h1.imp id fun h2 => ⟨h2, PySem.W.cellsFrom_some _ _ _ (.inl h2)⟩
  refine codeAny_call_function room.depth (inK _ _ look) rfl sc.co sc.gen rfl (PySem.W.codeRec_of inK code) (bnd _ _ _ _ (wpAny_newFunctionEnv_cells sc.kind kinds fun en en2 st1 got => ?_))
  subst en2
  obtain ⟨t, run, pre⟩ := bd cdv ou st H vs Q E (room.deeper _) spq
  have J : Inv (cxOf CX P w K mg base N qual scope f cdv A ou st H E) [] (start N vs) H st1 := inv_start sc room.hd env (ln _ _ _ _ spq) rel got
  refine ⟨(env.mod.nolimit.keeps keep).keeps got.toInCall.keep, codeAny_func (wpAny_mono (run.run [] st1 (start N vs) H _ J pre) (fun fl st2 q => ?_) fun _ _ q => q)⟩
  have done : ∀ {σ2 : L2.St} {H2 : Hp} {v : V} {u : Value}, Inv (cxOf CX P w K mg base N qual scope f cdv A ou st H E) [] σ2 H2 st2 → RelV v u → Q v H2 → CE ou P w H st Q u st2 :=
    fun {_ H2 v _} J2 r2 q2 => ⟨v, H2, J2.os, J2.bare, J2.base, J2.hok, r2, q2⟩
  match fl, q with
  | .ret u, ⟨v, σ2, H2, J2, r2, q2⟩ => exact done J2 r2 q2
  | .next, ⟨σ2, H2, J2, q2⟩ => exact done (v := V.non) (u := Value.none) J2 rfl q2
  | .brk, ⟨_, _, _, q2⟩ => exact q2.elim
  | .cont, ⟨_, _, _, q2⟩ => exact q2.elim
section
variable {P : Program} {w : World} {K : PySem.W.Frag} {mg : Str → Option Value} {base : Heap} {x qual : Str} {params : Arguments} {body : List Stmt} {scope : Scope} {f : Addr} {fd : FuncData}
theorem fn_sem_at {A : Around} {N ps : List Str} {io : List Bool} {k : Nat} {sem : SS} (F : FunD K x qual params body scope [] [] f fd) (S' : FnScope N ps scope) (hio : io.length = ps.length) (room : Room (k + 1) A)
    (hbody : ∀ (cdv : Value) (outer : List PySem.Env) (s : Shared) (H : Hp) (E : XK) (L : Lents), Room k (A.deeper (envOfC qual scope s.heap.objs.size f cdv)) →
      PSs (cxOf (L2.CX P w) P w K mg base N qual scope f cdv A outer s H E) body (tS K L (fun cls d _ H' => E cls d H') sem)) :
    FnAt A P w K mg base (L2.CX P w) f fd ps (spF K (S.run sem N.length io) io) := by
  refine fn_at F S' (fun vs H Q E h => by rw [h.1, hio]) room fun cdv outer s H vs Q E hr h => ?_
  obtain ⟨hv, G, args, Fs, ha, R, q⟩ := h
  refine ⟨_, hbody cdv outer s H E (io.length + (N.length - vs.length), lentsAt 0 io vs) hr, G, _, Fs, R.pad (N.length - vs.length), ?_⟩
  have hps : ps.length ≤ N.length := by have := congrArg List.length S'.pre; rw [List.length_take] at this; omega
  have en : N.length - vs.length = N.length - args.length := by rw [hv, ha]
  unfold S.run at q
  rw [if_pos ha, ← en] at q
  cases z : sem (S.mkEnv args io ++ List.replicate (N.length - vs.length) Slot.no) with
  | bad => rw [z] at q; exact q
  | exc c η' =>
    rw [z] at q
    intro σ' G' H' Fs' R' E'
    obtain ⟨Fs2, R2, f2⟩ := R'.toBack hv (Nat.le_add_right _ _)
    exact q G' H' Fs2 R2 (E'.feet fun a ha => E'.f a (f2 a ha))
  | ok fl η' =>
    rw [z] at q
    cases fl with
    | nx =>
      intro σ' G' H' Fs' R' E'
      obtain ⟨Fs2, R2, f2⟩ := R'.toBack hv (Nat.le_add_right _ _)
      exact q G' H' Fs2 .non [] R2 (E'.feet fun a ha => E'.f a (f2 a ha)) (Apart.zero .non) fun a z => by simp at z
    | bk => exact q.elim
    | ct => exact q.elim
    | rt k d =>
      intro σ' G' H' Fs' v F R' E' y o
      obtain ⟨Fs2, R2, f2⟩ := R'.toBack hv (Nat.le_add_right _ _)
      exact q G' H' Fs2 v F R2 (E'.feet fun a ha => E'.f a (f2 a ha)) (y.feet f2) o
end
/-! ### the law, called by its caller -/
theorem law_callC {P : Program} {w : World} {K : PySem.W.Frag} {mg mb : Str → Option Value} {CX : CXT} {f a : Addr} {fd : FuncData} {x : Str} {sp : Sp} {st : Shared} {vs : List Value} {ns : List Int}
    (inK : K.In st.heap) (glob : st.heap.Ns mainGlobals mg) (bns : st.heap.Ns builtinsNs mb) (bbt : ∀ x : Str, x ≠ "__name__" → mb x = bootBuiltins x) (lim : st.heap.NoLimit) (gens : st.gens = #[])
    (scr : st.heap.get? a = some { cls := .type "list", data := .seq vs.toArray }) (itI : IntsAre vs ns) (len : ns.length ≤ sizeLine)
    (F : ∀ base : Heap, K.In base → base.Ns mainGlobals mg → FnAt callerA P w K mg base CX f fd [x] sp) (bnd : ∀ (s : Shared) (u : Value), BindsTo s fd ⟨[u], []⟩ [(x, u)])
    (nl : ∀ o, K.lookup a = some o → o.cls ≠ .type "list")
    (spq : ∀ H : Hp, Only H → SqL K H a (ns.map V.int) → sp [.ref a] H (fun v _ => v = .bl true) fun _ _ _ => False)
    (noX : ∀ H e s', CX [] H st (fun _ _ _ => False) e s' → False) :
    codeAny (model P w) callerA (.call (.ref f) ⟨[.ref a], []⟩) (fun r s' => r = .ok (.ret (.bool true)) ∧ OldK st.heap s'.heap ∧ s'.os = st.os ∧ AllBare s'.gens) st := by
  have notK : K.lookup a = none := by
    cases e : K.lookup a with
    | none => rfl
    | some o =>
      have e2 := inK a o e
      rw [scr] at e2
      exact absurd (by rw [← Option.some.inj e2]) (nl o e)
  -- the script alone is tracked, frozen
  let fz : HO := .frz { cls := .type "list", data := .seq vs.toArray } (.lst (ns.map V.int))
  let H : Hp := fun b => if b = a then some fz else none
  have Ha : H a = some fz := if_pos rfl
  have Hb : ∀ {b : Addr}, b ≠ a → H b = none := fun h => if_neg h
  have only : Only H := fun b => by
    by_cases h : b = a
    · exact .inr ⟨_, _, if_pos h⟩
    · exact .inl (Hb h)
  have okH : HOk P w H st.heap := fun b o e => by
    by_cases h : b = a
    · subst h
      rw [Ha] at e
      cases e
      exact ⟨scr, by rw [List.length_map]; exact len, vs, _, vals_ints itI, scr⟩
    · rw [Hb h] at e; cases e
  have under : ∀ {b : Addr} {o : Obj}, st.heap.get? b = some o → H b = none → (hidT st.heap H).get? b = some o := fun e n => hidT_get e n
  have dictB : ∀ {b : Addr} {o : Obj} {es : Array DictEntry} {n : Nat}, st.heap.get? b = some o → o.data = .dict es n → H b = none := fun {b o es n} e e2 => Hb fun h => by
    rw [h, scr] at e
    rw [← Option.some.inj e] at e2
    cases e2
  have nsB : ∀ {b : Addr} {m : Str → Option Value}, st.heap.Ns b m → (hidT st.heap H).Ns b m := fun {b m} ⟨o, es, n, e, e2, r⟩ => ⟨o, es, n, under e (dictB e e2), e2, r⟩
  have inB : K.In (hidT st.heap H) := fun b o e => under (inK b o e) (Hb fun h => by rw [h, notK] at e; cases e)
  obtain ⟨ml, l1, l2⟩ := lim
  have env : Env0 P w K mg (hidT st.heap H) callerA [] st H := ⟨rfl, ⟨inB, nsB glob, ⟨mb, nsB bns, bbt⟩, ⟨ml, nsB l1, l2⟩⟩, fun b o e => of_hidT e, Nat.le_of_eq (hidT_size _ _), trivial, fun b h => (List.not_mem_nil h).elim, okH, .of_eq gens⟩
  refine codeAny_mono (F _ inB (nsB glob) [] st H ⟨[.ref a], []⟩ [.ref a] [.ref a] _ _ env (bnd st (.ref a)) (.cons rfl .nil) (spq H only (.inl (.inr ⟨_, Ha⟩)))) fun r s' got => ?_
  match r, got with
  | .error e, got => exact (noX H e s' got).elim
  | .ok (.ret u), ⟨v, H', os, bare, un, okH', rv, q⟩ =>
    subst q
    cases rv
    refine ⟨rfl, OldK.of_keep fun b o e => ?_, os, bare⟩
    by_cases h : b = a
    · subst h
      have z := un.frzs b _ _ Ha
      rw [(okH' b _ z).1]
      rw [scr] at e
      exact e
    · exact un.keep b o e (Hb h) (fun z => List.not_mem_nil z) (fun z => List.not_mem_nil z)
theorem law_endC {l : PySem.W.OpenLaw} {n : Nat} {q : Program} {loose : List Str} {XP : (Str → Option Value) → Heap → Prop} {YP : World → Heap → Prop} {d : DefRec} {x : Str} {F : FnSem}
    (hn : l.most = some n) (hn2 : n ≤ sizeLine) (hdf : d.params.defaults = [])
    (hF : ∀ (w : World) (mg : Str → Option Value) (fa : Addr) (h : Heap), YP w h → h.Ns mainGlobals mg → mg d.name = some (.ref fa) →
      ∃ (K : PySem.W.Frag) (fd : FuncData), K.In h ∧ (∀ a o, K.lookup a = some o → o.cls ≠ .type "list") ∧ (∀ (s : Shared) (u : Value), BindsTo s fd ⟨[u], []⟩ [(x, u)]) ∧
        ∀ base : Heap, K.In base → base.Ns mainGlobals mg → FnAt callerA l.prog w K mg base (L2.CX l.prog w) fa fd [x] (spF K F [false]))
    (hM : ∀ ns : List Int, ns.length ≤ n → ∃ k bk, F [(0, .lst (ns.map .int))] = .ok k (.bl true) bk) :
    PySem.W.WalkO q loose XP YP l.row.toRowW d [] (fun f vs => PySem.call f vs) := by
  refine Att.attach_call hn hdf fun w s₀ s₁ mg mb fa o pm cd doc a vs ns G Y ho hd hcd hmg hobj hints hlen hg => ?_
  obtain ⟨K, fd, KX, nl, hb, hFk⟩ := hF w mg fa _ Y G.T.g hmg
  refine law_callC KX G.T.g G.T.b G.T.builtins G.T.nolimit hg hobj hints (Nat.le_trans hlen hn2) hFk hb (nl a) (fun H hO hS => law_sp nl hS (hM ns hlen)) fun H e s' z => ?_
  obtain ⟨_, _, _, _, _, _, _, _, _, _, _, _, _, f⟩ := z
end DV

/-! DV32: str() of lists and tuples of plain data, where no repr is under way. -/
namespace DV
open PySem PySem.Spec PyProof.Rows L2 RZ
def strD : List D → Option D
  | [.tup ds] => if okD 16 (.tup ds) = true ∧ (py (.tup ds)).showable = true ∧ (py (.tup ds)).hasDict = false ∧ (py (.tup ds)).shown.length ≤ sizeLine then some (.str (py (.tup ds)).shown) else none
  | [.lst ds] => if okD 16 (.lst ds) = true ∧ (py (.lst ds)).showable = true ∧ (py (.lst ds)).hasDict = false ∧ (py (.lst ds)).shown.length ≤ sizeLine then some (.str (py (.lst ds)).shown) else none
  | _ => none
def rStrD (K : PySem.W.Frag) : List V → Hp → VK → Prop := fun vs H Q => ∃ (a : Addr) (d : PyData), vs = [V.ref a] ∧ Dp K H (.ref a) d ∧ d.showable = true ∧ d.hasDict = false ∧ d.depth ≤ 16 ∧ d.shown.length ≤ sizeLine ∧ Q (.str d.shown) H
theorem cr_str {X : Cx} (hg : X.A.guards = some []) (hu : X.A.units + 65 < cLine) : CallR X (.type "str") (rStrD X.K) := by
  intro pins s σ H vs us Q I r h
  obtain ⟨a, d, rfl, dp, h1, h2, h3, h4, q⟩ := h
  rw [Vals.ref1 r]
  obtain ⟨as, ra⟩ := Dp.reads I d _ _ dp rfl
  exact str_of_reads ra h1 (fun z => by rw [h2] at z; cases z) hg (by omega) (fun _ _ e => e) (fun h' u tk hk => ⟨.str d.shown, H, I.kept (t' := tk) hk, ⟨u, rfl⟩, q⟩) h4
theorem cd_str {K : PySem.W.Frag} : CallD (rStrD K) strD := by
  intro H vs ds d Q rl e fin
  unfold strD at e
  split at e
  · rename_i es
    split at e <;> cases e
    rename_i c
    cases rl with
    | cons r1 r2 =>
      cases r2
      have dep := (okD_lay 16 _ c.1).2
      have dp := Rep.dp (K := K) 16 _ _ r1 c.1
      cases r1 with
      | tup g rr => exact ⟨_, _, rfl, dp, c.2.1, c.2.2.1, dep, c.2.2.2, fin _ fun G => .str _⟩
  · rename_i es
    split at e <;> cases e
    rename_i c
    cases rl with
    | cons r1 r2 =>
      cases r2
      have dep := (okD_lay 16 _ c.1).2
      have dp := Rep.dp (K := K) 16 _ _ r1 c.1
      cases r1 with
      | lst g rr => exact ⟨_, _, rfl, dp, c.2.1, c.2.2.1, dep, c.2.2.2, fin _ fun G => .str _⟩
  · cases e
/-! ### how long a text is -/
theorem shownAll_map : ∀ ds : List D, PyData.shownAll (pyL ds) = ds.map fun d => (py d).shown
  | [] => by simp [pyL, PyData.shownAll]
  | d :: ds => by simp [pyL, PyData.shownAll, shownAll_map ds]
theorem showableAll_map : ∀ {ds : List D}, (∀ d ∈ ds, (py d).showable = true) → PyData.showableAll (pyL ds) = true
  | [], _ => by simp [pyL, PyData.showableAll]
  | d :: ds, h => by simp [pyL, PyData.showableAll, h d List.mem_cons_self, showableAll_map fun x hx => h x (List.mem_cons_of_mem _ hx)]
theorem piled_le {B : Nat} : ∀ {ts : List Str}, (∀ t ∈ ts, t.length ≤ B) → piled ts ≤ (B + 2) * ts.length
  | [], _ => by simp [piled]
  | t :: ts, h => by
    have h1 := h t List.mem_cons_self
    have h2 := piled_le fun x hx => h x (List.mem_cons_of_mem t hx)
    rw [piled_cons, List.length_cons, Nat.mul_succ]
    omega
theorem tupleText_le {B : Nat} {ts : List Str} (h : ∀ t ∈ ts, t.length ≤ B) : (tupleText ts).length ≤ (B + 2) * ts.length + 3 := by
  have h1 := piled_le h
  unfold tupleText
  rw [strLen_append, strLen_append]
  have e1 : ((("(" : String) : Str)).length = 1 := rfl
  have e2 : (((if ts.length == 1 then ",)" else ")" : String) : Str)).length ≤ 2 := by split <;> decide
  by_cases z : ts = []
  · subst z
    have e3 : (Str.join ", " []).length = 0 := rfl
    rw [e3]; omega
  · have := join_length_add ts z
    omega
theorem listText_le {B : Nat} {ts : List Str} (h : ∀ t ∈ ts, t.length ≤ B) : (listText ts).length ≤ (B + 2) * ts.length + 3 := by
  have h1 := piled_le h
  unfold listText
  rw [strLen_append]
  have e1 : ((("]" : String) : Str)).length = 1 := rfl
  have e2 : ((("[" : String) : Str)).length = 1 := rfl
  cases ts with
  | nil => show ((("[" : String) : Str)).length + _ ≤ _; omega
  | cons t ts =>
    show (textFrom 1 (("[" : Str) ++ (if 0 > 0 then ", " else "" : String) ++ t) ts).length + _ ≤ _
    rw [textFrom_length_pos _ _ _ (by decide), strLen_append, strLen_append]
    have e3 : (((if 0 > 0 then ", " else "" : String) : Str)).length = 0 := rfl
    rw [piled_cons] at h1
    omega
/-- plain data with a text of at most B -/
structure Shw (n B : Nat) (d : D) : Prop where
  ok : okD n d = true
  sh : (py d).showable = true
  ln : (py d).shown.length ≤ B
theorem Shw.int {n : Nat} {i : Int} (h : i.natAbs < 10 ^ 500) : Shw n 501 (.int i) where
  ok := by cases n <;> rfl
  sh := by
    show decide (i.natAbs.log2 < 1920) = true
    rw [decide_eq_true_eq]
    by_cases z : i.natAbs = 0
    · rw [z]; decide
    · exact (Nat.log2_lt z).mpr (Nat.lt_trans h (by decide +kernel))
  ln := by
    have e := int_text_length_le10 (k := 500) (by decide) h
    show (Str.ofString (toString i)).length ≤ 501
    rw [PySem.ofString_length]; exact e
theorem Shw.tup {n B k : Nat} {ds : List D} (h : ∀ d ∈ ds, Shw n B d) (hk : ds.length ≤ k) : Shw (n + 1) ((B + 2) * k + 3) (.tup ds) where
  ok := by
    show okL n ds = true
    exact okL_all fun d hd => (h d hd).ok
  sh := by
    show (PyData.tuple (pyL ds)).showable = true
    rw [PyData.showable]
    exact showableAll_map fun d hd => (h d hd).sh
  ln := by
    show (PyData.tuple (pyL ds)).shown.length ≤ _
    rw [PyData.shown, shownAll_map]
    refine Nat.le_trans (tupleText_le (B := B) fun t ht => ?_) ?_
    · obtain ⟨d, hd, rfl⟩ := List.mem_map.mp ht
      exact (h d hd).ln
    · rw [List.length_map]
      exact Nat.add_le_add_right (Nat.mul_le_mul_left _ hk) _
theorem Shw.lst {n B k : Nat} {ds : List D} (h : ∀ d ∈ ds, Shw n B d) (hk : ds.length ≤ k) : Shw (n + 1) ((B + 2) * k + 3) (.lst ds) where
  ok := by
    show okL n ds = true
    exact okL_all fun d hd => (h d hd).ok
  sh := by
    show (PyData.list (pyL ds)).showable = true
    rw [PyData.showable]
    exact showableAll_map fun d hd => (h d hd).sh
  ln := by
    show (PyData.list (pyL ds)).shown.length ≤ _
    rw [PyData.shown, shownAll_map]
    refine Nat.le_trans (listText_le (B := B) fun t ht => ?_) ?_
    · obtain ⟨d, hd, rfl⟩ := List.mem_map.mp ht
      exact (h d hd).ln
    · rw [List.length_map]
      exact Nat.add_le_add_right (Nat.mul_le_mul_left _ hk) _
theorem Shw.mono {n B B' : Nat} {d : D} (h : Shw n B d) (hb : B ≤ B') : Shw n B' d := ⟨h.ok, h.sh, Nat.le_trans h.ln hb⟩
theorem Shw.str_lst {B : Nat} {ds : List D} (h : Shw 16 B (.lst ds)) (hb : B ≤ 16777216) : ∃ x, strD [.lst ds] = some (.str x) := by
  refine ⟨(py (.lst ds)).shown, if_pos ⟨h.ok, h.sh, PyData.hasDict_of_canLay _ (okD_lay 16 _ h.ok).1, ?_⟩⟩
  have := h.ln
  rw [sizeLine_eq]; omega
/-! ### texts compared -/
def neS : D → D → Option Bool
  | .str x, .str y => some (!decide (x = y))
  | a, b => neD a b
theorem cz_neS {K : PySem.W.Frag} : Cmp2 (fun x y H Q => rNe x y H Q ∨ rNeD K x y H Q) neS := by
  intro H v w dx dy b Q rx ry h q
  unfold neS at h
  split at h
  · cases h
    cases rx
    cases ry
    refine .inl ⟨rfl, ?_⟩
    rename_i x y
    have e : decide (V.str x = V.str y) = decide (x = y) := by
      rw [Bool.eq_iff_iff]; simp
    rw [e]; exact q
  · exact .inr (cz_ne H v w dx dy b Q rx ry h q)
@[simp] theorem v_neS {x : Str} : neS (.str x) (.str x) = some false := by
  show some (!decide (x = x)) = _
  simp
end DV

/-! DV33: a display of one pair, its key a tuple. -/
namespace DV
open PySem PySem.Spec PyProof.Rows L2 RZ
def tDispT (tk tv : TE) : TE := fun σ H Q => ∀ p, H p = none → tk σ (upd H p (.dT [])) fun x H1 => tv σ H1 fun y H2 => ∃ (b : Addr) (ks : List Key), x = .ref b ∧ H2 p = some (.dT []) ∧ H2 b = some (.tup (ks.map kV)) ∧ Q (.ref p) (upd H2 p (.dT [(ks, y)]))
section
variable {X : Cx} {k v : Expr} {tk tv : TE} {pos : Pos}
theorem pe_dispT (hu : X.A.units + 1 < cLine) (hk : PE X k tk) (hv : PE X v tv) : PE X (.Dict [some k] [v] pos) (tDispT tk tv) := by
  refine ⟨fun pins s σ H Q I q => ?_⟩
  have none0 := I.hok.fresh (Nat.le_refl s.heap.objs.size)
  have I1 := I.laid (a := s.heap.objs.size) (o := .dT []) (h' := s.heap.push { cls := .type "dict", data := .dict #[] }) (t' := s.toks) (fun _ _ e => Heap.get?_push_of_some _ e) (Nat.le_refl _) (dt_empty s.heap I.big)
  refine wpAny_Dict_any rfl rfl (by simp) (by simp) ?_
  refine pairTrees_cons_walk (thn (hk.run pins _ σ _ _ I1 (q _ none0)) fun u s1 ⟨x, H1, J1, rx, q1⟩ => thn (hv.run pins s1 σ H1 _ J1 q1) fun w2 s2 ⟨y, H2, J2, ry, q2⟩ => pairTrees_nil_walk ?_)
  obtain ⟨b, ks, rfl, e1, e2, q3⟩ := q2
  cases rx
  obtain ⟨z, hd, xs, rel, dd⟩ := dt_of J2.hok e1
  have hx : xs = [] := by
    have := Paired.length rel
    exact List.length_eq_zero_iff.mp this.symm
  subst hx
  unfold storeAll
  rw [List.forIn_cons]
  refine wpAny_bind (wpAny_bind (wpAny_dictSet_heap (hsz := Nat.zero_le _) (knd := tupleKind (mixKind X.prog X.w)) (by exact (show X.A.units < cLine by omega)) (key_of J2.hok e2) dd fun h' dd' same => wpAny_pure ?_))
  show wpAny _ _ (forIn [] _ _) _ _ _
  rw [List.forIn_nil]
  refine wpAny_pure ⟨.ref s.heap.objs.size, upd H2 s.heap.objs.size (.dT [(ks, y)]), ?_, rfl, q3⟩
  obtain ⟨o, es, ep, ho, h2, h3, h4, _, h5⟩ := dd'
  refine d_write J2 (by rw [e1]; exact True.intro) same ⟨o, ho⟩ ⟨Nat.le_trans (by decide : 1 ≤ 64) (by rw [sizeLine_eq]; decide), hd, _, (rel.put ks e2 ry).keeps fun c ys ec => ?_, o, es, ep, ho, h2, h3, h4, h5⟩
  rw [upd_ne (ne_of ec e1 (fun z => nomatch z))]
  exact ec
end
namespace S
/-- {k: v}, k a tuple -/
def disp (fk fv : SE) : SF := fun η => (fk η).bind fun kd η1 => (fv η1).bind fun d η2 => match kd with
  | .tup ks => match keysD ks with
    | some k => .ok (1, .dT [(k, d)]) η2
    | none => .bad
  | _ => .bad
end S
section
variable {X : Cx} {L : Lents} {W : WX} {k v : Expr} {fk fv : SE} {pos : Pos}
theorem jf_disp (hu : X.A.units + 1 < cLine) (hk : PE X k (tE X.K L W fk)) (hv : PE X v (tE X.K L W fv)) : PE X (.Dict [some k] [v] pos) (tF X.K L W (S.disp fk fv)) := by
  refine PE.imp (pe_dispT hu hk hv) fun σ H Q ⟨G, η, Fs, R, q⟩ p hp => ?_
  have gp := R.sub.free hp
  have nf := R.noFoot hp
  have R0 : Rel L G η σ (upd H p (.dT [])) Fs := R.updN gp nf
  have E0 : Ext G H Fs G (upd H p (.dT [])) Fs := (New.own (o := .dT []) R.sub hp).ext
  unfold S.disp at q
  refine ⟨G, η, Fs, R0, ?_⟩
  cases e1 : fk η with
  | bad => rw [e1] at q; exact q.elim
  | exc c η1 => rw [e1] at q; exact fun G1 H1 Fs1 R1 E1 => q G1 H1 Fs1 R1 (E0.trans E1)
  | ok kd η1 =>
    rw [e1] at q
    intro G1 H1 Fs1 R1 E1 x rx
    refine ⟨G1, η1, Fs1, R1, ?_⟩
    simp only [bind_ok] at q
    cases e2 : fv η1 with
    | bad => rw [e2] at q; exact q.elim
    | exc c η2 => rw [e2] at q; exact fun G2 H2 Fs2 R2 E2 => q G2 H2 Fs2 R2 (E0.trans (E1.trans E2))
    | ok d η2 =>
      rw [e2] at q
      simp only [bind_ok] at q
      intro G2 H2 Fs2 R2 E2 y ry
      have E12 := E1.trans E2
      match kd, rx, q with
      | .tup ks, .tup (a := b) (xs := xs) g rl, q =>
        simp only at q
        cases e : keysD ks with
        | none => simp only [e] at q; exact q.elim
        | some key =>
          simp only [e] at q
          have hx := keys_rep rl e
          subst hx
          have hp2 : H2 p = some (.dT []) := E12.h p _ upd_same nf
          have gp2 : G2 p = none := by
            cases z : G2 p with
            | none => rfl
            | some u =>
              rcases E12.n p (by rw [z]; exact fun w => nomatch w) with w | w | w
              · exact absurd gp w
              · exact absurd w nf
              · rw [upd_same] at w; exact w.elim
          have nf2 : ¬ foot Fs2 p := fun w => by
            rcases E12.f p w with w | w
            · exact nf w
            · rw [upd_same] at w; cases w
          refine ⟨b, key, rfl, hp2, R2.sub.tp _ _ (E2.g _ _ g), ?_⟩
          have ap : Apart G2 (upd H2 p (.dT [(key, y)])) Fs2 1 (.ref p) (.dT [(key, d)]) [p] := ⟨⟨p, [(key, y)], [], rfl, upd_same, rfl, rfl, .cons (F := []) (Fs := []) ⟨ry, rfl⟩ .nil⟩, by simp, fun a ha => by rw [List.mem_singleton.mp ha]; exact gp2, fun a ha => by rw [List.mem_singleton.mp ha]; exact nf2⟩
          exact q G2 (upd H2 p (.dT [(key, y)])) Fs2 (R2.updN gp2 nf2) ((E0.trans E12).updN hp) (.ref p) [p] ap fun a ha => .inr (by rw [List.mem_singleton.mp ha]; exact hp)
@[simp] theorem v_disp {η : Env} : S.disp fk fv η = (fk η).bind fun kd η1 => (fv η1).bind fun d η2 => (match kd with
  | .tup ks => (match keysD ks with
    | some k => Out.ok (1, D.dT [(k, d)]) η2
    | none => .bad)
  | _ => .bad : Out (Nat × D)) := rfl
end
end DV

/-! DV34: sorted(d.items()), d with tuples as keys and whole numbers as values. -/
namespace DV
open PySem PySem.Spec PyProof.Rows L2 RZ
open L2.DX (itemsO takeT pget)
open PySem.W (EachIs dataLe)
def pairT (e : List Key × Int) : D := .tup [keyT e.1, .int e.2]
def rSortIt2 : List V → Hp → VK → Prop := fun vs H Q => ∃ (p a : Addr) (ks : List (List Key × Int)), vs = [V.ref p] ∧ H p = some (itemsO p a) ∧ H a = some (.dT (ks.map fun e => (e.1, V.int e.2))) ∧ sortOk (ks.map pairT) = true ∧
  ∀ (H' : Hp) (l : Addr) (bs : List ((List Key × Int) × Addr)), bs.map (·.1) = ks → (∀ b o, H b = some o → H' b = some o) → H l = none → H' l = some (.lst ((bs.mergeSort fun x y => leDat (pairT x.1) (pairT y.1)).map fun b => V.ref b.2)) →
    (∀ b ∈ bs, H b.2 = none ∧ b.2 ≠ l ∧ ∃ q, H q = some (.tup (b.1.1.map kV)) ∧ H' b.2 = some (.tup [.ref q, .int b.1.2])) → Q (.ref l) H'
section
variable {X : Cx}
theorem cr_sortIt2 (hc : X.calm = true) (hu : X.A.units + 65 < cLine) : CallR X (.builtin "sorted") rSortIt2 := by
  intro pins s σ H xs us Q I r h
  obtain ⟨p, a, ks, rfl, hp, ha, hso, q⟩ := h
  obtain rfl := Vals.ref1 r
  have view : s.heap.IsItemsView p a := (show ObjOk X.prog X.w H s.heap p (itemsO p a) from I.hok p _ hp).1
  obtain ⟨z, hd, xs', rel, o, es, ep, ho, hx, hdat, hes, his, hn⟩ := dt_of I.hok ha
  have l1 : ks.length = xs'.length := by
    have e := Paired.length rel
    rw [List.length_map] at e; exact e
  have l2 : es.size = xs'.length := size_of_entries hes
  rw [List.length_map] at z
  refine DT.sortedI (es := es) (ep := ep) (I.ok.hd hc) view ⟨o, ho, hx, hdat⟩ (by omega) fun h' tk as hk hlt hl hG => ?_
  have lak : as.length = ks.length := by omega
  have nd : as.Nodup := List.Pairwise.imp (fun h => Nat.ne_of_lt h) hG.rise
  have m1 : (ks.zip as).map (·.1) = ks := List.map_fst_zip (by omega)
  have m2 : (ks.zip as).map (·.2) = as := List.map_snd_zip (by omega)
  generalize hbs : ks.zip as = bs at m1 m2
  have lb : bs.length = ks.length := by rw [← m1, List.length_map]
  -- the pairs that were made
  have pr : ∀ b ∈ bs, ∃ (kq : Addr) (t : Tok), H kq = some (.tup (b.1.1.map kV)) ∧ h'.get? b.2 = some { cls := .type "tuple", data := .seq #[Value.ref kq, Value.int b.1.2 t] } := by
    intro b hb
    obtain ⟨j, hj⟩ := List.mem_iff_getElem?.mp hb
    rw [← hbs] at hj
    obtain ⟨k1, k2⟩ := List.getElem?_zip_eq_some.mp hj
    obtain ⟨en, he, hg⟩ := hG.pairs j b.2 k2
    rw [entry_at hes j] at he
    cases hxj : xs'[j]? with
    | none => rw [hxj] at he; exact nomatch (show (none : Option DictEntry) = some en from he)
    | some x =>
      rw [hxj] at he
      have een : entryOfKey (tupleKind (mixKind X.prog X.w)) x = en := Option.some.inj he
      obtain ⟨e0, he0, r1, r2, r3⟩ := pget rel hxj
      rw [List.getElem?_map, k1] at he0
      have ee : ((b.1.1, V.int b.1.2) : List Key × V) = e0 := Option.some.inj he0
      rw [← ee] at r2 r3
      obtain ⟨t, r3⟩ := r3
      refine ⟨x.2.1, t, r2, ?_⟩
      rw [hg, ← een, ← r3]
      rfl
  have above : ∀ b ∈ bs, s.heap.objs.size < b.2 := fun b hb => hG.above b.2 (by rw [← m2]; exact List.mem_map_of_mem hb)
  have I1 : Inv X pins σ H { s with heap := h', toks := tk } := I.kept hk
  have cover : ∀ c ∈ as, ∃ b ∈ bs, b.2 = c := fun c hc => by
    rw [← m2] at hc
    obtain ⟨b, hb, e⟩ := List.mem_map.mp hc
    exact ⟨b, hb, e⟩
  obtain ⟨H2, I2, grow, took⟩ := takeT (P := fun c vs => ∀ b ∈ bs, b.2 = c → ∃ kq, H kq = some (.tup (b.1.1.map kV)) ∧ vs = [.ref kq, .int b.1.2]) I as H I1 nd fun c hc => by
    obtain ⟨b, hb, rfl⟩ := cover c hc
    obtain ⟨kq, t, hq, hg⟩ := pr b hb
    refine ⟨Nat.le_of_lt (above b hb), I.hok.fresh (Nat.le_of_lt (above b hb)), [.ref kq, .int b.1.2], fun b' hb' e => ?_, fun H3 => ⟨by show 2 ≤ sizeLine; rw [sizeLine_eq]; decide, [Value.ref kq, Value.int b.1.2 t], .cons rfl (.cons ⟨t, rfl⟩ .nil), ⟨_, hg, rfl, 0, rfl⟩⟩⟩
    have same : b' = b := by
      obtain ⟨i, hi⟩ := List.mem_iff_getElem?.mp hb'
      obtain ⟨j, hj⟩ := List.mem_iff_getElem?.mp hb
      rw [← hbs] at hi hj
      have i2 := (List.getElem?_zip_eq_some.mp hi).2
      have j2 := (List.getElem?_zip_eq_some.mp hj).2
      rw [e] at i2
      have eij : i = j := (List.getElem?_inj (List.getElem?_eq_some_iff.mp i2).1 nd).mp (i2.trans j2.symm)
      subst eij
      exact Option.some.inj (hi.symm.trans hj)
    subst same
    exact ⟨kq, hq, rfl⟩
  have tp : ∀ b ∈ bs, ∃ kq, H kq = some (.tup (b.1.1.map kV)) ∧ H2 b.2 = some (.tup [.ref kq, .int b.1.2]) := fun b hb => by
    obtain ⟨vs, hP, hH⟩ := took b.2 (by rw [← m2]; exact List.mem_map_of_mem hb)
    obtain ⟨kq, hq, e⟩ := hP b hb rfl
    exact ⟨kq, hq, by rw [hH, e]⟩
  -- the sort
  have ho2 : sortOk (bs.map fun b => pairT b.1) = true := by
    have : (bs.map fun b => pairT b.1) = ks.map pairT := by rw [← m1, List.map_map]; rfl
    rw [this]; exact hso
  obtain ⟨p1, p2, p3⟩ := sort_premises ho2
  have rd : ∀ b ∈ bs, ∃ rs, Reads h' (.ref b.2) (py (pairT b.1)) rs := fun b hb => by
    obtain ⟨kq, hq, e⟩ := tp b hb
    have rp : Rep H2 (.ref b.2) (pairT b.1) := .tup e (.cons (.tup (grow _ _ hq) (keyVs_rep b.1.1)) (.cons (.int _) .nil))
    have ok : okD 16 (pairT b.1) = true := by
      unfold sortOk at ho2
      rw [Bool.and_eq_true] at ho2
      exact List.all_eq_true.mp ho2.2 _ (List.mem_map_of_mem hb)
    exact Dp.reads I2 _ _ _ (rp.dp 16 _ _ ok) rfl
  have hoL : (h'.push { cls := .type "list", data := .seq (as.map Value.ref).toArray }).get? h'.objs.size = some (seqObj "list" (as.map Value.ref).toArray 0) := Heap.get?_push_size _ rfl
  have ea : as.map Value.ref = bs.map fun b => Value.ref b.2 := by rw [← m2, List.map_map]; rfl
  have e1 : EachIs (fun u (b : (List Key × Int) × Addr) => u = Value.ref b.2) (as.map Value.ref) bs := by
    rw [ea]
    have gen : ∀ l : List ((List Key × Int) × Addr), EachIs (fun u (b : (List Key × Int) × Addr) => u = Value.ref b.2) (l.map fun b => Value.ref b.2) l := fun l => by
      induction l with
      | nil => exact .nil
      | cons b l ih => exact .cons rfl ih
    exact gen bs
  have e2 : EachIs (fun u (b : (List Key × Int) × Addr) => ∃ rs, Reads (h'.push { cls := .type "list", data := .seq (as.map Value.ref).toArray }) u (py (pairT b.1)) rs ∧ h'.objs.size ∉ rs) (as.map Value.ref) bs := by
    have : ∀ (l : List ((List Key × Int) × Addr)) (us : List Value), (∀ b ∈ l, b ∈ bs) → EachIs (fun u (b : (List Key × Int) × Addr) => u = Value.ref b.2) us l → EachIs (fun u (b : (List Key × Int) × Addr) => ∃ rs, Reads (h'.push { cls := .type "list", data := .seq (as.map Value.ref).toArray }) u (py (pairT b.1)) rs ∧ h'.objs.size ∉ rs) us l := by
      intro l us hl e
      induction e with
      | nil => exact .nil
      | @cons u b us l hu t ih =>
        refine .cons ?_ (ih fun x hx => hl x (List.mem_cons_of_mem _ hx))
        obtain ⟨rs, ra⟩ := rd b (hl b List.mem_cons_self)
        subst hu
        refine ⟨rs, PyProof.Rows.Reads.keeps (fun _ _ q => Heap.get?_push_of_some _ q) ra, fun hm => ?_⟩
        obtain ⟨ob, hob⟩ := PyProof.On.reads_mem_get ra _ hm
        exact absurd (Heap.lt_size hob) (Nat.lt_irrefl _)
    exact this bs _ (fun _ h => h) e1
  refine PySem.W.list_sort_data (A := X.A.in1) (s := { s with heap := h'.push { cls := .type "list", data := .seq (as.map Value.ref).toArray }, toks := tk }) hoL e1 e2 p1 p2 (by omega) (fun b hb => ?_) fun out hout ho => ?_
  · have := p3 b hb
    show X.A.units + 1 + 1 + _ < _
    omega
  · obtain ⟨e', he'⟩ := PyProof.Rows.sortedHeap_at (vs := as.map Value.ref) (out := List.toArray out) hoL
    have hle : (fun x y : (List Key × Int) × Addr => leDat (pairT x.1) (pairT y.1)) = dataLe false fun b : (List Key × Int) × Addr => py (pairT b.1) := by
      funext x y; rfl
    have rv : Vals ((bs.mergeSort fun x y => leDat (pairT x.1) (pairT y.1)).map fun b => V.ref b.2) out := by
      rw [hle]
      clear hout he'
      generalize (bs.mergeSort (dataLe false fun b : (List Key × Int) × Addr => py (pairT b.1))) = l at ho
      induction ho with
      | nil => exact .nil
      | cons h t ih => exact .cons h ih
    have fr := I2.hok.fresh (Nat.le_refl h'.objs.size)
    have kept : ∀ b o, h'.get? b = some o → (sortedHeap (h'.push { cls := .type "list", data := .seq (as.map Value.ref).toArray }) h'.objs.size (as.map Value.ref) (List.toArray out)).get? b = some o := fun b o e => by
      have hb : b < h'.objs.size := Heap.lt_size e
      rw [PyProof.Rows.sortedHeap_old (Nat.ne_of_lt hb) (by rw [size_push']; exact Nat.lt_succ_of_lt hb)]
      exact Heap.get?_push_of_some _ e
    refine ⟨.ref h'.objs.size, upd H2 h'.objs.size (.lst ((bs.mergeSort fun x y => leDat (pairT x.1) (pairT y.1)).map fun b => V.ref b.2)), I2.laid (t' := tk) (fun b u e => kept b u e) (Nat.le_refl _) ⟨?_, out, e', rv, he'⟩, rfl, ?_⟩
    · rw [List.length_map, (List.mergeSort_perm bs _).length_eq, lb]; omega
    · refine q _ _ bs m1 (fun b o e => ?_) (I.hok.fresh (Nat.le_of_lt hlt)) upd_same fun b hb => ?_
      · rw [upd_ne (fun w => by rw [w, I.hok.fresh (Nat.le_of_lt hlt)] at e; cases e)]
        exact grow b o e
      · obtain ⟨kq, hq, e⟩ := tp b hb
        have ne : b.2 ≠ h'.objs.size := fun w => by rw [w] at e; rw [fr] at e; cases e
        exact ⟨I.hok.fresh (Nat.le_of_lt (above b hb)), ne, kq, hq, by rw [upd_ne ne]; exact e⟩
end
end DV
namespace DV
open PySem PySem.Spec PyProof.Rows L2 RZ
open L2.DX (itemsO mt_itemsT rItemsT)
/-- all tuples that stand come to be known -/
def tupG (G H : Hp) : Hp := fun c => match H c with
  | some (.tup xs) => some (.tup xs)
  | _ => G c
theorem tupG_in {G H : Hp} {c : Addr} {xs : List V} (h : H c = some (.tup xs)) : tupG G H c = some (.tup xs) := by unfold tupG; rw [h]
theorem tupG_out {G H : Hp} {c : Addr} (h : ∀ xs, H c ≠ some (.tup xs)) : tupG G H c = G c := by
  unfold tupG
  split
  · rename_i xs e; exact absurd e (h xs)
  · rfl
theorem tupG_cases (G H : Hp) (c : Addr) : (∃ xs, H c = some (.tup xs) ∧ tupG G H c = some (.tup xs)) ∨ ((∀ xs, H c ≠ some (.tup xs)) ∧ tupG G H c = G c) := by
  by_cases h : ∃ xs, H c = some (.tup xs)
  · obtain ⟨xs, h⟩ := h
    exact .inl ⟨xs, h, tupG_in h⟩
  · have h' : ∀ xs, H c ≠ some (.tup xs) := fun xs e => h ⟨xs, e⟩
    exact .inr ⟨h', tupG_out h'⟩
theorem tupG_le {G H : Hp} (s : Sub G H) : Le G (tupG G H) := fun c o z => by
  rcases tupG_cases G H c with ⟨xs, h1, h2⟩ | ⟨_, h2⟩
  · rw [h2]
    cases o with
    | tup ys => rw [← h1]; exact s.tp c ys z
    | frz o' u =>
      have y := s.fz c o' u z
      rw [h1] at y; cases y
    | _ =>
      rcases s.rd c _ (.inl z) with y | ⟨o', y⟩
      · rw [h1] at y; cases y
      · rw [h1] at y; cases y
  · rw [h2]; exact z
theorem tupG_sub {G H : Hp} (s : Sub G H) : Sub (tupG G H) H where
  rd := fun a u r => by
    rcases tupG_cases G H a with ⟨xs, h1, h2⟩ | ⟨_, h2⟩
    · rcases r with r | ⟨o, r⟩
      · rw [h2] at r; cases r; exact .inl h1
      · rw [h2] at r; cases r
    · refine s.rd a u ?_
      rcases r with r | ⟨o, r⟩
      · rw [h2] at r; exact .inl r
      · rw [h2] at r; exact .inr ⟨o, r⟩
  tp := fun a xs r => by
    rcases tupG_cases G H a with ⟨ys, h1, h2⟩ | ⟨_, h2⟩
    · rw [h2] at r; rw [h1]; exact r
    · rw [h2] at r; exact s.tp a xs r
  fz := fun a o u r => by
    rcases tupG_cases G H a with ⟨ys, h1, h2⟩ | ⟨_, h2⟩
    · rw [h2] at r; cases r
    · rw [h2] at r; exact s.fz a o u r
def intKV : List (List Key × D) → Option (List (List Key × Int))
  | [] => some []
  | (k, .int i) :: r => (intKV r).map ((k, i) :: ·)
  | _ => none
theorem intKV_own {G H : Hp} : ∀ {kvs : List (List Key × D)} {vs : List (List Key × V)} {ks : List (List Key × Int)} {Fs : List Addr}, intKV kvs = some ks → vs.map (·.1) = kvs.map (·.1) → OwnL (Own G H 0) (vs.map (·.2)) (kvs.map (·.2)) Fs → vs = ks.map fun e => (e.1, V.int e.2)
  | [], [], _, _, e, _, _ => by cases e; rfl
  | [], _ :: _, _, _, _, e, _ => by cases e
  | _ :: _, [], _, _, _, e, _ => by cases e
  | (k, d) :: kvs, (k', v) :: vs, ks, Fs, e, e1, o => by
    cases d with
    | int i =>
      unfold intKV at e
      cases q : intKV kvs with
      | none => rw [q] at e; cases e
      | some r =>
        rw [q] at e
        cases e
        simp only [List.map_cons, List.cons.injEq] at e1 o
        cases o with
        | cons h t =>
          obtain ⟨rp, _⟩ := h
          cases rp
          rw [intKV_own q e1.2 t, e1.1]
          rfl
    | _ => unfold intKV at e; cases e
namespace S
def sortIt (f : SF) : SF := fun η => (f η).bind fun p η1 => match p with
  | (1, .dT kvs) => match intKV kvs with
    | some ks => if sortOk (ks.map pairT) = true then .ok (1, .lst ((ks.map pairT).mergeSort leDat)) η1 else .bad
    | none => .bad
  | _ => .bad
end S
section
variable {X : Cx} {L : Lents} {W : WX} {o : Expr} {f : SF} {p1 apos cpos pos : Pos}
theorem jf_sortIt (hc : X.calm = true) (hu : X.A.units + 65 < cLine) (hg : Gl X "sorted") (hm : X.mg "sorted" = none) (ho : PE X o (tF X.K L W f)) (hbase : attributeBase o "items" X.env (eval o X.env) = eval o X.env := by rfl) (hline : (apos.endLine == cpos.line) = true := by rfl)
    (he : starEach [.Call (.Attribute o "items" apos) [] [] cpos] X.env = (false, eval (.Call (.Attribute o "items" apos) [] [] cpos) X.env) :: starEach [] X.env := by rfl) :
    PE X (.Call (.Name "sorted" p1) [.Call (.Attribute o "items" apos) [] [] cpos] [] pos) (tF X.K L W (S.sortIt f)) := by
  refine PE.imp (pe_callB (cr_sortIt2 hc hu) hg hm (by decide +kernel) (pa_cons (pe_bm0 PySem.F.plainAttrs_dict PySem.F.slot_dict_items PySem.F.type_dict_items mt_itemsT ho hbase hline) pa_nil he) (by decide) (by decide) he (by rfl)) fun σ H Q ⟨G, η, Fs, R, q⟩ => ?_
  refine ⟨G, η, Fs, R, q.bind.mono fun p η1 G1 H1 Fs1 R1 E1 q1 v F ap sep => ?_⟩
  obtain ⟨k, d⟩ := p
  match k, d, q1, ap with
  | 1, .dT kvs, q1, ap =>
    simp only at q1
    cases e : intKV kvs with
    | none => simp only [e] at q1; exact q1.elim
    | some ks =>
      simp only [e] at q1
      split at q1
      · rename_i hso
        obtain ⟨a, vs, Fl, rfl, ha, hF, hk, ho'⟩ := ap.own
        have hvs := intKV_own e hk ho'
        subst hvs
        refine ⟨.inr (.inr (.inl ⟨rfl, .inr ⟨_, ha⟩⟩)), a, _, rfl, rfl, ha, fun pv hpv => ?_⟩
        refine ⟨pv, a, ks, rfl, upd_same, by rw [upd_ne (ne_of_none ha hpv)]; exact ha, hso, fun H' l bs m1 grow hl hL tp => ?_⟩
        have hl1 : H1 l = none := by
          by_cases w : l = pv
          · rw [w, upd_same] at hl; cases hl
          · rw [upd_ne w] at hl; exact hl
        have grow1 : Le H1 H' := fun b o z => grow b o (by rw [upd_ne (ne_of_none z hpv)]; exact z)
        have s2 : Sub G1 H' := R1.sub.trans grow1.sub
        have tup1 : ∀ b ∈ bs, H1 b.2 = none ∧ ∃ kq, H1 kq = some (.tup (b.1.1.map kV)) ∧ H' b.2 = some (.tup [.ref kq, .int b.1.2]) := fun b hb => by
          obtain ⟨t1, t2, kq, t3, t4⟩ := tp b hb
          refine ⟨?_, kq, ?_, t4⟩
          · by_cases w : b.2 = pv
            · rw [w, upd_same] at t1; cases t1
            · rw [upd_ne w] at t1; exact t1
          · by_cases w : kq = pv
            · rw [w, upd_same] at t3; cases t3
            · rw [upd_ne w] at t3; exact t3
        have N : New G1 H1 (tupG G1 H') H' := ⟨tupG_le s2, grow1, tupG_sub s2, fun c z => by
          rcases tupG_cases G1 H' c with ⟨xs, h1, h2⟩ | ⟨_, h2⟩
          · refine .inr ?_
            cases w : H1 c with
            | none => trivial
            | some o =>
              have := grow1 c o w
              rw [h1] at this
              cases this
              trivial
          · rw [h2] at z; exact .inl z⟩
        have gl : tupG G1 H' l = none := by
          rw [tupG_out fun xs z => by rw [hL] at z; cases z]
          exact R1.sub.free hl1
        have rl : ∀ zs : List ((List Key × Int) × Addr), (∀ b ∈ zs, b ∈ bs) → RepL (tupG G1 H') (zs.map fun b => V.ref b.2) (zs.map fun b => pairT b.1) := by
          intro zs
          induction zs with
          | nil => exact fun _ => .nil
          | cons b zs ih =>
            intro hz
            obtain ⟨_, kq, t3, t4⟩ := tup1 b (hz b List.mem_cons_self)
            exact .cons (.tup (tupG_in t4) (.cons (.tup (tupG_in (grow1 _ _ t3)) (keyVs_rep b.1.1)) (.cons (.int _) .nil))) (ih fun x hx => hz x (List.mem_cons_of_mem _ hx))
        have es : (ks.map pairT).mergeSort leDat = (bs.mergeSort fun x y => leDat (pairT x.1) (pairT y.1)).map fun b => pairT b.1 := by
          rw [List.map_mergeSort (s := leDat) (fun _ _ _ _ => rfl), ← m1, List.map_map]; rfl
        rw [es] at q1
        have ap2 : Apart (tupG G1 H') H' Fs1 1 (.ref l) (.lst ((bs.mergeSort fun x y => leDat (pairT x.1) (pairT y.1)).map fun b => pairT b.1)) [l] := ⟨⟨l, _, [], rfl, hL, rfl, OwnL.of0 (rl _ fun b hb => (List.mergeSort_perm _ _).mem_iff.mp hb)⟩, by simp, fun c hc => by rw [List.mem_singleton.mp hc]; exact gl, fun c hc => by rw [List.mem_singleton.mp hc]; exact R1.noFoot hl1⟩
        exact q1 (tupG G1 H') H' Fs1 (R1.new N) N.ext (.ref l) [l] ap2 fun c hc => .inr (by rw [List.mem_singleton.mp hc]; exact E1.noneOf hl1)
      · exact q1.elim
@[simp] theorem v_sortIt {η : Env} : S.sortIt f η = (f η).bind fun p η1 => (match p with
  | (1, .dT kvs) => (match intKV kvs with
    | some ks => if sortOk (ks.map pairT) = true then Out.ok (1, D.lst ((ks.map pairT).mergeSort leDat)) η1 else .bad
    | none => .bad)
  | _ => .bad : Out (Nat × D)) := rfl
end
end DV

/-! # d.get(k, x) -/
namespace DV
open PySem PySem.Spec PyProof.Rows L2 RZ
def dctQ : D → Option Unit
  | .dK _ => some ()
  | .dT _ => some ()
  | _ => none
/-- d.get(k, x): x is frozen -/
def dget2D (x y z : D) : Option (Nat × D) := (getD' x y).map fun o => (0, o.getD z)
namespace S
def dget2 (oa ob : Opd) (fd : SE) : SF := fun η => (oa.pre η).bind fun p η1 => match (oa.fin p η1).bind dctQ with
  | none => .bad
  | some _ => (ob.pre η1).bind fun q η2 => ((Opd.ex fd).pre η2).bind fun r η3 =>
    lift ((oa.fin p η3).bind fun x => (ob.fin q η3).bind fun y => r.bind fun z => dget2D x y z) η3
end S
section
variable {X : Cx} {L : Lents} {W : WX} {a e f : Expr} {apos cpos : Pos} {oa ob : Opd} {fd : SE}
theorem isD_bor {G H : Hp} {v : V} {d : D} (s : Sub G H) (b : Bor G H v d) {u : Unit} (h : dctQ d = some u) : ∃ a, v = .ref a ∧ IsD H a := by
  cases d <;> first | (cases h; done) | skip
  · obtain ⟨a, vs, rfl, h1, _⟩ := b.dK s; exact ⟨a, rfl, .inl ⟨vs, h1⟩⟩
  · obtain ⟨a, vs, rfl, h1, _⟩ := b.dT s; exact ⟨a, rfl, .inr ⟨vs, h1⟩⟩
theorem jf_dget2 (hu : X.A.units + 1 < cLine) (ha : PE X a (tO X.K L W oa)) (hk : PE X e (tO X.K L W ob)) (hd : PE X f (tE X.K L W fd)) (m : M2 X a "get" apos e f cpos) :
    PE X (.Call (.Attribute a "get" apos) [e, f] [] cpos) (tF X.K L W (S.dget2 oa ob fd)) := by
  refine PE.imp (pe_dget2 hu ha hk hd m) fun σ H Q ⟨G, η, Fs, R, q⟩ => ?_
  refine tO_use R q fun v p η1 G1 H1 Fs1 R1 E1 k1 q1 => ?_
  cases hx : oa.fin p η1 with
  | none => simp only [hx, Option.bind_none] at q1; exact q1.elim
  | some x0 =>
    cases hx2 : dctQ x0 with
    | none => simp only [hx, Option.bind_some, hx2] at q1; exact q1.elim
    | some u0 =>
      simp only [hx, Option.bind_some, hx2] at q1
      obtain ⟨a0, rfl, isd⟩ := isD_bor R1.sub (k1.bor R1 hx) hx2
      refine ⟨a0, rfl, isd, ?_⟩
      refine tO_use R1 q1 fun w p2 η2 G2 H2 Fs2 R2 E2 k2 q2 => ?_
      refine tO_use (o := .ex fd) R2 q2 fun z p3 η3 G3 H3 Fs3 R3 E3 k3 q3 => ?_
      obtain ⟨⟨k, d⟩, e', q4⟩ := q3.lift
      obtain ⟨dz, rfl, rz⟩ := k3
      cases hy : oa.fin p η3 with
      | none => rw [hy] at e'; cases e'
      | some x =>
        cases hz : ob.fin p2 η3 with
        | none => rw [hy, Option.bind_some, hz] at e'; cases e'
        | some y =>
          rw [hy, Option.bind_some, hz, Option.bind_some, Option.bind_some] at e'
          unfold dget2D at e'
          cases hg : getD' x y with
          | none => rw [hg] at e'; cases e'
          | some o =>
            rw [hg] at e'; cases e'
            obtain ⟨a1, ea, g⟩ := dget_rep R3.sub ((k1.mono (E2.trans E3).g.sub).bor R3 hy) ((k2.mono E3.g.sub).bor R3 hz) hg
            cases ea
            have fin : Fin2 G3 H3 0 (o.getD dz) Q := fin_tF (P := fun _ _ _ _ _ => True) R3 fun G' H' Fs' R' E' u F x o => q4 G' H' Fs' R' E' u F x fun a ha => .inr (((E1.trans E2).trans E3).noneOf (o a ha))
            cases o with
            | none => exact ⟨none, g, fin.same R3.sub rz⟩
            | some d => obtain ⟨u, g, r⟩ := g; exact ⟨some u, g, fin.same R3.sub r⟩
@[simp] theorem v_dget2 {η : Env} : S.dget2 oa ob fd η = (oa.pre η).bind fun p η1 => (match (oa.fin p η1).bind dctQ with
  | none => .bad
  | some _ => (ob.pre η1).bind fun q η2 => ((Opd.ex fd).pre η2).bind fun r η3 =>
    lift ((oa.fin p η3).bind fun x => (ob.fin q η3).bind fun y => r.bind fun z => dget2D x y z) η3 : Out (Nat × D)) := rfl
end
end DV

/-! # xs[::-1], xs a list -/
namespace DV
open PySem PySem.Spec PyProof.Rows L2 RZ
def revD : D → Option (Nat × D)
  | .lst ds => some (1, .lst ds.reverse)
  | _ => none
@[simp] theorem revD_lst {ds : List D} : revD (.lst ds) = some (1, .lst ds.reverse) := rfl
theorem repL_app {G : Hp} : ∀ {xs : List V} {ds : List D}, RepL G xs ds → ∀ {ys : List V} {es : List D}, RepL G ys es → RepL G (xs ++ ys) (ds ++ es)
  | _, _, .nil, _, _, h => h
  | _, _, .cons r t, _, _, h => .cons r (repL_app t h)
theorem repL_rev {G : Hp} : ∀ {xs : List V} {ds : List D}, RepL G xs ds → RepL G xs.reverse ds.reverse
  | _, _, .nil => .nil
  | _, _, .cons r t => by rw [List.reverse_cons, List.reverse_cons]; exact repL_app (repL_rev t) (.cons r .nil)
theorem gc_int {mg : Str → Option Value} {x : Str} {i : Int} (h : ∃ t, mg x = some (.int i t)) : ∃ u, mg x = some u ∧ RelV (V.int i) u := by
  obtain ⟨t, e⟩ := h; exact ⟨_, e, ⟨t, rfl⟩⟩
theorem gc_str {mg : Str → Option Value} {x : Str} {i : Str} (h : ∃ t, mg x = some (.str i t)) : ∃ u, mg x = some u ∧ RelV (V.str i) u := by
  obtain ⟨t, e⟩ := h; exact ⟨_, e, ⟨t, rfl⟩⟩
section
variable {X : Cx} {L : Lents} {W : WX} {a : Expr} {k : Nat} {p1 p2 p3 pos : Pos} {oa : Opd}
theorem jf_revL (ha : PE X a (tO X.K L W oa)) : PE X (.Subscript a (.Slice none none (some (.UnaryOp .USub (.Constant (.int 1) k p1) p2)) p3) pos) (tF X.K L W (S.un revD oa)) := by
  refine PE.imp (pe_revL ha) fun σ H Q ⟨G, η, Fs, R, q⟩ => ?_
  refine tO_use R q fun v p η1 G1 H1 Fs1 R1 E1 k1 q1 => ?_
  obtain ⟨⟨k, d⟩, e, q4⟩ := q1.lift
  cases hx : oa.fin p η1 with
  | none => rw [hx] at e; cases e
  | some x =>
    rw [hx, Option.bind_some] at e
    cases x <;> first | (cases e; done) | skip
    rename_i ds
    cases e
    obtain ⟨a, xs, rfl, h1, r1⟩ := (k1.bor R1 hx).lst R1.sub
    have fin : Fin2 G1 H1 1 (.lst ds.reverse) Q := fin_tF (P := fun _ _ _ _ _ => True) R1 fun G' H' Fs' R' E' w F y o => q4 G' H' Fs' R' E' w F y fun a ha => .inr (E1.noneOf (o a ha))
    exact ⟨a, xs, rfl, .inl h1, fun p hp => fin.lstN R1.sub hp (repL_rev r1)⟩
end
end DV

/-! DV37: > <= >= of tuples. -/
namespace DV
open PySem PySem.Spec PyProof.Rows L2
def ordX (f : PyData → PyData → Bool) (a b : D) : Option Bool := if okD 16 a = true ∧ okD 16 b = true ∧ PySem.W.alike (py a) (py b) = true then some (f (py a) (py b)) else none
def gtX : D → D → Option Bool
  | .int i, .int j => some (decide (j < i))
  | .tup xs, .tup ys => ordX (fun x y => PySem.W.dataLt y x) (.tup xs) (.tup ys)
  | _, _ => none
def leX : D → D → Option Bool
  | .int i, .int j => some (decide (i ≤ j))
  | .tup xs, .tup ys => ordX (fun x y => !PySem.W.dataLt y x) (.tup xs) (.tup ys)
  | _, _ => none
def geX : D → D → Option Bool
  | .int i, .int j => some (decide (j ≤ i))
  | .tup xs, .tup ys => ordX (fun x y => !PySem.W.dataLt x y) (.tup xs) (.tup ys)
  | _, _ => none
@[simp] theorem v_gtX {a b : Int} : gtX (.int a) (.int b) = some (decide (b < a)) := rfl
@[simp] theorem v_leX {a b : Int} : leX (.int a) (.int b) = some (decide (a ≤ b)) := rfl
@[simp] theorem v_geX {a b : Int} : geX (.int a) (.int b) = some (decide (b ≤ a)) := rfl
def rOrd (K : PySem.W.Frag) (f : PyData → PyData → Bool) : R2 := fun x y H Q => ∃ d e, Dp K H x d ∧ Dp K H y e ∧ SeqAt.shaped d = true ∧ PySem.W.alike d e = true ∧ d ≠ .none ∧ Q (.bl (f d e)) H
theorem room_min {A : Around} {d e : PyData} (sd : SeqAt.shaped d = true) (hu : A.units + 65 < cLine) : A.units + min d.depth e.depth < cLine := by
  unfold SeqAt.shaped at sd
  have := (Bool.and_eq_true_iff.mp sd).2
  have := of_decide_eq_true this
  have := Nat.min_le_left d.depth e.depth
  omega
section
variable {X : Cx}
theorem op_gtX (hu : X.A.units + 65 < cLine) : OpR X (compareOp .Gt) (fun x y H Q => rI0 (fun i j => .bl (decide (j < i))) x y H Q ∨ rOrd X.K (fun x y => PySem.W.dataLt y x) x y H Q) := by
  refine op_gt.or ?_
  intro pins s σ H x y v u Q I rx ry h
  obtain ⟨d, e, hd, he, sd, al, nn, q⟩ := h
  obtain ⟨as, r1⟩ := Dp.reads I d x v hd rx
  obtain ⟨bs, r2⟩ := Dp.reads I e y u he ry
  exact PySem.W.gt_data r1 r2 al nn (room_min sd hu) ⟨.bl _, H, I, rfl, q⟩
theorem op_leX (hu : X.A.units + 65 < cLine) : OpR X (compareOp .LtE) (fun x y H Q => rI0 (fun i j => .bl (decide (i ≤ j))) x y H Q ∨ rOrd X.K (fun x y => !PySem.W.dataLt y x) x y H Q) := by
  refine op_le.or ?_
  intro pins s σ H x y v u Q I rx ry h
  obtain ⟨d, e, hd, he, sd, al, nn, q⟩ := h
  obtain ⟨as, r1⟩ := Dp.reads I d x v hd rx
  obtain ⟨bs, r2⟩ := Dp.reads I e y u he ry
  exact PySem.W.le_data r1 r2 al nn (room_min sd hu) ⟨.bl _, H, I, rfl, q⟩
theorem op_geX (hu : X.A.units + 65 < cLine) : OpR X (compareOp .GtE) (fun x y H Q => rI0 (fun i j => .bl (decide (j ≤ i))) x y H Q ∨ rOrd X.K (fun x y => !PySem.W.dataLt x y) x y H Q) := by
  refine op_ge.or ?_
  intro pins s σ H x y v u Q I rx ry h
  obtain ⟨d, e, hd, he, sd, al, nn, q⟩ := h
  obtain ⟨as, r1⟩ := Dp.reads I d x v hd rx
  obtain ⟨bs, r2⟩ := Dp.reads I e y u he ry
  exact PySem.W.ge_data r1 r2 al nn (room_min sd hu) ⟨.bl _, H, I, rfl, q⟩
variable {K : PySem.W.Frag}
theorem ordX_rep {H : Hp} {v w : V} {xs ys : List D} {b : Bool} {f : PyData → PyData → Bool} {Q : VK} (rx : Rep H v (.tup xs)) (ry : Rep H w (.tup ys)) (h : ordX f (.tup xs) (.tup ys) = some b) (q : Q (.bl b) H) : rOrd K f v w H Q := by
  unfold ordX at h
  split at h <;> cases h
  rename_i z
  exact ⟨_, _, rx.dp 16 _ _ z.1, ry.dp 16 _ _ z.2.1, shaped_ok z.1, z.2.2, (by unfold py; simp), q⟩
theorem cz_gtX : Cmp2 (fun x y H Q => rI0 (fun i j => .bl (decide (j < i))) x y H Q ∨ rOrd K (fun x y => PySem.W.dataLt y x) x y H Q) gtX := by
  intro H v w dx dy b Q rx ry h q
  cases dx <;> cases dy <;> simp only [gtX] at h <;> try cases h
  · cases rx; cases ry; exact .inl ⟨_, _, rfl, rfl, q⟩
  · exact .inr (ordX_rep rx ry h q)
theorem cz_leX : Cmp2 (fun x y H Q => rI0 (fun i j => .bl (decide (i ≤ j))) x y H Q ∨ rOrd K (fun x y => !PySem.W.dataLt y x) x y H Q) leX := by
  intro H v w dx dy b Q rx ry h q
  cases dx <;> cases dy <;> simp only [leX] at h <;> try cases h
  · cases rx; cases ry; exact .inl ⟨_, _, rfl, rfl, q⟩
  · exact .inr (ordX_rep rx ry h q)
theorem cz_geX : Cmp2 (fun x y H Q => rI0 (fun i j => .bl (decide (j ≤ i))) x y H Q ∨ rOrd K (fun x y => !PySem.W.dataLt x y) x y H Q) geX := by
  intro H v w dx dy b Q rx ry h q
  cases dx <;> cases dy <;> simp only [geX] at h <;> try cases h
  · cases rx; cases ry; exact .inl ⟨_, _, rfl, rfl, q⟩
  · exact .inr (ordX_rep rx ry h q)
end
theorem gt_tupI (a b : List Int) : gtX (tupI a) (tupI b) = some (PySem.W.dataLt (py (tupI b)) (py (tupI a))) := by
  have ok : ∀ (t : List Int), okD 16 (tupI t) = true := fun t => ok_tupI (by decide)
  have al : PySem.W.alike (py (tupI a)) (py (tupI b)) = true := by
    rw [py_tupI, py_tupI]
    exact PySem.W.alike_ints a b
  exact if_pos ⟨ok a, ok b, al⟩
end DV

/-! DV38: the order by which things are sorted. -/
namespace DV
open PySem PySem.Spec PyProof.Rows L2
theorem leDat_trans (a b c : D) : leDat a b = true → leDat b c = true → leDat a c = true :=
  (PySem.W.sortLe_total (PyProof.Rows.listOrd PyProof.Rows.itemOrd) false fun d : D => PySem.W.keyToks (py d)).trans a b c
theorem leDat_total (a b : D) : (leDat a b || leDat b a) = true :=
  Bool.or_eq_true_iff.mpr ((PySem.W.sortLe_total (PyProof.Rows.listOrd PyProof.Rows.itemOrd) false fun d : D => PySem.W.keyToks (py d)).total a b)
theorem leDat_anti {a b : D} (h : leDat a b = true) (h' : leDat b a = true) : PySem.W.keyToks (py a) = PySem.W.keyToks (py b) := by
  have e1 : (PyProof.Rows.listOrd PyProof.Rows.itemOrd).blt (PySem.W.keyToks (py b)) (PySem.W.keyToks (py a)) = false := by
    have : (!(PyProof.Rows.listOrd PyProof.Rows.itemOrd).blt (PySem.W.keyToks (py b)) (PySem.W.keyToks (py a))) = true := h
    simpa using this
  have e2 : (PyProof.Rows.listOrd PyProof.Rows.itemOrd).blt (PySem.W.keyToks (py a)) (PySem.W.keyToks (py b)) = false := by
    have : (!(PyProof.Rows.listOrd PyProof.Rows.itemOrd).blt (PySem.W.keyToks (py a)) (PySem.W.keyToks (py b))) = true := h'
    simpa using this
  exact (PyProof.Rows.listOrd PyProof.Rows.itemOrd).total _ _ e2 e1
/-- things alike but in their order are sorted alike -/
theorem sort_perm {l1 l2 : List D} (inj : ∀ a ∈ l1, ∀ b ∈ l2, PySem.W.keyToks (py a) = PySem.W.keyToks (py b) → a = b) (p : l1.Perm l2) : l1.mergeSort leDat = l2.mergeSort leDat := by
  refine List.Perm.eq_of_pairwise (le := fun a b => leDat a b = true) (fun a b ha hb h h' => ?_) (List.pairwise_mergeSort leDat_trans leDat_total l1) (List.pairwise_mergeSort leDat_trans leDat_total l2) ?_
  · exact inj a ((List.mergeSort_perm _ _).mem_iff.mp ha) b ((List.mergeSort_perm _ _).mem_iff.mp hb) (leDat_anti h h')
  · exact (List.mergeSort_perm _ _).trans (p.trans (List.mergeSort_perm _ _).symm)
end DV

/-! DV39: meanings of defs that the kernel doesn't open. -/
namespace DV
theorem shut_ex (F : FnSem) : ∃ G : FnSem, G = F := ⟨F, rfl⟩
noncomputable def Shut (F : FnSem) : FnSem := Classical.choose (shut_ex F)
theorem shut_eq (F : FnSem) : Shut F = F := Classical.choose_spec (shut_ex F)
end DV

/-! DV40: try: .., except C as e: tests of e by isinstance that end with a text returned. -/
namespace DV
open PySem PySem.Spec PyProof.Rows L2 RZ
def rErr (K : PySem.W.Frag) (a : Addr) (c : Str) : List V → Hp → VK → Prop := fun vs H Q => ∃ b : Bool, errB K c = true ∧
  ((∃ x : Cl, vs = [.ref a, x.v K] ∧ PySem.W.kitOne K (.ref (He.ga K c)) (x.u K) = some b) ∨ ∃ (t : Addr) (xs : List Cl), vs = [.ref a, .ref t] ∧ H t = some (.tup (xs.map (Cl.v K))) ∧ PySem.W.kitAny K (.ref (He.ga K c)) (xs.map (Cl.u K)) = some b) ∧ Q (.bl b) H
theorem call_err {X : Cx} {a : Addr} {c : Str} {oe : Obj} {pn : List (Addr × Obj)} (hz : Zc (.ref (He.ga X.K c)) none oe) (hf : ∃ vs, oe.data = .fields vs) : CallR (X.suite a ((a, oe) :: pn)) (.builtin "isinstance") (rErr X.K a c) := by
  intro pins s σ H vs us Q I r h
  obtain ⟨b, hb, h, q⟩ := h
  have C := errB_ok hb
  obtain ⟨get, _⟩ := I.pin (a, oe) (List.mem_append.mpr (.inl List.mem_cons_self))
  obtain ⟨fs, hv⟩ := hf
  have at_ : PySem.W.InstAt s.heap a oe (He.ga X.K c) none := by
    obtain ⟨oc, od, oda, osl⟩ := oe
    obtain ⟨h1, h2⟩ := hz
    dsimp only at h1 h2 hv
    subst h1 h2 hv
    exact ⟨get, rfl, rfl, trivial⟩
  have Z := PySem.W.handS_kitx_exc (K := X.K) (x := a) (ox := oe) C.hg C.hk C.hs C.hd C.ha C.hn C.ht C.hm
  rcases h with ⟨x, rfl, e⟩ | ⟨t, xs, rfl, ht, e⟩
  · cases r with
    | cons r1 rr =>
      cases rr with
      | cons r2 rr =>
        cases rr
        cases r1
        rw [x.rel r2]
        exact PySem.W.kia_one Z I.kIn at_ e (fun z => nomatch z) fun tk => ⟨.bl b, H, I.kept (t' := tk) fun _ _ z => z, rfl, q⟩
  · cases r with
    | cons r1 rr =>
      cases rr with
      | cons r2 rr =>
        cases rr
        cases r1
        cases r2
        obtain ⟨_, its, rv, o, ho, hc, n, hd⟩ := I.hok t _ ht
        rw [Cl.rels xs rv] at hd
        obtain ⟨tc, td, tda, tsl⟩ := o
        dsimp only at hc hd
        subst hc hd
        exact PySem.W.kia_tup Z I.kIn at_ ho e (fun z => nomatch z) fun tk => ⟨.bl b, H, I.kept (t' := tk) fun _ _ z => z, rfl, q⟩
section
variable {X : Cx} {e e2 : Expr} {rest : List Expr} {st : Stmt} {ss : List Stmt} {j k : Nat} {c m : Str} {g : List (Nat × Bool)} {ks : List Nat} {r r2 b : Bool} {pos p p2 p3 : Pos} {a : Addr} {oe : Obj} {pn : List (Addr × Obj)}
/-- an expression that asks the error at a, which slot j holds -/
def ErX (X : Cx) (a : Addr) (e : Expr) (j : Nat) (g : List (Nat × Bool)) (r : Bool) : Prop := ∃ te, PE X e te ∧ ∀ (σ : L2.St) (H : Hp) (Q : VK), σ[j]? = some (some (.ref a)) → Knows g σ → (∀ H', Le H H' → Q (.bl r) H') → te σ H Q
def ErT (X : Cx) (a : Addr) (e : Expr) (j : Nat) (g : List (Nat × Bool)) (r : Bool) : Prop := ∃ te, PT X e te ∧ ∀ (σ : L2.St) (H : Hp) (Q : Bool → Hp → Prop), σ[j]? = some (some (.ref a)) → Knows g σ → (∀ H', Le H H' → Q r H') → te σ H Q
def ErW (X : Cx) (a : Addr) (e : Expr) (j : Nat) (g : List (Nat × Bool)) (r : Bool) : Prop := ∃ te, PW X e te ∧ ∀ (σ : L2.St) (H : Hp) (Q : Bool → Hp → Prop), σ[j]? = some (some (.ref a)) → Knows g σ → (∀ H', Le H H' → Q r H') → te σ H Q
/-- statements that end with a text returned -/
def ErS (X : Cx) (a : Addr) (ss : List Stmt) (j : Nat) (g : List (Nat × Bool)) (ks : List Nat) (r : Str) : Prop := ∃ T, PSs X ss T ∧ ∀ (D : Ends) (σ : L2.St) (H : Hp), σ[j]? = some (some (.ref a)) → Knows g σ → (∀ k ∈ ks, k < σ.length) →
  (∀ (σ' : L2.St) (H' : Hp), σ'.length = σ.length → (∀ i, i ∉ ks → σ'[i]? = σ[i]?) → Le H H' → D.rt (.str r) H') → T D σ H
/-- the suite's frame -/
abbrev suX (X : Cx) (a : Addr) (oe : Obj) (pn : List (Addr × Obj)) : Cx := X.suite a ((a, oe) :: pn)
theorem ClsE.suite {es : List Expr} {xs : List Cl} (h : ClsE X es xs) : ClsE (suX X a oe pn) es xs := by
  induction h with
  | nil => exact .nil
  | own hm hg hd _ ih => exact .own (X := suX X a oe pn) hm hg hd ih
  | blt hm hg hb hn hd _ ih => exact .blt (X := suX X a oe pn) hm hg hb hn hd ih
variable (hz : Zc (.ref (He.ga X.K c)) none oe) (hf : ∃ vs, oe.data = .fields vs)
include hz hf
theorem er_one {x : Cl} (hj : X.N[j]? = some m) (hv : Vis X.env.scope m) (hd : (m == ("__debug__" : Str)) = false) (hcd : (m == ("__classdict__" : Str)) = false) (hI : Gl X "isinstance") (hm : X.mg "isinstance" = none) (hc : ClsE X [e2] [x]) (hb : errB X.K c = true)
    (ho : PySem.W.kitOne X.K (.ref (He.ga X.K c)) (x.u X.K) = some r) : ErX (suX X a oe pn) a (.Call (.Name "isinstance" p) [.Name m p2, e2] [] pos) j g r := by
  obtain ⟨t, h1, h2⟩ := (hc.suite (a := a) (oe := oe) (pn := pn)).pa
  cases hc <;> exact ⟨_, pe_callB (X := suX X a oe pn) (call_err hz hf) hI hm (by rfl) (pa_cons (pe_var (X := suX X a oe pn) hj hv hd hcd) h1), fun σ H Q hs _ q => ⟨_, hs, h2 σ H _ ⟨r, hb, .inl ⟨_, rfl, ho⟩, q H (Le.refl H)⟩⟩⟩
theorem er_any {es : List Expr} {xs : List Cl} {kt : Nat} (hj : X.N[j]? = some m) (hv : Vis X.env.scope m) (hd : (m == ("__debug__" : Str)) = false) (hcd : (m == ("__classdict__" : Str)) = false) (hI : Gl X "isinstance") (hm : X.mg "isinstance" = none) (hc : ClsE X es xs) (hl : xs.length ≤ sizeLine) (hb : errB X.K c = true)
    (ho : PySem.W.kitAny X.K (.ref (He.ga X.K c)) (xs.map (Cl.u X.K)) = some r) : ErX (suX X a oe pn) a (.Call (.Name "isinstance" p) [.Name m p2, .Tuple es kt p3] [] pos) j g r := by
  obtain ⟨t, h1, h2⟩ := (hc.suite (a := a) (oe := oe) (pn := pn)).pa
  refine ⟨_, pe_callB (X := suX X a oe pn) (call_err hz hf) hI hm (by rfl) (pa_cons (pe_var (X := suX X a oe pn) hj hv hd hcd) (pa_cons (pe_tup h1) pa_nil)), fun σ H Q hs _ q => ⟨_, hs, h2 σ H _ ⟨by rw [List.length_map]; exact hl, fun d hn => ?_⟩⟩⟩
  have up : Le H (upd H d (.tup (xs.map (Cl.v X.K)))) := fun b o e1 => by rw [upd_ne (ne_of_none e1 hn)]; exact e1
  exact ⟨r, hb, .inr ⟨d, xs, rfl, upd_same, ho⟩, q _ up⟩
omit hz hf
theorem er_var (hk : X.N[k]? = some m) (hv : Vis X.env.scope m) (hd : (m == ("__debug__" : Str)) = false) (hcd : (m == ("__classdict__" : Str)) = false) (hg : (k, r) ∈ g) : ErX X a (.Name m p) j g r :=
  ⟨_, pe_var hk hv hd hcd, fun σ H Q _ kn q => ⟨_, kn _ hg, q H (Le.refl H)⟩⟩
theorem er_orF (h : ErX X a e j g false) (h' : ErX X a (.BoolOp .Or (e2 :: rest) pos) j g r) : ErX X a (.BoolOp .Or (e :: e2 :: rest) pos) j g r := by
  obtain ⟨t, h1, h2⟩ := h
  obtain ⟨t', h3, h4⟩ := h'
  exact ⟨_, pe_or h1 h3, fun σ H Q hs kn q => h2 σ H _ hs kn fun H' l => ⟨false, rfl, h4 σ H' Q hs kn fun H'' l2 => q H'' (l.trans l2)⟩⟩
theorem er_last (h : ErX X a e j g r) : ErX X a (.BoolOp .Or [e] pos) j g r := by
  obtain ⟨t, h1, h2⟩ := h
  exact ⟨_, pe_one h1, h2⟩
theorem et_val (h : ErX X a e j g r) (he : ∀ whole, isTrue e X.env whole = (do let v ← whole; standAt e.pos; holding [v] (truthy v)) := by intro _; rfl) : ErT X a e j g r := by
  obtain ⟨t, h1, h2⟩ := h
  exact ⟨_, pt_val h1 he, fun σ H Q hs kn q => h2 σ H _ hs kn fun H' l => ⟨r, rfl, q H' l⟩⟩
theorem et_not (h : ErT X a e j g r) : ErT X a (.UnaryOp .Not e pos) j g (!r) := by
  obtain ⟨t, h1, h2⟩ := h
  exact ⟨_, pt_not h1, fun σ H Q hs kn q => h2 σ H _ hs kn fun H' l => q H' l⟩
theorem ew_last (h : ErT X a e j g r) : ErW X a (.BoolOp .And [e] pos) j g r := by
  obtain ⟨t, h1, h2⟩ := h
  exact ⟨_, pw_and1 h1, h2⟩
theorem ew_and (h : ErT X a e j g true) (h' : ErW X a (.BoolOp .And (e2 :: rest) pos) j g r) : ErW X a (.BoolOp .And (e :: e2 :: rest) pos) j g r := by
  obtain ⟨t, h1, h2⟩ := h
  obtain ⟨t', h3, h4⟩ := h'
  refine ⟨_, pw_and h1 h3, fun σ H Q hs kn q => h2 σ H _ hs kn fun H' l => ?_⟩
  show if true = true then _ else _
  rw [if_pos rfl]
  exact h4 σ H' Q hs kn fun H'' l2 => q H'' (l.trans l2)
theorem et_w (h : ErW X a e j g r) : ErT X a e j g r := by
  obtain ⟨t, h1, h2⟩ := h
  exact ⟨_, h1.pt, h2⟩
theorem es_if {x : Str} {els : List Stmt} {jj : Nat} {U : TS} (h : ErT X a e j g true) (hu : PSs X els U) : ErS X a [.If e [.Return (some (.Constant (.str x) jj p)) p2] els pos] j g ks x := by
  obtain ⟨t, h1, h2⟩ := h
  refine ⟨_, pss_one (ps_if h1 (pss_one (ps_ret pe_str)) hu), fun D σ H hs kn _ q => h2 σ H _ hs kn fun H' l => ?_⟩
  show if true = true then _ else _
  rw [if_pos rfl]
  exact q σ H' rfl (fun _ _ => rfl) l
theorem es_set {x : Str} (h : ErX X a e j g b) (hN : X.N.Nodup) (hi : X.N[k]? = some m) (hx : Loc X.env.scope m) (hf : X.fn m = true ∨ X.env.scope.names.lookup m = some .local) (hkj : k ≠ j) (hks : k ∈ ks)
    (hsw : swapsWith e (some (.Name m p2)) pos.line X.env = pure false) (hr : ErS X a ss j ((k, b) :: g.filter fun q => q.1 != k) ks x) : ErS X a (.Assign [.Name m p2] e pos :: ss) j g ks x := by
  obtain ⟨t, h1, h2⟩ := h
  obtain ⟨T, h3, h4⟩ := hr
  refine ⟨_, pss_cons (ps_set hN hi hx h1 hsw hf) h3, fun D σ H hs kn len q => h2 σ H _ hs kn fun H' l => ?_⟩
  refine h4 D (σ.set k (some (.bl b))) H' (by rw [List.getElem?_set_ne hkj]; exact hs) (fun p hp => ?_) (fun i hi => by rw [List.length_set]; exact len i hi) fun σ' H'' e1 e2 l2 => ?_
  · rcases List.mem_cons.mp hp with w | w
    · subst w
      exact List.getElem?_set_self (len k hks)
    · obtain ⟨w1, w2⟩ := List.mem_filter.mp w
      rw [List.getElem?_set_ne (Ne.symm (by simpa using w2))]; exact kn p w1
  · refine q σ' H'' (by rw [e1, List.length_set]) (fun i hi => ?_) (l.trans l2)
    rw [e2 i hi, List.getElem?_set_ne fun w => hi (by rw [← w]; exact hks)]
end
/-! ### the statement -/
namespace S
/-- try: b, except cl as ..: what returns the text r where b raises c; ks: the slots that hold other than plain things after -/
def refe (tb : List (Str × Str × Bool)) (b : SS) (cl c : Str) (ks : List Nat) (r : Str) : SS := fun η => match b η with
  | .exc c' η' => if c' = c ∧ sub tb c cl = some true ∧ ks.all (fun k => stores k η') = true then .ok (.rt 0 (.str r)) (wipes ks η') else .bad
  | o => o
end S
section
variable {X : Cx} {L : Lents} {W : WX}
def tsErr (K : PySem.W.Frag) (c : Str) (i : Nat) (ks : List Nat) (r : Str) : Addr → Value → Option Addr → TS := fun a cls d D σ H => cls = .ref (He.ga K c) ∧ d = none ∧ σ[i]? = some (some (.ref a)) ∧ (∀ k ∈ ks, k < σ.length) ∧
  ∀ (σ' : L2.St) (H' : Hp), σ'.length = σ.length → (∀ i, i ∉ ks → σ'[i]? = σ[i]?) → Le H H' → D.rt (.str r) H'
theorem js_refe {body su : List Stmt} {s0 : Stmt} {x n c : Str} {i : Nat} {ks : List Nat} {r : Str} {tb : List (Str × Str × Bool)} {b : SS} {np pos pos' : Pos} (st : X.stack = X.env :: X.outer) (fr : X.env.frame = some X.env.locals) (nd : X.N.Nodup) (hi : X.N[i]? = some n)
    (loc : X.env.kindOf n = some .local) (hm : X.mg x = some (.ref (He.ga X.K x))) (hg : Gl X x) (hdb : (x == ("__debug__" : Str)) = false) (tk : Takes X W) (hT : SubOk X.K tb) (hik : i ∈ ks)
    (hb : ∀ (W' : WX) (pn : List (Addr × Obj)) (xe : Value → Shared → Prop), Takes (X.tr pn xe) W' → PSs (X.tr pn xe) body (tS X.K L W' b))
    (hr : ∀ (a : Addr) (oe : Obj) (pn : List (Addr × Obj)), Zc (.ref (He.ga X.K c)) none oe → (∃ vs, oe.data = .fields vs) → ErS (suX X a oe pn) a (s0 :: su) i [] ks r) :
    PS X (.Try body [.ExceptHandler (some (.Name x np)) (some n) (s0 :: su) pos'] [] [] pos) (tS X.K L W (S.refe tb b x c ks r)) := by
  refine PS.imp (ps_try_as (ts := tsErr X.K c i ks r) (c := .ref (He.ga X.K x)) (tb := fun W' => tS X.K L W' b) st fr nd hi loc ⟨hg, hdb, .inl hm⟩ tk (fun W' pn xe tk' _ => hb W' pn xe tk') fun a oe cls d pn hz hf => ⟨fun pins s σ H D I h => ?_⟩) fun D σ H ⟨G, η, Fs, R, q⟩ => ⟨G, η, Fs, R, ?_⟩
  · obtain ⟨rfl, rfl, h1, h2, h3⟩ := h
    obtain ⟨T, h4, h5⟩ := hr a oe pn hz hf
    exact h4.run pins s σ H D I (h5 D σ H h1 (fun p hp => by cases hp) h2 h3)
  · unfold S.refe at q
    cases e : b η with
    | bad => rw [e] at q; exact q.elim
    | ok fl η' =>
      rw [e] at q
      cases fl <;> exact q
    | exc c' η' =>
      rw [e] at q
      dsimp only at q
      split at q
      · rename_i cond
        obtain ⟨rfl, hsub, hst⟩ := cond
        intro σ' G' H' Fs' R' E'
        refine ⟨true, hT _ (S.sub_mem hsub), fun _ a na => ?_, fun w => by cases w⟩
        have st' : ∀ k ∈ ks, S.stores k η' = true := fun k hk => List.all_eq_true.mp hst k hk
        have hil : i < σ'.length := by rw [← R'.len]; exact stores_len (st' i hik)
        refine ⟨rfl, rfl, List.getElem?_set_self hil, fun k hk => ?_, fun σ2 H2 e1 e2 l => ?_⟩
        · rw [List.length_set, ← R'.len]; exact stores_len (st' k hk)
        · obtain ⟨F2, R2, f2⟩ := R'.wipes st'
          have R3 := R2.reH (R2.sub.trans l.sub) fun d hd => by
            obtain ⟨k, mm⟩ := hd
            obtain ⟨u, z, _⟩ := R2.mem mm
            rw [z]; exact l _ _ z
          have R4 := R3.sigma (σ' := σ2) (by rw [e1, List.length_set]) fun k hk => by
            have nk : k ∉ ks := fun w => hk (wipes_at w (stores_len (st' k w)))
            rw [e2 k nk, List.getElem?_set_ne fun w => nk (by rw [← w]; exact hik)]
          have E2 : Ext G' H' Fs' G' H2 F2 := ⟨Le.refl _, fun d o z _ => l d o z, fun d z => .inl z, fun d z => .inl (f2 d z), fun d z w => by
            cases z2 : H' d with
            | none => exact z z2
            | some o => rw [l d o z2] at w; cases w⟩
          exact q σ2 G' H2 F2 (.str r) [] R4 (E'.trans E2) (Apart.zero (.str r)) fun d hd => by cases hd
      · exact q.elim
@[simp] theorem v_refe {tb : List (Str × Str × Bool)} {b : SS} {cl c : Str} {ks : List Nat} {r : Str} {η : Env} : S.refe tb b cl c ks r η = match b η with
  | .exc c' η' => if c' = c ∧ S.sub tb c cl = some true ∧ ks.all (fun k => S.stores k η') = true then .ok (.rt 0 (.str r)) (S.wipes ks η') else .bad
  | o => o := rfl
end
end DV

/-! DV41: bit_length, isinstance of one of two classes. -/
namespace DV
open PySem PySem.Spec PyProof.Rows L2 RZ
namespace S
def bits (f : SE) : SE := fun η => (f η).bind fun d η1 => match d with
  | .int i => .ok (.int (Builtin.Int.intBits i : Nat)) η1
  | _ => .bad
def isi2 (T U : String) (o : Opd) : SE := fun η => (o.pre η).bind fun p η1 => lift ((o.deep p η1).bind fun d => (isiD T d).bind fun a => (isiD U d).map fun b => D.bl (a || b)) η1
end S
section
variable {X : Cx} {L : Lents} {W : WX} {e a b c tg it : Expr} {es : List Expr} {pos : Pos} {ss : List Stmt}
theorem je_bits {f : SE} {apos pos : Pos} (h : PE X a (tE X.K L W f)) (hbase : attributeBase a "bit_length" X.env (eval a X.env) = eval a X.env := by rfl) (hline : (apos.endLine == pos.line) = true := by rfl) :
    PE X (.Call (.Attribute a "bit_length" apos) [] [] pos) (tE X.K L W (S.bits f)) := by
  refine PE.imp (pe_bits h hbase hline) fun σ H Q ⟨G, η, Fs, R, q⟩ => ⟨G, η, Fs, R, q.bind.mono fun d η1 G1 H1 Fs1 R1 E1 q1 v rv => ?_⟩
  cases d <;> try exact (show False from q1).elim
  rename_i i
  cases rv
  exact ⟨i, rfl, q1 G1 H1 Fs1 R1 Ext.refl _ (.int _)⟩
theorem je_isi2 {o : Opd} {T U : String} {N M : Str} {p p3 pT pU : Pos} {kt : Nat} (ha : PE X a (tO X.K L W o)) (hg : Gl X "isinstance") (hm : X.mg "isinstance" = none) (hgT : Gl X N) (hmT : X.mg N = none) (hvT : bootBuiltins N = some (.type T)) (hgU : Gl X M) (hmU : X.mg M = none) (hvU : bootBuiltins M = some (.type U))
    (hnT : N ≠ "__name__" := by decide) (hdT : (N == ("__debug__" : Str)) = false := by decide) (hnU : M ≠ "__name__" := by decide) (hdU : (M == ("__debug__" : Str)) = false := by decide)
    (he : starEach (a :: [.Tuple [.Name N pT, .Name M pU] kt p3]) X.env = (false, eval a X.env) :: starEach [.Tuple [.Name N pT, .Name M pU] kt p3] X.env := by rfl) :
    PE X (.Call (.Name "isinstance" p) [a, .Tuple [.Name N pT, .Name M pU] kt p3] [] pos) (tE X.K L W (S.isi2 T U o)) := by
  refine PE.imp (pe_callB (call_isiT (X := X)) hg hm (by decide +kernel) (pa_cons ha (pa_cons (pe_tup (pa_cons (pe_bltn (v := .ty T) hgT hmT hvT rfl hnT hdT) (pa_cons (pe_bltn (v := .ty U) hgU hmU hvU rfl hnU hdU) pa_nil))) pa_nil) he) (by decide) (by decide) he) fun σ H Q ⟨G, η, Fs, R, q⟩ => ?_
  refine tO_use R q fun v p η1 G1 H1 Fs1 R1 E1 k1 q1 => ?_
  obtain ⟨d, e, q3⟩ := q1.lift
  cases hx : o.deep p η1 with
  | none => rw [hx] at e; cases e
  | some x =>
    rw [hx] at e
    have e : ((isiD T x).bind fun a => (isiD U x).map fun b => D.bl (a || b)) = some d := e
    cases hb : isiD T x with
    | none => rw [hb] at e; cases e
    | some b1 =>
      cases hc : isiD U x with
      | none => rw [hb, hc] at e; cases e
      | some b2 =>
        rw [hb, hc] at e; cases e
        have rp := k1.rep R1 hx
        obtain ⟨t1, t2⟩ := rp.ty (K := X.K) hb
        obtain ⟨_, t3⟩ := rp.ty (K := X.K) hc
        refine ⟨(small_ok (by decide) : (2 : Nat) ≤ sizeLine), fun a ha => ?_⟩
        have up : Le H1 (upd H1 a (.tup [.ty T, .ty U])) := upd_le ha
        obtain ⟨t4, _⟩ := (rp.mono up.sub).ty (K := X.K) hb
        refine ⟨v, a, [.ty T, .ty U], _, [.type T, .type U], (b1 || b2), rfl, upd_same, .cons (.ty T) (.cons (.ty U) .nil), t4, kitAny_cons (kit_ty t2) (fun hh => kitAny_cons (kit_ty t3) (fun hh2 => ?_) fun hh2 => ?_) (fun hh => ?_), ?_⟩
        · rw [hh, hh2]; exact kitAny_nil
        · rw [hh, hh2]; rfl
        · rw [hh]; rfl
        · exact q3 _ _ _ (R1.reH (R1.sub.trans up.sub) fun d hd => by
            obtain ⟨k, mm⟩ := hd
            obtain ⟨u, z, _⟩ := R1.mem mm
            rw [z]; exact up _ _ z) ⟨Le.refl _, fun d o z _ => up d o z, fun d z => .inl z, fun d z => .inl z, fun d z w => by
            cases z2 : H1 d with
            | none => exact z z2
            | some o => rw [up d o z2] at w; cases w⟩ _ (.bl _)
@[simp] theorem v_bits {f : SE} {η : Env} : S.bits f η = (f η).bind fun d η1 => (match d with
  | .int i => .ok (.int (Builtin.Int.intBits i : Nat)) η1
  | _ => .bad : Out D) := rfl
@[simp] theorem v_isi2 {T U : String} {o : Opd} {η : Env} : S.isi2 T U o η = (o.pre η).bind fun p η1 => lift ((o.deep p η1).bind fun d => (isiD T d).bind fun a => (isiD U d).map fun b => D.bl (a || b)) η1 := rfl
end
end DV

/-! DV42: str() of anything plain. -/
namespace DV
open PySem PySem.Spec PyProof.Rows L2 RZ
def strX : List D → Option D
  | [.non] => some (.str "None")
  | [.bl b] => some (.str (if b = true then "True" else "False"))
  | [.int i] => if i.natAbs.log2 < 1920 then some (.str (toString i)) else none
  | [.str x] => some (.str x)
  | [.dK []] => some (.str (PyData.dict []).shown)
  | ds => strD ds
def rStrX (K : PySem.W.Frag) : List V → Hp → VK → Prop := fun vs H Q => rStrD K vs H Q ∨ (vs = [.non] ∧ Q (.str "None") H) ∨ (∃ b, vs = [.bl b] ∧ Q (.str (if b = true then "True" else "False")) H) ∨ (∃ i, vs = [.int i] ∧ i.natAbs.log2 < 1920 ∧ Q (.str (toString i)) H) ∨
  (∃ x, vs = [.str x] ∧ Q (.str x) H) ∨ ∃ a, vs = [.ref a] ∧ Rd H a (.dK []) ∧ Q (.str (PyData.dict []).shown) H
theorem cr_strX {X : Cx} (hg : X.A.guards = some []) (hu : X.A.units + 65 < cLine) : CallR X (.type "str") (rStrX X.K) := by
  intro pins s σ H vs us Q I r h
  rcases h with h | ⟨rfl, q⟩ | ⟨b, rfl, q⟩ | h | h | ⟨a, rfl, ha, q⟩
  · exact cr_str hg hu pins s σ H vs us Q I r h
  · obtain ⟨u, rfl, r1⟩ := vals1 r
    cases r1
    exact PySem.P.str_of_none ⟨.str _, H, I.tok _, ⟨_, rfl⟩, q⟩
  · obtain ⟨u, rfl, r1⟩ := vals1 r
    cases r1
    refine PySem.P.str_of_bool ⟨.str _, H, I.tok _, ?_, q⟩
    cases b <;> exact ⟨_, rfl⟩
  · obtain ⟨i, rfl, h1, q⟩ := h
    exact call_str_int pins s σ H _ us Q I r ⟨i, rfl, h1, q⟩
  · obtain ⟨x, rfl, q⟩ := h
    exact SkE.call_str_str pins s σ H _ us Q I r ⟨x, rfl, q⟩
  · obtain ⟨z1, z2, vs, kv, o, es, ep, e1, ex, e2, _, e3, _⟩ := dk_rd I.hok ha
    cases kv
    rw [Vals.ref1 r]
    have hes : es.toList = [] := List.eq_nil_of_length_eq_zero e3.length
    have ra : Reads s.heap (.ref a) (.dict []) (a :: [] ++ []) := .dict e1 ex.1 e2 (by rw [hes]; exact .nil) (by rw [hes]; exact .nil)
    exact str_of_reads ra (by decide) (fun _ m => by
      have : sysModules = a := by simpa using m
      rw [← this] at z2
      simp at z2) hg (by show X.A.units + ((PyData.dict []).depth + 3) < cLine; have : (PyData.dict []).depth ≤ 16 := by decide
                         omega) (fun _ _ e => e) (fun h' u tk hk => ⟨.str (PyData.dict []).shown, H, I.kept (t' := tk) hk, ⟨u, rfl⟩, q⟩) (by rw [sizeLine_eq]; decide)
theorem cd_strX {K : PySem.W.Frag} : CallD (rStrX K) strX := by
  intro H vs ds d Q rl e fin
  unfold strX at e
  split at e
  · cases e
    cases rl with
    | cons r1 r2 =>
      cases r2
      cases r1
      exact .inr (.inl ⟨rfl, fin _ fun G => .str _⟩)
  · cases e
    cases rl with
    | cons r1 r2 =>
      cases r2
      cases r1
      exact .inr (.inr (.inl ⟨_, rfl, fin _ fun G => .str _⟩))
  · split at e <;> cases e
    rename_i c
    cases rl with
    | cons r1 r2 =>
      cases r2
      cases r1
      exact .inr (.inr (.inr (.inl ⟨_, rfl, c, fin _ fun G => .str _⟩)))
  · cases e
    cases rl with
    | cons r1 r2 =>
      cases r2
      cases r1
      exact .inr (.inr (.inr (.inr (.inl ⟨_, rfl, fin _ fun G => .str _⟩))))
  · cases e
    cases rl with
    | cons r1 r2 =>
      cases r2
      cases r1 with
      | dK h1 h2 h3 =>
        rename_i vs0
        have : vs0 = [] := by simpa using h2
        subst this
        exact .inr (.inr (.inr (.inr (.inr ⟨_, rfl, h1, fin _ fun G => .str _⟩))))
  · exact .inl (cd_str H vs ds d Q rl e fin)
@[simp] theorem v_strN : strX [.non] = some (.str "None") := rfl
@[simp] theorem v_strS {x : Str} : strX [.str x] = some (.str x) := rfl
theorem strX_tup {ds : List D} : strX [.tup ds] = strD [.tup ds] := rfl
theorem strX_lst {ds : List D} : strX [.lst ds] = strD [.lst ds] := rfl
end DV

/-! DV43: extend by a tuple. -/
namespace DV
open PySem PySem.Spec PyProof.Rows L2 RZ
open PySem.AutoSeq1 (wpAny_loadPart')
open PySem.MeetsSeq PySem.MeetsSeq2 PySem.MeetsSeq3
open PySem.F
theorem list_extend_tup (l : Addr) (items : Array Value) (n : Nat) (b : Addr) (items2 : Array Value) (n2 : Nat) (dd : Option Addr) (sl : Array (Option Value)) (hs0 : ¬(!items.isEmpty && Builtin.List.listTooLong (items.size + items2.size)) = true) (hs1 : items.size ≤ sizeLine) (hs2 : items.size + items2.size ≤ sizeLine + 1) :
    Meets (Builtin.«list.extend» ⟨[.ref l, .ref b], []⟩) (fun _ R s => s.heap.get? l = some { cls := .type "list", dict := none, data := .seq items n, slots := #[] } ∧ s.heap.get? b = some { cls := .type "tuple", dict := dd, data := .seq items2 n2, slots := sl } ∧ R (.ok (.ret Value.none)) { s with heap := s.heap.update l (Obj.mapSeq fun x => x ++ items2), toks := s.toks }) :=
  .of_wp fun prog w A R s h => by
    obtain ⟨hp, g, d, tk, os⟩ := s; obtain ⟨hl, hb, h⟩ := h; have f1 := AutoSeq1.idx_int; have f2 := AutoSeq1.sub_tuple_tuple; have f3 := AutoSeq1.sub_list_list; have f4 := AutoSeq1.sub_tuple_list; have f5 := AutoSeq1.sub_list_tuple;
    have hz' : (items ++ items2).size ≤ sizeLine + 1 := by rw [Array.size_append]; exact hs2
    wp_walk using (wpAny_updateSeq hl rfl (hz := hs1) (_hz' := hz')), wpAny_loadPart' hl, wpAny_loadPart' hb; exact ⟨_, rfl, h⟩
def extendX : List D → List D → Option (D × List D)
  | ds, [.tup es] => if ds.length + es.length ≤ sizeLine then some (.non, ds ++ es) else none
  | ds, as => extendD ds as
def rExtT : V → List V → Hp → VK → Prop := fun x vs H Q => ∃ l b xs zs, x = .ref l ∧ vs = [.ref b] ∧ H l = some (.lst xs) ∧ H b = some (.tup zs) ∧ xs.length + zs.length ≤ sizeLine ∧ Q .non (upd H l (.lst (xs ++ zs)))
theorem mt_extT {X : Cx} : MtR X "list.extend" rExtT := by
  intro pins s σ H x vs v us Q I rx rv h
  obtain ⟨l, b, xs, zs, rfl, rfl, hH, hB, hz, q⟩ := h
  cases rx
  obtain ⟨u, rfl, ru⟩ := rv.one
  cases ru
  obtain ⟨z, its, n, r, hl, e⟩ := I.lstM hH
  obtain ⟨its2, r2, ⟨⟨oc, od, oda, osl⟩, e2, hc, n2, hd⟩, hl2⟩ := I.tuple (.of hB)
  dsimp only at hc hd
  subst hc hd
  have l2 := r2.length
  have hsz : its.toArray.size + its2.toArray.size ≤ sizeLine := by rw [List.size_toArray, List.size_toArray]; omega
  have hlong : ¬ (!its.toArray.isEmpty && Builtin.List.listTooLong (its.toArray.size + its2.toArray.size)) = true := by
    rw [notLongL hsz, Bool.and_false]
    exact Bool.false_ne_true
  refine call_meets F.slot_list_extend ⟨_, e, rfl⟩ F.entry_list_extend (F.args_list_extend_2 _ _)
    (list_extend_tup l its.toArray n b its2.toArray n2 od osl hlong (by rw [List.size_toArray]; omega) (by omega)) ⟨e, e2, ?_⟩
  refine ⟨.non, _, I.lset (its' := its ++ its2) hH e (by simp) (r.append r2) ?_, rfl, q⟩
  rw [List.length_append]
  omega
theorem mt_extendX {X : Cx} : MtR X "list.extend" (fun x xs H Q => rExtT x xs H Q ∨ rExtend2 x xs H Q) := mt_extT.or mt_extend2
theorem md_extendX : MethD (fun x xs H Q => rExtT x xs H Q ∨ rExtend2 x xs H Q) extendX := by
  intro G H a vs ds ws as d ds' Q hH r s rw' h q
  unfold extendX at h
  split at h
  · split at h <;> cases h
    rename_i es hz
    cases rw' with
    | cons r1 r2 =>
      cases r2
      cases r1 with
      | tup h1 h2 => exact .inl ⟨a, _, vs, _, rfl, rfl, hH, s.tp _ _ h1, by rw [r.length, h2.length]; exact hz, q .non _ .non (r.append h2)⟩
  · exact .inr (md_extend G H a vs ds ws as d ds' Q hH r s rw' h q)
end DV

/-! DV44: list.count, list.index. -/
namespace DV
open PySem PySem.Spec PyProof.Rows L2 RZ
def rCntD (K : PySem.W.Frag) : V → List V → Hp → VK → Prop := fun x xs H Q => ∃ (a : Addr) (y : V) (d : PyData) (ds : List PyData), x = V.ref a ∧ xs = [y] ∧ Dp K H (V.ref a) (.list ds) ∧ Dp K H y d ∧
  SeqAt.shaped (.list ds) = true ∧ SeqAt.shaped d = true ∧ Q (.int ((ds.countP fun z => PyData.eqv z d : Nat) : Int)) H
theorem mt_cntD {X : Cx} (hu : X.A.units + 65 < cLine) : MtR X "list.count" (rCntD X.K) := by
  intro pins s σ H x xs v us Q I rx rxs h
  obtain ⟨a, y, d, ds, rfl, rfl, hl, hy, sl, sd, q⟩ := h
  cases rx
  cases rxs with
  | cons ry rt =>
    rename_i uy ut
    cases rt
    obtain ⟨bs, r1⟩ := Dp.reads I d y uy hy ry
    have hxs : PyData.canLayAll0 ds = true := SeqAt.canLay_of_shaped sl
    have hroom : X.A.units + 1 + min (PyData.depthAll ds) d.depth < cLine := room_in_shaped sd hu
    cases hl with
    | lst hs ha =>
      obtain ⟨its, rv, ⟨⟨cls, dd, data, sls⟩, n, ho, hc, hdn, hdt⟩, hlen⟩ := I.list hs
      simp only at hc hdt
      subst hc hdt
      obtain ⟨as, h4⟩ := Dp.readsAll I ds _ its ha rv
      have hmap : its.map (SeqAt.readOf s.heap) = ds := SeqAt.readsAll_map ds its as hxs h4
      refine call_meets PySem.F.slot_list_count ⟨_, ho, rfl⟩ PySem.F.entry_list_count (PySem.F.args_list_count_2 _ _)
        (SeqAt.list_countAt a its.toArray n dd sls uy (fun u => PyData.eqv (SeqAt.readOf s.heap u) d)) ⟨ho, SeqAt.items_eqAt (vs := its.toArray) (show ReadsAll s.heap its.toArray.toList ds as from h4) r1 hxs (SeqAt.canLay_of_shaped sd) hroom, ?_⟩
      refine ⟨.int _, H, I.tok _, ⟨_, rfl⟩, ?_⟩
      have e : its.toArray.toList.countP (fun u => PyData.eqv (SeqAt.readOf s.heap u) d) = ds.countP fun z => PyData.eqv z d := by
        rw [← hmap, List.countP_map]; rfl
      rw [e]; exact q
def cntD : D → D → Option D
  | .lst ds, x => if okD 16 x = true ∧ okD 16 (.lst ds) = true then some (.int ((ds.countP fun z => eqv z x : Nat) : Int)) else none
  | _, _ => none
def idxD : D → D → Option D
  | .lst ds, x => if okD 16 x = true ∧ okD 16 (.lst ds) = true then (ds.findIdx? fun z => eqv z x).map fun j => .int (j : Nat) else none
  | _, _ => none
def RMd (r : V → List V → Hp → VK → Prop) (g : D → D → Option D) : Prop := ∀ (H : Hp) (v w : V) (dx dy d : D) (Q : VK), Rep H v dx → Rep H w dy → g dx dy = some d → (∀ i, d = .int i → Q (.int i) H) → r v [w] H Q
theorem pyL_cnt : ∀ {ds : List D} {x : D}, (pyL ds).countP (fun z => PyData.eqv z (py x)) = ds.countP fun z => eqv z x
  | [], _ => rfl
  | d :: ds, x => by
    have ih := pyL_cnt (ds := ds) (x := x)
    simp only [pyL, List.countP_cons] at ih ⊢
    rw [ih]; rfl
theorem pyL_get : ∀ {ds : List D} {j : Nat}, (pyL ds)[j]? = ds[j]?.map py
  | [], _ => by simp [pyL]
  | d :: ds, 0 => by simp [pyL]
  | d :: ds, j + 1 => by simp [pyL, pyL_get (ds := ds) (j := j)]
theorem rm_cnt {K : PySem.W.Frag} : RMd (rCntD K) cntD := by
  intro H v w dx dy d Q rx ry h q
  unfold cntD at h
  split at h <;> try cases h
  split at h <;> cases h
  rename_i ho
  rename_i ds
  have d1 := rx.dp (K := K) 16 _ _ ho.2
  cases rx with
  | lst h1 h2 =>
    refine ⟨_, w, py dy, pyL ds, rfl, rfl, d1, ry.dp 16 _ _ ho.1, shaped_ok ho.2, shaped_ok ho.1, ?_⟩
    rw [pyL_cnt]; exact q _ rfl
theorem rm_idx {K : PySem.W.Frag} : RMd (rIndexD K) idxD := by
  intro H v w dx dy d Q rx ry h q
  unfold idxD at h
  split at h <;> try cases h
  split at h <;> try cases h
  rename_i ho
  rename_i ds
  have d1 := rx.dp (K := K) 16 _ _ ho.2
  cases hj : ds.findIdx? (fun z => eqv z dy) with
  | none => rw [hj] at h; cases h
  | some j =>
    rw [hj] at h
    cases h
    obtain ⟨hlt, hx, hno⟩ := List.findIdx?_eq_some_iff_getElem.mp hj
    cases rx with
    | lst h1 h2 =>
      refine ⟨_, w, py dy, pyL ds, j, py ds[j], rfl, rfl, d1, ry.dp 16 _ _ ho.1, shaped_ok ho.2, shaped_ok ho.1, ?_, hx, ?_, q _ rfl⟩
      · rw [pyL_get, List.getElem?_eq_getElem hlt]; rfl
      · intro m z' hm hz
        rw [pyL_get, List.getElem?_eq_getElem (by omega)] at hz
        cases hz
        have := hno m hm
        have this : eqv ds[m] dy = false := by simpa using this
        exact this
namespace S
def rm (g : D → D → Option D) (oa ob : Opd) : SE := fun η => (oa.pre η).bind fun p η1 => match oa.deep p η1 with
  | some (.lst _) => (ob.pre η1).bind fun q η2 => lift (((oa.deep p η2).bind fun x => (ob.deep q η2).bind fun y => g x y).bind fun d => match d with
    | .int i => some (.int i)
    | _ => none) η2
  | _ => .bad
end S
section
variable {X : Cx} {L : Lents} {W : WX} {a b o e : Expr} {pos apos cpos : Pos} {id : String} {name : Str} {r : V → List V → Hp → VK → Prop} {g : D → D → Option D}
theorem je_rm {oa ob : Opd} (hd : RMd r g) (slot : PySem.Slot "list" name id) (hty : typeOf (.builtin id) = pure (.type "method_descriptor")) (hm : MtR X id r) (ho : PE X o (tO X.K L W oa)) (he : PE X e (tO X.K L W ob))
    (hbase : attributeBase o name X.env (eval o X.env) = eval o X.env := by rfl)
    (hfew : ((backTo cpos (starEach [e] X.env)).all (fun x => !x.1) && (backToKw cpos (keywordEach [] X.env)).all (fun x => x.1.isSome)
      && decide ([e].length + ([] : List Keyword).length + (if ([] : List Keyword).isEmpty then 0 else 1) < 30)) = true := by rfl)
    (hline : (apos.endLine == cpos.line) = true := by rfl) (hs : starEach [e] X.env = (false, eval e X.env) :: starEach [] X.env := by rfl) (hplain : (backTo cpos (starEach [] X.env)).any (·.1) = false := by rfl) :
    PE X (.Call (.Attribute o name apos) [e] [] cpos) (tE X.K L W (S.rm g oa ob)) := by
  refine PE.imp (pe_bm PySem.F.plainAttrs_list slot hty hm ho (pa_cons he pa_nil hs) hbase hfew hline hs hplain) fun σ H Q ⟨G, η, Fs, R, q⟩ => ?_
  refine tO_use R q fun v p η1 G1 H1 Fs1 R1 E1 k1 q1 => ?_
  split at q1
  · rename_i ds hx
    have ty := k1.rep R1 hx
    cases ty with
    | lst t1 t2 =>
      refine ⟨.inl ⟨rfl, _, .inl t1⟩, ?_⟩
      refine tO_use R1 q1 fun w p2 η2 G2 H2 Fs2 R2 E2 k2 q2 => ?_
      obtain ⟨d, e', q4⟩ := q2.lift
      cases hy : oa.deep p η2 with
      | none => rw [hy] at e'; cases e'
      | some x =>
        cases hz : ob.deep p2 η2 with
        | none => rw [hy, Option.bind_some, hz] at e'; cases e'
        | some y =>
          rw [hy, Option.bind_some, hz, Option.bind_some] at e'
          cases hg : g x y with
          | none => rw [hg] at e'; cases e'
          | some z =>
            rw [hg] at e'
            refine hd H2 _ _ x y z Q ((k1.mono E2.g.sub).rep R2 hy) (k2.rep R2 hz) hg fun i hi => ?_
            subst hi
            cases e'
            exact q4 _ _ _ R2 Ext.refl _ (.int _)
  · exact q1.elim
@[simp] theorem v_rm {oa ob : Opd} {η : Env} : S.rm g oa ob η = (oa.pre η).bind fun p η1 => (match oa.deep p η1 with
  | some (.lst _) => (ob.pre η1).bind fun q η2 => lift (((oa.deep p η2).bind fun x => (ob.deep q η2).bind fun y => g x y).bind fun d => (match d with
    | .int i => some (.int i)
    | _ => none)) η2
  | _ => .bad : Out D) := rfl
end
end DV

/-! DV45: o[i] as one of several targets. -/
namespace DV
open PySem PySem.Spec PyProof.Rows L2 RZ
namespace S
def gset (j : Nat) (g : SE) : SG := fun d η => match η[j]? with
  | some (.val _ _ _) => (g η).bind fun y η2 => match η2[j]? with
    | some (.val 1 l c) => (match stD c y d with
      | some c' => .ok () (η2.set j (.val 1 l c'))
      | none => .bad)
    | _ => .bad
  | _ => .bad
end S
section
variable {X : Cx} {L : Lents} {W : WX} {e a b c tg it : Expr} {es : List Expr} {pos : Pos} {ss : List Stmt}
theorem jg_sub {o i : Expr} {j : Nat} {g : SE} {p : Pos} (hu : X.A.units + 1 < cLine) (ho : PE X o (tVar j)) (hi : PE X i (tE X.K L W g))
    (hst : ∀ v, assign (.Subscript o i p) X.env v = (do
      let ov ← holding [v] (eval o X.env)
      let iv ← holding [v, ov] (eval i X.env)
      standAt p
      holding [v, ov, iv] (setItem ov iv v)
      release [v, ov, iv] []) := by intro _; rfl) : PG X (.Subscript o i p) (tG L (S.gset j g)) := by
  refine PG.imp (pg_sub ho hi (set_any hu) hst) fun v σ H Q ⟨G, η, Fs, d, η', R, rv, e, q⟩ => ?_
  unfold S.gset at e
  cases z : η[j]? with
  | none => simp only [z] at e; cases e
  | some sl =>
    cases sl with
    | no => simp only [z] at e; cases e
    | val k l d0 =>
      simp only [z] at e
      obtain ⟨x, hx, _⟩ := R.slot j k l d0 z
      refine ⟨x, hx, G, η, Fs, R, ?_⟩
      cases z1 : g η with
      | bad => rw [z1] at e; cases e
      | exc c η2 => rw [z1] at e; cases e
      | ok y η2 =>
        rw [z1] at e
        refine fun G2 H2 Fs2 R2 E2 w rw' => ?_
        have e : (match η2[j]? with
          | some (.val 1 l c) => (match stD c y d with
            | some c' => Out.ok () (η2.set j (.val 1 l c'))
            | none => .bad)
          | _ => .bad) = .ok () η' := e
        cases z2 : η2[j]? with
        | none => simp only [z2] at e; cases e
        | some sl2 =>
          rw [z2] at e
          split at e
          · rename_i l2 c y2
            have z2 := z2.trans y2
            cases hc : stD c y d with
            | none => rw [hc] at e; cases e
            | some c' =>
              rw [hc] at e
              cases e
              have rv2 := rv.mono E2.g.sub
              cases c <;> first | (cases hc; done) | skip
              · rename_i ds
                cases y <;> first | (cases hc; done) | skip
                rename_i i
                cases hm : ixN ds.length i with
                | none => simp only [stD, hm] at hc; cases hc
                | some m =>
                  simp only [stD, hm, Option.map_some] at hc
                  cases hc
                  cases rw'
                  obtain ⟨a, vs, s1, s2, s3, s4⟩ := R2.write1 z2
                  rw [hx] at s1; cases s1
                  obtain ⟨r1, r2⟩ := s4 (vs.set m v) (ds.set m d) (RepL.set rv2 m s3)
                  exact .inl ⟨a, vs, i, m, rfl, rfl, s2, by rw [s3.length]; exact hm, q σ G2 _ Fs2 r1 (E2.trans r2)⟩
              · rename_i kvs
                have hc : (if kvs.length < sizeLine then (keyD y).map fun k => DV.D.dK (putD kvs k d) else none) = some c' := hc
                split at hc
                · rename_i hz
                  cases hk : keyD y with
                  | none => rw [hk] at hc; cases hc
                  | some k =>
                    rw [hk] at hc; cases hc
                    obtain ⟨a, vs, s1, s2, s3, s4, s5⟩ := R2.writeK z2
                    rw [hx] at s1; cases s1
                    obtain ⟨r1, r2⟩ := s5 (putK vs k v) (putD kvs k d) (put_keys s3) (put_rep rv2 s3 s4)
                    exact .inr ⟨a, _, rfl, .inl ⟨vs, k, s2, key_rep rw' hk, by rw [map_len s3]; exact hz, rfl⟩, q σ G2 _ Fs2 r1 (E2.trans r2)⟩
                · cases hc
              · rename_i kvs
                cases y <;> first | (cases hc; done) | skip
                rename_i ks
                have hc : (if kvs.length < sizeLine then (keysD ks).map fun k => DV.D.dT (putD kvs k d) else none) = some c' := hc
                split at hc
                · rename_i hz
                  cases hk : keysD ks with
                  | none => rw [hk] at hc; cases hc
                  | some k =>
                    rw [hk] at hc; cases hc
                    obtain ⟨a, vs, s1, s2, s3, s4, s5⟩ := R2.writeT z2
                    rw [hx] at s1; cases s1
                    cases rw' with
                    | tup t1 t2 =>
                      have ew := keys_rep t2 hk
                      subst ew
                      obtain ⟨r1, r2⟩ := s5 (putK vs k v) (putD kvs k d) (put_keys s3) (put_rep rv2 s3 s4)
                      exact .inr ⟨a, _, rfl, .inr ⟨vs, k, _, s2, rfl, R2.sub.tp _ _ t1, by rw [map_len s3]; exact hz, rfl⟩, q σ G2 _ Fs2 r1 (E2.trans r2)⟩
                · cases hc
          · cases e
@[simp] theorem v_gset {j : Nat} {g : SE} {d : D} {η : Env} : S.gset j g d η = (match η[j]? with
  | some (.val _ _ _) => (g η).bind fun y η2 => (match η2[j]? with
    | some (.val 1 l c) => (match stD c y d with
      | some c' => .ok () (η2.set j (.val 1 l c'))
      | none => .bad)
    | _ => .bad)
  | _ => .bad : Out Unit) := rfl
end
/-! ### divmod, calls without arguments -/
def divmodD : List D → Option (Nat × D)
  | [.int i, .int j] => if 0 < j ∧ j.natAbs.log2 < 9000 then some (0, .tup [.int (i / j), .int (i % j)]) else none
  | _ => none
@[simp] theorem v_divmod {i j : Int} (h : 0 < j ∧ j.natAbs.log2 < 9000) : divmodD [.int i, .int j] = some (0, .tup [.int (i / j), .int (i % j)]) := if_pos h
theorem cf_divmod : CallF (fun xs H Q => ∃ i j, xs = [.int i, .int j] ∧ CDivP i j ∧ ∀ p, H p = none → Q (.ref p) (upd H p (.tup [.int (i / j), .int (i % j)]))) divmodD := by
  intro G H vs ds k d Q s r h fin
  unfold divmodD at h
  split at h
  · rename_i i j
    split at h <;> cases h
    rename_i hj
    cases r with
    | cons b1 t =>
      cases t with
      | cons b2 t =>
        cases t
        refine ⟨i, j, by rw [b1.int, b2.int], ⟨hj.1, PyProof.noPylong_of_log2 hj.2⟩, fun p hp => fin.tupN s hp (.cons (.int _) (.cons (.int _) .nil))⟩
  · cases h
section
variable {X : Cx} {L : Lents} {W : WX} {x : Str} {p pos : Pos} {ps : List Str} {k : Nat} {F : FnSem}
theorem jf_callH0 (h : Has X.prog X.w X.K X.mg X.base x ps k F []) (hr : Room k X.A) (hg : Gl X x) (tk : Takes X W) (hdb : (x == ("__debug__" : Str)) = false := by decide) :
    PE X (.Call (.Name x p) [] [] pos) (tF X.K L W (S.call F [])) := by
  obtain ⟨fd, hm, hk, hb, Fk⟩ := h
  refine ⟨fun pins s σ H Q I h => ?_⟩
  refine wpAny_Call_Name_kw (ld_glob I hg hm ?_ hdb)
  exact PySem.W.callWith_K0 I.kIn hk (run_fnS Fk hr hb (passAt tk σ) I .nil (call_use (as := []) rfl h))
end
end DV

/-! DV46: for x in xs, xs a list of lists: each x is owned in its turn; xs is gone behind the loop. -/
namespace DV
open PySem PySem.Spec PyProof.Rows L2 RZ
namespace S
def nameO (i : Nat) : SG := fun d η => if stores i η = true then .ok () (η.set i (.val 1 false d)) else .bad
def forsM (j i : Nat) (body : SS) : SS := fun η => match η[j]? with
  | some (.val 2 false (.lst ds)) => forL (nameO i) body ds (η.set j .no)
  | _ => .bad
end S
@[simp] theorem v_nameO {i : Nat} {d : D} {η : Env} : S.nameO i d η = if S.stores i η = true then .ok () (η.set i (.val 1 false d)) else .bad := rfl
/-- the feet of each -/
theorem feet_each {R : V → D → List Addr → Prop} : ∀ {vs : List V} {ds : List D} {F : List Addr}, OwnL R vs ds F → F.Nodup → ∃ Fm : Nat → List Addr, vs.length = ds.length ∧
    (∀ (m : Nat) (h : m < vs.length) (h2 : m < ds.length), R vs[m] ds[m] (Fm m)) ∧ (∀ m, ∀ a ∈ Fm m, a ∈ F) ∧ (∀ m, (Fm m).Nodup) ∧ ∀ m m' a, a ∈ Fm m → a ∈ Fm m' → m = m'
  | _, _, _, .nil, _ => ⟨fun _ => [], rfl, fun m h => absurd h (by simp), fun _ _ h => by simp at h, fun _ => List.nodup_nil, fun _ _ _ h => by simp at h⟩
  | _, _, _, .cons (F := F) (Fs := Fs) r t, nd => by
    obtain ⟨n1, n2, n3⟩ := List.nodup_append.mp nd
    obtain ⟨Fm, e, h1, h2, h3, h4⟩ := feet_each t n2
    refine ⟨fun m => match m with | 0 => F | m + 1 => Fm m, by simp [e], fun m h h' => ?_, fun m a ha => ?_, fun m => ?_, fun m m' a ha ha' => ?_⟩
    · cases m with
      | zero => exact r
      | succ m => exact h1 m (by simpa using h) (by simpa using h')
    · cases m with
      | zero => exact List.mem_append_left _ ha
      | succ m => exact List.mem_append_right _ (h2 m a ha)
    · cases m with
      | zero => exact n1
      | succ m => exact h3 m
    · cases m with
      | zero =>
        cases m' with
        | zero => rfl
        | succ m' => exact absurd rfl (n3 a ha a (h2 m' a ha'))
      | succ m =>
        cases m' with
        | zero => exact absurd rfl (n3 a ha' a (h2 m a ha))
        | succ m' => rw [h4 m m' a ha ha']
section
variable {X : Cx} {L : Lents} {W : WX} {e a b c tg it : Expr} {es : List Expr} {pos : Pos} {ss : List Stmt}
theorem js_forM {i j : Nat} {x : Str} {px : Pos} {body : SS} (hp : PassesOwn (model X.prog X.w) X.A X.env X.xe) (hc : X.calm = true) (ho : PE X e (tVar j)) (hN : X.N.Nodup) (hi : X.N[i]? = some x) (hx : Loc X.env.scope x) (hf : X.fn x = true ∨ X.env.scope.names.lookup x = some .local) (hb : PSs X ss (tS X.K L W body)) (hs : ∀ x, foldedSetIterable e X.env x = pure x) :
    PS X (.For (.Name x px) e ss [] pos) (tS X.K L W (S.forsM j i body)) := by
  refine PS.imp (ps_for hp hc (pi_list ho) (pg_name hN hi hx hf) hb hs) fun D σ H ⟨G, η, Fs, R, q⟩ => ?_
  unfold S.forsM at q
  split at q
  · rename_i ds hj
    obtain ⟨v, hv, R1, ap⟩ := R.drop hj
    obtain ⟨y, vs, Fl, e1, e2, e3, e4⟩ := ap.own
    subst e1
    have nd := ap.nod
    rw [e3] at nd
    obtain ⟨yn, nd2⟩ := List.nodup_cons.mp nd
    obtain ⟨Fm, hl, o1, o2, o3, o4⟩ := feet_each e4 nd2
    have inF : ∀ m, ∀ a ∈ Fm m, a ∈ Fs j := fun m a ha => by rw [e3]; exact List.mem_cons_of_mem _ (o2 m a ha)
    have sub : ∀ w, foot (setF Fs j []) w → foot Fs w := fun w hw => by
      rcases foot_setF hw with z | ⟨i, _, z⟩
      · simp at z
      · exact ⟨i, z⟩
    have yF : y ∈ Fs j := by rw [e3]; exact List.mem_cons_self
    refine ⟨.ref y, hv, y, rfl, ⟨vs, .inl (.inl e2)⟩, fun k m σ2 H2 => m = ds.length - k ∧ k ≤ ds.length ∧ ∃ G2 η2 Fs2, Ext G H Fs G2 H2 Fs2 ∧ Rel L G2 η2 σ2 H2 Fs2 ∧ H2 y = some (.lst vs) ∧ ¬ foot Fs2 y ∧
      (∀ (m : Nat) (h : m < vs.length) (h2 : m < ds.length), k ≤ m → Apart G2 H2 Fs2 1 vs[m] ds[m] (Fm m)) ∧ ResS X.K L W D G H Fs (S.forL (S.nameO i) body (ds.drop k) η2), ?_, ?_⟩
    · refine ⟨_, rfl, Nat.zero_le _, G, η.set j .no, setF Fs j [], Ext.refl.feet fun a ha => .inl (sub a ha), R1, e2, fun z => ap.sep y yF z, fun m h h2 _ => ⟨o1 m h h2, o3 m, fun a ha => ap.dis a (inF m a ha), fun a ha => ap.sep a (inF m a ha)⟩, by rw [List.drop_zero]; exact q⟩
    · rintro k m σ2 H2 ⟨rfl, hk, G2, η2, Fs2, E2, R2, hy, ny, aps, q2⟩
      have sq : SqL X.K H2 y vs := .inl (.inl hy)
      by_cases hlt : k < ds.length
      · have hlv : k < vs.length := by omega
        refine .inr ⟨⟨vs, vs[k], sq, by simp [hlv]⟩, fun σ' H' => k + 1 ≤ ds.length ∧ ∃ G3 η3 Fs3, Ext G H Fs G3 H' Fs3 ∧ Rel L G3 η3 σ' H' Fs3 ∧ H' y = some (.lst vs) ∧ ¬ foot Fs3 y ∧
          (∀ (m : Nat) (h : m < vs.length) (h2 : m < ds.length), k + 1 ≤ m → Apart G3 H' Fs3 1 vs[m] ds[m] (Fm m)) ∧ ResS X.K L W D G H Fs (S.forL (S.nameO i) body (ds.drop (k + 1)) η3), fun σ' H' p => ⟨ds.length - (k + 1), by omega, rfl, p⟩, fun z H3 yx => ?_⟩
        obtain ⟨e, yy⟩ := yx
        subst e
        have ez : vs[k]? = some z := yy vs sq
        have ez : z = vs[k] := by rw [List.getElem?_eq_getElem hlv] at ez; exact (Option.some.inj ez).symm
        subst ez
        have ed : ds.drop k = ds[k] :: ds.drop (k + 1) := List.drop_eq_getElem_cons hlt
        rw [ed] at q2
        unfold S.forL at q2
        cases hst : S.stores i η2 with
        | false =>
          have : S.nameO i ds[k] η2 = .bad := by unfold S.nameO; rw [hst]; rfl
          simp only [this] at q2
          exact q2.elim
        | true =>
          have z : S.nameO i ds[k] η2 = .ok () (η2.set i (.val 1 false ds[k])) := by unfold S.nameO; rw [hst]; rfl
          simp only [z] at q2
          obtain ⟨Fs3, R3, f3⟩ := R2.stored (aps k hlv hlt (Nat.le_refl _)) hst fun _ _ => .inr (.inr trivial)
          have E3 : Ext G H Fs G2 H3 Fs3 := E2.feet fun a ha => by
            rcases f3 a ha with z | z
            · exact .inl ⟨j, inF k a z⟩
            · exact E2.f a z
          have ny3 : ¬ foot Fs3 y := fun z => by
            rcases f3 y z with z | z
            · exact yn (o2 k y z)
            · exact ny z
          have aps3 : ∀ (m : Nat) (h : m < vs.length) (h2 : m < ds.length), k + 1 ≤ m → Apart G2 H3 Fs3 1 vs[m] ds[m] (Fm m) := fun m h h2 hm => by
            have p := aps m h h2 (by omega)
            refine ⟨p.own, p.nod, p.dis, fun a ha z => ?_⟩
            rcases f3 a z with z | z
            · have := o4 m k a ha z; omega
            · exact p.sep a ha z
          refine ⟨G2, η2.set i (.val 1 false ds[k]), Fs3, R3, ?_⟩
          cases y' : body (η2.set i (.val 1 false ds[k])) with
          | bad => rw [y'] at q2; exact q2
          | exc c η4 => rw [y'] at q2; exact ResS.later (show ResS X.K L W D G H Fs (.exc c η4) from q2) E3
          | ok fl η4 =>
            rw [y'] at q2
            have nxt : ∀ σ5 G5 H5 Fs5, Rel L G5 η4 σ5 H5 Fs5 → Ext G2 H3 Fs3 G5 H5 Fs5 → ResS X.K L W D G H Fs (S.forL (S.nameO i) body (ds.drop (k + 1)) η4) → k + 1 ≤ ds.length ∧ ∃ G3 η3 Fs3, Ext G H Fs G3 H5 Fs3 ∧ Rel L G3 η3 σ5 H5 Fs3 ∧ H5 y = some (.lst vs) ∧ ¬ foot Fs3 y ∧
              (∀ (m : Nat) (h : m < vs.length) (h2 : m < ds.length), k + 1 ≤ m → Apart G3 H5 Fs3 1 vs[m] ds[m] (Fm m)) ∧ ResS X.K L W D G H Fs (S.forL (S.nameO i) body (ds.drop (k + 1)) η3) := fun σ5 G5 H5 Fs5 R5 E5 q5 =>
              ⟨hlt, G5, η4, Fs5, E3.trans E5, R5, E5.h y _ hy ny3, (fun z => (E5.f y z).elim (fun z => ny3 z) fun z => by rw [hy] at z; cases z), fun m h h2 hm => (aps3 m h h2 hm).ext E5, q5⟩
            cases fl with
            | nx => exact fun σ5 G5 H5 Fs5 R5 E5 => nxt σ5 G5 H5 Fs5 R5 E5 q2
            | ct => exact fun σ5 G5 H5 Fs5 R5 E5 => nxt σ5 G5 H5 Fs5 R5 E5 q2
            | bk => exact ResS.later (show ResS X.K L W D G H Fs (.ok .nx η4) from q2) E3
            | rt kk d => exact ResS.later (show ResS X.K L W D G H Fs (.ok (.rt kk d) η4) from q2) E3
      · have ei : k = ds.length := by omega
        subst ei
        rw [List.drop_length] at q2
        exact .inl ⟨⟨vs, sq, by omega⟩, q2 σ2 G2 H2 Fs2 R2 E2⟩
  · exact q.elim
end
end DV

/-! DV47: ts[::-1], ts a tuple. -/
namespace HT
open PySem PySem.Spec PyProof.Rows PySem.Calls L2
section
variable {prog : Program} {w : World} {A : Around} {E : Value → Shared → Prop} {s : Shared}
theorem sliceApplied_rev {sl : Addr} {vs : Value} {n : Nat} {Q : Int × Int × Nat → Shared → Prop} (hs : s.heap.IsSliceOf sl .none .none vs) (ps : IsPart vs (some (-1)))
    (h : Q ((n : Int) - 1, -1, n) s) : wpAny (model prog w) A (Builtin.Slice.sliceApplied (.ref sl) (pure (n : Int))) Q E s := by
  obtain ⟨os, hos, hcs, hds⟩ := id hs
  unfold Builtin.Slice.sliceApplied Builtin.Slice.sliceFields
  refine wpAny_bind (wpAny_bind (wpAny_field hos hds (x := .none) rfl (wpAny_bind (wpAny_field hos hds (x := .none) rfl (wpAny_bind (wpAny_field hos hds (x := vs) rfl (wpAny_pure ?_)))))))
  refine wpAny_bind (slicePart_ ps ?_)
  show wpAny _ _ (if ((-1 : Int) == 0) = true then _ else _) _ _ s
  rw [if_neg (by decide)]
  refine wpAny_bind (slicePart_none (wpAny_bind (slicePart_none (wpAny_bind (wpAny_pure ?_)))))
  have e2 : Builtin.Slice.slicePlaces ((n : Int) - 1) (-1) (-1) = n := by
    unfold Builtin.Slice.slicePlaces
    rw [if_neg (by decide)]
    by_cases hn : (n : Int) - 1 > -1
    · rw [if_pos hn, show (- -1 : Int) = 1 by decide, Int.ediv_one]; omega
    · rw [if_neg hn]; omega
  show wpAny _ _ (pure ((n : Int) - 1, (-1 : Int), Builtin.Slice.slicePlaces ((n : Int) - 1) (-1) (-1))) _ _ s
  rw [e2]
  exact wpAny_pure h
theorem fm_congr {α β : Type} {f g : α → Option β} : ∀ {l : List α}, (∀ a ∈ l, f a = g a) → l.filterMap f = l.filterMap g
  | [], _ => rfl
  | a :: l, h => by
    rw [List.filterMap_cons, List.filterMap_cons, h a List.mem_cons_self, fm_congr fun b hb => h b (List.mem_cons_of_mem _ hb)]
theorem pick_rev (xs : Array Value) : ((List.range xs.size).filterMap fun (m : Nat) => xs[(((xs.size : Int) - 1) + (m : Int) * (-1)).toNat]?).toArray = xs.toList.reverse.toArray := by
  congr 1
  have e : (List.range xs.size).filterMap (fun (m : Nat) => xs[(((xs.size : Int) - 1) + (m : Int) * (-1)).toNat]?) = ((List.range xs.size).map fun k => xs.size - 1 - k).filterMap (xs[·]?) := by
    rw [List.filterMap_map]
    refine fm_congr fun m hm => ?_
    have := List.mem_range.mp hm
    have e : ((xs.size : Int) - 1 + (m : Int) * -1).toNat = xs.size - 1 - m := by omega
    show xs[((xs.size : Int) - 1 + (m : Int) * -1).toNat]? = xs[xs.size - 1 - m]?
    rw [e]
  rw [e, PySem.W.krv_range, List.filterMap_reverse, PySem.W.krv_all]
theorem getItem_tuple_rev {t sl : Addr} {items : Array Value} {vs : Value} {Q : Value → Shared → Prop} (ht : IsTup s.heap t items) (hs : s.heap.IsSliceOf sl .none .none vs) (ps : IsPart vs (some (-1)))
    (h : Q (.ref s.heap.objs.size) { s with heap := s.heap.push { cls := .type "tuple", data := .seq (items.toList.reverse).toArray } })
    (hsz : items.size ≤ sizeLine) : wpAny (model prog w) A (getItem (.ref t) (.ref sl)) Q E s := by
  have htake : sizeOk (.seq (items.toList.reverse).toArray) := by
    show (items.toList.reverse).toArray.size ≤ sizeLine
    rw [List.size_toArray, List.length_reverse, Array.length_toList]
    omega
  obtain ⟨os, hos, hcs, hds⟩ := id hs
  have hTs : s.TypeIs (.ref sl) "slice" := ⟨os, hos, hcs⟩
  unfold getItem
  try with_reducible refine wpAny_holding ?_
  first | refine wpAny_bind (wpAny_pure ?_) | skip
  refine wpAny_bind (wpAny_sequenceKey ht.typeIs (by decide) ?_)
  refine wpAny_bind (wpAny_callSpecial?_slot (name := Str.ofString "__getitem__") ht.typeIs PyProof.Rows.slot_tuple_getitem
    (wpAny_call_entry PyProof.Rows.slot_tuple_getitem ht.typeIs entry_tuple_getitem ?_ (args_tuple_getitem _ _)))
  show wpAny _ _ (Builtin.Tuple.tupleItemsOf (.ref t) >>= _) _ _ s
  refine wpAny_bind (tupleItemsOf_ ht ?_)
  refine wpAny_bind (wpAny_typeOf hTs ?_)
  rw [if_pos (by decide)]
  refine wpAny_bind (sliceApplied_rev hs ps ?_)
  have hno : ¬ ((((items.size : Int) - 1) == 0 && (-1 : Int) == 1 && items.size == items.size) = true) := by
    intro q
    rw [Bool.and_eq_true, Bool.and_eq_true] at q
    exact absurd q.1.2 (by decide)
  show wpAny _ _ (if (((items.size : Int) - 1) == 0 && (-1 : Int) == 1 && items.size == items.size) = true then _ else _) _ _ s
  rw [if_neg hno, pick_rev]
  first
    | exact wpAny_bind (m := Builtin.Tuple.tupleExact _) (wpAny_newObj_type (wpAny_pure ⟨_, rfl, wpAny_pure h⟩) htake)
    | exact wpAny_bind (m := Builtin.Tuple.tupleExact _) (wpAny_newObj_type (wpAny_bind (wpAny_pure (wpAny_pure ⟨_, rfl, wpAny_pure h⟩))) htake)
    | exact wpAny_bind (wpAny_bind (m := Builtin.Tuple.tupleExact _) (wpAny_newObj_type (wpAny_pure (wpAny_pure ⟨_, rfl, wpAny_pure h⟩)) htake))
    | exact wpAny_bind (wpAny_bind (m := Builtin.Tuple.tupleExact _) (wpAny_newObj_type (wpAny_pure ⟨_, rfl, wpAny_pure h⟩) htake))
end
end HT
namespace DV
open PySem PySem.Spec PyProof.Rows PySem.Calls L2 RZ
section
variable {X : Cx}
def tRevT (K : PySem.W.Frag) (te : TE) : TE := fun σ H Q => te σ H fun x H1 => ∃ a xs, x = .ref a ∧ SqT K H1 a xs ∧ ∀ p, H1 p = none → Q (.ref p) (upd H1 p (.tup xs.reverse))
theorem pe_revT {e : Expr} {te : TE} {k : Nat} {p1 p2 p3 pos : Pos} (he : PE X e te) : PE X (.Subscript e (.Slice none none (some (.UnaryOp .USub (.Constant (.int 1) k p1) p2)) p3) pos) (tRevT X.K te) := by
  refine ⟨fun pins s σ H Q I h => ?_⟩
  refine Subscript_ (thn (he.run pins s σ H _ I h) fun v s1 ⟨x, H1, I1, r1, q1⟩ => ?_)
  obtain ⟨a, xs, ex, hx, q⟩ := q1
  subst ex
  cases r1
  have hst : PO X (some (.UnaryOp .USub (.Constant (.int 1) k p1) p2)) (tPart (tUn (rU fun i => .int (-i)) (tC (.int 1)))) := po_some (pe_un un_neg pe_int)
  refine wpAny_Slice (thn (po_none.run pins s1 σ H1 (fun o H2 => o = none ∧ H2 = H1) I1 ⟨rfl, rfl⟩) fun vl s2 ⟨l, H2, I2, pl, el, e2⟩ => ?_)
  subst el e2
  refine thn (po_none.run pins s2 σ H2 (fun o H3 => o = none ∧ H3 = H2) I2 ⟨rfl, rfl⟩) fun vu s3 ⟨u, H3, I3, pu, eu, e3⟩ => ?_
  subst eu e3
  refine thn (hst.run pins s3 σ H3 (fun o H4 => o = some (-1) ∧ H4 = H3) I3 ⟨1, rfl, -1, rfl, rfl, rfl⟩) fun vs s4 ⟨o, H4, I4, ps, eo, e4⟩ => ?_
  subst eo e4
  cases pl
  cases pu
  have I5 : Inv X pins σ H4 { s4 with heap := s4.heap.push { cls := .type "slice", data := .fields #[.none, .none, vs] } } := I4.kept (t' := s4.toks) fun b ob q => Heap.get?_push_of_some _ q
  obtain ⟨its, r, ht, hz⟩ := I5.tuple hx
  have hlen := r.length
  show wpAny (model X.prog X.w) X.A (subscriptTail e (.Slice none none (some (.UnaryOp .USub (.Constant (.int 1) k p1) p2)) p3) (.ref a) (.ref s4.heap.objs.size)) (EP X pins σ Q) X.xe { s4 with heap := s4.heap.push { cls := .type "slice", data := .fields #[.none, .none, vs] } }
  refine tail_any (ops := [.ref a, .ref s4.heap.objs.size]) ht.typeIs (PyProof.Rows.slot_tuple_getitem.lookup) ?_ (by with_unfolding_all rfl)
  refine HT.getItem_tuple_rev ht (Heap.IsSliceOf.new _ .none .none vs) ps ?_ (by rw [List.size_toArray]; omega)
  refine ⟨.ref _, _, I5.laid (t' := s4.toks) (o := .tup xs.reverse) (fun b ob q => Heap.get?_push_of_some _ q) (Nat.le_refl _) ?_, rfl, q _ (I5.hok.fresh (Nat.le_refl _))⟩
  exact ⟨by rw [List.length_reverse]; omega, _, r.reverse, ⟨_, Heap.get?_push_size _ rfl, rfl, 0, rfl⟩⟩
end
def revTD : D → Option (Nat × D)
  | .tup ds => some (0, .tup ds.reverse)
  | _ => none
@[simp] theorem revTD_tup {ds : List D} : revTD (.tup ds) = some (0, .tup ds.reverse) := rfl
section
variable {X : Cx} {L : Lents} {W : WX} {a : Expr} {k : Nat} {p1 p2 p3 pos : Pos} {oa : Opd}
theorem jf_revT (ha : PE X a (tO X.K L W oa)) : PE X (.Subscript a (.Slice none none (some (.UnaryOp .USub (.Constant (.int 1) k p1) p2)) p3) pos) (tF X.K L W (S.un revTD oa)) := by
  refine PE.imp (pe_revT ha) fun σ H Q ⟨G, η, Fs, R, q⟩ => ?_
  refine tO_use R q fun v p η1 G1 H1 Fs1 R1 E1 k1 q1 => ?_
  obtain ⟨⟨k, d⟩, e, q4⟩ := q1.lift
  cases hx : oa.fin p η1 with
  | none => rw [hx] at e; cases e
  | some x =>
    rw [hx, Option.bind_some] at e
    cases x <;> first | (cases e; done) | skip
    rename_i ds
    cases e
    obtain ⟨a, xs, rfl, h1, r1⟩ := (k1.bor R1 hx).tup R1.sub
    have fin : Fin2 G1 H1 0 (.tup ds.reverse) Q := fin_tF (P := fun _ _ _ _ _ => True) R1 fun G' H' Fs' R' E' w F y o => q4 G' H' Fs' R' E' w F y fun a ha => .inr (E1.noneOf (o a ha))
    exact ⟨a, xs, rfl, .of (R1.sub.tp _ _ h1), fun p hp => fin.tupN R1.sub hp (repL_rev r1)⟩
end
end DV

/-! DV48: a display of one pair, its key an int or a text. -/
namespace DV
open PySem PySem.Spec PyProof.Rows L2 RZ
namespace S
/-- {k: v}, k an int or a text -/
def dispK (fk fv : SE) : SF := fun η => (fk η).bind fun kd η1 => (fv η1).bind fun d η2 => match keyD kd with
  | some k => .ok (1, .dK [(k, d)]) η2
  | none => .bad
end S
section
variable {X : Cx} {L : Lents} {W : WX} {k v : Expr} {fk fv : SE} {pos : Pos}
theorem jf_dispK (hk : PE X k (tE X.K L W fk)) (hv : PE X v (tE X.K L W fv)) : PE X (.Dict [some k] [v] pos) (tF X.K L W (S.dispK fk fv)) := by
  refine PE.imp (pe_disp (pps_cons hk hv pps_nil) rfl rfl (by simp) (by simp)) fun σ H Q ⟨G, η, Fs, R, q⟩ p hp => ?_
  have gp := R.sub.free hp
  have nf := R.noFoot hp
  have R0 : Rel L G η σ (upd H p (.dK [])) Fs := R.updN gp nf
  have E0 : Ext G H Fs G (upd H p (.dK [])) Fs := (New.own (o := .dK []) R.sub hp).ext
  unfold S.dispK at q
  refine ⟨G, η, Fs, R0, ?_⟩
  cases e1 : fk η with
  | bad => rw [e1] at q; exact q.elim
  | exc c η1 => rw [e1] at q; exact fun G1 H1 Fs1 R1 E1 => q G1 H1 Fs1 R1 (E0.trans E1)
  | ok kd η1 =>
    rw [e1] at q
    intro G1 H1 Fs1 R1 E1 x rx
    refine ⟨G1, η1, Fs1, R1, ?_⟩
    simp only [bind_ok] at q
    cases e2 : fv η1 with
    | bad => rw [e2] at q; exact q.elim
    | exc c η2 => rw [e2] at q; exact fun G2 H2 Fs2 R2 E2 => q G2 H2 Fs2 R2 (E0.trans (E1.trans E2))
    | ok d η2 =>
      rw [e2] at q
      simp only [bind_ok] at q
      intro G2 H2 Fs2 R2 E2 y ry
      have E12 := E1.trans E2
      cases e : keyD kd with
      | none => simp only [e] at q; exact q.elim
      | some key =>
        simp only [e] at q
        have hx := key_rep rx e
        subst hx
        have hp2 : H2 p = some (.dK []) := E12.h p _ upd_same nf
        have gp2 : G2 p = none := by
          cases z : G2 p with
          | none => rfl
          | some u =>
            rcases E12.n p (by rw [z]; exact fun w => nomatch w) with w | w | w
            · exact absurd gp w
            · exact absurd w nf
            · rw [upd_same] at w; exact w.elim
        have nf2 : ¬ foot Fs2 p := fun w => by
          rcases E12.f p w with w | w
          · exact nf w
          · rw [upd_same] at w; cases w
        refine ⟨hp2, [(key, y)], rfl, by simp, ?_⟩
        have ap : Apart G2 (upd H2 p (.dK [(key, y)])) Fs2 1 (.ref p) (.dK [(key, d)]) [p] := ⟨⟨p, [(key, y)], [], rfl, upd_same, rfl, rfl, .cons (F := []) (Fs := []) ⟨ry, rfl⟩ .nil⟩, by simp, fun a ha => by rw [List.mem_singleton.mp ha]; exact gp2, fun a ha => by rw [List.mem_singleton.mp ha]; exact nf2⟩
        exact q G2 (upd H2 p (.dK [(key, y)])) Fs2 (R2.updN gp2 nf2) ((E0.trans E12).updN hp) (.ref p) [p] ap fun a ha => .inr (by rw [List.mem_singleton.mp ha]; exact hp)
@[simp] theorem v_dispK {η : Env} : S.dispK fk fv η = (fk η).bind fun kd η1 => (fv η1).bind fun d η2 => (match keyD kd with
  | some k => Out.ok (1, D.dK [(k, d)]) η2
  | none => .bad : Out (Nat × D)) := rfl
end
end DV

/-! DV49: list(range(..)). -/
namespace DV
open PySem PySem.Spec PyProof.Rows L2 RZ
namespace S
def lrg1 (f : SE) : SF := fun η => (f η).bind fun d η1 => match d with
  | .int j => if -(2 ^ 62) ≤ j ∧ j ≤ 16777216 then .ok (1, .lst (rangeL 0 j.toNat)) η1 else .bad
  | _ => .bad
def lrg2 (f g : SE) : SF := fun η => (f η).bind fun d η1 => (g η1).bind fun e η2 => match d, e with
  | .int i, .int j => if -(2 ^ 62) ≤ i ∧ i < 2 ^ 62 ∧ -(2 ^ 62) ≤ j ∧ j < 2 ^ 62 ∧ j - i ≤ 16777216 then .ok (1, .lst (rangeL i (j - i).toNat)) η2 else .bad
  | _, _ => .bad
end S
theorem repL_rg {G : Hp} {a : Int} : ∀ l : List Nat, RepL G (l.map fun (i : Nat) => V.int (a + i)) (l.map fun (i : Nat) => D.int (a + i))
  | [] => .nil
  | i :: l => .cons (.int _) (repL_rg l)
section
variable {X : Cx} {L : Lents} {W : WX} {e a b c tg it : Expr} {es : List Expr} {pos : Pos} {ss : List Stmt}
theorem jf_lrg1 {f : SE} {p p2 pos2 : Pos} (hc : X.calm = true) (hg : Gl X "list") (hm : X.mg "list" = none) (hgr : Gl X "range") (hmr : X.mg "range" = none) (h : PE X a (tE X.K L W f))
    (na : starEach [a] X.env = (false, eval a X.env) :: starEach [] X.env := by rfl) (nb : starEach [.Call (.Name "range" p2) [a] [] pos2] X.env = (false, eval (.Call (.Name "range" p2) [a] [] pos2) X.env) :: starEach [] X.env := by rfl) :
    PE X (.Call (.Name "list" p) [.Call (.Name "range" p2) [a] [] pos2] [] pos) (tF X.K L W (S.lrg1 f)) := by
  refine PE.imp (pe_listRg hc hg hm (prg_1 hgr hmr h na) nb) fun σ H Q ⟨G, η, Fs, R, q⟩ => ⟨G, η, Fs, R, q.bind.mono fun d η1 G1 H1 Fs1 R1 E1 q1 v rv => ?_⟩
  cases d <;> first | exact (show False from q1).elim | skip
  rename_i j
  cases rv
  have q1 : Res X.K L W σ G1 H1 Fs1 _ (if -(2 ^ 62) ≤ j ∧ j ≤ 16777216 then .ok (1, D.lst (S.rangeL 0 j.toNat)) η1 else .bad) := q1
  split at q1
  · rename_i hj
    have fin : Fin2 G1 H1 1 (.lst (S.rangeL 0 j.toNat)) Q := fin_tF (P := fun _ _ _ _ _ => True) R1 fun G' H' Fs' R' E' w F y o => q1 G' H' Fs' R' E' w F y fun a ha => .inr (E1.noneOf (o a ha))
    refine ⟨j, rfl, ⟨by omega, by omega, by omega, by omega, by omega⟩, fun p hp => ?_⟩
    refine fin.lstN R1.sub hp ?_
    unfold rgV S.rangeL
    rw [Int.sub_zero]
    exact repL_rg _
  · exact q1.elim
theorem jf_lrg2 {f g : SE} {p p2 pos2 : Pos} (hc : X.calm = true) (hg : Gl X "list") (hm : X.mg "list" = none) (hgr : Gl X "range") (hmr : X.mg "range" = none) (h : PE X a (tE X.K L W f)) (h' : PE X b (tE X.K L W g))
    (na : starEach [a, b] X.env = (false, eval a X.env) :: starEach [b] X.env := by rfl) (nc : starEach [b] X.env = (false, eval b X.env) :: starEach [] X.env := by rfl) (np : (backTo pos2 (starEach [b] X.env)).any (·.1) = false := by rfl)
    (nb : starEach [.Call (.Name "range" p2) [a, b] [] pos2] X.env = (false, eval (.Call (.Name "range" p2) [a, b] [] pos2) X.env) :: starEach [] X.env := by rfl) :
    PE X (.Call (.Name "list" p) [.Call (.Name "range" p2) [a, b] [] pos2] [] pos) (tF X.K L W (S.lrg2 f g)) := by
  refine PE.imp (pe_listRg hc hg hm (prg_2 hgr hmr h h' na nc np) nb) fun σ H Q ⟨G, η, Fs, R, q⟩ => ⟨G, η, Fs, R, q.bind.mono fun d η1 G1 H1 Fs1 R1 E1 q1 v rv => ⟨G1, η1, Fs1, R1, q1.bind.mono fun d2 η2 G2 H2 Fs2 R2 E2 q2 v2 rv2 => ?_⟩⟩
  cases d <;> first | exact (show False from q2).elim | skip
  rename_i i
  cases d2 <;> first | exact (show False from q2).elim | skip
  rename_i j
  cases rv
  cases rv2
  have q2 : Res X.K L W σ G2 H2 Fs2 _ (if -(2 ^ 62) ≤ i ∧ i < 2 ^ 62 ∧ -(2 ^ 62) ≤ j ∧ j < 2 ^ 62 ∧ j - i ≤ 16777216 then .ok (1, D.lst (S.rangeL i (j - i).toNat)) η2 else .bad) := q2
  split at q2
  · rename_i hj
    have fin : Fin2 G2 H2 1 (.lst (S.rangeL i (j - i).toNat)) Q := fin_tF (P := fun _ _ _ _ _ => True) R2 fun G' H' Fs' R' E' w F y o => q2 G' H' Fs' R' E' w F y fun a ha => .inr ((E1.trans E2).noneOf (o a ha))
    refine ⟨i, j, rfl, rfl, ⟨by omega, by omega, by omega, by omega, by omega⟩, fun p hp => ?_⟩
    exact fin.lstN R2.sub hp (repL_rg _)
  · exact q2.elim
@[simp] theorem v_lrg1 {f : SE} {η : Env} : S.lrg1 f η = (f η).bind fun d η1 => (match d with
  | .int j => if -(2 ^ 62) ≤ j ∧ j ≤ 16777216 then Out.ok (1, D.lst (S.rangeL 0 j.toNat)) η1 else .bad
  | _ => .bad : Out (Nat × D)) := rfl
@[simp] theorem v_lrg2 {f g : SE} {η : Env} : S.lrg2 f g η = (f η).bind fun d η1 => (g η1).bind fun e η2 => (match d, e with
  | .int i, .int j => if -(2 ^ 62) ≤ i ∧ i < 2 ^ 62 ∧ -(2 ^ 62) ≤ j ∧ j < 2 ^ 62 ∧ j - i ≤ 16777216 then Out.ok (1, D.lst (S.rangeL i (j - i).toNat)) η2 else .bad
  | _, _ => .bad : Out (Nat × D)) := rfl
end
end DV

/-! DV50: xs[i].append(..) and the like, xs a list of lists that is owned. -/
namespace DV
open PySem PySem.Spec PyProof.Rows L2 RZ
namespace S
def lmA (j : Nat) (g : List D → List D → Option (D × List D)) (ix : SE) (row : Env → Out (List D)) : SE := fun η => match η[j]? with
  | some (.val 2 false (.lst ds)) => match ix (η.set j .no) with
    | .ok (.int i) η1 => (match atI ds i, ixN ds.length i with
      | some (.lst es), some m => (match row η1 with
        | .ok as η2 => (match η2[j]? with
          | some .no => (match g es as with
            | some (d, es') => .ok d (η2.set j (.val 2 false (.lst (ds.set m (.lst es')))))
            | none => .bad)
          | _ => .bad)
        | _ => .bad)
      | _, _ => .bad)
    | _ => .bad
  | _ => .bad
end S
theorem ownL_keep {G H : Hp} {b : Addr} {o : HO} : ∀ {vs : List V} {ds : List D} {F : List Addr}, OwnL (Own G H 1) vs ds F → b ∉ F → OwnL (Own G (upd H b o) 1) vs ds F
  | _, _, _, .nil, _ => .nil
  | _, _, _, .cons r t, h => .cons (r.mono (Sub.refl G) 1 fun a ha => upd_ne fun e => h (by rw [← e]; exact List.mem_append_left _ ha)) (ownL_keep t fun z => h (List.mem_append_right _ z))
theorem ownL_upd {G H : Hp} {b : Addr} {es es' : List D} {ws : List V} (hr : RepL G ws es') : ∀ {vs : List V} {ds : List D} {F : List Addr} (m : Nat), OwnL (Own G H 1) vs ds F → F.Nodup → vs[m]? = some (.ref b) → ds[m]? = some (.lst es) →
    OwnL (Own G (upd H b (.lst ws)) 1) vs (ds.set m (.lst es')) F ∧ b ∈ F
  | _, _, _, _, .nil, _, h, _ => by simp at h
  | _, _, _, 0, .cons (F := F) (Fs := Fs) r t, nd, h1, h2 => by
    have h1 := Option.some.inj h1
    have h2 := Option.some.inj h2
    subst h1
    subst h2
    obtain ⟨n1, n2, n3⟩ := List.nodup_append.mp nd
    obtain ⟨a, vs0, F0, e1, e2, e3, e4⟩ := r
    cases e1
    obtain ⟨_, z⟩ := e4.to0
    subst z
    subst e3
    refine ⟨.cons ⟨b, ws, [], rfl, upd_same, rfl, OwnL.of0 hr⟩ (ownL_keep t fun z => n3 b (by simp) b z rfl), by simp⟩
  | _, _, _, m + 1, .cons (F := F) (Fs := Fs) r t, nd, h1, h2 => by
    obtain ⟨n1, n2, n3⟩ := List.nodup_append.mp nd
    obtain ⟨i1, i2⟩ := ownL_upd hr m t n2 h1 h2
    exact ⟨.cons (r.mono (Sub.refl G) 1 fun a ha => upd_ne fun e => n3 a ha b i2 e) i1, List.mem_append_right _ i2⟩
theorem ownL_get {R : V → D → List Addr → Prop} : ∀ {vs : List V} {ds : List D} {F : List Addr} {m : Nat} {d : D}, OwnL R vs ds F → ds[m]? = some d → ∃ v f, vs[m]? = some v ∧ R v d f
  | _, _, _, _, _, .nil, h => by simp at h
  | _, _, _, 0, d, .cons (v := v) (F := F) r t, h => by cases Option.some.inj h; exact ⟨v, F, rfl, r⟩
  | _, _, _, m + 1, d, .cons r t, h => ownL_get (m := m) t h
theorem ownL_len {R : V → D → List Addr → Prop} : ∀ {vs : List V} {ds : List D} {F : List Addr}, OwnL R vs ds F → vs.length = ds.length
  | _, _, _, .nil => rfl
  | _, _, _, .cons r t => by simp [ownL_len t]
section
variable {X : Cx} {L : Lents} {W : WX} {e a b c tg it : Expr} {es : List Expr} {pos : Pos} {ss : List Stmt}
theorem lmA_use {σ : Sig} {H : Hp} {Q : VK} {r : V → List V → Hp → VK → Prop} {j : Nat} {g : List D → List D → Option (D × List D)} {ix : SE} {row : Env → Out (List D)} (hd : MethD r g) (h : tE X.K L W (S.lmA j g ix row) σ H Q) :
    tBM X.K "list" r (tOp (rIxA X.K) (tVar j) (tE X.K L W ix)) (tL X.K L W row) σ H Q := by
  obtain ⟨G, η, Fs, R, q⟩ := h
  unfold S.lmA at q
  split at q
  · rename_i ds hj
    obtain ⟨v, hv, R1, ap⟩ := R.drop hj
    obtain ⟨y, vs, Fl, e1, e2, e3, e4⟩ := ap.own
    subst e1
    have nd := ap.nod
    rw [e3] at nd
    obtain ⟨yn, nd2⟩ := List.nodup_cons.mp nd
    have sub : ∀ w, foot (setF Fs j []) w → foot Fs w := fun w hw => by
      rcases foot_setF hw with z | ⟨i, _, z⟩
      · simp at z
      · exact ⟨i, z⟩
    split at q
    · rename_i i η1 hix
      split at q
      · rename_i es0 m hat hm
        split at q
        · rename_i as η2 hrow
          split at q
          · rename_i hno
            split at q
            · rename_i d es' hg
              refine ⟨.ref y, hv, G, η.set j .no, setF Fs j [], R1, ?_⟩
              rw [hix]
              intro G1 H1 Fs1 R2 E1 z rz
              cases rz
              have hdm : ds[m]? = some (.lst es0) := by
                unfold atI at hat
                rw [hm] at hat; exact hat
              obtain ⟨x, f, hx, ox⟩ := ownL_get e4 hdm
              obtain ⟨b, ws, Fb, eb, eb2, eb3, eb4⟩ := ox
              subst eb
              have bF : b ∈ Fs j := by
                rw [e3]
                exact List.mem_cons_of_mem _ (ownL_upd (es' := []) (ws := []) .nil m e4 nd2 hx hdm).2
              have yF : y ∈ Fs j := by rw [e3]; exact List.mem_cons_self
              have y1 : H1 y = some (.lst vs) := E1.h y _ e2 (ap.sep y yF)
              have b1 : H1 b = some (.lst ws) := E1.h b _ eb2 (ap.sep b bF)
              have hav : atI vs i = some (.ref b) := by
                unfold atI
                rw [ownL_len e4, hm]; exact hx
              refine .inl (.inl ⟨y, vs, i, .ref b, rfl, rfl, .inl (.inl y1), hav, .inl ⟨rfl, ws, .inl (.inl b1)⟩, G1, η1, Fs1, R2, ?_⟩)
              rw [hrow]
              intro G2 H2 Fs2 R3 E2 us ru
              have E12 := E1.trans E2
              have ap2 := ap.ext E12
              have y2 : H2 y = some (.lst vs) := E12.h y _ e2 (ap.sep y yF)
              have b2 : H2 b = some (.lst ws) := E12.h b _ eb2 (ap.sep b bF)
              have yb : y ≠ b := fun e => yn (by rw [e]; exact (ownL_upd (es' := []) (ws := []) .nil m e4 nd2 hx hdm).2)
              refine hd G2 H2 b ws es0 us as d es' Q b2 (eb4.to0.1.mono E12.g.sub) R3.sub ru hg fun w ws' rw' rws => ?_
              obtain ⟨y', vs', Fl', f1, f2, f3, f4⟩ := ap2.own
              cases f1
              rw [y2] at f2
              cases f2
              rw [e3] at f3
              cases f3
              have nl := (ownL_upd rws m f4 nd2 hx hdm).1
              have nf : ¬ foot Fs2 b := ap2.sep b bF
              have R4 := R3.updN (o := .lst ws') (ap2.dis b bF) nf
              have hlen : j < η2.length := (List.getElem?_eq_some_iff.mp hno).1
              have ap3 : Apart G2 (upd H2 b (.lst ws')) Fs2 2 (.ref y) (.lst (ds.set m (.lst es'))) (Fs j) :=
                ⟨⟨y, vs, Fl, rfl, by rw [upd_ne yb]; exact y2, e3, nl⟩, ap2.nod, ap2.dis, ap2.sep⟩
              have R5 := R4.put ap3 hlen hno
              have es : σ.set j (some (V.ref y)) = σ := by
                apply List.ext_getElem?
                intro i
                by_cases hi : i = j
                · subst hi; rw [get_set_self (List.getElem?_eq_some_iff.mp hv).1, hv]
                · rw [get_set_ne hi]
              rw [es] at R5
              refine q G2 _ _ R5 ⟨E12.g, fun w o e n => ?_, fun w e => ?_, fun w e => ?_, fun w e => ?_⟩ w rw'
              · rw [upd_ne fun z => n ⟨j, by rw [z]; exact bF⟩]
                exact E12.h w o e fun z => n (sub w z)
              · rcases E12.n w e with z | z | z
                · exact .inl z
                · exact .inr (.inl (sub w z))
                · exact .inr (.inr z)
              · rcases foot_setF e with z | ⟨i, hi, z⟩
                · exact .inl ⟨j, z⟩
                · exact (E12.f w ⟨i, z⟩).elim (fun y => .inl (sub w y)) .inr
              · by_cases h : w = b
                · rw [h, upd_same]; simp
                · rw [upd_ne h]; exact E12.d w e
            · exact q.elim
          · exact q.elim
        · exact q.elim
      · exact q.elim
    · exact q.elim
  · exact q.elim
theorem je_lmA {o i : Expr} {j : Nat} {p : Pos} {name : Str} {id : String} {apos cpos : Pos} {r : V → List V → Hp → VK → Prop} {g : List D → List D → Option (D × List D)} {ix : SE} {row : Env → Out (List D)} (hu : X.A.units + 1 < cLine) (hd : MethD r g) (slot : PySem.Slot "list" name id) (hty : typeOf (.builtin id) = pure (.type "method_descriptor")) (hm : MtR X id r) (ho : PE X o (tVar j)) (hi : PE X i (tE X.K L W ix)) (hix : PlainIx i) (ha : PA X (e :: es) (tL X.K L W row))
    (hbase : attributeBase (.Subscript o i p) name X.env (eval (.Subscript o i p) X.env) = eval (.Subscript o i p) X.env := by rfl)
    (hfew : ((backTo cpos (starEach (e :: es) X.env)).all (fun x => !x.1) && (backToKw cpos (keywordEach [] X.env)).all (fun x => x.1.isSome)
      && decide ((e :: es).length + ([] : List Keyword).length + (if ([] : List Keyword).isEmpty then 0 else 1) < 30)) = true := by rfl)
    (hline : (apos.endLine == cpos.line) = true := by rfl) (hs : starEach (e :: es) X.env = (false, eval e X.env) :: starEach es X.env := by rfl) (hplain : (backTo cpos (starEach es X.env)).any (·.1) = false := by rfl) :
    PE X (.Call (.Attribute (.Subscript o i p) name apos) (e :: es) [] cpos) (tE X.K L W (S.lmA j g ix row)) :=
  PE.imp (pe_bm PySem.F.plainAttrs_list slot hty hm (pe_ix (ix_all hu) ho hi hix) ha hbase hfew hline hs hplain) fun σ H Q h => lmA_use hd h
end
end DV

/-! DV51: a comprehension over a list of lists: each item is owned in its turn; the list is gone behind it. -/
namespace DV
open PySem PySem.Spec PyProof.Rows L2 RZ
namespace S
def compM (k : Nat) (vs : List Nat) (j i : Nat) (tt : ST) (f : SF) : SF := fun η => match η[j]? with
  | some (.val 2 false (.lst ds)) => if still vs (η.set j .no) = true then (match compL (nameO i) tt f k vs ds [] (η.set j .no) with
    | .ok es η2 => .ok (k + 1, .lst es) (mix (η.set j .no) η2 vs)
    | _ => .bad) else .bad
  | _ => .bad
end S
section
variable {X : Cx} {L : Lents} {W : WX} {e a b c tg it : Expr} {es : List Expr} {pos : Pos} {ss : List Stmt} {vs : List Nat}
theorem lcM_use {σ : Sig} {H : Hp} {Q : VK} {k j i : Nat} {tt : ST} {f : SF} (hiv : i ∈ vs) (h : tF X.K L W (S.compM k vs j i tt f) σ H Q) :
    tLc (iList X.K (tVar j)) (gName i) (tT X.K L WN tt) (tF X.K L WN f) vs σ H Q := by
  obtain ⟨G, η, Fs, R, q⟩ := h
  unfold S.compM at q
  split at q
  · rename_i ds hj
    split at q
    · rename_i hst
      cases z : S.compL (S.nameO i) tt f k vs ds [] (η.set j .no) with
      | bad => simp only [z] at q; exact q.elim
      | exc c η2 => simp only [z] at q; exact q.elim
      | ok es0 η0 =>
        simp only [z] at q
        obtain ⟨v, hv, R1, ap⟩ := R.drop hj
        obtain ⟨y, ws, Fl, e1, e2, e3, e4⟩ := ap.own
        subst e1
        have nd := ap.nod
        rw [e3] at nd
        obtain ⟨yn, nd2⟩ := List.nodup_cons.mp nd
        obtain ⟨Fm, hl, o1, o2, o3, o4⟩ := feet_each e4 nd2
        have inF : ∀ m, ∀ a ∈ Fm m, a ∈ Fs j := fun m a ha => by rw [e3]; exact List.mem_cons_of_mem _ (o2 m a ha)
        have sub : ∀ w, foot (setF Fs j []) w → foot Fs w := fun w hw => by
          rcases foot_setF hw with z | ⟨i, _, z⟩
          · simp at z
          · exact ⟨i, z⟩
        have yF : y ∈ Fs j := by rw [e3]; exact List.mem_cons_self
        have yS : ¬ foot (setF Fs j []) y := fun z => ap.sep y yF z
        have hL := still_lents R1 hst
        refine ⟨.ref y, hv, y, rfl, ⟨ws, .inl (.inl e2)⟩, fun D hD => ?_⟩
        have nD1 : G D = none := R1.sub.free hD
        have nfD : ¬ foot Fs D := R.noFoot hD
        have yD : y ≠ D := fun z => by rw [← z, e2] at hD; cases hD
        obtain ⟨Fs2, R2, f2⟩ := R1.hide hL
        have up2 : ∀ a, foot Fs2 a → foot Fs a := fun a ha => sub a (f2 a ha)
        refine ⟨fun n m H2 => m = ds.length - n ∧ n ≤ ds.length ∧ ∃ G2 η2 Fs2 acc F, Rel L G2 (S.hide η2 vs) (wipe σ vs) H2 Fs2 ∧ Ext G H Fs G2 H2 Fs2 ∧ Apart G2 H2 Fs2 (k + 1) (.ref D) (.lst acc) F ∧ (∀ a ∈ F, foot Fs a ∨ H a = none) ∧ H2 y = some (.lst ws) ∧ ¬ foot Fs2 y ∧ y ∉ F ∧
          (∀ (m : Nat) (h : m < ws.length) (h2 : m < ds.length), n ≤ m → Apart G2 H2 Fs2 1 ws[m] ds[m] (Fm m) ∧ ∀ a ∈ Fm m, a ∉ F) ∧ S.compL (S.nameO i) tt f k vs (ds.drop n) acc η2 = .ok es0 η0,
          ⟨_, rfl, Nat.zero_le _, G, η.set j .no, Fs2, [], [D], R2.updN nD1 fun z => nfD (up2 D z), (Ext.refl.feet fun a ha => .inl (up2 a ha)).updN hD, ⟨⟨D, [], [], rfl, upd_same, rfl, .nil⟩, by simp, fun a ha => ?_, fun a ha => ?_⟩, fun a ha => ?_, ?_, fun z => yS (f2 y z), by simpa using yD, fun m h h2 _ => ?_, by rw [List.drop_zero]; exact z⟩, ?_⟩
        · have e : a = D := by simpa using ha
          subst e; exact nD1
        · have e : a = D := by simpa using ha
          subst e; exact fun z => nfD (up2 a z)
        · have e : a = D := by simpa using ha
          subst e; exact .inr hD
        · rw [upd_ne yD]; exact e2
        · have nD : ∀ a ∈ Fm m, a ≠ D := fun a ha z => nfD ⟨j, by rw [← z]; exact inF m a ha⟩
          refine ⟨⟨(o1 m h h2).mono (Sub.refl G) 1 fun a ha => upd_ne (nD a ha), o3 m, fun a ha => ap.dis a (inF m a ha), fun a ha z => ap.sep a (inF m a ha) (f2 a z)⟩, fun a ha z => nD a ha (by simpa using z)⟩
        · rintro n m H2 ⟨rfl, hn, G2, η2, Fs2, acc, F, R2, E2, x2, fr, hy, ny, yF2, aps, e2⟩
          have sq : SqL X.K H2 y ws := .inl (.inl hy)
          by_cases hlt : n < ds.length
          · have hlv : n < ws.length := by omega
            refine .inr ⟨⟨ws, ws[n], sq, by simp [hlv]⟩, fun H' => n + 1 ≤ ds.length ∧ ∃ G2 η2 Fs2 acc F, Rel L G2 (S.hide η2 vs) (wipe σ vs) H' Fs2 ∧ Ext G H Fs G2 H' Fs2 ∧ Apart G2 H' Fs2 (k + 1) (.ref D) (.lst acc) F ∧ (∀ a ∈ F, foot Fs a ∨ H a = none) ∧ H' y = some (.lst ws) ∧ ¬ foot Fs2 y ∧ y ∉ F ∧
              (∀ (m : Nat) (h : m < ws.length) (h2 : m < ds.length), n + 1 ≤ m → Apart G2 H' Fs2 1 ws[m] ds[m] (Fm m) ∧ ∀ a ∈ Fm m, a ∉ F) ∧ S.compL (S.nameO i) tt f k vs (ds.drop (n + 1)) acc η2 = .ok es0 η0,
              fun H' p => ⟨ds.length - (n + 1), by omega, rfl, p⟩, fun x H3 yx => ?_⟩
            obtain ⟨e, yy⟩ := yx
            subst e
            have ez : ws[n]? = some x := yy ws sq
            have ez : x = ws[n] := by rw [List.getElem?_eq_getElem hlv] at ez; exact (Option.some.inj ez).symm
            subst ez
            have ed : ds.drop n = ds[n] :: ds.drop (n + 1) := List.drop_eq_getElem_cons hlt
            rw [ed] at e2
            unfold S.compL at e2
            cases hs : S.stores i (S.hide η2 vs) with
            | false =>
              have : S.nameO i ds[n] (S.hide η2 vs) = .bad := by unfold S.nameO; rw [hs]; rfl
              simp only [this] at e2
              cases e2
            | true =>
              have zz : S.nameO i ds[n] (S.hide η2 vs) = .ok () ((S.hide η2 vs).set i (.val 1 false ds[n])) := by unfold S.nameO; rw [hs]; rfl
              simp only [zz] at e2
              obtain ⟨apn, djn⟩ := aps n hlv hlt (Nat.le_refl _)
              obtain ⟨Fs3, R3, f3⟩ := R2.stored apn hs fun _ _ => .inr (.inr trivial)
              have E3 : Ext G H Fs G2 H3 Fs3 := E2.feet fun a ha => by
                rcases f3 a ha with z | z
                · exact .inl ⟨j, inF n a z⟩
                · exact E2.f a z
              have ny3 : ¬ foot Fs3 y := fun z => by
                rcases f3 y z with z | z
                · exact yn (o2 n y z)
                · exact ny z
              have x3 : Apart G2 H3 Fs3 (k + 1) (.ref D) (.lst acc) F := ⟨x2.own, x2.nod, x2.dis, fun a ha z => by
                rcases f3 a z with z | z
                · exact djn a z ha
                · exact x2.sep a ha z⟩
              have aps3 : ∀ (m : Nat) (h : m < ws.length) (h2 : m < ds.length), n + 1 ≤ m → Apart G2 H3 Fs3 1 ws[m] ds[m] (Fm m) ∧ ∀ a ∈ Fm m, a ∉ F := fun m h h2 hm => by
                obtain ⟨p, pd⟩ := aps m h h2 (by omega)
                refine ⟨⟨p.own, p.nod, p.dis, fun a ha z => ?_⟩, pd⟩
                rcases f3 a z with z | z
                · have := o4 m n a ha z; omega
                · exact p.sep a ha z
              have hw : wipe ((wipe σ vs).set i (some ws[n])) vs = wipe σ vs := by
                rw [show wipe ((wipe σ vs).set i (some ws[n])) vs = wipe (wipe σ vs) vs from wipe_ext (by rw [List.length_set]) fun l hl => get_set_ne fun z => hl (by rw [z]; exact hiv), wipe_wipe]
              refine ⟨hw, G2, (S.hide η2 vs).set i (.val 1 false ds[n]), Fs3, R3, ?_⟩
              cases zt : tt ((S.hide η2 vs).set i (.val 1 false ds[n])) with
              | bad => simp only [zt] at e2; cases e2
              | exc c η4 => simp only [zt] at e2; cases e2
              | ok b η4 =>
                simp only [zt] at e2
                intro G5 H5 Fs5 R5 E5
                have E05 := E3.trans E5
                have x5 := x3.ext E5
                have y5 : H5 y = some (.lst ws) := E5.h y _ hy ny3
                have ny5 : ¬ foot Fs5 y := fun z => (E5.f y z).elim ny3 fun z => by rw [hy] at z; cases z
                have aps5 : ∀ (m : Nat) (h : m < ws.length) (h2 : m < ds.length), n + 1 ≤ m → Apart G5 H5 Fs5 1 ws[m] ds[m] (Fm m) ∧ ∀ a ∈ Fm m, a ∉ F := fun m h h2 hm => by
                  obtain ⟨p, pd⟩ := aps3 m h h2 hm
                  exact ⟨p.ext E5, pd⟩
                cases b with
                | false =>
                  simp only at e2
                  obtain ⟨Fs6, R6, f6⟩ := R5.hide (vs := vs) hL
                  rw [hw] at R6
                  refine ⟨hlt, G5, η4, Fs6, acc, F, R6, E05.feet fun a ha => E05.f a (f6 a ha), x5.feet f6, fr, y5, fun z => ny5 (f6 y z), yF2, fun m h h2 hm => ?_, e2⟩
                  obtain ⟨p, pd⟩ := aps5 m h h2 hm
                  exact ⟨p.feet f6, pd⟩
                | true =>
                  simp only at e2
                  refine ⟨G5, η4, Fs5, R5, ?_⟩
                  cases zf : f η4 with
                  | bad => simp only [zf] at e2; cases e2
                  | exc c η5 => simp only [zf] at e2; cases e2
                  | ok p η5 =>
                    simp only [zf] at e2
                    split at e2
                    · rename_i hp
                      obtain ⟨hp1, hp2⟩ := hp
                      intro G6 H6 Fs6 R6 E6 v Fv xv ov
                      rw [hp1] at xv
                      have x6 := x5.ext E6
                      have dj : ∀ a ∈ Fv, a ∉ F := fun a ha hF => by
                        rcases ov a ha with z | z
                        · exact x5.sep a hF z
                        · exact x5.there a hF z
                      have y6 : H6 y = some (.lst ws) := E6.h y _ y5 ny5
                      have ny6 : ¬ foot Fs6 y := fun z => (E6.f y z).elim ny5 fun z => by rw [y5] at z; cases z
                      have yv : y ∉ Fv := fun ha => by
                        rcases ov y ha with z | z
                        · exact ny5 z
                        · rw [y5] at z; cases z
                      obtain ⟨us, s1, s2, s3, s4, s5⟩ := x6.push xv dj
                      have E06 := E05.trans E6
                      obtain ⟨Fs7, R7, f7⟩ := R6.hide (vs := vs) hL
                      rw [hw] at R7
                      refine ⟨us, s1, by rw [s2]; exact hp2, hlt, G6, η5, Fs7, acc ++ [p.2], F ++ Fv, R7.updN s3 fun z => s4 (f7 D z), (E06.feet fun a ha => E06.f a (f7 a ha)).updN hD, s5.feet f7, fun a ha => ?_, ?_, fun z => ny6 (f7 y z), fun z => (List.mem_append.mp z).elim yF2 yv, fun m h h2 hm => ?_, e2⟩
                      · rcases List.mem_append.mp ha with z | z
                        · exact fr a z
                        · rcases ov a z with y | y
                          · exact E05.f a y
                          · exact .inr (E05.noneOf y)
                      · rw [upd_ne yD]; exact y6
                      · obtain ⟨p5, pd⟩ := aps5 m h h2 hm
                        have p6 := p5.ext E6
                        have DF : D ∈ F := by
                          obtain ⟨a, _, _, q1, _, q3, _⟩ := x6.own
                          cases q1
                          rw [q3]; exact List.mem_cons_self
                        refine ⟨⟨p6.own.mono (Sub.refl _) 1 fun a ha => upd_ne fun q => pd a ha (by rw [q]; exact DF), p6.nod, p6.dis, fun a ha z => p6.sep a ha (f7 a z)⟩, fun a ha z => ?_⟩
                        rcases List.mem_append.mp z with z | z
                        · exact pd a ha z
                        · rcases ov a z with z | z
                          · exact p5.sep a ha z
                          · exact p5.there a ha z
                    · cases e2
          · have ei : n = ds.length := by omega
            subst ei
            rw [List.drop_length] at e2
            cases e2
            have R9 := Rel.unhide R1 hst E2.g R2
            exact .inl ⟨⟨ws, sq, by omega⟩, q G2 H2 Fs2 R9 E2 (.ref D) F x2 fr⟩
    · exact q.elim
  · exact q.elim
theorem jf_lcM {elt : Expr} {ifs : List Expr} {scope : Scope} {own : List (Str × Nat)} {j k i : Nat} {x : Str} {px : Pos} {tt : ST} {f : SF} (hc : X.calm = true) (hN : X.N.Nodup) (hi : PE X it (tVar j)) (ok : BlkOk X.N X.env.scope scope own) (hv : own.map (·.2) = vs) (hiv : i ∈ vs)
    (hg : ∀ (s : Shared) (H : Hp) (C : Addr) (cl : List (Str × Addr)) (fp : List Addr), PG (X.blk s H scope (compEnvC scope cl C X.env) fp) (.Name x px) (gName i)) (ht : ∀ (s : Shared) (H : Hp) (C : Addr) (cl : List (Str × Addr)) (fp : List Addr), PTs (X.blk s H scope (compEnvC scope cl C X.env) fp) ifs (tT X.K L WN tt))
    (he : ∀ (s : Shared) (H : Hp) (C : Addr) (cl : List (Str × Addr)) (fp : List Addr), PE (X.blk s H scope (compEnvC scope cl C X.env) fp) elt (tF X.K L WN f)) (hs : ∀ x, foldedSetIterable it X.env x = pure x := by intro _; rfl) :
    PE X (.ListComp elt [⟨.Name x px, it, ifs, 0⟩] scope pos) (tF X.K L W (S.compM k vs j i tt f)) := by
  subst hv
  exact PE.imp (pe_lc hc hN (pi_list hi) ok hg ht he hs) fun σ H Q h => lcM_use hiv h
end
end DV

/-! DV52: list(d) of a dict whose keys are tuples. -/
namespace DV
open PySem PySem.Spec PyProof.Rows L2 RZ
def listA : List D → Option (Nat × D)
  | [.dT kvs] => some (1, .lst (kvs.map fun p => keyT p.1))
  | ds => listD ds
def rListT : List V → Hp → VK → Prop := fun xs H Q => ∃ (d : Addr) (kvs : List (List Key × V)), xs = [V.ref d] ∧ Rd H d (.dT kvs) ∧ ∀ (p : Addr) (bs : List Addr), H p = none → IsKeys H kvs bs → Q (.ref p) (upd H p (.lst (bs.map V.ref)))
def rListO (K : PySem.W.Frag) : List V → Hp → VK → Prop := fun xs H Q => ∃ p ys, xs = [.ref p] ∧ (SqL K H p ys ∨ SqT K H p ys) ∧ ∀ l, H l = none → Q (.ref l) (upd H l (.lst ys))
def rListA (K : PySem.W.Frag) : List V → Hp → VK → Prop := fun vs H Q => rListO K vs H Q ∨ rListT vs H Q
theorem cr_listA {X : Cx} (hc : X.calm = true) : CallR X (.type "list") (rListA X.K) := CallR.or' call_list_of (call_list_dT hc)
theorem keysT_tup {H : Hp} : ∀ {kvs : List (List Key × V)} {bs : List Addr}, IsKeys H kvs bs → ∀ c ∈ bs, ∃ xs, H c = some (.tup xs)
  | _, _, .nil, c, h => by simp at h
  | _, _, .cons r t, c, h => by
    rcases List.mem_cons.mp h with e | h
    · subst e; exact ⟨_, r⟩
    · exact keysT_tup t c h
theorem keysT_rep {H G : Hp} : ∀ {kvs : List (List Key × V)} {bs : List Addr}, IsKeys H kvs bs → (∀ b ∈ bs, G b = H b) → RepL G (bs.map V.ref) (kvs.map fun p => keyT p.1)
  | _, _, .nil, _ => .nil
  | _, _, .cons (a := a) r t, h => .cons (.tup ((h _ List.mem_cons_self).trans r) (keyVs_rep a.1)) (keysT_rep t fun b hb => h b (List.mem_cons_of_mem _ hb))
theorem cf_listA {K : PySem.W.Frag} : CallF (rListA K) listA := by
  intro G H vs ds k d Q s r h fin
  unfold listA at h
  split at h
  · rename_i kvs
    cases h
    obtain ⟨v, rfl, b⟩ := r.one
    obtain ⟨a, ws, rfl, h1, h2, h3⟩ := b.dT s
    have hk : (ws.map fun p => keyT p.1) = kvs.map fun p => keyT p.1 := by
      rw [show (ws.map fun p => keyT p.1) = (ws.map (·.1)).map keyT by rw [List.map_map]; rfl, h2, List.map_map]; rfl
    refine .inr ⟨a, ws, rfl, h1, fun p bs hp ik => ?_⟩
    have tp := keysT_tup ik
    have np : G p = none := s.free hp
    have nb' : p ∉ bs := fun hc => by
      obtain ⟨xs, hx⟩ := tp p hc
      rw [hp] at hx; cases hx
    have N : New G H (frz G H bs) (upd H p (.lst (bs.map V.ref))) := by
      refine ⟨learn s tp, upd_le hp, (frz_sub s).trans (upd_le hp).sub, fun c z => ?_⟩
      by_cases hc : c ∈ bs
      · obtain ⟨xs, hx⟩ := tp c hc
        exact .inr (by rw [hx]; trivial)
      · rw [frz_out hc] at z; exact .inl z
    have rl : RepL (frz G H bs) (bs.map V.ref) (ws.map fun p => keyT p.1) := keysT_rep ik fun b hb => frz_in hb
    rw [hk] at rl
    refine fin _ _ _ [p] N ⟨p, _, [], rfl, upd_same, rfl, OwnL.of0 rl⟩ (by simp) fun c hc => ?_
    have ec : c = p := by simpa using hc
    subst ec
    exact ⟨by rw [frz_out nb']; exact np, hp⟩
  · exact .inl (cf_list G H vs ds k d Q s r h fin)
@[simp] theorem v_listAL {ds : List D} : listA [.lst ds] = some (1, .lst ds) := rfl
@[simp] theorem v_listAT {ds : List D} : listA [.tup ds] = some (1, .lst ds) := rfl
theorem list_dI {kvs : List (List Int × D)} : listA [dI kvs] = some (1, .lst (kvs.map fun p => tupI p.1)) := by
  show some (1, D.lst ((kvs.map fun p => (keyI p.1, p.2)).map fun p => keyT p.1)) = _
  rw [List.map_map]
  congr 4
  funext p
  exact keyT_I p.1
end DV

/-! DV53: isinstance(x, (T, U)) and str(x) where x may be a dict whose keys are tuples. -/
namespace DV
open PySem PySem.Spec PyProof.Rows L2 RZ
/-! ### isinstance -/
def isiE (T : String) : D → Option Bool
  | .dT _ => kitB "dict" T
  | d => isiD T d
def S.isi2E (T U : String) (o : Opd) : SE := fun η => (o.pre η).bind fun p η1 => lift ((o.deep p η1).bind fun d => (isiE T d).bind fun a => (isiE U d).map fun b => D.bl (a || b)) η1
def TyE (K : PySem.W.Frag) (H : Hp) (x : V) (t : Value) : Prop := TyX K H x t ∨ ∃ (a : Addr) (ob : Obj) (kvs : List (List Key × V)), x = .ref a ∧ H a = some (.frz ob (.dT kvs)) ∧ t = .type "dict"
def rIsiTE (K : PySem.W.Frag) : List V → Hp → VK → Prop := fun xs H Q => ∃ (x : V) (tp : Addr) (cs : List V) (t : Value) (us : List Value) (b : Bool), xs = [x, .ref tp] ∧ H tp = some (.tup cs) ∧ Paired ClsV cs us ∧ TyE K H x t ∧ PySem.W.kitAny K t us = some b ∧ Q (.bl b) H
section
variable {X : Cx}
theorem kit_ofE {pins : List (Addr × Obj)} {σ : L2.St} {H : Hp} {s : Shared} {x : V} {u t : Value} (I : Inv X pins σ H s) (rx : RelV x u) (ty : TyE X.K H x t) : ∃ P : Heap → Prop, PySem.W.KitX X.K u t P ∧ P s.heap ∧ u ≠ .builtin "__main__.__loader__#opaque" := by
  rcases ty with ty | ⟨a, ob, kvs, rfl, ea, rfl⟩
  · exact kit_of I rx ty
  · cases (show u = Value.ref a from rx)
    obtain ⟨_, _, _, xs, _, o, es, ep, h1, h2, _⟩ := (show ObjOk X.prog X.w H s.heap a (.frz ob (.dT kvs)) from I.hok a _ ea)
    exact ⟨_, PySem.W.kitx_dict, ⟨o, h1, h2.1⟩, fun z => nomatch z⟩
theorem call_isiTE : CallR X (.builtin "isinstance") (rIsiTE X.K) := by
  intro pins s σ H xs us Q I r h
  obtain ⟨x, tp, cs, t, ws, b, rfl, hT, k, ty, e, q⟩ := h
  obtain ⟨u1, u2, rfl, r1, r2⟩ := vals2 r
  cases (show u2 = Value.ref tp from r2)
  obtain ⟨P, Z, p, hx⟩ := kit_ofE I r1 ty
  obtain ⟨_, its, rv, o, h1, h2, n, h3⟩ := (show ObjOk X.prog X.w H s.heap tp (.tup cs) from I.hok tp _ hT)
  have e3 := ClsV.all k rv
  subst e3
  obtain ⟨oc, od, dt, sl⟩ := o
  simp only at h2 h3
  subst h2 h3
  exact PySem.W.kia_tup Z I.kIn p h1 e hx fun tk => ⟨.bl b, H, I.tok tk, rfl, q⟩
end
theorem Rep.tyE {K : PySem.W.Frag} {H : Hp} {v : V} {d : D} {T : String} {b : Bool} (r : Rep H v d) (h : isiE T d = some b) : TyE K H v (.type (tyD d)) ∧ kitB (tyD d) T = some b := by
  cases r with
  | dT h1 h2 h3 =>
    rcases h1 with h1 | ⟨o, h1⟩
    · exact ⟨.inl (.base (.dT h1)), h⟩
    · exact ⟨.inr ⟨_, o, _, rfl, h1, rfl⟩, h⟩
  | non => exact ⟨.inl (.base .non), h⟩
  | bl b => exact ⟨.inl (.base (.bl b)), h⟩
  | int i => exact ⟨.inl (.base (.int i)), h⟩
  | str x => exact ⟨.inl (.base (.str x)), h⟩
  | tup h1 h2 => exact ⟨.inl (.base (.tup h1)), h⟩
  | lst h1 h2 =>
    rcases h1 with h1 | ⟨o, h1⟩
    · exact ⟨.inl (.base (.lst h1)), h⟩
    · exact ⟨.inl (.base (.frz h1)), h⟩
  | dK h1 h2 h3 =>
    rcases h1 with h1 | ⟨o, h1⟩
    · exact ⟨.inl (.base (.dK h1)), h⟩
    · exact ⟨.inl (.fDict h1), h⟩
section
variable {X : Cx} {L : Lents} {W : WX} {e a b c tg it : Expr} {es : List Expr} {pos : Pos} {ss : List Stmt}
theorem je_isi2E {o : Opd} {T U : String} {N M : Str} {p p3 pT pU : Pos} {kt : Nat} (ha : PE X a (tO X.K L W o)) (hg : Gl X "isinstance") (hm : X.mg "isinstance" = none) (hgT : Gl X N) (hmT : X.mg N = none) (hvT : bootBuiltins N = some (.type T)) (hgU : Gl X M) (hmU : X.mg M = none) (hvU : bootBuiltins M = some (.type U))
    (hnT : N ≠ "__name__" := by decide) (hdT : (N == ("__debug__" : Str)) = false := by decide) (hnU : M ≠ "__name__" := by decide) (hdU : (M == ("__debug__" : Str)) = false := by decide)
    (he : starEach (a :: [.Tuple [.Name N pT, .Name M pU] kt p3]) X.env = (false, eval a X.env) :: starEach [.Tuple [.Name N pT, .Name M pU] kt p3] X.env := by rfl) :
    PE X (.Call (.Name "isinstance" p) [a, .Tuple [.Name N pT, .Name M pU] kt p3] [] pos) (tE X.K L W (S.isi2E T U o)) := by
  refine PE.imp (pe_callB (call_isiTE (X := X)) hg hm (by decide +kernel) (pa_cons ha (pa_cons (pe_tup (pa_cons (pe_bltn (v := .ty T) hgT hmT hvT rfl hnT hdT) (pa_cons (pe_bltn (v := .ty U) hgU hmU hvU rfl hnU hdU) pa_nil))) pa_nil) he) (by decide) (by decide) he) fun σ H Q ⟨G, η, Fs, R, q⟩ => ?_
  refine tO_use R q fun v p η1 G1 H1 Fs1 R1 E1 k1 q1 => ?_
  obtain ⟨d, e, q3⟩ := q1.lift
  cases hx : o.deep p η1 with
  | none => rw [hx] at e; cases e
  | some x =>
    rw [hx] at e
    have e : ((isiE T x).bind fun a => (isiE U x).map fun b => D.bl (a || b)) = some d := e
    cases hb : isiE T x with
    | none => rw [hb] at e; cases e
    | some b1 =>
      cases hc : isiE U x with
      | none => rw [hb, hc] at e; cases e
      | some b2 =>
        rw [hb, hc] at e; cases e
        have rp := k1.rep R1 hx
        obtain ⟨t1, t2⟩ := rp.tyE (K := X.K) hb
        obtain ⟨_, t3⟩ := rp.tyE (K := X.K) hc
        refine ⟨(small_ok (by decide) : (2 : Nat) ≤ sizeLine), fun a ha => ?_⟩
        have up : Le H1 (upd H1 a (.tup [.ty T, .ty U])) := upd_le ha
        obtain ⟨t4, _⟩ := (rp.mono up.sub).tyE (K := X.K) hb
        refine ⟨v, a, [.ty T, .ty U], _, [.type T, .type U], (b1 || b2), rfl, upd_same, .cons (.ty T) (.cons (.ty U) .nil), t4, kitAny_cons (kit_ty t2) (fun hh => kitAny_cons (kit_ty t3) (fun hh2 => ?_) fun hh2 => ?_) (fun hh => ?_), ?_⟩
        · rw [hh, hh2]; exact kitAny_nil
        · rw [hh, hh2]; rfl
        · rw [hh]; rfl
        · exact q3 _ _ _ (R1.reH (R1.sub.trans up.sub) fun d hd => by
            obtain ⟨k, mm⟩ := hd
            obtain ⟨u, z, _⟩ := R1.mem mm
            rw [z]; exact up _ _ z) ⟨Le.refl _, fun d o z _ => up d o z, fun d z => .inl z, fun d z => .inl z, fun d z w => by
            cases z2 : H1 d with
            | none => exact z z2
            | some o => rw [up d o z2] at w; cases w⟩ _ (.bl _)
end
@[simp] theorem v_isi2E {T U : String} {o : Opd} {η : Env} : S.isi2E T U o η = (o.pre η).bind fun p η1 => lift ((o.deep p η1).bind fun d => (isiE T d).bind fun a => (isiE U d).map fun b => D.bl (a || b)) η1 := rfl
/-! ### str -/
def dtD (ks : List Int) (i : Int) : PyData := .dict [(.tuple (ks.map .int), .int i)]
def strY : List D → Option D
  | [.dT [(k, .int i)]] => match k with
    | [.inl a, .inl b, .inl c, .inl d] => if (dtD [a, b, c, d] i).showable = true ∧ (dtD [a, b, c, d] i).depth ≤ 16 ∧ (dtD [a, b, c, d] i).shown.length ≤ sizeLine then some (.str (dtD [a, b, c, d] i).shown) else none
    | _ => none
  | ds => strX ds
def rStrT : List V → Hp → VK → Prop := fun vs H Q => ∃ (a : Addr) (ks : List Int) (i : Int), vs = [.ref a] ∧ Rd H a (.dT [(keyI ks, .int i)]) ∧ (dtD ks i).showable = true ∧ (dtD ks i).depth ≤ 16 ∧ (dtD ks i).shown.length ≤ sizeLine ∧ Q (.str (dtD ks i).shown) H
theorem reads_ints {h : Heap} : ∀ {ks : List Int} {us : List Value}, Vals (ks.map V.int) us → ReadsAll h us (ks.map .int) []
  | [], _, .nil => .nil
  | k :: ks, _, .cons r t => by
    obtain ⟨tk, e⟩ := (show ∃ t, _ = Value.int k t from r)
    subst e
    exact .cons (.int k tk) (reads_ints t)
theorem kv_keyI (ks : List Int) : (keyI ks).map kV = ks.map V.int := by
  unfold keyI
  rw [List.map_map]; rfl
theorem cr_strT {X : Cx} (hg : X.A.guards = some []) (hu : X.A.units + 65 < cLine) : CallR X (.type "str") rStrT := by
  intro pins s σ H vs us Q I r h
  obtain ⟨a, ks, i, rfl, ha, hs, hd, hl, q⟩ := h
  obtain ⟨z, y, xs, rel, o, es, ep, h1, h2, h3, h4, h5⟩ := (show ObjOk X.prog X.w H s.heap a (.dT [(keyI ks, .int i)]) from ha.ok I.hok)
  rw [Vals.ref1 r]
  cases rel with
  | @cons p x ps xs hp t =>
    cases t
    obtain ⟨k1, k2, k3⟩ := hp
    obtain ⟨kk, b, v⟩ := x
    simp only at k1 k2 k3
    obtain ⟨tk, ev⟩ := (show ∃ t, v = Value.int i t from k3)
    subst ev
    obtain ⟨_, its, rv, ob, g1, g2, n, g3⟩ := (show ObjOk X.prog X.w H s.heap b (.tup ((keyI ks).map kV)) from I.hok b _ k2)
    rw [kv_keyI] at rv
    have rk : Reads s.heap (.ref b) (.tuple (ks.map .int)) [] := .tuple g1 g2 g3 (reads_ints (by simpa using rv))
    have ra : Reads s.heap (.ref a) (dtD ks i) (a :: ([] ++ []) ++ ([] ++ [])) := .dict h1 h2.1 h3 (by rw [h4]; exact .cons rk .nil) (by rw [h4]; exact .cons (.int i tk) .nil)
    exact str_of_reads ra hs (fun _ m => by
      have : sysModules = a := by simpa using m
      rw [← this] at y
      simp at y) hg (by show X.A.units + ((dtD ks i).depth + 3) < cLine; omega) (fun _ _ e => e) (fun h' u tk hk => ⟨.str (dtD ks i).shown, H, I.kept (t' := tk) hk, ⟨u, rfl⟩, q⟩) hl
def rStrY (K : PySem.W.Frag) : List V → Hp → VK → Prop := fun vs H Q => rStrX K vs H Q ∨ rStrT vs H Q
theorem cr_strY {X : Cx} (hg : X.A.guards = some []) (hu : X.A.units + 65 < cLine) : CallR X (.type "str") (rStrY X.K) := CallR.or' (cr_strX hg hu) (cr_strT hg hu)
theorem cd_strY {K : PySem.W.Frag} : CallD (rStrY K) strY := by
  intro H vs ds d Q rl e fin
  unfold strY at e
  split at e
  · rename_i k i
    split at e
    · rename_i a b c d'
      split at e <;> cases e
      rename_i hc
      cases rl with
      | cons r1 r2 =>
        cases r2
        cases r1 with
        | dT h1 h2 h3 =>
          rename_i vs0
          match vs0, h2, h3, h1 with
          | [(k0, v0)], h2, h3, h1 =>
            have hk : k0 = [.inl a, .inl b, .inl c, .inl d'] := by simpa using h2
            subst hk
            cases h3 with
            | cons r3 _ =>
              cases r3
              exact .inr ⟨_, [a, b, c, d'], i, rfl, h1, hc.1, hc.2.1, hc.2.2, fin _ fun G => .str _⟩
    · cases e
  · exact .inl (cd_strX H vs ds d Q rl e fin)
end DV

namespace Sem
open PySem PySem.Spec PyProof.Rows L2 DV
def exmT : List (PySem.Str × PySem.Str × Bool) := [("NoGrid", "ShellError", true), ("ShellError", "ShellError", true)]
noncomputable def s_is_whole : SS := S.ret (S.up (S.band (S.isi "int" (.nm 0)) (S.bnot (S.isi "bool" (.nm 0)))))
noncomputable def f_is_whole : FnSem := Shut (S.run s_is_whole 1 [false])
theorem f_is_whole_eq : f_is_whole = S.run s_is_whole 1 [false] := shut_eq _
noncomputable def s_written : SS := S.seq (S.asgG (S.var 0) (S.gtup [S.name 1, S.name 2, S.name 3, S.name 4])) (S.seq (S.ifs (S.tor (S.tst (S.cmp gtX (.nm 1) (.nm 2))) (S.tand (S.tst (S.cmp eqD (.nm 1) (.nm 2))) (S.tst (S.cmp ltD (.ex (S.tup (S.cons (S.var 3) (S.cons (S.var 4) (S.nil))))) (.ex (S.tup (S.cons (S.c (.int 0)) (S.cons (S.c (.int 0)) (S.nil))))))))) (S.ret (S.up (S.tup (S.cons (S.var 2) (S.cons (S.var 1) (S.cons (S.fz (S.bin subD (.ex (S.c (.int 0))) (.nm 3))) (S.cons (S.fz (S.bin subD (.ex (S.c (.int 0))) (.nm 4))) (S.nil)))))))) (S.pass)) (S.ret (S.mov 0)))
noncomputable def f_written : FnSem := Shut (S.run s_written 5 [false])
theorem f_written_eq : f_written = S.run s_written 5 [false] := shut_eq _
noncomputable def b1__law_folded : SS := S.setA 2 (S.fz (S.bin addD (.ex (S.fz (S.bin mulD (.ex (S.fz (S.bin ixA (.nm 2) (.ex (S.fz (S.bin modD (.nm 3) (.ex (S.fnd lenD [.nm 2])))))))) (.ex (S.c (.int 7)))))) (.nm 4))) (S.fz (S.bin modD (.nm 3) (.ex (S.fnd lenD [.nm 2]))))
noncomputable def l1__law_folded : SS := S.fors (S.enum (S.var 0)) (S.gtup [S.name 3, S.name 4]) b1__law_folded
noncomputable def s__law_folded : SS := S.seq (S.asg 2 (S.bin mulD (.ex (S.fz (S.lst (S.cons (S.c (.int 0)) (S.nil))))) (.ex (S.fnd minA [.nm 1, .ex (S.fnd maxA [.ex (S.c (.int 1)), .ex (S.fnd lenD [.nm 0])])])))) (S.seq (l1__law_folded) (S.ret (S.mov 2)))
noncomputable def f__law_folded : FnSem := Shut (S.run s__law_folded 5 [false, false])
theorem f__law_folded_eq : f__law_folded = S.run s__law_folded 5 [false, false] := shut_eq _
noncomputable def s__law_begun : SS := S.seq (S.asg 1 (S.up (S.c (.int 0)))) (S.seq (S.ifs (S.tst (S.cmp geX (.ex (S.fnd absD [.nm 0])) (.ex (S.fz (S.bin powD (.ex (S.c (.int 10))) (.ex (S.c (.int 18)))))))) (S.asg 1 (S.bin addD (.ex (S.fz (S.bin subD (.ex (S.fnd absD [.nm 0])) (.ex (S.fz (S.bin powD (.ex (S.c (.int 10))) (.ex (S.c (.int 18))))))))) (.ex (S.c (.int 1))))) (S.pass)) (S.ret (S.lst (S.cons (S.var 1) (S.cons (S.c (.int 0)) (S.cons (S.fz (S.bin modD (.nm 0) (.ex (S.c (.int 2147483647))))) (S.nil)))))))
noncomputable def f__law_begun : FnSem := Shut (S.run s__law_begun 2 [false])
theorem f__law_begun_eq : f__law_begun = S.run s__law_begun 2 [false] := shut_eq _
noncomputable def s__law_take : SS := S.seq (S.ifs (S.tst (S.cmp gtX (.ex (S.fz (S.bin ixA (.nm 0) (.ex (S.c (.int 0)))))) (.ex (S.c (.int 0))))) (S.seq (S.asg 2 (S.bin modD (.ex (S.fz (S.bin ixA (.nm 0) (.ex (S.c (.int 0)))))) (.nm 1))) (S.seq (S.setA 0 (S.fz (S.bin fdivD (.ex (S.fz (S.bin ixA (.nm 0) (.ex (S.c (.int 0)))))) (.nm 1))) (S.c (.int 0))) (S.ret (S.mov 2)))) (S.pass)) (S.seq (S.setA 0 (S.fz (S.bin addD (.ex (S.fz (S.bin ixA (.nm 0) (.ex (S.c (.int 1)))))) (.ex (S.c (.int 1))))) (S.c (.int 1))) (S.seq (S.asg 3 (S.bin modD (.ex (S.fz (S.bin addD (.ex (S.fz (S.bin addD (.ex (S.fz (S.bin addD (.ex (S.fz (S.bin ixA (.nm 0) (.ex (S.c (.int 2)))))) (.ex (S.fz (S.bin mulD (.ex (S.fz (S.bin mulD (.ex (S.c (.int 977))) (.ex (S.fz (S.bin ixA (.nm 0) (.ex (S.c (.int 1))))))))) (.ex (S.fz (S.bin ixA (.nm 0) (.ex (S.c (.int 1)))))))))))) (.ex (S.fz (S.bin mulD (.ex (S.c (.int 40693))) (.ex (S.fz (S.bin ixA (.nm 0) (.ex (S.c (.int 1)))))))))))) (.ex (S.c (.int 1)))))) (.ex (S.c (.int 2147483647))))) (S.seq (S.asg 3 (S.bin modD (.ex (S.fz (S.bin mulD (.ex (S.fz (S.bin modD (.ex (S.fz (S.bin mulD (.nm 3) (.nm 3)))) (.ex (S.c (.int 1000000007)))))) (.ex (S.c (.int 48271)))))) (.ex (S.c (.int 998244353))))) (S.ret (S.bin modD (.ex (S.fz (S.bin fdivD (.nm 3) (.ex (S.c (.int 8)))))) (.nm 1))))))
noncomputable def f__law_take : FnSem := Shut (S.run s__law_take 4 [true, false])
theorem f__law_take_eq : f__law_take = S.run s__law_take 4 [true, false] := shut_eq _
noncomputable def s__law_turned : SS := S.ret (S.up (S.tup (S.cons (S.fz (S.bin ixA (.nm 0) (.ex (S.c (.int 1))))) (S.cons (S.fz (S.bin ixA (.nm 0) (.ex (S.c (.int 0))))) (S.cons (S.fz (S.bin subD (.ex (S.c (.int 0))) (.ex (S.fz (S.bin ixA (.nm 0) (.ex (S.c (.int 2)))))))) (S.cons (S.fz (S.bin subD (.ex (S.c (.int 0))) (.ex (S.fz (S.bin ixA (.nm 0) (.ex (S.c (.int 3)))))))) (S.nil)))))))
noncomputable def f__law_turned : FnSem := Shut (S.run s__law_turned 1 [false])
theorem f__law_turned_eq : f__law_turned = S.run s__law_turned 1 [false] := shut_eq _
noncomputable def b1__law_all_whole : SS := S.drop (S.lm 1 extendX (S.cons (S.var 2) (S.nil)))
noncomputable def l1__law_all_whole : SS := S.fors (S.items (S.fz (S.bin ixA (.nm 0) (.ex (S.c (.int 1)))))) (S.name 2) b1__law_all_whole
noncomputable def c1__law_all_whole : SF := S.compX 0 [3] 1 (S.name 3) (S.ct true) (S.up (S.band (S.isi "int" (.nm 3)) (S.bnot (S.isi "bool" (.nm 3)))))
noncomputable def s__law_all_whole : SS := S.seq (S.asg 1 (S.lst (S.cons (S.fz (S.bin ixA (.nm 0) (.ex (S.c (.int 0))))) (S.nil)))) (S.seq (l1__law_all_whole) (S.ret (S.up (S.fnd allD [.ex (S.fz (c1__law_all_whole))]))))
noncomputable def f__law_all_whole : FnSem := Shut (S.run s__law_all_whole 4 [false])
theorem f__law_all_whole_eq : f__law_all_whole = S.run s__law_all_whole 4 [false] := shut_eq _
noncomputable def s_is_of : SS := S.ret (S.up (S.band (S.fz (S.call f_is_whole [.ex (S.var 1)])) (S.chain leX ltD (S.c (.int 0)) (S.var 1) (S.var 0))))
noncomputable def f_is_of : FnSem := Shut (S.run s_is_of 2 [false, false])
theorem f_is_of_eq : f_is_of = S.run s_is_of 2 [false, false] := shut_eq _
noncomputable def s_is_step : SS := S.ret (S.up (S.band (S.fz (S.call f_is_whole [.ex (S.var 0)])) (S.chain leX leX (S.fz (S.bin subD (.ex (S.c (.int 0))) (.ex (S.c (.int 1))))) (S.var 0) (S.c (.int 1)))))
noncomputable def f_is_step : FnSem := Shut (S.run s_is_step 1 [false])
theorem f_is_step_eq : f_is_step = S.run s_is_step 1 [false] := shut_eq _
noncomputable def b1__law_wide : SS := S.asg 2 (S.bin addD (.ex (S.fz (S.bin mulD (.nm 2) (.ex (S.c (.int 1000003)))))) (.ex (S.fz (S.call f__law_take [.lend 0, .ex (S.c (.int 1000003))]))))
noncomputable def l1__law_wide : SS := S.fors (S.range1 (S.fz (S.bin addD (.ex (S.c (.int 3))) (.ex (S.fz (S.bin fdivD (.ex (S.bits (S.var 1))) (.ex (S.c (.int 19))))))))) (S.name 3) b1__law_wide
noncomputable def s__law_wide : SS := S.seq (S.ifs (S.tor (S.tst (S.cmp gtX (.ex (S.fz (S.bin ixA (.nm 0) (.ex (S.c (.int 0)))))) (.ex (S.c (.int 0))))) (S.tst (S.cmp ltD (.nm 1) (.ex (S.fz (S.bin powD (.ex (S.c (.int 10))) (.ex (S.c (.int 6))))))))) (S.ret (S.call f__law_take [.lend 0, .ex (S.var 1)])) (S.pass)) (S.seq (S.asg 2 (S.up (S.c (.int 0)))) (S.seq (l1__law_wide) (S.ret (S.bin modD (.nm 2) (.nm 1)))))
noncomputable def f__law_wide : FnSem := Shut (S.run s__law_wide 4 [true, false])
theorem f__law_wide_eq : f__law_wide = S.run s__law_wide 4 [true, false] := shut_eq _
noncomputable def s__law_tie : SS := S.seq (S.asg 2 (S.call f__law_take [.lend 0, .ex (S.var 1)])) (S.seq (S.asg 3 (S.call f__law_take [.lend 0, .ex (S.var 1)])) (S.seq (S.asg 4 (S.bin subD (.ex (S.fz (S.call f__law_take [.lend 0, .ex (S.c (.int 3))]))) (.ex (S.c (.int 1))))) (S.seq (S.asg 5 (S.bin subD (.ex (S.fz (S.call f__law_take [.lend 0, .ex (S.c (.int 3))]))) (.ex (S.c (.int 1))))) (S.seq (S.ifs (S.tand (S.tst (S.cmp eqD (.nm 2) (.nm 3))) (S.tst (S.cmp eqD (.ex (S.tup (S.cons (S.var 4) (S.cons (S.var 5) (S.nil))))) (.ex (S.tup (S.cons (S.c (.int 0)) (S.cons (S.c (.int 0)) (S.nil)))))))) (S.asg 4 (S.bin subD (.ex (S.c (.int 1))) (.ex (S.fz (S.bin mulD (.ex (S.c (.int 2))) (.ex (S.fz (S.call f__law_take [.lend 0, .ex (S.c (.int 2))])))))))) (S.pass)) (S.ret (S.up (S.tup (S.cons (S.var 2) (S.cons (S.var 3) (S.cons (S.var 4) (S.cons (S.var 5) (S.nil))))))))))))
noncomputable def f__law_tie : FnSem := Shut (S.run s__law_tie 6 [true, false])
theorem f__law_tie_eq : f__law_tie = S.run s__law_tie 6 [true, false] := shut_eq _
noncomputable def s__law_written : SS := S.seq (S.ifs (S.tor (S.tst (S.cmp ltD (.ex (S.fz (S.bin ixA (.nm 0) (.ex (S.c (.int 0)))))) (.ex (S.fz (S.bin ixA (.nm 0) (.ex (S.c (.int 1)))))))) (S.tand (S.tst (S.cmp eqD (.ex (S.fz (S.bin ixA (.nm 0) (.ex (S.c (.int 0)))))) (.ex (S.fz (S.bin ixA (.nm 0) (.ex (S.c (.int 1)))))))) (S.tst (S.cmp gtX (.ex (S.fz (S.slc (.nm 0) (some (S.c (.int 2))) none))) (.ex (S.tup (S.cons (S.c (.int 0)) (S.cons (S.c (.int 0)) (S.nil))))))))) (S.ret (S.mov 0)) (S.pass)) (S.ret (S.call f__law_turned [.ex (S.var 0)]))
noncomputable def f__law_written : FnSem := Shut (S.run s__law_written 1 [false])
theorem f__law_written_eq : f__law_written = S.run s__law_written 1 [false] := shut_eq _
noncomputable def s__law_known : SS := S.seq (S.asg 1 (S.lst (S.cons (S.tup (S.cons (S.c (.int 1)) (S.cons (S.tup (S.cons (S.tup (S.cons (S.c (.int 0)) (S.cons (S.c (.int 0)) (S.cons (S.c (.int 0)) (S.cons (S.c (.int 1)) (S.nil)))))) (S.cons (S.tup (S.cons (S.c (.int 0)) (S.cons (S.c (.int 0)) (S.cons (S.c (.int 1)) (S.cons (S.c (.int 0)) (S.nil)))))) (S.nil)))) (S.nil)))) (S.cons (S.tup (S.cons (S.c (.int 1)) (S.cons (S.tup (S.cons (S.tup (S.cons (S.c (.int 0)) (S.cons (S.c (.int 0)) (S.cons (S.c (.int 0)) (S.cons (S.c (.int 1)) (S.nil)))))) (S.cons (S.tup (S.cons (S.c (.int 0)) (S.cons (S.c (.int 0)) (S.cons (S.c (.int 1)) (S.cons (S.c (.int 0)) (S.nil)))))) (S.cons (S.tup (S.cons (S.c (.int 0)) (S.cons (S.c (.int 0)) (S.cons (S.c (.int 1)) (S.cons (S.c (.int 1)) (S.nil)))))) (S.nil))))) (S.nil)))) (S.nil))))) (S.seq (S.drop (S.lm 1 appendD (S.cons (S.tup (S.cons (S.c (.int 1)) (S.cons (S.tup (S.cons (S.tup (S.cons (S.c (.int 0)) (S.cons (S.c (.int 0)) (S.cons (S.c (.int 0)) (S.cons (S.c (.int 1)) (S.nil)))))) (S.cons (S.tup (S.cons (S.c (.int 0)) (S.cons (S.c (.int 0)) (S.cons (S.c (.int 1)) (S.cons (S.fz (S.un negD (.ex (S.c (.int 1))))) (S.nil)))))) (S.cons (S.tup (S.cons (S.c (.int 0)) (S.cons (S.c (.int 0)) (S.cons (S.c (.int 1)) (S.cons (S.c (.int 0)) (S.nil)))))) (S.cons (S.tup (S.cons (S.c (.int 0)) (S.cons (S.c (.int 0)) (S.cons (S.c (.int 1)) (S.cons (S.c (.int 1)) (S.nil)))))) (S.nil)))))) (S.nil)))) (S.nil)))) (S.seq (S.drop (S.lm 1 appendD (S.cons (S.tup (S.cons (S.c (.int 2)) (S.cons (S.tup (S.cons (S.tup (S.cons (S.c (.int 0)) (S.cons (S.c (.int 1)) (S.cons (S.fz (S.un negD (.ex (S.c (.int 1))))) (S.cons (S.c (.int 0)) (S.nil)))))) (S.cons (S.tup (S.cons (S.c (.int 0)) (S.cons (S.c (.int 1)) (S.cons (S.c (.int 0)) (S.cons (S.fz (S.un negD (.ex (S.c (.int 1))))) (S.nil)))))) (S.cons (S.tup (S.cons (S.c (.int 0)) (S.cons (S.c (.int 1)) (S.cons (S.c (.int 0)) (S.cons (S.c (.int 0)) (S.nil)))))) (S.nil))))) (S.nil)))) (S.nil)))) (S.seq (S.drop (S.lm 1 appendD (S.cons (S.tup (S.cons (S.c (.int 3)) (S.cons (S.tup (S.cons (S.tup (S.cons (S.c (.int 0)) (S.cons (S.c (.int 1)) (S.cons (S.fz (S.un negD (.ex (S.c (.int 1))))) (S.cons (S.c (.int 0)) (S.nil)))))) (S.cons (S.tup (S.cons (S.c (.int 0)) (S.cons (S.c (.int 1)) (S.cons (S.c (.int 0)) (S.cons (S.c (.int 0)) (S.nil)))))) (S.cons (S.tup (S.cons (S.c (.int 0)) (S.cons (S.c (.int 2)) (S.cons (S.c (.int 0)) (S.cons (S.fz (S.un negD (.ex (S.c (.int 1))))) (S.nil)))))) (S.cons (S.tup (S.cons (S.c (.int 0)) (S.cons (S.c (.int 2)) (S.cons (S.c (.int 0)) (S.cons (S.c (.int 0)) (S.nil)))))) (S.cons (S.tup (S.cons (S.c (.int 1)) (S.cons (S.c (.int 2)) (S.cons (S.c (.int 0)) (S.cons (S.c (.int 0)) (S.nil)))))) (S.cons (S.tup (S.cons (S.c (.int 1)) (S.cons (S.c (.int 2)) (S.cons (S.c (.int 1)) (S.cons (S.fz (S.un negD (.ex (S.c (.int 1))))) (S.nil)))))) (S.nil)))))))) (S.nil)))) (S.nil)))) (S.seq (S.drop (S.lm 1 appendD (S.cons (S.tup (S.cons (S.c (.int 4)) (S.cons (S.tup (S.cons (S.tup (S.cons (S.c (.int 0)) (S.cons (S.c (.int 1)) (S.cons (S.c (.int 0)) (S.cons (S.c (.int 0)) (S.nil)))))) (S.cons (S.tup (S.cons (S.c (.int 0)) (S.cons (S.c (.int 2)) (S.cons (S.fz (S.un negD (.ex (S.c (.int 1))))) (S.cons (S.c (.int 0)) (S.nil)))))) (S.cons (S.tup (S.cons (S.c (.int 0)) (S.cons (S.c (.int 3)) (S.cons (S.c (.int 0)) (S.cons (S.c (.int 0)) (S.nil)))))) (S.cons (S.tup (S.cons (S.c (.int 1)) (S.cons (S.c (.int 2)) (S.cons (S.c (.int 0)) (S.cons (S.c (.int 0)) (S.nil)))))) (S.cons (S.tup (S.cons (S.c (.int 1)) (S.cons (S.c (.int 3)) (S.cons (S.c (.int 0)) (S.cons (S.c (.int 1)) (S.nil)))))) (S.cons (S.tup (S.cons (S.c (.int 2)) (S.cons (S.c (.int 3)) (S.cons (S.c (.int 0)) (S.cons (S.c (.int 0)) (S.nil)))))) (S.nil)))))))) (S.nil)))) (S.nil)))) (S.seq (S.drop (S.lm 1 appendD (S.cons (S.tup (S.cons (S.c (.int 1)) (S.cons (S.tup (S.cons (S.tup (S.cons (S.c (.int 0)) (S.cons (S.c (.int 0)) (S.cons (S.c (.int 0)) (S.cons (S.c (.int 1)) (S.nil)))))) (S.nil))) (S.nil)))) (S.nil)))) (S.seq (S.drop (S.lm 1 appendD (S.cons (S.tup (S.cons (S.c (.int 2)) (S.cons (S.tup (S.cons (S.tup (S.cons (S.c (.int 0)) (S.cons (S.c (.int 0)) (S.cons (S.c (.int 0)) (S.cons (S.c (.int 1)) (S.nil)))))) (S.cons (S.tup (S.cons (S.c (.int 0)) (S.cons (S.c (.int 0)) (S.cons (S.c (.int 1)) (S.cons (S.c (.int 0)) (S.nil)))))) (S.cons (S.tup (S.cons (S.c (.int 1)) (S.cons (S.c (.int 1)) (S.cons (S.c (.int 0)) (S.cons (S.c (.int 1)) (S.nil)))))) (S.cons (S.tup (S.cons (S.c (.int 1)) (S.cons (S.c (.int 1)) (S.cons (S.c (.int 1)) (S.cons (S.c (.int 1)) (S.nil)))))) (S.nil)))))) (S.nil)))) (S.nil)))) (S.ret (S.bin ixA (.nm 1) (.ex (S.fz (S.call f__law_take [.lend 0, .ex (S.c (.int 8))])))))))))))
noncomputable def f__law_known : FnSem := Shut (S.run s__law_known 2 [true])
theorem f__law_known_eq : f__law_known = S.run s__law_known 2 [true] := shut_eq _
noncomputable def b1__law_list : SS := S.drop (S.lm 2 appendD (S.cons (S.fz (S.bin ixA (.ex (S.fz (S.lst (S.cons (S.var 4) (S.cons (S.fz (S.call f__law_turned [.ex (S.var 4)])) (S.nil)))))) (.ex (S.fz (S.call f__law_take [.lend 0, .ex (S.c (.int 2))]))))) (S.nil)))
noncomputable def l1__law_list : SS := S.fors (S.range1 (S.fnd maxA [.ex (S.c (.int 0)), .ex (S.fnd minA [.nm 5, .ex (S.fz (S.bin subD (.ex (S.fz (S.bin subD (.ex (S.c (.int 50))) (.ex (S.fnd lenD [.nm 2]))))) (.ex (S.fnd lenD [.nm 3]))))])])) (S.name 6) b1__law_list
noncomputable def b2__law_list : SS := S.seq (S.asg 4 (S.up (S.lm 3 popAtD (S.cons (S.fz (S.call f__law_take [.lend 0, .ex (S.fnd lenD [.nm 3])])) (S.nil))))) (S.seq (S.drop (S.lm 2 appendD (S.cons (S.fz (S.bin ixA (.ex (S.fz (S.lst (S.cons (S.var 4) (S.cons (S.fz (S.call f__law_turned [.ex (S.var 4)])) (S.nil)))))) (.ex (S.fz (S.call f__law_take [.lend 0, .ex (S.c (.int 2))]))))) (S.nil)))) (S.seq (S.asg 5 (S.bin mulD (.ex (S.fz (S.call f__law_take [.lend 0, .ex (S.c (.int 4))]))) (.ex (S.fz (S.call f__law_take [.lend 0, .ex (S.c (.int 2))]))))) (l1__law_list)))
noncomputable def w1__law_list : SS := S.whl (S.tst (S.cmp gtX (.ex (S.fnd lenD [.nm 3])) (.ex (S.c (.int 0))))) b2__law_list
noncomputable def s__law_list : SS := S.seq (S.asg 2 (S.lst (S.nil))) (S.seq (S.asg 3 (S.fn listD [.ex (S.fz (S.bin ixA (.nm 1) (.ex (S.c (.int 1)))))])) (S.seq (w1__law_list) (S.seq (S.ifs (S.tand (S.tst (S.cmp gtX (.ex (S.fnd lenD [.nm 2])) (.ex (S.c (.int 0))))) (S.tst (S.cmp eqD (.ex (S.fz (S.call f__law_take [.lend 0, .ex (S.c (.int 4))]))) (.ex (S.c (.int 0)))))) (S.asg 2 (S.slc (.ex (S.fz (S.bin mulD (.nm 2) (.ex (S.c (.int 50)))))) none (some (S.c (.int 50))))) (S.pass)) (S.ret (S.mov 2)))))
noncomputable def f__law_list : FnSem := Shut (S.run s__law_list 7 [true, false])
theorem f__law_list_eq : f__law_list = S.run s__law_list 7 [true, false] := shut_eq _
noncomputable def c1__law_odd : SF := S.comp 0 [7] (S.range1 (S.c (.int 9))) (S.name 7) (S.ct true) (S.up (S.tup (S.cons (S.c (.int 0)) (S.cons (S.c (.int 1)) (S.cons (S.fz (S.bin subD (.ex (S.fz (S.bin fdivD (.nm 7) (.ex (S.c (.int 3)))))) (.ex (S.c (.int 1))))) (S.cons (S.fz (S.bin subD (.ex (S.fz (S.bin modD (.nm 7) (.ex (S.c (.int 3)))))) (.ex (S.c (.int 1))))) (S.nil)))))))
noncomputable def c2__law_odd : SF := S.comp 0 [7] (S.range1 (S.c (.int 4))) (S.name 7) (S.ct true) (S.up (S.tup (S.cons (S.c (.int 1)) (S.cons (S.c (.int 1)) (S.cons (S.fz (S.bin subD (.ex (S.fz (S.bin fdivD (.nm 7) (.ex (S.c (.int 3)))))) (.ex (S.c (.int 1))))) (S.cons (S.fz (S.bin subD (.ex (S.fz (S.bin modD (.nm 7) (.ex (S.c (.int 3)))))) (.ex (S.c (.int 1))))) (S.nil)))))))
noncomputable def c3__law_odd : SF := S.comp 0 [7] (S.range1 (S.c (.int 4))) (S.name 7) (S.ct true) (S.up (S.tup (S.cons (S.c (.int 0)) (S.cons (S.c (.int 0)) (S.cons (S.fz (S.bin subD (.ex (S.fz (S.bin fdivD (.nm 7) (.ex (S.c (.int 3)))))) (.ex (S.c (.int 1))))) (S.cons (S.fz (S.bin subD (.ex (S.fz (S.bin modD (.nm 7) (.ex (S.c (.int 3)))))) (.ex (S.c (.int 1))))) (S.nil)))))))
noncomputable def s__law_odd : SS := S.seq (S.asg 3 (S.call f__law_take [.lend 0, .ex (S.c (.int 6))])) (S.seq (S.asg 4 (S.call f__law_take [.lend 0, .ex (S.fz (S.bin addD (.ex (S.fnd lenD [.nm 2])) (.ex (S.c (.int 1)))))])) (S.seq (S.ifs (S.tst (S.cmp eqD (.nm 3) (.ex (S.c (.int 0))))) (S.ret (S.up (S.tup (S.cons (S.fz (S.bin ixA (.ex (S.fz (S.lst (S.cons (S.c (.int 0)) (S.cons (S.c (.int 5)) (S.cons (S.fz (S.bin subD (.ex (S.c (.int 0))) (.ex (S.c (.int 1))))) (S.cons (S.c (.bl true)) (S.cons (S.c .non) (S.cons (S.c (.str "2")) (S.cons (S.tup (S.cons (S.c (.int 1)) (S.nil))) (S.cons (S.fz (S.bin powD (.ex (S.c (.int 10))) (.ex (S.c (.int 30))))) (S.nil)))))))))))) (.ex (S.fz (S.call f__law_take [.lend 0, .ex (S.c (.int 8))]))))) (S.cons (S.var 2) (S.nil)))))) (S.pass)) (S.seq (S.ifs (S.tst (S.cmp eqD (.nm 3) (.ex (S.c (.int 1))))) (S.ret (S.up (S.tup (S.cons (S.var 1) (S.cons (S.fz (S.bin ixA (.ex (S.fz (S.lst (S.cons (S.c .non) (S.cons (S.c (.int 7)) (S.cons (S.c (.str "0")) (S.cons (S.fz (S.dnew (.dK []))) (S.cons (S.fz (S.disp (S.tup (S.cons (S.c (.int 0)) (S.cons (S.c (.int 0)) (S.cons (S.c (.int 0)) (S.cons (S.c (.int 1)) (S.nil)))))) (S.c (.int 1)))) (S.cons (S.c (.bl true)) (S.nil)))))))))) (.ex (S.fz (S.call f__law_take [.lend 0, .ex (S.c (.int 6))]))))) (S.nil)))))) (S.pass)) (S.seq (S.ifs (S.tst (S.cmp eqD (.nm 3) (.ex (S.c (.int 2))))) (S.ret (S.up (S.tup (S.cons (S.var 1) (S.cons (S.fz (S.slc (.ex (S.fz (S.bin addD (.nm 2) (.ex (S.fz (S.bin mulD (.ex (S.fz (S.lst (S.cons (S.tup (S.cons (S.c (.int 0)) (S.cons (S.c (.int 0)) (S.cons (S.c (.int 0)) (S.cons (S.c (.int 1)) (S.nil)))))) (S.nil))))) (.ex (S.c (.int 51))))))))) none (some (S.c (.int 51))))) (S.nil)))))) (S.pass)) (S.seq (S.ifs (S.tst (S.cmp eqD (.nm 3) (.ex (S.c (.int 3))))) (S.seq (S.asg 5 (S.bin addD (.ex (S.fz (c1__law_odd))) (.ex (S.fz (c2__law_odd))))) (S.ret (S.up (S.tup (S.cons (S.c (.int 2)) (S.cons (S.fz (S.bin addD (.nm 5) (.ex (S.fz (c3__law_odd))))) (S.nil))))))) (S.pass)) (S.seq (S.asg 6 (S.lst (S.cons (S.tup (S.cons (S.c (.int 0)) (S.cons (S.c (.int 0)) (S.cons (S.c (.int 0)) (S.cons (S.c (.int 0)) (S.nil)))))) (S.cons (S.tup (S.cons (S.var 1) (S.cons (S.c (.int 0)) (S.cons (S.c (.int 0)) (S.cons (S.c (.int 1)) (S.nil)))))) (S.cons (S.tup (S.cons (S.c (.int 0)) (S.cons (S.c (.int 0)) (S.cons (S.c (.int 2)) (S.cons (S.c (.int 0)) (S.nil)))))) (S.cons (S.tup (S.cons (S.c (.int 0)) (S.cons (S.c (.int 0)) (S.cons (S.c (.int 0)) (S.cons (S.fz (S.bin subD (.ex (S.c (.int 0))) (.ex (S.c (.int 2))))) (S.nil)))))) (S.cons (S.tup (S.cons (S.c (.int 0)) (S.cons (S.c (.int 0)) (S.cons (S.c (.int 1)) (S.nil))))) (S.cons (S.fz (S.lst (S.cons (S.c (.int 0)) (S.cons (S.c (.int 0)) (S.cons (S.c (.int 0)) (S.cons (S.c (.int 1)) (S.nil))))))) (S.cons (S.tup (S.cons (S.c (.int 0)) (S.cons (S.c (.int 0)) (S.cons (S.c (.bl true)) (S.cons (S.c (.int 1)) (S.nil)))))) (S.nil)))))))))) (S.seq (S.asg 6 (S.bin addD (.nm 6) (.ex (S.fz (S.lst (S.cons (S.c .non) (S.cons (S.tup (S.cons (S.c (.int 0)) (S.cons (S.c (.int 0)) (S.cons (S.c (.int 0)) (S.cons (S.c (.int 1)) (S.cons (S.c (.int 0)) (S.nil))))))) (S.cons (S.tup (S.cons (S.fz (S.bin subD (.ex (S.c (.int 0))) (.ex (S.c (.int 1))))) (S.cons (S.c (.int 0)) (S.cons (S.c (.int 1)) (S.cons (S.c (.int 1)) (S.nil)))))) (S.cons (S.tup (S.cons (S.c (.str "0")) (S.cons (S.c (.int 0)) (S.cons (S.c (.int 0)) (S.cons (S.c (.int 1)) (S.nil)))))) (S.cons (S.tup (S.cons (S.c (.int 0)) (S.cons (S.c (.int 0)) (S.cons (S.c .non) (S.cons (S.c (.int 1)) (S.nil)))))) (S.nil))))))))))) (S.seq (S.drop (S.lm 6 appendD (S.cons (S.tup (S.cons (S.fz (S.bin subD (.nm 1) (.ex (S.c (.int 1))))) (S.cons (S.fz (S.bin subD (.nm 1) (.ex (S.c (.int 1))))) (S.cons (S.c (.int 0)) (S.cons (S.c (.int 0)) (S.nil)))))) (S.nil)))) (S.ret (S.up (S.tup (S.cons (S.var 1) (S.cons (S.fz (S.slc (.ex (S.fz (S.bin addD (.ex (S.fz (S.bin addD (.ex (S.fz (S.slc (.nm 2) none (some (S.var 4))))) (.ex (S.fz (S.lst (S.cons (S.fz (S.bin ixA (.nm 6) (.ex (S.fz (S.call f__law_take [.lend 0, .ex (S.c (.int 13))]))))) (S.nil)))))))) (.ex (S.fz (S.slc (.nm 2) (some (S.var 4)) none)))))) none (some (S.fz (S.bin addD (.ex (S.c (.int 50))) (.ex (S.fnd intD [.ex (S.cmp gtX (.nm 4) (.ex (S.c (.int 48))))]))))))) (S.nil))))))))))))))
noncomputable def f__law_odd : FnSem := Shut (S.run s__law_odd 8 [true, false, false])
theorem f__law_odd_eq : f__law_odd = S.run s__law_odd 8 [true, false, false] := shut_eq _
noncomputable def s_is_tie : SS := S.seq (S.ifs (S.tor (S.tnot (S.tst (S.isi "tuple" (.nm 1)))) (S.tst (S.cmp neD (.ex (S.fnd lenD [.nm 1])) (.ex (S.c (.int 4)))))) (S.ret (S.up (S.c (.bl false)))) (S.pass)) (S.seq (S.ifs (S.tor (S.tnot (S.tst (S.fz (S.call f_is_of [.ex (S.var 0), .ex (S.fz (S.bin ixA (.nm 1) (.ex (S.c (.int 0)))))])))) (S.tor (S.tnot (S.tst (S.fz (S.call f_is_of [.ex (S.var 0), .ex (S.fz (S.bin ixA (.nm 1) (.ex (S.c (.int 1)))))])))) (S.tor (S.tnot (S.tst (S.fz (S.call f_is_step [.ex (S.fz (S.bin ixA (.nm 1) (.ex (S.c (.int 2)))))])))) (S.tnot (S.tst (S.fz (S.call f_is_step [.ex (S.fz (S.bin ixA (.nm 1) (.ex (S.c (.int 3)))))]))))))) (S.ret (S.up (S.c (.bl false)))) (S.pass)) (S.ret (S.up (S.bor (S.cmp neD (.ex (S.fz (S.bin ixA (.nm 1) (.ex (S.c (.int 0)))))) (.ex (S.fz (S.bin ixA (.nm 1) (.ex (S.c (.int 1))))))) (S.cmp neD (.ex (S.fz (S.slc (.nm 1) (some (S.c (.int 2))) none))) (.ex (S.tup (S.cons (S.c (.int 0)) (S.cons (S.c (.int 0)) (S.nil))))))))))
noncomputable def f_is_tie : FnSem := Shut (S.run s_is_tie 2 [false, false])
theorem f_is_tie_eq : f_is_tie = S.run s_is_tie 2 [false, false] := shut_eq _
noncomputable def b1__law_grid : SS := S.seq (S.asg 4 (S.call f__law_written [.ex (S.fz (S.call f__law_tie [.lend 0, .ex (S.var 1)]))])) (S.ifs (S.tand (S.tst (S.cmp ninA (.nm 4) (.nm 2))) (S.tst (S.cmp ltD (.ex (S.fnd lenD [.nm 2])) (.ex (S.c (.int 16)))))) (S.drop (S.lm 2 appendD (S.cons (S.var 4) (S.nil)))) (S.pass))
noncomputable def l1__law_grid : SS := S.fors (S.range1 (S.fz (S.bin ixA (.ex (S.fz (S.lst (S.cons (S.fz (S.call f__law_take [.lend 0, .ex (S.c (.int 4))])) (S.cons (S.fz (S.bin addD (.ex (S.c (.int 2))) (.ex (S.fz (S.call f__law_take [.lend 0, .ex (S.c (.int 7))]))))) (S.cons (S.fz (S.call f__law_take [.lend 0, .ex (S.c (.int 21))])) (S.nil))))))) (.ex (S.fz (S.call f__law_take [.lend 0, .ex (S.c (.int 3))])))))) (S.name 3) b1__law_grid
noncomputable def s__law_grid : SS := S.seq (S.ifs (S.tst (S.cmp eqD (.ex (S.fz (S.call f__law_take [.lend 0, .ex (S.c (.int 3))]))) (.ex (S.c (.int 0))))) (S.ret (S.call f__law_known [.lend 0])) (S.pass)) (S.seq (S.asg 1 (S.bin addD (.ex (S.c (.int 1))) (.ex (S.fz (S.call f__law_take [.lend 0, .ex (S.c (.int 4))]))))) (S.seq (S.asg 2 (S.lst (S.nil))) (S.seq (l1__law_grid) (S.ret (S.up (S.tup (S.cons (S.var 1) (S.cons (S.fz (S.fn tupleD [.ex (S.fz (S.fn sortedA [.nm 2]))])) (S.nil)))))))))
noncomputable def f__law_grid : FnSem := Shut (S.run s__law_grid 5 [true])
theorem f__law_grid_eq : f__law_grid = S.run s__law_grid 5 [true] := shut_eq _
noncomputable def c1_made_grid : SF := S.compX 0 [3] 1 (S.name 3) (S.ct true) (S.call f_is_tie [.ex (S.var 0), .ex (S.var 3)])
noncomputable def c2_made_grid : SF := S.compX 0 [3] 1 (S.name 3) (S.ct true) (S.call f_written [.ex (S.var 3)])
noncomputable def s_made_grid : SS := S.seq (S.ifs (S.tor (S.tnot (S.tst (S.fz (S.call f_is_whole [.ex (S.var 0)])))) (S.tnot (S.tst (S.chain leX leX (S.c (.int 1)) (S.var 0) (S.c (.int 4)))))) (S.raise "NoGrid") (S.pass)) (S.seq (S.ifs (S.tor (S.tnot (S.tst (S.isi2E "list" "tuple" (.nm 1)))) (S.tst (S.cmp gtX (.ex (S.fnd lenD [.nm 1])) (.ex (S.c (.int 50)))))) (S.raise "NoGrid") (S.pass)) (S.seq (S.ifs (S.tnot (S.tst (S.fnd allD [.ex (S.fz (c1_made_grid))]))) (S.raise "NoGrid") (S.pass)) (S.seq (S.asg 2 (S.fn sortSetD [.ex (S.fz (c2_made_grid))])) (S.seq (S.ifs (S.tst (S.cmp gtX (.ex (S.fnd lenD [.nm 2])) (.ex (S.c (.int 16))))) (S.raise "NoGrid") (S.pass)) (S.ret (S.up (S.tup (S.cons (S.var 0) (S.cons (S.fz (S.fn tupleD [.nm 2])) (S.nil))))))))))
noncomputable def f_made_grid : FnSem := Shut (S.run s_made_grid 4 [false, false])
theorem f_made_grid_eq : f_made_grid = S.run s_made_grid 4 [false, false] := shut_eq _
noncomputable def s__law_told : SS := S.seq (S.refe exmT (S.ret (S.call f_made_grid [.ex (S.var 0), .ex (S.var 1)])) "ShellError" "NoGrid" [2, 3] "no grid") (S.ret (S.up (S.c (.str "other"))))
noncomputable def f__law_told : FnSem := Shut (S.run s__law_told 4 [false, false])
theorem f__law_told_eq : f__law_told = S.run s__law_told 4 [false, false] := shut_eq _
noncomputable def c1_law : SF := S.comp 1 [12] (S.range1 (S.c (.int 4))) (S.name 12) (S.ct true) (S.lst (S.cons (S.fz (S.call f__law_wide [.lend 2, .ex (S.fz (S.bin powD (.ex (S.c (.int 10))) (.ex (S.c (.int 40)))))])) (S.cons (S.c (.int 0)) (S.cons (S.fz (S.call f__law_take [.lend 2, .ex (S.c (.int 2147483647))])) (S.nil)))))
noncomputable def b1_law : SS := S.seq (S.asg 7 (S.call f_made_grid [.ex (S.fz (S.bin ixA (.nm 4) (.ex (S.c (.int 0))))), .ex (S.var 6)])) (S.ifs (S.tor (S.tnot (S.tst (S.isi "tuple" (.nm 7)))) (S.tor (S.tst (S.cmp neD (.nm 7) (.nm 4))) (S.tor (S.tnot (S.tst (S.fz (S.call f__law_all_whole [.ex (S.var 7)])))) (S.tst (S.cmp neD (.ex (S.fz (S.fn listD [.nm 6]))) (.nm 5)))))) (S.ret (S.up (S.c (.bl false)))) (S.pass))
noncomputable def l1_law : SS := S.fors (S.items (S.fz (S.lst (S.cons (S.fz (S.fn listD [.nm 5])) (S.cons (S.fz (S.fn tupleD [.nm 5])) (S.nil)))))) (S.name 6) b1_law
noncomputable def b2_law : SS := S.seq (S.asgG (S.fz (S.call f__law_odd [.lend 8, .ex (S.fz (S.bin ixA (.nm 4) (.ex (S.c (.int 0))))), .ex (S.var 5)])) (S.gtup [S.name 9, S.name 10])) (S.seq (S.asg 11 (S.up (S.fnd strY [.nm 10]))) (S.ifs (S.tor (S.tst (S.cmp neD (.ex (S.fz (S.call f__law_told [.ex (S.var 9), .ex (S.var 10)]))) (.ex (S.c (.str "no grid"))))) (S.tst (S.cmp neS (.ex (S.fnd strY [.nm 10])) (.nm 11)))) (S.ret (S.up (S.c (.bl false)))) (S.pass)))
noncomputable def l2_law : SS := S.forsM 3 8 b2_law
noncomputable def b3_law : SS := S.seq (S.asg 2 (S.call f__law_begun [.ex (S.var 1)])) (S.seq (S.asg 3 (c1_law)) (S.seq (S.asg 4 (S.call f__law_grid [.lend 2])) (S.seq (S.asg 5 (S.call f__law_list [.lend 2, .ex (S.var 4)])) (S.seq (l1_law) (l2_law)))))
noncomputable def l3_law : SS := S.fors (S.items (S.fz (S.call f__law_folded [.ex (S.var 0), .ex (S.c (.int 5))]))) (S.name 1) b3_law
noncomputable def s_law : SS := S.seq (l3_law) (S.ret (S.up (S.c (.bl true))))
noncomputable def f_law : FnSem := Shut (S.run s_law 13 [false])
theorem f_law_eq : f_law = S.run s_law 13 [false] := shut_eq _
end Sem

namespace Maths
open DV L2 PySem
/-! ### grids -/
def gridD (p : Nat) (ts : List (List Int)) : D := .tup [.int p, .tup (ts.map tupI)]
structure Tie (p : Nat) (t : List Int) : Prop where
  ex : ∃ a b x y : Int, t = [a, b, x, y] ∧ 0 ≤ a ∧ a < p ∧ 0 ≤ b ∧ b < p ∧ -1 ≤ x ∧ x ≤ 1 ∧ -1 ≤ y ∧ y ≤ 1
structure Grid (p : Nat) (ts : List (List Int)) : Prop where
  pos : 1 ≤ p
  le : p ≤ 4
  len : ts.length ≤ 20
  tie : ∀ t ∈ ts, Tie p t
theorem tie_of {p : Nat} {a b x y : Int} (h : 0 ≤ a ∧ a < p ∧ 0 ≤ b ∧ b < p ∧ -1 ≤ x ∧ x ≤ 1 ∧ -1 ≤ y ∧ y ≤ 1) : Tie p [a, b, x, y] := ⟨a, b, x, y, rfl, h⟩
def tieB (p : Nat) : List Int → Bool
  | [a, b, x, y] => decide (0 ≤ a ∧ a < p ∧ 0 ≤ b ∧ b < p ∧ -1 ≤ x ∧ x ≤ 1 ∧ -1 ≤ y ∧ y ≤ 1)
  | _ => false
theorem tie_ofB {p : Nat} {t : List Int} (h : tieB p t = true) : Tie p t := by
  unfold tieB at h
  split at h
  · exact tie_of (of_decide_eq_true h)
  · cases h
def gridB (g : Nat × List (List Int)) : Bool := decide (1 ≤ g.1 ∧ g.1 ≤ 4 ∧ g.2.length ≤ 16) && g.2.all (tieB g.1)
theorem grid_ofB {g : Nat × List (List Int)} (h : gridB g = true) : Grid g.1 g.2 ∧ g.2.length ≤ 16 := by
  unfold gridB at h
  obtain ⟨h1, h2⟩ := Bool.and_eq_true_iff.mp h
  obtain ⟨a, b, c⟩ := of_decide_eq_true h1
  exact ⟨⟨a, b, by omega, fun t ht => tie_ofB (List.all_eq_true.mp h2 t ht)⟩, c⟩
def gridsD (gs : List (Nat × List (List Int))) : List D := gs.map fun g => gridD g.1 g.2
theorem at_grids {gs : List (Nat × List (List Int))} (h : gs.all gridB = true) {r : Nat} (hr : r < gs.length) : ∃ (p : Nat) (ts : List (List Int)), atI (gridsD gs) (r : Int) = some (gridD p ts) ∧ Grid p ts ∧ ts.length ≤ 16 := by
  obtain ⟨g, e, m⟩ := at_some (xs := gs) (i := (r : Int)) (by omega) (by omega)
  exact ⟨g.1, g.2, by unfold gridsD; rw [at_map, e]; rfl, grid_ofB (List.all_eq_true.mp h g m)⟩
theorem seq_ok {f g : SS} {η η1 : DV.Env} (h : f η = .ok .nx η1) : S.seq f g η = g η1 := by
  show (f η).bind _ = _
  rw [h]; rfl
theorem seq_at {f g : SS} {η : DV.Env} {r : Out DV.Flow} {P : Out DV.Flow → Prop} (h : f η = r) (k : P (r.bind fun fl η1 => S.flowThen fl g η1)) : P (S.seq f g η) := by
  show P ((f η).bind _)
  rw [h]; exact k
theorem seqs {f g : SS} {η η1 η2 : DV.Env} {o : DV.Flow} (h : f η = .ok .nx η1) (h2 : g η1 = .ok o η2) : S.seq f g η = .ok o η2 := by rw [seq_ok h, h2]
/-- a turn goes through, and keeps what is wanted -/
def Good (I : DV.Env → Prop) (r : Out DV.Flow) : Prop := ∃ η', (r = .ok .nx η' ∨ r = .ok .ct η') ∧ I η'
theorem good_seq {I : DV.Env → Prop} {f g : SS} {η η1 : DV.Env} (h : f η = .ok .nx η1) (k : Good I (g η1)) : Good I (S.seq f g η) := by
  rw [seq_ok h]; exact k
theorem good_end {I : DV.Env → Prop} {f : SS} {η η1 : DV.Env} (h : f η = .ok .nx η1) (k : I η1) : Good I (f η) := ⟨η1, .inl h, k⟩
theorem good_eq {I : DV.Env → Prop} {r s : Out DV.Flow} (h : r = s) (k : Good I s) : Good I r := by rw [h]; exact k
theorem add_tup' {xs ys : List D} (h : xs.length + ys.length ≤ 1000000) : addD (.tup xs) (.tup ys) = some (0, .tup (xs ++ ys)) := by
  have z : xs.length + ys.length ≤ sizeLine := small_ok (by omega)
  unfold addD
  exact if_pos z
theorem add_lst' {xs ys : List D} (h : xs.length + ys.length ≤ 1000000) : addD (.lst xs) (.lst ys) = some (1, .lst (xs ++ ys)) := by
  have z : xs.length + ys.length ≤ sizeLine := small_ok (by omega)
  unfold addD
  exact if_pos z
theorem append' {ds : List D} {d : D} (h : ds.length ≤ 1000000) : appendD ds [d] = some (.non, ds ++ [d]) := by
  have z : ds.length + 1 ≤ sizeLine := small_ok (by omega)
  have z : ds.length < sizeLine := by omega
  unfold appendD
  exact if_pos z
end Maths

namespace Maths
open DV L2 PySem
/-! ### ties as written -/
def Norm (t : List Int) : Prop := ∃ a b x y : Int, t = [a, b, x, y] ∧ (a < b ∨ a = b ∧ (0 < x ∨ x = 0 ∧ 0 < y))
def Real (t : List Int) : Prop := ∃ a b x y : Int, t = [a, b, x, y] ∧ (a ≠ b ∨ x ≠ 0 ∨ y ≠ 0)
def flip : List Int → List Int
  | [a, b, x, y] => [b, a, -x, -y]
  | t => t
def wrt : List Int → List Int
  | [a, b, x, y] => if a < b ∨ a = b ∧ (0 < x ∨ x = 0 ∧ 0 < y) then [a, b, x, y] else [b, a, -x, -y]
  | t => t
theorem wrt_four (a b x y : Int) : wrt [a, b, x, y] = if a < b ∨ a = b ∧ (0 < x ∨ x = 0 ∧ 0 < y) then [a, b, x, y] else [b, a, -x, -y] := rfl
def normB : List Int → Bool
  | [a, b, x, y] => decide (a < b ∨ a = b ∧ (0 < x ∨ x = 0 ∧ 0 < y))
  | _ => false
theorem norm_ofB {t : List Int} (h : normB t = true) : Norm t := by
  unfold normB at h
  split at h
  · exact ⟨_, _, _, _, rfl, of_decide_eq_true h⟩
  · cases h
theorem Norm.real {t : List Int} (h : Norm t) : Real t := by
  obtain ⟨a, b, x, y, rfl, h⟩ := h
  exact ⟨a, b, x, y, rfl, by omega⟩
theorem Real.flip {t : List Int} (h : Real t) : Real (flip t) := by
  obtain ⟨a, b, x, y, rfl, h⟩ := h
  exact ⟨b, a, -x, -y, rfl, by omega⟩
theorem wrt_norm {t : List Int} (h : Real t) : Norm (wrt t) := by
  obtain ⟨a, b, x, y, rfl, h⟩ := h
  rw [wrt_four]
  by_cases c : a < b ∨ a = b ∧ (0 < x ∨ x = 0 ∧ 0 < y)
  · rw [if_pos c]; exact ⟨a, b, x, y, rfl, c⟩
  · rw [if_neg c]; exact ⟨b, a, -x, -y, rfl, by omega⟩
theorem wrt_self {t : List Int} (h : Norm t) : wrt t = t := by
  obtain ⟨a, b, x, y, rfl, h⟩ := h
  exact if_pos h
theorem wrt_flip {t : List Int} (h : Norm t) : wrt (flip t) = t := by
  obtain ⟨a, b, x, y, rfl, h⟩ := h
  show (if b < a ∨ b = a ∧ (0 < -x ∨ -x = 0 ∧ 0 < -y) then _ else [a, b, - -x, - -y]) = _
  rw [if_neg (by omega), Int.neg_neg, Int.neg_neg]
theorem Tie.flip {p : Nat} {t : List Int} (h : Tie p t) : Tie p (flip t) := by
  obtain ⟨a, b, x, y, rfl, h⟩ := h.ex
  exact tie_of (by omega)
theorem Tie.wrt {p : Nat} {t : List Int} (h : Tie p t) : Tie p (wrt t) := by
  obtain ⟨a, b, x, y, rfl, h⟩ := h.ex
  rw [wrt_four]
  by_cases c : a < b ∨ a = b ∧ (0 < x ∨ x = 0 ∧ 0 < y)
  · rw [if_pos c]; exact tie_of (by omega)
  · rw [if_neg c]; exact tie_of (by omega)
/-- a grid: ties as written, rising, each once -/
structure GS (p : Nat) (ts : List (List Int)) : Prop where
  grid : Grid p ts
  norm : ∀ t ∈ ts, Norm t
  nd : ts.Nodup
  up : ts.Pairwise fun a b => leI a b = true
  few : ts.length ≤ 16
def gsB (g : Nat × List (List Int)) : Bool := gridB g && g.2.all normB && decide g.2.Nodup && decide (g.2.Pairwise fun a b => a ≤ b)
theorem gs_ofB {g : Nat × List (List Int)} (h : gsB g = true) : GS g.1 g.2 := by
  unfold gsB at h
  simp only [Bool.and_eq_true, decide_eq_true_eq] at h
  obtain ⟨⟨⟨h1, h2⟩, h3⟩, h4⟩ := h
  obtain ⟨g1, g2⟩ := grid_ofB h1
  exact ⟨g1, fun t ht => norm_ofB (List.all_eq_true.mp h2 t ht), h3, h4.imp fun {a b} hab => by rw [leI_eq]; exact decide_eq_true hab, g2⟩
theorem at_gridsS {gs : List (Nat × List (List Int))} (h : gs.all gsB = true) {r : Nat} (hr : r < gs.length) : ∃ (p : Nat) (ts : List (List Int)), atI (gridsD gs) (r : Int) = some (gridD p ts) ∧ GS p ts := by
  obtain ⟨g, e, m⟩ := at_some (xs := gs) (i := (r : Int)) (by omega) (by omega)
  exact ⟨g.1, g.2, by unfold gridsD; rw [at_map, e]; rfl, gs_ofB (List.all_eq_true.mp h g m)⟩
theorem gs_sort {p : Nat} {us : List (List Int)} (h1 : 1 ≤ p) (h4 : p ≤ 4) (hl : us.length ≤ 16) (ht : ∀ t ∈ us, Tie p t) (hn : ∀ t ∈ us, Norm t) (nd : us.Nodup) : GS p (us.mergeSort leI) := by
  have pm := List.mergeSort_perm us leI
  exact ⟨⟨h1, h4, by rw [List.length_mergeSort]; omega, fun t h => ht t (pm.mem_iff.mp h)⟩, fun t h => hn t (pm.mem_iff.mp h), pm.symm.nodup nd, List.pairwise_mergeSort leI_trans leI_total _, by rw [List.length_mergeSort]; exact hl⟩
/-- a rising list is told by its members -/
theorem up_ext {l m : List (List Int)} (d1 : l.Nodup) (d2 : m.Nodup) (u1 : l.Pairwise fun a b => leI a b = true) (u2 : m.Pairwise fun a b => leI a b = true) (h : ∀ t, t ∈ l ↔ t ∈ m) : l = m :=
  ((List.perm_ext_iff_of_nodup d1 d2).mpr h).eq_of_pairwise (fun a b _ _ h1 h2 => leI_antisymm h1 h2) u1 u2
theorem sort_permI {l m : List (List Int)} (h : l.Perm m) : l.mergeSort leI = m.mergeSort leI :=
  (((List.mergeSort_perm l leI).trans h).trans (List.mergeSort_perm m leI).symm).eq_of_pairwise (fun a b _ _ h1 h2 => leI_antisymm h1 h2) (List.pairwise_mergeSort leI_trans leI_total _) (List.pairwise_mergeSort leI_trans leI_total _)
theorem gt0_ok (x y : Int) : gtX (.tup [.int x, .int y]) (.tup [.int 0, .int 0]) = some (decide (0 < x ∨ x = 0 ∧ 0 < y)) := by
  have e : gtX (.tup [.int x, .int y]) (.tup [.int 0, .int 0]) = _ := gt_tupI [x, y] [0, 0]
  rw [e]
  have l := leI_eq [x, y] [0, 0]
  have l : (!PySem.W.dataLt (py (tupI [0, 0])) (py (tupI [x, y]))) = decide ([x, y] ≤ [0, 0]) := l
  congr 1
  have : PySem.W.dataLt (py (tupI [0, 0])) (py (tupI [x, y])) = !decide ([x, y] ≤ [0, 0]) := by rw [← l, Bool.not_not]
  rw [this, ← decide_not]
  congr 1
  rw [List.not_le]
  simp only [List.cons_lt_cons_iff, List.not_lt_nil, and_false, or_false, eq_comm (a := (0 : Int))]
theorem lt0_ok (x y : Int) : ltD (.tup [.int x, .int y]) (.tup [.int 0, .int 0]) = some (decide (x < 0 ∨ x = 0 ∧ y < 0)) := by
  have e : ltD (.tup [.int x, .int y]) (.tup [.int 0, .int 0]) = _ := lt_tupI (a := [x, y]) (b := [0, 0])
  rw [e]
  congr 1
  rw [HT.lexLt_cons, HT.lexLt_cons]
  by_cases h : x = 0
  · by_cases h2 : y = 0 <;> simp [h, h2, HT.lexLt]
  · simp [h]
end Maths

namespace Maths
open DV L2 PySem
/-- a comprehension of items that draw on what E holds, the turns counted -/
theorem comp_drawsN {it : SI} {g : SG} {tt : ST} {f : SF} {k : Nat} {vs : List Nat} {ds : List D} {η : DV.Env} {α : Type} (E : α → DV.Env) (Ok : Nat → α → Prop) (P : D → Prop) {p0 : α} (hit : it η = .ok ds (E p0)) (hp : Ok 0 p0) (hst : S.still vs (E p0) = true) (hs : ds.length ≤ 16777216)
    (hv : ∀ p q, (E p).length = (E q).length ∧ ∀ i ∈ vs, i < (E p).length ∧ (E p)[i]? = (E q)[i]?)
    (h : ∀ i (hi : i < ds.length) p, Ok i p → ∃ e p' η', S.step g tt f ds[i] (S.hide (E p) vs) = .ok (some (k, e)) η' ∧ P e ∧ S.hide η' vs = S.hide (E p') vs ∧ Ok (i + 1) p') :
    ∃ es p, S.comp k vs it g tt f η = .ok (k + 1, .lst es) (E p) ∧ Ok ds.length p ∧ es.length = ds.length ∧ ∀ e ∈ es, P e := by
  obtain ⟨es, η2, h1, ⟨h2, h3, p, h4, h5⟩, _⟩ := compL_run (g := g) (tt := tt) (f := f) (k := k) (vs := vs) (ds := ds) (fun i acc η => acc.length = i ∧ (∀ e ∈ acc, P e) ∧ ∃ p, Ok i p ∧ η = S.hide (E p) vs) (fun i hi acc η ⟨e1, e2, p, e3, e4⟩ _ => by
    obtain ⟨e, p', η', h1, h2, h3, h4⟩ := h i hi p e3
    refine ⟨_, η', by rw [e4]; exact h1, fun q hq => by cases hq; rfl, by simp [e1], fun x hx => ?_, p', h4, h3⟩
    simp at hx
    rcases hx with hx | hx
    · exact e2 x hx
    · subst hx; exact h2) (small_ok hs) ds.length 0 [] (E p0) (by omega) (Nat.zero_le _) ⟨rfl, fun _ h => by simp at h, p0, hp, rfl⟩
  rw [List.drop_zero] at h1
  refine ⟨es, p, ?_, h4, h2, h3⟩
  unfold S.comp
  rw [hit]
  simp only [bind_ok]
  rw [if_pos hst, h1]
  simp only
  congr 1
  have hl : η2.length = (E p).length := by
    have := congrArg List.length h5
    rw [hide_len, hide_len] at this; exact this
  apply List.ext_getElem?
  intro i
  by_cases hi : i ∈ vs
  · obtain ⟨y1, y2⟩ := (hv p0 p).2 i hi
    rw [mix_in hi (by rw [hl, ← (hv p0 p).1]; exact y1), ← y2, List.getElem?_eq_getElem y1]; rfl
  · rw [mix_out hi, ← hide_out (η := η2) hi, h5, hide_out hi]
end Maths

namespace Maths
open DV L2 PySem
/-! ### draws -/
def potD (a c m : Int) : D := .lst [.int a, .int c, .int m]
def PotOk (n : Nat) (d : D) : Prop := ∃ a c m : Int, 0 ≤ a ∧ 0 ≤ c ∧ c ≤ n ∧ 0 ≤ m ∧ m < 2147483647 ∧ d = potD a c m
theorem begun_ok (cell : Int) : ∃ p : D, PotOk 0 p ∧ Sem.f__law_begun [(0, .int cell)] = .ok 1 p [.no] := by
  have z1 := Int.emod_nonneg cell (show (2147483647 : Int) ≠ 0 by decide)
  have z2 := Int.emod_lt_of_pos cell (show (0 : Int) < 2147483647 by decide)
  (rw [Sem.f__law_begun_eq]; unfold Sem.s__law_begun)
  by_cases h : (1000000000000000000 : Int) ≤ cell.natAbs
  · refine ⟨potD ((cell.natAbs : Int) - 1000000000000000000 + 1) 0 (cell % 2147483647), ⟨_, _, _, by omega, Int.le_refl _, by omega, z1, z2, rfl⟩, ?_⟩
    simp -implicitDefEqProofs [v_run, h, small_ok, potD]
  · refine ⟨potD 0 0 (cell % 2147483647), ⟨_, _, _, by omega, Int.le_refl _, by omega, z1, z2, rfl⟩, ?_⟩
    simp -implicitDefEqProofs [v_run, h, small_ok, potD]
theorem drawL {pot : D} {n : Nat} (hp : PotOk n pot) (hn : n ≤ 1000000) (m : Nat) (h0 : 0 < m) (hl : m.log2 < 9000) : ∃ (r : Nat) (p : D), r < m ∧ PotOk (n + 1) p ∧ Sem.f__law_take [(1, pot), (0, .int m)] = .ok 0 (.int r) [.val 1 true p, .no] := by
  obtain ⟨a, c, x, ha, hc, hc2, hx, hx2, rfl⟩ := hp
  have mp : (0 : Int) < m := by omega
  (rw [Sem.f__law_take_eq]; unfold Sem.s__law_take potD)
  by_cases h : 0 < a
  · obtain ⟨r, hr⟩ := Int.eq_ofNat_of_zero_le (Int.emod_nonneg a (show (m : Int) ≠ 0 by omega))
    have h2 := Int.emod_lt_of_pos a mp
    refine ⟨r, potD (a / m) c x, by omega, ⟨_, _, _, Int.ediv_nonneg ha (by omega), hc, by omega, hx, hx2, rfl⟩, ?_⟩
    simp -implicitDefEqProofs [v_run, h, h0, hl, potD, v_modI mp, hr]
  · obtain ⟨o1, e1⟩ : ∃ o, (x + 977 * (c + 1) * (c + 1) + 40693 * (c + 1) + 1) % 2147483647 = o := ⟨_, rfl⟩
    have b1 : 0 ≤ o1 ∧ o1 < 2147483647 := by rw [← e1]; exact ⟨Int.emod_nonneg _ (by decide), Int.emod_lt_of_pos _ (by decide)⟩
    obtain ⟨o2, e2⟩ : ∃ o, o1 * o1 % 1000000007 * 48271 % 998244353 = o := ⟨_, rfl⟩
    obtain ⟨r, hr⟩ := Int.eq_ofNat_of_zero_le (Int.emod_nonneg (o2 / 8) (show (m : Int) ≠ 0 by omega))
    have h2 := Int.emod_lt_of_pos (o2 / 8) mp
    have z1 : o1.natAbs < 18446744073709551616 := by omega
    have z2 : (c + 1).natAbs < 18446744073709551616 := by omega
    refine ⟨r, potD a (c + 1) x, by omega, ⟨_, _, _, ha, by omega, by omega, hx, hx2, rfl⟩, ?_⟩
    simp -implicitDefEqProofs [v_run, h, h0, hl, potD, v_modI mp, hr, e1, e2, z1, z2]
theorem draw {pot : D} {n : Nat} (hp : PotOk n pot) (hn : n ≤ 1000000) (m : Nat) (h0 : 0 < m) (h1 : m < 9000) : ∃ (r : Nat) (p : D), r < m ∧ PotOk (n + 1) p ∧ Sem.f__law_take [(1, pot), (0, .int m)] = .ok 0 (.int r) [.val 1 true p, .no] :=
  drawL hp hn m h0 (by have := Nat.log2_le_self m; omega)
theorem PotOk.mono {n m : Nat} {p : D} (h : PotOk n p) (l : n ≤ m) : PotOk m p := by
  obtain ⟨a, c, x, ha, hc, hc2, hx, hx2, rfl⟩ := h
  exact ⟨a, c, x, ha, hc, by omega, hx, hx2, rfl⟩
theorem tie_ok {pot : D} {n : Nat} (hp : PotOk n pot) (hn : n ≤ 900000) (P : Nat) (h0 : 0 < P) (h1 : P ≤ 4) : ∃ (t : List Int) (p : D), Tie P t ∧ PotOk (n + 5) p ∧ Sem.f__law_tie [(1, pot), (0, .int P)] = .ok 0 (tupI t) [.val 1 true p, .no] := by
  obtain ⟨a, p1, ha, q1, e1⟩ := draw hp (by omega) P h0 (by omega)
  obtain ⟨b, p2, hb, q2, e2⟩ := draw q1 (by omega) P h0 (by omega)
  obtain ⟨x, p3, hx, q3, e3⟩ := draw q2 (by omega) 3 (by decide) (by decide)
  obtain ⟨y, p4, hy, q4, e4⟩ := draw q3 (by omega) 3 (by decide) (by decide)
  obtain ⟨z, p5, hz, q5, e5⟩ := draw q4 (by omega) 2 (by decide) (by decide)
  have e3 : Sem.f__law_take [(1, p2), (0, .int 3)] = .ok 0 (.int x) [.val 1 true p3, .no] := e3
  have e4 : Sem.f__law_take [(1, p3), (0, .int 3)] = .ok 0 (.int y) [.val 1 true p4, .no] := e4
  have e5 : Sem.f__law_take [(1, p4), (0, .int 2)] = .ok 0 (.int z) [.val 1 true p5, .no] := e5
  (rw [Sem.f__law_tie_eq]; unfold Sem.s__law_tie)
  have eq0 : ∀ x y : Int, eqD (.tup [.int x, .int y]) (.tup [.int 0, .int 0]) = some (decide ([x, y] = [0, 0])) := fun x y => eq_tupI (a := [x, y]) (b := [0, 0])
  by_cases h : a = b ∧ (x : Int) - 1 = 0 ∧ (y : Int) - 1 = 0
  · obtain ⟨rfl, hx0, hy0⟩ := h
    refine ⟨[a, a, 1 - 2 * z, y - 1], p5, tie_of (by omega), q5, ?_⟩
    simp -implicitDefEqProofs [v_run, e1, e2, e3, e4, e5, eq0, hx0, hy0, tupI, small_ok]
  · refine ⟨[a, b, x - 1, y - 1], p4, tie_of (by omega), q4.mono (by omega), ?_⟩
    by_cases hab : a = b
    · subst hab
      have h' : ¬ ((x : Int) - 1 = 0 ∧ (y : Int) - 1 = 0) := fun z => h ⟨rfl, z⟩
      simp -implicitDefEqProofs [v_run, e1, e2, e3, e4, eq0, h', tupI, small_ok]
    · have hab : ¬ (a : Int) = b := by omega
      simp -implicitDefEqProofs [v_run, e1, e2, e3, e4, eq0, hab, tupI, small_ok]
theorem written_ok {P : Nat} {t : List Int} (T : Tie P t) : ∃ u : List Int, Tie P u ∧ Sem.f__law_written [(0, tupI t)] = .ok 0 (tupI u) [.no] := by
  obtain ⟨a, b, x, y, rfl, h⟩ := T.ex
  have et : Sem.f__law_turned [(0, tupI [a, b, x, y])] = .ok 0 (tupI [b, a, 0 - x, 0 - y]) [.no] := by
    (rw [Sem.f__law_turned_eq]; unfold Sem.s__law_turned)
    simp -implicitDefEqProofs [v_run, tupI, small_ok]
  have gt0 : gtX (.tup [.int x, .int y]) (.tup [.int 0, .int 0]) = _ := gt_tupI [x, y] [0, 0]
  have ct : ∀ a b : Int, cutD [D.int a, D.int b, D.int x, D.int y] (some 2) none = [.int x, .int y] := fun _ _ => rfl
  generalize PySem.W.dataLt (py (tupI [0, 0])) (py (tupI [x, y])) = hl0 at gt0
  (rw [Sem.f__law_written_eq]; unfold Sem.s__law_written)
  by_cases h1 : a < b
  · refine ⟨[a, b, x, y], T, ?_⟩
    simp -implicitDefEqProofs [v_run, tupI, h1, small_ok]
  · by_cases h2 : a = b
    · subst h2
      cases hl : hl0 with
      | true =>
        refine ⟨[a, a, x, y], T, ?_⟩
        simp -implicitDefEqProofs [v_run, tupI, ct, gt0, hl, small_ok]
      | false =>
        refine ⟨[a, a, 0 - x, 0 - y], tie_of (by omega), ?_⟩
        simp only [tupI, List.map_cons, List.map_nil] at et ⊢
        simp only [Int.zero_sub] at et ⊢
        simp -implicitDefEqProofs [v_run, ct, gt0, hl, et, small_ok]
    · refine ⟨[b, a, 0 - x, 0 - y], tie_of (by omega), ?_⟩
      simp only [tupI, List.map_cons, List.map_nil] at et ⊢
      simp only [Int.zero_sub] at et ⊢
      simp -implicitDefEqProofs [v_run, h1, h2, et, small_ok]
def knownG : List (Nat × List (List Int)) := [(1, [[0, 0, 0, 1], [0, 0, 1, 0]]), (1, [[0, 0, 0, 1], [0, 0, 1, 0], [0, 0, 1, 1]]), (1, [[0, 0, 0, 1], [0, 0, 1, -1], [0, 0, 1, 0], [0, 0, 1, 1]]), (2, [[0, 1, -1, 0], [0, 1, 0, -1], [0, 1, 0, 0]]),
  (3, [[0, 1, -1, 0], [0, 1, 0, 0], [0, 2, 0, -1], [0, 2, 0, 0], [1, 2, 0, 0], [1, 2, 1, -1]]), (4, [[0, 1, 0, 0], [0, 2, -1, 0], [0, 3, 0, 0], [1, 2, 0, 0], [1, 3, 0, 1], [2, 3, 0, 0]]), (1, [[0, 0, 0, 1]]), (2, [[0, 0, 0, 1], [0, 0, 1, 0], [1, 1, 0, 1], [1, 1, 1, 1]])]
theorem known_pre (pot : D) : Sem.s__law_known [.val 1 true pot, .no] = (S.ret (S.bin ixA (.nm 1) (.ex (S.fz (S.call Sem.f__law_take [.lend 0, .ex (S.c (.int 8))]))))) [.val 1 true pot, .val 1 false (.lst (gridsD knownG))] := by
  kernel_rfl
theorem known_ok {pot : D} {n : Nat} (hp : PotOk n pot) (hn : n ≤ 900000) : ∃ (p : Nat) (ts : List (List Int)) (pot' : D), Grid p ts ∧ ts.length ≤ 16 ∧ PotOk (n + 1) pot' ∧ Sem.f__law_known [(1, pot)] = .ok 0 (gridD p ts) [.val 1 true pot'] := by
  obtain ⟨r, p1, hr, q1, e1⟩ := draw hp (by omega) 8 (by decide) (by decide)
  have e1 : Sem.f__law_take [(1, pot), (0, .int 8)] = .ok 0 (.int r) [.val 1 true p1, .no] := e1
  obtain ⟨p, ts, e2, G, l16⟩ := at_grids (gs := knownG) (by decide) (r := r) hr
  refine ⟨p, ts, p1, G, l16, q1, ?_⟩
  have e3 := known_pre pot
  generalize gridsD knownG = K at *
  generalize gridD p ts = g at *
  (rw [Sem.f__law_known_eq])
  simp -implicitDefEqProofs [v_run, e3, e1, e2]
abbrev eGr (pot : D) (p : Nat) (ts : List (List Int)) (s3 s4 : DV.Slot) : DV.Env := [.val 1 true pot, .val 0 false (.int p), .val 1 false (.lst (ts.map tupI)), s3, s4]
theorem grid_turn {pot : D} {n p : Nat} {ts : List (List Int)} (hp : PotOk n pot) (hn : n ≤ 800000) (h1 : 1 ≤ p) (h4 : p ≤ 4) (hl : ts.length ≤ 16) (ht : ∀ t ∈ ts, Tie p t) (k : Int) (s3 s4 : DV.Slot) (f3 : s3.free = true) (f4 : s4.free = true) :
    ∃ (us : List (List Int)) (pot' : D) (t4 : DV.Slot), S.turn (S.name 3) Sem.b1__law_grid (.int k) (eGr pot p ts s3 s4) = .ok .nx (eGr pot' p us (.val 0 false (.int k)) t4) ∧ PotOk (n + 5) pot' ∧ us.length ≤ 16 ∧ (∀ t ∈ us, Tie p t) ∧ t4.free = true := by
  obtain ⟨t, p1, T, q1, e1⟩ := tie_ok hp (by omega) p h1 h4
  obtain ⟨u, U, e2⟩ := written_ok T
  have ok1 : okD 16 (tupI u) = true := ok_tupI (by decide)
  have ok2 : okD 16 (.lst (ts.map tupI)) = true := by
    rw [ok_lst (by decide)]
    refine okL_all fun d hd => ?_
    obtain ⟨x, _, rfl⟩ := List.mem_map.mp hd
    exact ok_tupI (by decide)
  have e3 : ninA (tupI u) (.lst (ts.map tupI)) = some (!memD (tupI u) (ts.map tupI)) := by
    have e : inA (tupI u) (.lst (ts.map tupI)) = inD (tupI u) (.lst (ts.map tupI)) := rfl
    unfold ninA
    rw [e, inL ok1 ok2]; rfl
  cases hm : memD (tupI u) (ts.map tupI) with
  | true =>
    rw [hm] at e3
    refine ⟨ts, p1, .val 0 false (tupI u), ?_, q1, hl, ht, rfl⟩
    unfold Sem.b1__law_grid
    simp only [eGr]
    generalize ts.map tupI = L at *
    generalize tupI u = u' at *
    generalize tupI t = t' at *
    simp -implicitDefEqProofs [f3, f4, e1, e2, e3]
  | false =>
    rw [hm] at e3
    by_cases h16 : ts.length < 16
    · have e4 : appendD (ts.map tupI) [tupI u] = some (.non, (ts ++ [u]).map tupI) := by
        show (if (ts.map tupI).length < sizeLine then some (D.non, ts.map tupI ++ [tupI u]) else none) = _
        have z : ts.length + 1 ≤ sizeLine := small_ok (by omega)
        rw [if_pos (by rw [List.length_map]; omega), List.map_append]
        rfl
      refine ⟨ts ++ [u], p1, .val 0 false (tupI u), ?_, q1, by simp; omega, fun x hx => ?_, rfl⟩
      · have e5 : lenD [.lst (ts.map tupI)] = some (.int ts.length) := by simp
        have h16 : (ts.length : Int) < 16 := by omega
        unfold Sem.b1__law_grid
        simp only [eGr]
        generalize (ts ++ [u]).map tupI = L2 at *
        generalize ts.map tupI = L at *
        generalize tupI u = u' at *
        generalize tupI t = t' at *
        simp -implicitDefEqProofs [f3, f4, e1, e2, e3, e4, e5, h16, -v_lenL]
      · rcases List.mem_append.mp hx with hx | hx
        · exact ht x hx
        · rw [List.mem_singleton.mp hx]; exact U
    · refine ⟨ts, p1, .val 0 false (tupI u), ?_, q1, hl, ht, rfl⟩
      have e5 : lenD [.lst (ts.map tupI)] = some (.int ts.length) := by simp
      have h16 : ¬ (ts.length : Int) < 16 := by omega
      unfold Sem.b1__law_grid
      simp only [eGr]
      generalize ts.map tupI = L at *
      generalize tupI u = u' at *
      generalize tupI t = t' at *
      simp -implicitDefEqProofs [f3, f4, e1, e2, e3, e5, h16, -v_lenL]
theorem pick3 {a b c : D} {r : Nat} (h : r < 3) : ∃ d, atI [a, b, c] (r : Int) = some d ∧ (d = a ∨ d = b ∨ d = c) := by
  have h : r = 0 ∨ r = 1 ∨ r = 2 := by omega
  rcases h with rfl | rfl | rfl
  · exact ⟨a, rfl, .inl rfl⟩
  · exact ⟨b, rfl, .inr (.inl rfl)⟩
  · exact ⟨c, rfl, .inr (.inr rfl)⟩
theorem grid_ok {pot : D} {n : Nat} (hp : PotOk n pot) (hn : n ≤ 700000) : ∃ (p : Nat) (ts : List (List Int)) (pot' : D), Grid p ts ∧ ts.length ≤ 16 ∧ PotOk (n + 200) pot' ∧ Sem.f__law_grid [(1, pot)] = .ok 0 (gridD p ts) [.val 1 true pot'] := by
  obtain ⟨r, p1, hr, q1, e1⟩ := draw hp (by omega) 3 (by decide) (by decide)
  have e1 : Sem.f__law_take [(1, pot), (0, .int 3)] = .ok 0 (.int r) [.val 1 true p1, .no] := e1
  by_cases hz : r = 0
  · subst hz
    obtain ⟨p, ts, p2, G, l16, q2, e2⟩ := known_ok q1 (by omega)
    refine ⟨p, ts, p2, G, l16, q2.mono (by omega), ?_⟩
    (rw [Sem.f__law_grid_eq]; unfold Sem.s__law_grid)
    generalize Sem.l1__law_grid = LL at *
    generalize gridD p ts = g at *
    simp -implicitDefEqProofs [v_run, e1, e2, small_ok]
  · obtain ⟨a, p2, ha, q2, e2⟩ := draw q1 (by omega) 4 (by decide) (by decide)
    obtain ⟨b, p3, hb, q3, e3⟩ := draw q2 (by omega) 4 (by decide) (by decide)
    obtain ⟨c, p4, hc, q4, e4⟩ := draw q3 (by omega) 7 (by decide) (by decide)
    obtain ⟨d, p5, hd, q5, e5⟩ := draw q4 (by omega) 21 (by decide) (by decide)
    obtain ⟨e, p6, he, q6, e6⟩ := draw q5 (by omega) 3 (by decide) (by decide)
    have e2 : Sem.f__law_take [(1, p1), (0, .int 4)] = .ok 0 (.int a) [.val 1 true p2, .no] := e2
    have e3 : Sem.f__law_take [(1, p2), (0, .int 4)] = .ok 0 (.int b) [.val 1 true p3, .no] := e3
    have e4 : Sem.f__law_take [(1, p3), (0, .int 7)] = .ok 0 (.int c) [.val 1 true p4, .no] := e4
    have e5 : Sem.f__law_take [(1, p4), (0, .int 21)] = .ok 0 (.int d) [.val 1 true p5, .no] := e5
    have e6 : Sem.f__law_take [(1, p5), (0, .int 3)] = .ok 0 (.int e) [.val 1 true p6, .no] := e6
    obtain ⟨m, em, hm⟩ : ∃ m : Nat, atI [D.int b, D.int (2 + c), D.int d] (e : Int) = some (.int m) ∧ m ≤ 20 := by
      obtain ⟨x, ex, hx⟩ := pick3 (a := D.int b) (b := D.int (2 + c)) (c := D.int d) he
      rcases hx with rfl | rfl | rfl
      · exact ⟨b, ex, by omega⟩
      · exact ⟨2 + c, ex, by omega⟩
      · exact ⟨d, ex, by omega⟩
    obtain ⟨P, hP⟩ : ∃ P : Nat, P = 1 + a := ⟨_, rfl⟩
    have hP' : 1 + (a : Int) = (P : Int) := by omega
    have lp := forL_all (g := S.name 3) (body := Sem.b1__law_grid) (ds := S.rangeL 0 m) (η := eGr p6 P [] .no .no)
      (fun i η => ∃ (us : List (List Int)) (pot' : D) (s3 s4 : DV.Slot), s3.free = true ∧ s4.free = true ∧ PotOk (n + 6 + 5 * i) pot' ∧ us.length ≤ 16 ∧ (∀ t ∈ us, Tie P t) ∧ η = eGr pot' P us s3 s4)
      ⟨[], p6, .no, .no, rfl, rfl, q6, by decide, by simp, rfl⟩ (by
      rintro i hi η ⟨us, pot', s3, s4, f3, f4, hq, hl, ht, rfl⟩
      rw [rangeL_len] at hi
      rw [rangeL_get]
      obtain ⟨us', pot'', t4, e, q, l, t, g4⟩ := grid_turn hq (by omega) (by omega) (by omega) hl ht (0 + (i : Int)) s3 s4 f3 f4
      exact ⟨_, .inl e, us', pot'', _, t4, rfl, g4, q.mono (by omega), l, t, rfl⟩)
    obtain ⟨η', el, us, pot', s3, s4, f3, f4, hq, hl, ht, rfl⟩ := lp
    rw [rangeL_len] at hq
    refine ⟨P, us.mergeSort leI, pot', ⟨by omega, by omega, by rw [List.length_mergeSort]; omega, fun t h => ht t ((List.mergeSort_perm _ _).mem_iff.mp h)⟩, by rw [List.length_mergeSort]; exact hl, hq.mono (by omega), ?_⟩
    have hz' : ¬ (r : Int) = 0 := by omega
    have so := sorted_tupI (n := 4) (by decide) (ts := us) fun t h => by
      obtain ⟨a, b, x, y, rfl, _⟩ := (ht t h).ex
      rfl
    have el2 : Sem.l1__law_grid (eGr p2 P [] .no .no) = .ok .nx (eGr pot' P us s3 s4) := by
      unfold Sem.l1__law_grid
      rw [v_fors]
      simp only [eGr, List.map_nil] at el ⊢
      have mb : (m : Int) < 4611686018427387904 := by omega
      simp -implicitDefEqProofs [e3, e4, e5, e6, em, el, mb, small_ok]
    (rw [Sem.f__law_grid_eq]; unfold Sem.s__law_grid)
    generalize Sem.l1__law_grid = LL at *
    unfold gridD
    simp only [eGr, List.map_nil] at el2
    simp -implicitDefEqProofs [v_run, e1, hz, e2, hP', el2, so, small_ok]
end Maths

namespace Maths
open DV L2 PySem
theorem tie_okR {pot : D} {n : Nat} (hp : PotOk n pot) (hn : n ≤ 900000) (P : Nat) (h0 : 0 < P) (h1 : P ≤ 4) : ∃ (t : List Int) (p : D), Tie P t ∧ Real t ∧ PotOk (n + 5) p ∧ Sem.f__law_tie [(1, pot), (0, .int P)] = .ok 0 (tupI t) [.val 1 true p, .no] := by
  obtain ⟨a, p1, ha, q1, e1⟩ := draw hp (by omega) P h0 (by omega)
  obtain ⟨b, p2, hb, q2, e2⟩ := draw q1 (by omega) P h0 (by omega)
  obtain ⟨x, p3, hx, q3, e3⟩ := draw q2 (by omega) 3 (by decide) (by decide)
  obtain ⟨y, p4, hy, q4, e4⟩ := draw q3 (by omega) 3 (by decide) (by decide)
  obtain ⟨z, p5, hz, q5, e5⟩ := draw q4 (by omega) 2 (by decide) (by decide)
  have e3 : Sem.f__law_take [(1, p2), (0, .int 3)] = .ok 0 (.int x) [.val 1 true p3, .no] := e3
  have e4 : Sem.f__law_take [(1, p3), (0, .int 3)] = .ok 0 (.int y) [.val 1 true p4, .no] := e4
  have e5 : Sem.f__law_take [(1, p4), (0, .int 2)] = .ok 0 (.int z) [.val 1 true p5, .no] := e5
  (rw [Sem.f__law_tie_eq]; unfold Sem.s__law_tie)
  have eq0 : ∀ x y : Int, eqD (.tup [.int x, .int y]) (.tup [.int 0, .int 0]) = some (decide ([x, y] = [0, 0])) := fun x y => eq_tupI (a := [x, y]) (b := [0, 0])
  by_cases h : a = b ∧ (x : Int) - 1 = 0 ∧ (y : Int) - 1 = 0
  · obtain ⟨rfl, hx0, hy0⟩ := h
    refine ⟨[a, a, 1 - 2 * z, y - 1], p5, tie_of (by omega), ⟨_, _, _, _, rfl, by omega⟩, q5, ?_⟩
    simp -implicitDefEqProofs [v_run, e1, e2, e3, e4, e5, eq0, hx0, hy0, tupI, small_ok]
  · refine ⟨[a, b, x - 1, y - 1], p4, tie_of (by omega), ⟨_, _, _, _, rfl, by omega⟩, q4.mono (by omega), ?_⟩
    by_cases hab : a = b
    · subst hab
      have h' : ¬ ((x : Int) - 1 = 0 ∧ (y : Int) - 1 = 0) := fun z => h ⟨rfl, z⟩
      simp -implicitDefEqProofs [v_run, e1, e2, e3, e4, eq0, h', tupI, small_ok]
    · have hab : ¬ (a : Int) = b := by omega
      simp -implicitDefEqProofs [v_run, e1, e2, e3, e4, eq0, hab, tupI, small_ok]
theorem turned_ok (a b x y : Int) : Sem.f__law_turned [(0, tupI [a, b, x, y])] = .ok 0 (tupI [b, a, -x, -y]) [.no] := by
  (rw [Sem.f__law_turned_eq]; unfold Sem.s__law_turned)
  simp -implicitDefEqProofs [v_run, tupI, small_ok]
theorem turned_flip {t : List Int} (h : Real t) : Sem.f__law_turned [(0, tupI t)] = .ok 0 (tupI (flip t)) [.no] := by
  obtain ⟨a, b, x, y, rfl, _⟩ := h
  exact turned_ok a b x y
theorem written_okR {t : List Int} (R : Real t) : Sem.f__law_written [(0, tupI t)] = .ok 0 (tupI (wrt t)) [.no] := by
  obtain ⟨a, b, x, y, rfl, h⟩ := R
  have et := turned_ok a b x y
  have gt0 := gt0_ok x y
  have ct : ∀ a b : Int, cutD [D.int a, D.int b, D.int x, D.int y] (some 2) none = [.int x, .int y] := fun _ _ => rfl
  rw [wrt_four]
  by_cases h1 : a < b
  · rw [if_pos (.inl h1)]
    (rw [Sem.f__law_written_eq]; unfold Sem.s__law_written)
    simp -implicitDefEqProofs [v_run, tupI, h1, small_ok]
  · by_cases h2 : a = b
    · subst h2
      obtain ⟨bb, hb⟩ : ∃ bb, decide (0 < x ∨ x = 0 ∧ 0 < y) = bb := ⟨_, rfl⟩
      rw [hb] at gt0
      cases bb with
      | true =>
        rw [if_pos (.inr ⟨rfl, of_decide_eq_true hb⟩)]
        (rw [Sem.f__law_written_eq]; unfold Sem.s__law_written)
        simp -implicitDefEqProofs [v_run, tupI, ct, gt0, small_ok]
      | false =>
        have := of_decide_eq_false hb
        rw [if_neg (by omega)]
        simp only [tupI, List.map_cons, List.map_nil] at et ⊢
        (rw [Sem.f__law_written_eq]; unfold Sem.s__law_written)
        simp -implicitDefEqProofs [v_run, ct, gt0, et, small_ok]
    · rw [if_neg (by omega)]
      simp only [tupI, List.map_cons, List.map_nil] at et ⊢
      (rw [Sem.f__law_written_eq]; unfold Sem.s__law_written)
      simp -implicitDefEqProofs [v_run, h1, h2, et, small_ok]
theorem known_okS {pot : D} {n : Nat} (hp : PotOk n pot) (hn : n ≤ 900000) : ∃ (p : Nat) (ts : List (List Int)) (pot' : D), GS p ts ∧ PotOk (n + 1) pot' ∧ Sem.f__law_known [(1, pot)] = .ok 0 (gridD p ts) [.val 1 true pot'] := by
  obtain ⟨r, p1, hr, q1, e1⟩ := draw hp (by omega) 8 (by decide) (by decide)
  have e1 : Sem.f__law_take [(1, pot), (0, .int 8)] = .ok 0 (.int r) [.val 1 true p1, .no] := e1
  obtain ⟨p, ts, e2, G⟩ := at_gridsS (gs := knownG) (by decide +kernel) (r := r) hr
  refine ⟨p, ts, p1, G, q1, ?_⟩
  have e3 := known_pre pot
  generalize gridsD knownG = K at *
  generalize gridD p ts = g at *
  (rw [Sem.f__law_known_eq])
  simp -implicitDefEqProofs [v_run, e3, e1, e2]
theorem grid_turnS {pot : D} {n p : Nat} {ts : List (List Int)} (hp : PotOk n pot) (hn : n ≤ 800000) (h1 : 1 ≤ p) (h4 : p ≤ 4) (hl : ts.length ≤ 16) (ht : ∀ t ∈ ts, Tie p t) (hN : ∀ t ∈ ts, Norm t) (nd : ts.Nodup) (k : Int) (s3 s4 : DV.Slot) (f3 : s3.free = true) (f4 : s4.free = true) :
    ∃ (us : List (List Int)) (pot' : D) (t4 : DV.Slot), S.turn (S.name 3) Sem.b1__law_grid (.int k) (eGr pot p ts s3 s4) = .ok .nx (eGr pot' p us (.val 0 false (.int k)) t4) ∧ PotOk (n + 5) pot' ∧ us.length ≤ 16 ∧ (∀ t ∈ us, Tie p t) ∧ (∀ t ∈ us, Norm t) ∧ us.Nodup ∧ t4.free = true := by
  obtain ⟨t, p1, T, R, q1, e1⟩ := tie_okR hp (by omega) p h1 h4
  have e2 := written_okR R
  have U := T.wrt
  have UN := wrt_norm R
  generalize wrt t = u at *
  have ok1 : okD 16 (tupI u) = true := ok_tupI (by decide)
  have ok2 : okD 16 (.lst (ts.map tupI)) = true := by
    rw [ok_lst (by decide)]
    refine okL_all fun d hd => ?_
    obtain ⟨x, _, rfl⟩ := List.mem_map.mp hd
    exact ok_tupI (by decide)
  have e3 : ninA (tupI u) (.lst (ts.map tupI)) = some (!memD (tupI u) (ts.map tupI)) := by
    have e : inA (tupI u) (.lst (ts.map tupI)) = inD (tupI u) (.lst (ts.map tupI)) := rfl
    unfold ninA
    rw [e, inL ok1 ok2]; rfl
  have hmd : memD (tupI u) (ts.map tupI) = decide (u ∈ ts) := by rw [memD_map (fun _ _ h => tupI_inj h) fun _ => by simp]; exact decide_eq_decide.mpr Iff.rfl
  cases hm : memD (tupI u) (ts.map tupI) with
  | true =>
    rw [hm] at e3
    refine ⟨ts, p1, .val 0 false (tupI u), ?_, q1, hl, ht, hN, nd, rfl⟩
    unfold Sem.b1__law_grid
    simp only [eGr]
    generalize ts.map tupI = L at *
    generalize tupI u = u' at *
    generalize tupI t = t' at *
    simp -implicitDefEqProofs [f3, f4, e1, e2, e3]
  | false =>
    rw [hm] at e3
    by_cases h16 : ts.length < 16
    · have e4 : appendD (ts.map tupI) [tupI u] = some (.non, (ts ++ [u]).map tupI) := by
        show (if (ts.map tupI).length < sizeLine then some (D.non, ts.map tupI ++ [tupI u]) else none) = _
        have z : ts.length + 1 ≤ sizeLine := small_ok (by omega)
        rw [if_pos (by rw [List.length_map]; omega), List.map_append]
        rfl
      refine ⟨ts ++ [u], p1, .val 0 false (tupI u), ?_, q1, by simp; omega, fun x hx => ?_, fun x hx => ?_, ?_, rfl⟩
      · have e5 : lenD [.lst (ts.map tupI)] = some (.int ts.length) := by simp
        have h16 : (ts.length : Int) < 16 := by omega
        unfold Sem.b1__law_grid
        simp only [eGr]
        generalize (ts ++ [u]).map tupI = L2 at *
        generalize ts.map tupI = L at *
        generalize tupI u = u' at *
        generalize tupI t = t' at *
        simp -implicitDefEqProofs [f3, f4, e1, e2, e3, e4, e5, h16, -v_lenL]
      · rcases List.mem_append.mp hx with hx | hx
        · exact ht x hx
        · rw [List.mem_singleton.mp hx]; exact U
      · rcases List.mem_append.mp hx with hx | hx
        · exact hN x hx
        · rw [List.mem_singleton.mp hx]; exact UN
      · rw [hmd] at hm
        have hm := of_decide_eq_false hm
        exact List.nodup_append.mpr ⟨nd, List.pairwise_singleton _ _, fun a ha b hb e => hm (by rw [← List.mem_singleton.mp hb, ← e]; exact ha)⟩
    · refine ⟨ts, p1, .val 0 false (tupI u), ?_, q1, hl, ht, hN, nd, rfl⟩
      have e5 : lenD [.lst (ts.map tupI)] = some (.int ts.length) := by simp
      have h16 : ¬ (ts.length : Int) < 16 := by omega
      unfold Sem.b1__law_grid
      simp only [eGr]
      generalize ts.map tupI = L at *
      generalize tupI u = u' at *
      generalize tupI t = t' at *
      simp -implicitDefEqProofs [f3, f4, e1, e2, e3, e5, h16, -v_lenL]
theorem grid_okS {pot : D} {n : Nat} (hp : PotOk n pot) (hn : n ≤ 700000) : ∃ (p : Nat) (ts : List (List Int)) (pot' : D), GS p ts ∧ PotOk (n + 200) pot' ∧ Sem.f__law_grid [(1, pot)] = .ok 0 (gridD p ts) [.val 1 true pot'] := by
  obtain ⟨r, p1, hr, q1, e1⟩ := draw hp (by omega) 3 (by decide) (by decide)
  have e1 : Sem.f__law_take [(1, pot), (0, .int 3)] = .ok 0 (.int r) [.val 1 true p1, .no] := e1
  by_cases hz : r = 0
  · subst hz
    obtain ⟨p, ts, p2, G, q2, e2⟩ := known_okS q1 (by omega)
    refine ⟨p, ts, p2, G, q2.mono (by omega), ?_⟩
    (rw [Sem.f__law_grid_eq]; unfold Sem.s__law_grid)
    generalize Sem.l1__law_grid = LL at *
    generalize gridD p ts = g at *
    simp -implicitDefEqProofs [v_run, e1, e2, small_ok]
  · obtain ⟨a, p2, ha, q2, e2⟩ := draw q1 (by omega) 4 (by decide) (by decide)
    obtain ⟨b, p3, hb, q3, e3⟩ := draw q2 (by omega) 4 (by decide) (by decide)
    obtain ⟨c, p4, hc, q4, e4⟩ := draw q3 (by omega) 7 (by decide) (by decide)
    obtain ⟨d, p5, hd, q5, e5⟩ := draw q4 (by omega) 21 (by decide) (by decide)
    obtain ⟨e, p6, he, q6, e6⟩ := draw q5 (by omega) 3 (by decide) (by decide)
    have e2 : Sem.f__law_take [(1, p1), (0, .int 4)] = .ok 0 (.int a) [.val 1 true p2, .no] := e2
    have e3 : Sem.f__law_take [(1, p2), (0, .int 4)] = .ok 0 (.int b) [.val 1 true p3, .no] := e3
    have e4 : Sem.f__law_take [(1, p3), (0, .int 7)] = .ok 0 (.int c) [.val 1 true p4, .no] := e4
    have e5 : Sem.f__law_take [(1, p4), (0, .int 21)] = .ok 0 (.int d) [.val 1 true p5, .no] := e5
    have e6 : Sem.f__law_take [(1, p5), (0, .int 3)] = .ok 0 (.int e) [.val 1 true p6, .no] := e6
    obtain ⟨m, em, hm⟩ : ∃ m : Nat, atI [D.int b, D.int (2 + c), D.int d] (e : Int) = some (.int m) ∧ m ≤ 20 := by
      obtain ⟨x, ex, hx⟩ := pick3 (a := D.int b) (b := D.int (2 + c)) (c := D.int d) he
      rcases hx with rfl | rfl | rfl
      · exact ⟨b, ex, by omega⟩
      · exact ⟨2 + c, ex, by omega⟩
      · exact ⟨d, ex, by omega⟩
    obtain ⟨P, hP⟩ : ∃ P : Nat, P = 1 + a := ⟨_, rfl⟩
    have hP' : 1 + (a : Int) = (P : Int) := by omega
    have lp := forL_all (g := S.name 3) (body := Sem.b1__law_grid) (ds := S.rangeL 0 m) (η := eGr p6 P [] .no .no)
      (fun i η => ∃ (us : List (List Int)) (pot' : D) (s3 s4 : DV.Slot), s3.free = true ∧ s4.free = true ∧ PotOk (n + 6 + 5 * i) pot' ∧ us.length ≤ 16 ∧ (∀ t ∈ us, Tie P t) ∧ (∀ t ∈ us, Norm t) ∧ us.Nodup ∧ η = eGr pot' P us s3 s4)
      ⟨[], p6, .no, .no, rfl, rfl, q6, by decide, by simp, by simp, List.nodup_nil, rfl⟩ (by
      rintro i hi η ⟨us, pot', s3, s4, f3, f4, hq, hl, ht, hN, nd, rfl⟩
      rw [rangeL_len] at hi
      rw [rangeL_get]
      obtain ⟨us', pot'', t4, e, q, l, t, tN, tD, g4⟩ := grid_turnS hq (by omega) (by omega) (by omega) hl ht hN nd (0 + (i : Int)) s3 s4 f3 f4
      exact ⟨_, .inl e, us', pot'', _, t4, rfl, g4, q.mono (by omega), l, t, tN, tD, rfl⟩)
    obtain ⟨η', el, us, pot', s3, s4, f3, f4, hq, hl, ht, hN, nd, rfl⟩ := lp
    rw [rangeL_len] at hq
    refine ⟨P, us.mergeSort leI, pot', gs_sort (by omega) (by omega) hl ht hN nd, hq.mono (by omega), ?_⟩
    have hz' : ¬ (r : Int) = 0 := by omega
    have so := sorted_tupI (n := 4) (by decide) (ts := us) fun t h => by
      obtain ⟨a, b, x, y, rfl, _⟩ := (ht t h).ex
      rfl
    have el2 : Sem.l1__law_grid (eGr p2 P [] .no .no) = .ok .nx (eGr pot' P us s3 s4) := by
      unfold Sem.l1__law_grid
      rw [v_fors]
      simp only [eGr, List.map_nil] at el ⊢
      have mb : (m : Int) < 4611686018427387904 := by omega
      simp -implicitDefEqProofs [e3, e4, e5, e6, em, el, mb, small_ok]
    (rw [Sem.f__law_grid_eq]; unfold Sem.s__law_grid)
    generalize Sem.l1__law_grid = LL at *
    unfold gridD
    simp only [eGr, List.map_nil] at el2
    simp -implicitDefEqProofs [v_run, e1, hz, e2, hP', el2, so, small_ok]
end Maths

namespace Maths
open DV L2 PySem
theorem zeros_flat : ∀ k : Nat, (List.replicate k [D.int 0]).flatten = (List.replicate k (0 : Int)).map .int
  | 0 => rfl
  | k + 1 => by rw [List.replicate_succ, List.flatten_cons, zeros_flat k]; rfl
/-! ### cells folded -/
theorem fold_turn {ns : List Int} {m : Int} {ys : List Int} (hy : 1 ≤ ys.length) {k : Nat} (c : Int) (s3 s4 : DV.Slot) (f3 : s3.free = true) (f4 : s4.free = true) : ∃ zs : List Int, S.turn (S.gtup [S.name 3, S.name 4]) Sem.b1__law_folded (.tup [.int k, .int c]) [.val 0 false (.lst (ns.map .int)), .val 0 false (.int m), .val 1 false (.lst (ys.map .int)), s3, s4] =
    .ok .nx [.val 0 false (.lst (ns.map .int)), .val 0 false (.int m), .val 1 false (.lst (zs.map .int)), .val 0 false (.int k), .val 0 false (.int c)] ∧ zs.length = ys.length := by
  have hk : k % ys.length < ys.length := Nat.mod_lt _ (by omega)
  have em : (k : Int) % (ys.length : Int) = ((k % ys.length : Nat) : Int) := by omega
  obtain ⟨y, hy2, _⟩ := at_some (xs := ys) (i := ((k % ys.length : Nat) : Int)) (by omega) (by omega)
  have lp : (0 : Int) < ys.length := by omega
  have st : stD (.lst (ys.map .int)) (.int ((k % ys.length : Nat) : Int)) (.int (y * 7 + c)) = some (.lst ((ys.set (k % ys.length) (y * 7 + c)).map .int)) := by
    show (ixN (ys.map D.int).length ((k % ys.length : Nat) : Int)).map (fun m => D.lst ((ys.map D.int).set m (.int (y * 7 + c)))) = _
    have e : ixN (ys.map D.int).length ((k % ys.length : Nat) : Int) = some (k % ys.length) := by
      rw [List.length_map]
      unfold ixN
      rw [if_pos (by omega), if_pos (by omega)]
      rfl
    rw [e]
    show some (D.lst ((ys.map D.int).set (k % ys.length) (.int (y * 7 + c)))) = _
    rw [List.map_set]
  refine ⟨ys.set (k % ys.length) (y * 7 + c), ?_, by rw [List.length_set]⟩
  unfold Sem.b1__law_folded
  have e5 : lenD [.lst (ys.map D.int)] = some (.int ys.length) := by simp
  have ev : modD (.int k) (.int ys.length) = some (0, .int ((k % ys.length : Nat) : Int)) := by
    rw [v_modI lp, em]
  have ai : atI (ys.map D.int) ((k % ys.length : Nat) : Int) = some (.int y) := by rw [at_map, hy2]; rfl
  generalize (ys.set (k % ys.length) (y * 7 + c)).map D.int = Z at *
  generalize ys.map D.int = Y at *
  generalize ((k % ys.length : Nat) : Int) = kk at *
  generalize (ys.length : Int) = ll at *
  simp -implicitDefEqProofs [f3, f4, e5, ev, ai, st, -v_lenL]
theorem enumL_get {ds : List D} {i : Nat} (hi : i < (S.enumL ds).length) : ∃ h : i < ds.length, (S.enumL ds)[i] = .tup [.int i, ds[i]] := by
  have h : i < ds.length := by simpa [S.enumL] using hi
  exact ⟨h, by simp [S.enumL]⟩
theorem fold_loop {ns : List Int} {m : Int} {ys : List Int} (hy : 1 ≤ ys.length) : ∃ (zs : List Int) (s3 s4 : DV.Slot), Sem.l1__law_folded [.val 0 false (.lst (ns.map .int)), .val 0 false (.int m), .val 1 false (.lst (ys.map .int)), .no, .no] = .ok .nx [.val 0 false (.lst (ns.map .int)), .val 0 false (.int m), .val 1 false (.lst (zs.map .int)), s3, s4] ∧ zs.length = ys.length := by
  have lp := forL_all (g := S.gtup [S.name 3, S.name 4]) (body := Sem.b1__law_folded) (ds := S.enumL (ns.map D.int)) (η := [.val 0 false (.lst (ns.map .int)), .val 0 false (.int m), .val 1 false (.lst (ys.map .int)), .no, .no])
    (fun i η => ∃ (zs : List Int) (s3 s4 : DV.Slot), s3.free = true ∧ s4.free = true ∧ zs.length = ys.length ∧ η = [.val 0 false (.lst (ns.map .int)), .val 0 false (.int m), .val 1 false (.lst (zs.map .int)), s3, s4]) ⟨ys, .no, .no, rfl, rfl, rfl, rfl⟩ (by
    rintro i hi η ⟨zs, s3, s4, f3, f4, hz, rfl⟩
    obtain ⟨hi', ei⟩ := enumL_get hi
    rw [ei, List.getElem_map]
    obtain ⟨ws, e, hw⟩ := fold_turn (ns := ns) (m := m) (ys := zs) (by omega) (k := i) _ s3 s4 f3 f4
    exact ⟨_, .inl e, ws, _, _, rfl, rfl, by omega, rfl⟩)
  obtain ⟨η', e, zs, s3, s4, _, _, hz, rfl⟩ := lp
  refine ⟨zs, s3, s4, ?_, hz⟩
  unfold Sem.l1__law_folded
  rw [v_fors]
  generalize ns.map D.int = N at *
  have en : S.enum (S.var 0) [.val 0 false (.lst N), .val 0 false (.int m), .val 1 false (.lst (ys.map .int)), .no, .no] = .ok (S.enumL N) [.val 0 false (.lst N), .val 0 false (.int m), .val 1 false (.lst (ys.map .int)), .no, .no] := rfl
  rw [en, bind_ok, e]
theorem zeros_flat2 (k : Nat) (hk : k ≤ 100) : mulD (.lst [.int 0]) (.int (k : Int)) = some (1, .lst ((List.replicate k (0 : Int)).map .int)) := by
  have z : ((k : Int)).toNat = k := by omega
  have c : (k : Int) ≤ 1000000 ∧ -1000000 ≤ (k : Int) ∧ 1 * (k : Int).toNat ≤ 1000000 := ⟨by omega, by omega, by omega⟩
  generalize hh : (k : Int) = K at *
  rw [← zeros_flat, ← z]
  simp only [mulD, List.length_cons, List.length_nil, Nat.zero_add]
  rw [if_pos c]
theorem folded_ok (ns : List Int) (m : Nat) (h1 : 1 ≤ m) (hm : m ≤ 50) : ∃ xs : List Int, Sem.f__law_folded [(0, .lst (ns.map .int)), (0, .int m)] = .ok 1 (.lst (xs.map .int)) [.no, .no] ∧ 1 ≤ xs.length ∧ xs.length ≤ m := by
  obtain ⟨k, hk, h2, h3⟩ : ∃ k : Nat, (k : Int) = min (m : Int) (max 1 (ns.length : Int)) ∧ 1 ≤ k ∧ k ≤ 50 := ⟨(min (m : Int) (max 1 (ns.length : Int))).toNat, by omega, by omega, by omega⟩
  have rp := zeros_flat2 k (by omega)
  obtain ⟨zs, s3, s4, e, hz⟩ := fold_loop (ns := ns) (m := m) (ys := List.replicate k 0) (by simpa using h2)
  refine ⟨zs, ?_, by rw [hz, List.length_replicate]; exact h2, by rw [hz, List.length_replicate]; omega⟩
  have mx : maxA [.int 1, .int (ns.length : Int)] = some (.int (max 1 (ns.length : Int))) := by simp
  have mn : minA [.int (m : Int), .int (max 1 (ns.length : Int))] = some (.int (k : Int)) := by rw [hk]; simp
  have ll : lenD [.lst (ns.map D.int)] = some (.int (ns.length : Int)) := by simp
  generalize (List.replicate k (0 : Int)).map D.int = Z at *
  generalize ns.map D.int = N at *
  generalize max 1 (ns.length : Int) = mm at *
  generalize (ns.length : Int) = nl at *
  (rw [Sem.f__law_folded_eq]; unfold Sem.s__law_folded)
  simp -implicitDefEqProofs [v_run, ll, mx, mn, rp, e, small_ok, -v_lenL]
end Maths

namespace Maths
open DV L2 PySem
/-! ### wide draws -/
theorem wide_turn {n : Nat} {p : D} (hp : PotOk n p) (hn : n ≤ 900000) (size num : Int) (k : Int) (s3 : DV.Slot) (f3 : s3.free = true) :
    ∃ (r : Nat) (p' : D), S.turn (S.name 3) Sem.b1__law_wide (.int k) [.val 1 true p, .val 0 false (.int size), .val 0 false (.int num), s3] = .ok .nx [.val 1 true p', .val 0 false (.int size), .val 0 false (.int (num * 1000003 + r)), .val 0 false (.int k)] ∧ PotOk (n + 1) p' := by
  obtain ⟨r, p1, hr, q1, e1⟩ := drawL hp (by omega) 1000003 (by decide) (by decide +kernel)
  have e1 : Sem.f__law_take [(1, p), (0, .int 1000003)] = .ok 0 (.int r) [.val 1 true p1, .no] := e1
  have m1 : mulD (.int num) (.int 1000003) = some (0, .int (num * 1000003)) := v_mulR (by decide)
  refine ⟨r, p1, ?_, q1⟩
  unfold Sem.b1__law_wide
  simp -implicitDefEqProofs [f3, e1, m1]
theorem wide_loop {p : D} {size : Int} {m : Nat} {q : D} {num : Int} {s3 : DV.Slot} (hm : 3 + (Builtin.Int.intBits size : Int) / 19 = (m : Int)) (hm2 : (m : Int) < 1000)
    (e : S.forL (S.name 3) Sem.b1__law_wide (S.rangeL 0 m) [.val 1 true p, .val 0 false (.int size), .val 0 false (.int 0), .no] = .ok .nx [.val 1 true q, .val 0 false (.int size), .val 0 false (.int num), s3]) :
    Sem.l1__law_wide [.val 1 true p, .val 0 false (.int size), .val 0 false (.int 0), .no] = .ok .nx [.val 1 true q, .val 0 false (.int size), .val 0 false (.int num), s3] := by
  have h : (m : Int) < 4611686018427387904 := by omega
  have gl : fdivD (.int (Builtin.Int.intBits size : Int)) (.int 19) = some (0, .int ((Builtin.Int.intBits size : Int) / 19)) := v_fdivI ⟨by decide, by decide +kernel⟩
  unfold Sem.l1__law_wide
  rw [v_fors]
  simp -implicitDefEqProofs [gl, hm, h, e]
theorem wide_ok {n : Nat} {p : D} (hp : PotOk n p) (hn : n ≤ 800000) (size : Nat) (h0 : 0 < size) (hl : size.log2 < 9000) (hb : Builtin.Int.intBits (size : Int) ≤ 9000) :
    ∃ (r : Nat) (p' : D), r < size ∧ PotOk (n + 1000) p' ∧ Sem.f__law_wide [(1, p), (0, .int size)] = .ok 0 (.int r) [.val 1 true p', .no] := by
  have hp' := hp
  obtain ⟨a, c, x, ha, hc, hc2, hx, hx2, rfl⟩ := hp'
  obtain ⟨r1, p1, h1, q1, e1⟩ := drawL hp (by omega) size h0 hl
  have sp : (0 : Int) < size := by omega
  by_cases ha0 : 0 < a
  · refine ⟨r1, p1, h1, q1.mono (by omega), ?_⟩
    (rw [Sem.f__law_wide_eq]; unfold Sem.s__law_wide)
    unfold potD at e1 ⊢
    simp -implicitDefEqProofs [v_run, ha0, e1]
  · by_cases hs : (size : Int) < 1000000
    · refine ⟨r1, p1, h1, q1.mono (by omega), ?_⟩
      (rw [Sem.f__law_wide_eq]; unfold Sem.s__law_wide)
      unfold potD at e1 ⊢
      simp -implicitDefEqProofs [v_run, ha0, hs, e1]
    · obtain ⟨m, hm, hm2⟩ : ∃ m : Nat, 3 + (Builtin.Int.intBits (size : Int) : Int) / 19 = (m : Int) ∧ m ≤ 500 := ⟨(3 + (Builtin.Int.intBits (size : Int) : Int) / 19).toNat, by omega, by omega⟩
      obtain ⟨η', e, pp, num, s3, f3, hq, rfl⟩ := forL_all (g := S.name 3) (body := Sem.b1__law_wide) (ds := S.rangeL 0 m) (η := [.val 1 true (potD a c x), .val 0 false (.int size), .val 0 false (.int 0), .no])
        (fun i η => ∃ (pp : D) (num : Int) (s3 : DV.Slot), s3.free = true ∧ PotOk (n + i) pp ∧ η = [.val 1 true pp, .val 0 false (.int size), .val 0 false (.int num), s3]) ⟨_, 0, .no, rfl, hp, rfl⟩ (by
        rintro i hi η ⟨pp, num, s3, f3, hq, rfl⟩
        rw [rangeL_len] at hi
        rw [rangeL_get]
        obtain ⟨r, p', e, q⟩ := wide_turn hq (by omega) size num (0 + (i : Int)) s3 f3
        exact ⟨_, .inl e, p', _, _, rfl, q, rfl⟩)
      rw [rangeL_len] at hq
      have el := wide_loop hm (by omega) e
      obtain ⟨r, hr⟩ := Int.eq_ofNat_of_zero_le (Int.emod_nonneg num (show (size : Int) ≠ 0 by omega))
      have h2 := Int.emod_lt_of_pos num sp
      refine ⟨r, pp, by omega, hq.mono (by omega), ?_⟩
      have em : modD (.int num) (.int size) = some (0, .int r) := by rw [v_modI sp, hr]
      (rw [Sem.f__law_wide_eq]; unfold Sem.s__law_wide)
      unfold potD at el ⊢
      simp -implicitDefEqProofs [v_run, ha0, hs, el, em]
end Maths

namespace Maths
open DV L2 PySem
/-! ### what is_grid asks of anything -/
theorem whole_int (i : Int) : Sem.f_is_whole [(0, .int i)] = .ok 0 (.bl true) [.no] := by
  (rw [Sem.f_is_whole_eq]; unfold Sem.s_is_whole)
  simp -implicitDefEqProofs [v_run]
theorem is_of_int (p i : Int) : Sem.f_is_of [(0, .int p), (0, .int i)] = .ok 0 (.bl (decide (0 ≤ i) && decide (i < p))) [.no, .no] := by
  have w := whole_int i
  (rw [Sem.f_is_of_eq]; unfold Sem.s_is_of)
  by_cases h : 0 ≤ i <;> simp -implicitDefEqProofs [v_run, w, h]
def NoT : D → Prop
  | .dT _ => False
  | _ => True
def wholeB : D → Bool
  | .int _ => true
  | _ => false
theorem whole_any {d : D} (h : NoT d) : Sem.f_is_whole [(0, d)] = .ok 0 (.bl (wholeB d)) [.no] := by
  (rw [Sem.f_is_whole_eq]; unfold Sem.s_is_whole)
  cases d with
  | dT kvs => exact h.elim
  | non => simp -implicitDefEqProofs [v_run, wholeB]
  | bl b => simp -implicitDefEqProofs [v_run, wholeB]
  | int i => simp -implicitDefEqProofs [v_run, wholeB]
  | str x => simp -implicitDefEqProofs [v_run, wholeB]
  | tup ds => simp -implicitDefEqProofs [v_run, wholeB]
  | lst ds => simp -implicitDefEqProofs [v_run, wholeB]
  | dK kvs => simp -implicitDefEqProofs [v_run, wholeB]
def ofB (p : Int) : D → Bool
  | .int i => decide (0 ≤ i) && decide (i < p)
  | _ => false
theorem is_of_any {p : Int} {d : D} (h : NoT d) : Sem.f_is_of [(0, .int p), (0, d)] = .ok 0 (.bl (ofB p d)) [.no, .no] := by
  have w := whole_any h
  cases d with
  | int i => exact is_of_int p i
  | dT kvs => exact h.elim
  | non =>
    (rw [Sem.f_is_of_eq]; unfold Sem.s_is_of)
    simp -implicitDefEqProofs [v_run, w, wholeB, ofB]
  | bl b =>
    (rw [Sem.f_is_of_eq]; unfold Sem.s_is_of)
    simp -implicitDefEqProofs [v_run, w, wholeB, ofB]
  | str x =>
    (rw [Sem.f_is_of_eq]; unfold Sem.s_is_of)
    simp -implicitDefEqProofs [v_run, w, wholeB, ofB]
  | tup ds =>
    (rw [Sem.f_is_of_eq]; unfold Sem.s_is_of)
    simp -implicitDefEqProofs [v_run, w, wholeB, ofB]
  | lst ds =>
    (rw [Sem.f_is_of_eq]; unfold Sem.s_is_of)
    simp -implicitDefEqProofs [v_run, w, wholeB, ofB]
  | dK kvs =>
    (rw [Sem.f_is_of_eq]; unfold Sem.s_is_of)
    simp -implicitDefEqProofs [v_run, w, wholeB, ofB]
theorem is_step_int (i : Int) : Sem.f_is_step [(0, .int i)] = .ok 0 (.bl (decide (-1 ≤ i) && decide (i ≤ 1))) [.no] := by
  have w := whole_int i
  (rw [Sem.f_is_step_eq]; unfold Sem.s_is_step)
  by_cases h : -1 ≤ i <;> simp -implicitDefEqProofs [v_run, w, h]
theorem pwritten_ok {t : List Int} (R : Real t) : Sem.f_written [(0, tupI t)] = .ok 0 (tupI (wrt t)) [.no] := by
  obtain ⟨a, b, x, y, rfl, h⟩ := R
  have lt0 := lt0_ok x y
  obtain ⟨bb, hb⟩ : ∃ bb, decide (x < 0 ∨ x = 0 ∧ y < 0) = bb := ⟨_, rfl⟩
  rw [hb] at lt0
  rw [wrt_four]
  (rw [Sem.f_written_eq]; unfold Sem.s_written)
  by_cases h1 : b < a
  · rw [if_neg (by omega)]
    simp -implicitDefEqProofs [v_run, tupI, h1, small_ok]
  · by_cases h2 : a = b
    · subst h2
      cases bb with
      | true =>
        have := of_decide_eq_true hb
        rw [if_neg (by omega)]
        simp -implicitDefEqProofs [v_run, tupI, lt0, small_ok]
      | false =>
        have := of_decide_eq_false hb
        rw [if_pos (by omega)]
        simp -implicitDefEqProofs [v_run, tupI, lt0, small_ok]
    · rw [if_pos (by omega)]
      simp -implicitDefEqProofs [v_run, tupI, h1, h2, small_ok]
def stepB : D → Bool
  | .int i => decide (-1 ≤ i) && decide (i ≤ 1)
  | _ => false
theorem is_step_any {d : D} (h : NoT d) : Sem.f_is_step [(0, d)] = .ok 0 (.bl (stepB d)) [.no] := by
  have w := whole_any h
  cases d with
  | int i => exact is_step_int i
  | dT kvs => exact h.elim
  | non =>
    (rw [Sem.f_is_step_eq]; unfold Sem.s_is_step)
    simp -implicitDefEqProofs [v_run, w, wholeB, stepB]
  | bl b =>
    (rw [Sem.f_is_step_eq]; unfold Sem.s_is_step)
    simp -implicitDefEqProofs [v_run, w, wholeB, stepB]
  | str x =>
    (rw [Sem.f_is_step_eq]; unfold Sem.s_is_step)
    simp -implicitDefEqProofs [v_run, w, wholeB, stepB]
  | tup ds =>
    (rw [Sem.f_is_step_eq]; unfold Sem.s_is_step)
    simp -implicitDefEqProofs [v_run, w, wholeB, stepB]
  | lst ds =>
    (rw [Sem.f_is_step_eq]; unfold Sem.s_is_step)
    simp -implicitDefEqProofs [v_run, w, wholeB, stepB]
  | dK kvs =>
    (rw [Sem.f_is_step_eq]; unfold Sem.s_is_step)
    simp -implicitDefEqProofs [v_run, w, wholeB, stepB]
theorem ofB_int {p : Int} {d : D} (h : ofB p d = true) : ∃ i, d = .int i ∧ 0 ≤ i ∧ i < p := by
  cases d <;> first | (cases h; done) | skip
  rename_i i
  have h : (decide (0 ≤ i) && decide (i < p)) = true := h
  simp only [Bool.and_eq_true, decide_eq_true_eq] at h
  exact ⟨i, rfl, h⟩
theorem stepB_int {d : D} (h : stepB d = true) : ∃ i, d = .int i ∧ -1 ≤ i ∧ i ≤ 1 := by
  cases d <;> first | (cases h; done) | skip
  rename_i i
  have h : (decide (-1 ≤ i) && decide (i ≤ 1)) = true := h
  simp only [Bool.and_eq_true, decide_eq_true_eq] at h
  exact ⟨i, rfl, h⟩
/-- four things of which none is a dict with tuples as keys -/
def four (p : Int) : D → Bool
  | .tup [x0, x1, x2, x3] => ofB p x0 && (ofB p x1 && (stepB x2 && stepB x3))
  | _ => false
def NoT1 (d : D) : Prop := NoT d ∧ ∀ ds, d = .tup ds → ∀ x ∈ ds, NoT x
theorem four_int {p : Int} {d : D} (h : four p d = true) : ∃ a b x y : Int, d = tupI [a, b, x, y] ∧ 0 ≤ a ∧ a < p ∧ 0 ≤ b ∧ b < p ∧ -1 ≤ x ∧ x ≤ 1 ∧ -1 ≤ y ∧ y ≤ 1 := by
  unfold four at h
  split at h
  · simp only [Bool.and_eq_true] at h
    obtain ⟨h0, h1, h2, h3⟩ := h
    obtain ⟨a, rfl, a1, a2⟩ := ofB_int h0
    obtain ⟨b, rfl, b1, b2⟩ := ofB_int h1
    obtain ⟨x, rfl, x1, x2⟩ := stepB_int h2
    obtain ⟨y, rfl, y1, y2⟩ := stepB_int h3
    exact ⟨a, b, x, y, rfl, a1, a2, b1, b2, x1, x2, y1, y2⟩
  · cases h
theorem tie_four {p : Int} {x0 x1 x2 x3 : D} (n0 : NoT x0) (n1 : NoT x1) (n2 : NoT x2) (n3 : NoT x3) (h : four p (.tup [x0, x1, x2, x3]) = false) : Sem.f_is_tie [(0, .int p), (0, .tup [x0, x1, x2, x3])] = .ok 0 (.bl false) [.no, .no] := by
  have o0 := is_of_any (p := p) n0
  have o1 := is_of_any (p := p) n1
  have o2 := is_step_any n2
  have o3 := is_step_any n3
  have h : (ofB p x0 && (ofB p x1 && (stepB x2 && stepB x3))) = false := h
  generalize ofB p x0 = b0 at *
  generalize ofB p x1 = b1 at *
  generalize stepB x2 = b2 at *
  generalize stepB x3 = b3 at *
  (rw [Sem.f_is_tie_eq]; unfold Sem.s_is_tie)
  cases b0 with
  | false => simp -implicitDefEqProofs [v_run, o0]
  | true =>
    cases b1 with
    | false => simp -implicitDefEqProofs [v_run, o0, o1]
    | true =>
      cases b2 with
      | false => simp -implicitDefEqProofs [v_run, o0, o1, o2]
      | true =>
        cases b3 with
        | false => simp -implicitDefEqProofs [v_run, o0, o1, o2, o3]
        | true => cases h
theorem tie_ints {p a b x y : Int} (h : 0 ≤ a ∧ a < p ∧ 0 ≤ b ∧ b < p ∧ -1 ≤ x ∧ x ≤ 1 ∧ -1 ≤ y ∧ y ≤ 1) : Sem.f_is_tie [(0, .int p), (0, tupI [a, b, x, y])] = .ok 0 (.bl (decide (a ≠ b ∨ x ≠ 0 ∨ y ≠ 0))) [.no, .no] := by
  have o1 := is_of_int p a
  have o2 := is_of_int p b
  have s1 := is_step_int x
  have s2 := is_step_int y
  have b1 : (decide (0 ≤ a) && decide (a < p)) = true := by simp only [Bool.and_eq_true, decide_eq_true_eq]; omega
  have b2 : (decide (0 ≤ b) && decide (b < p)) = true := by simp only [Bool.and_eq_true, decide_eq_true_eq]; omega
  have b3 : (decide (-1 ≤ x) && decide (x ≤ 1)) = true := by simp only [Bool.and_eq_true, decide_eq_true_eq]; omega
  have b4 : (decide (-1 ≤ y) && decide (y ≤ 1)) = true := by simp only [Bool.and_eq_true, decide_eq_true_eq]; omega
  rw [b1] at o1
  rw [b2] at o2
  rw [b3] at s1
  rw [b4] at s2
  have ct : ∀ a b : Int, cutD [D.int a, D.int b, D.int x, D.int y] (some 2) none = [.int x, .int y] := fun _ _ => rfl
  have ne0 : neD (.tup [.int x, .int y]) (.tup [.int 0, .int 0]) = some (!decide ([x, y] = [0, 0])) := ne_tupI (a := [x, y]) (b := [0, 0])
  (rw [Sem.f_is_tie_eq]; unfold Sem.s_is_tie)
  by_cases hab : a = b
  · subst hab
    obtain ⟨bb, hb⟩ : ∃ bb, (!decide ([x, y] = [0, 0])) = bb := ⟨_, rfl⟩
    have e : decide (a ≠ a ∨ x ≠ 0 ∨ y ≠ 0) = bb := by
      rw [← hb, ← decide_not]
      refine decide_eq_decide.mpr ⟨fun h e => ?_, fun h => ?_⟩
      · simp at e; omega
      · by_cases z : x = 0 ∧ y = 0
        · exact absurd (by rw [z.1, z.2]) h
        · omega
    rw [e]
    rw [hb] at ne0
    simp -implicitDefEqProofs [v_run, tupI, o1, o2, s1, s2, ct, ne0, small_ok]
  · have e : decide (a ≠ b ∨ x ≠ 0 ∨ y ≠ 0) = true := decide_eq_true (.inl hab)
    rw [e]
    simp -implicitDefEqProofs [v_run, tupI, o1, o2, s1, s2, hab]
theorem tie_kind {p : Int} {d : D} (h : isiD "tuple" d = some false) : Sem.f_is_tie [(0, .int p), (0, d)] = .ok 0 (.bl false) [.no, .no] := by
  (rw [Sem.f_is_tie_eq]; unfold Sem.s_is_tie)
  simp -implicitDefEqProofs [v_run, h]
theorem tie_len {p : Int} {ds : List D} (h : ds.length ≠ 4) : Sem.f_is_tie [(0, .int p), (0, .tup ds)] = .ok 0 (.bl false) [.no, .no] := by
  have hl : lenD [.tup ds] = some (.int ds.length) := by simp
  have h3 : ¬ (ds.length : Int) = 4 := by omega
  (rw [Sem.f_is_tie_eq]; unfold Sem.s_is_tie)
  generalize (ds.length : Int) = n at *
  simp -implicitDefEqProofs [v_run, h3, hl, -v_lenT]
/-- a thing's kinds -/
theorem split_any {p : Int} {d : D} (h : NoT1 d) : (isiD "tuple" d = some false ∧ four p d = false) ∨ (∃ ds, d = .tup ds ∧ ds.length ≠ 4 ∧ four p d = false) ∨
    (∃ x0 x1 x2 x3, d = .tup [x0, x1, x2, x3] ∧ NoT x0 ∧ NoT x1 ∧ NoT x2 ∧ NoT x3) := by
  cases d with
  | dT kvs => exact h.1.elim
  | tup ds =>
    by_cases hl : ds.length = 4
    · match ds, hl with
      | [x0, x1, x2, x3], _ =>
        have := h.2 _ rfl
        exact .inr (.inr ⟨x0, x1, x2, x3, rfl, this _ (by simp), this _ (by simp), this _ (by simp), this _ (by simp)⟩)
    · refine .inr (.inl ⟨ds, rfl, hl, ?_⟩)
      unfold four
      split
      · rename_i z; cases z; exact absurd rfl hl
      · rfl
  | _ => exact .inl ⟨rfl, rfl⟩
end Maths

namespace Maths
open DV L2 PySem
/-! ### made_grid -/
def IsSeq (L : List D) (K : D) : Prop := K = .lst L ∨ K = .tup L
abbrev vS (d : D) : DV.Slot := .val 0 false d
theorem seq_kind {L : List D} {K : D} (h : IsSeq L K) : (isiE "list" K = some true ∨ isiE "list" K = some false ∧ isiE "tuple" K = some true) ∧ (∃ b, isiE "list" K = some b ∧ isiE "tuple" K = some (!b)) := by
  rcases h with rfl | rfl
  · have e1 : isiE "list" (.lst L) = some true := isi_list_lst
    have e2 : isiE "tuple" (.lst L) = some false := by show isiD "tuple" (.lst L) = _; simp
    exact ⟨.inl e1, true, e1, e2⟩
  · have e1 : isiE "list" (.tup L) = some false := by show isiD "list" (.tup L) = _; simp
    have e2 : isiE "tuple" (.tup L) = some true := by show isiD "tuple" (.tup L) = _; simp
    exact ⟨.inr ⟨e1, e2⟩, false, e1, e2⟩
theorem seq_len {L : List D} {K : D} (h : IsSeq L K) : lenD [K] = some (.int L.length) := by
  rcases h with rfl | rfl <;> simp
theorem mc1_ok {p : Int} {L : List D} {K : D} (h : IsSeq L K) (hl : L.length ≤ 1000) (b : D → Bool) (hb : ∀ d ∈ L, Sem.f_is_tie [(0, .int p), (0, d)] = .ok 0 (.bl (b d)) [.no, .no]) : Sem.c1_made_grid [vS (.int p), vS K, .no, .no] = .ok (1, .lst ((L.map b).map .bl)) [vS (.int p), vS K, .no, .no] := by
  have e : (L.map b).map D.bl = L.map fun d => D.bl (b d) := by rw [List.map_map]; rfl
  rw [e]
  unfold Sem.c1_made_grid
  rw [compX_seq (by rcases h with rfl | rfl <;> rfl)]
  refine comp_map _ (η1 := [vS (.int p), vS K, .no, .no]) (by rcases h with rfl | rfl <;> simp -implicitDefEqProofs []) (by rfl) (small_ok (by omega)) (by simp) ?_
  intro d hd
  have it := hb d hd
  exact ⟨[vS (.int p), vS K, .no, vS d], by simp -implicitDefEqProofs [S.hide, it], by simp [S.hide]⟩
def wrtD : D → D
  | .tup [.int a, .int b, .int x, .int y] => tupI (wrt [a, b, x, y])
  | d => d
theorem wrtD_tup {t : List Int} (R : Real t) : wrtD (tupI t) = tupI (wrt t) := by
  obtain ⟨a, b, x, y, rfl, h⟩ := R
  rfl
theorem mc2_ok {p : Int} {L : List (List Int)} {K : D} (h : IsSeq (L.map tupI) K) (hl : L.length ≤ 1000) (hR : ∀ t ∈ L, Real t) : Sem.c2_made_grid [vS (.int p), vS K, .no, .no] = .ok (1, .lst ((L.map wrt).map tupI)) [vS (.int p), vS K, .no, .no] := by
  have e : ((L.map wrt).map tupI) = (L.map tupI).map wrtD := by
    rw [List.map_map, List.map_map]
    exact List.map_congr_left fun t ht => (wrtD_tup (hR t ht)).symm
  rw [e]
  unfold Sem.c2_made_grid
  rw [compX_seq (by rcases h with rfl | rfl <;> rfl)]
  refine comp_map _ (η1 := [vS (.int p), vS K, .no, .no]) (by rcases h with rfl | rfl <;> simp -implicitDefEqProofs []) (by rfl) (small_ok (by rw [List.length_map]; omega)) (by simp) ?_
  intro d hd
  obtain ⟨t, ht, rfl⟩ := List.mem_map.mp hd
  have it := pwritten_ok (hR t ht)
  rw [wrtD_tup (hR t ht)]
  exact ⟨[vS (.int p), vS K, .no, vS (tupI t)], by simp -implicitDefEqProofs [S.hide, it], by simp [S.hide]⟩
def madeL (L : List (List Int)) : List (List Int) := ((L.map wrt).eraseDups).mergeSort leI
theorem sort_made {L : List (List Int)} (hl : L.length ≤ 50) (hR : ∀ t ∈ L, Real t) : sortSetD [.lst ((L.map wrt).map tupI)] = some (1, .lst ((madeL L).map tupI)) := by
  have al3 : ((L.map wrt).all fun t => decide (t ≠ [])) = true := by
    rw [List.all_eq_true]
    intro t ht
    obtain ⟨s, hs, rfl⟩ := List.mem_map.mp ht
    obtain ⟨a, b, x, y, e, _⟩ := wrt_norm (hR s hs)
    rw [e]; rfl
  show (match tupsOf ((L.map wrt).map tupI) with
    | some ts => if ts.length < 64 ∧ (ts.all fun t => decide (t ≠ [])) = true then some (1, D.lst (((ts.eraseDups).mergeSort leI).map tupI)) else none
    | none => none) = _
  rw [tupsOf_map]
  show (if _ then _ else _) = _
  rw [if_pos ⟨by rw [List.length_map]; omega, al3⟩]
  rfl
theorem made_eq {p : Nat} {ts L : List (List Int)} (G : GS p ts) (h : ∀ t, t ∈ L.map wrt ↔ t ∈ ts) : madeL L = ts := by
  have pm := List.mergeSort_perm ((L.map wrt).eraseDups) leI
  refine up_ext (pm.symm.nodup (nodup_dups _)) G.nd (List.pairwise_mergeSort leI_trans leI_total _) G.up fun t => ?_
  unfold madeL
  rw [pm.mem_iff, List.mem_eraseDups, h]
/-- what made_grid does up to its third look -/
theorem made_core {p ll : Int} {K : D} {C : List D} {c lb : Bool} (p1 : 1 ≤ p) (p4 : p ≤ 4) (isL : isiE "list" K = some lb) (isT : isiE "tuple" K = some (!lb)) (hl : lenD [K] = some (.int ll)) (l50 : ll ≤ 50) (w : Sem.f_is_whole [(0, .int p)] = .ok 0 (.bl true) [.no])
    (c1 : Sem.c1_made_grid [vS (.int p), vS K, .no, .no] = .ok (1, .lst C) [vS (.int p), vS K, .no, .no]) (al : allD [.lst C] = some (.bl c)) {T : D} {R : List D} {rl : Int}
    (c2 : c = true → Sem.c2_made_grid [vS (.int p), vS K, .no, .no] = .ok (1, T) [vS (.int p), vS K, .no, .no]) (so : c = true → sortSetD [T] = some (1, .lst R)) (hr : lenD [.lst R] = some (.int rl)) :
    Sem.f_made_grid [(0, .int p), (0, K)] = if c = true ∧ rl ≤ 16 then .ok 0 (.tup [.int p, .tup R]) [.no, .no] else .exc "NoGrid" [.no, .no] := by
  have l50' : ¬ 50 < ll := by omega
  have bb : (lb || !lb) = true := by cases lb <;> rfl
  (rw [Sem.f_made_grid_eq]; unfold Sem.s_made_grid)
  cases c with
  | false =>
    rw [if_neg (by simp)]
    simp -implicitDefEqProofs [v_run, p1, p4, isL, isT, bb, hl, l50', w, c1, al, -v_lenL]
  | true =>
    have c2 := c2 rfl
    have so := so rfl
    by_cases h : rl ≤ 16
    · rw [if_pos ⟨rfl, h⟩]
      have r16' : ¬ 16 < rl := by omega
      simp -implicitDefEqProofs [v_run, p1, p4, isL, isT, bb, hl, l50', w, c1, al, c2, so, hr, r16', small_ok, -v_lenL]
    · rw [if_neg (by simp [h])]
      have r16' : 16 < rl := by omega
      simp -implicitDefEqProofs [v_run, p1, p4, isL, isT, bb, hl, l50', w, c1, al, c2, so, hr, r16', small_ok, -v_lenL]
theorem made_yes {p : Nat} (p1 : 1 ≤ p) (p4 : p ≤ 4) {L : List (List Int)} (hl : L.length ≤ 50) (hL : ∀ t ∈ L, Tie p t ∧ Real t) {K : D} (h : IsSeq (L.map tupI) K) : Sem.f_made_grid [(0, .int p), (0, K)] = if (madeL L).length ≤ 16 then .ok 0 (gridD p (madeL L)) [.no, .no] else .exc "NoGrid" [.no, .no] := by
  obtain ⟨_, lb, e1, e2⟩ := seq_kind h
  have hb : ∀ d ∈ L.map tupI, Sem.f_is_tie [(0, .int p), (0, d)] = .ok 0 (.bl true) [.no, .no] := fun d hd => by
    obtain ⟨t, ht, rfl⟩ := List.mem_map.mp hd
    obtain ⟨T, R⟩ := hL t ht
    obtain ⟨a, b, x, y, rfl, hh⟩ := T.ex
    have := tie_ints (p := p) hh
    obtain ⟨_, _, _, _, e, hr⟩ := R
    cases e
    rw [decide_eq_true hr] at this
    exact this
  have al : allD [.lst (((L.map tupI).map fun _ => true).map .bl)] = some (.bl true) := by
    rw [all_bls]
    simp
  have := made_core (p := p) (ll := (L.map tupI).length) (K := K) (c := true) (by omega) (by omega) e1 e2 (seq_len h) (by rw [List.length_map]; omega) (whole_int _) (mc1_ok h (by rw [List.length_map]; omega) (fun _ => true) hb) al (fun _ => mc2_ok h (by omega) fun t ht => (hL t ht).2) (fun _ => sort_made hl fun t ht => (hL t ht).2) (rl := (madeL L).length) (by simp)
  rw [this]
  by_cases c : (madeL L).length ≤ 16
  · rw [if_pos c, if_pos ⟨rfl, by omega⟩]; rfl
  · rw [if_neg c, if_neg (by omega)]
theorem made_odd {p : Nat} (p1 : 1 ≤ p) (p4 : p ≤ 4) {L : List D} (hl : L.length ≤ 50) (b : D → Bool) (hb : ∀ d ∈ L, Sem.f_is_tie [(0, .int p), (0, d)] = .ok 0 (.bl (b d)) [.no, .no]) {o : D} (ho : o ∈ L) (hf : b o = false) {K : D} (h : IsSeq L K) : Sem.f_made_grid [(0, .int p), (0, K)] = .exc "NoGrid" [.no, .no] := by
  obtain ⟨_, lb, e1, e2⟩ := seq_kind h
  have al : allD [.lst ((L.map b).map .bl)] = some (.bl false) := by
    rw [all_bls]
    congr 2
    rw [List.all_eq_false]
    exact ⟨false, List.mem_map.mpr ⟨o, ho, hf⟩, by simp⟩
  have := made_core (p := p) (ll := L.length) (K := K) (c := false) (T := .non) (R := []) (rl := 0) (by omega) (by omega) e1 e2 (seq_len h) (by omega) (whole_int _) (mc1_ok h (by omega) b hb) al (fun z => by cases z) (fun z => by cases z) (by simp)
  rw [this, if_neg (by simp)]
theorem made_long {p : Nat} (p1 : 1 ≤ p) (p4 : p ≤ 4) {L : List D} (hl : 50 < L.length) {K : D} (h : IsSeq L K) : Sem.f_made_grid [(0, .int p), (0, K)] = .exc "NoGrid" [.no, .no] := by
  obtain ⟨_, lb, e1, e2⟩ := seq_kind h
  have ll := seq_len h
  have l50 : (50 : Int) < (L.length : Int) := by omega
  have w := whole_int p
  have q1 : (1 : Int) ≤ p := by omega
  have q4 : (p : Int) ≤ 4 := by omega
  have bb : (lb || !lb) = true := by cases lb <;> rfl
  generalize (L.length : Int) = n at *
  (rw [Sem.f_made_grid_eq]; unfold Sem.s_made_grid)
  simp -implicitDefEqProofs [v_run, w, q1, q4, e1, e2, bb, ll, l50, -v_lenL, -v_lenT]
theorem made_kind {p : Nat} (p1 : 1 ≤ p) (p4 : p ≤ 4) {K : D} (h1 : isiE "list" K = some false) (h2 : isiE "tuple" K = some false) : Sem.f_made_grid [(0, .int p), (0, K)] = .exc "NoGrid" [.no, .no] := by
  have w := whole_int p
  have q1 : (1 : Int) ≤ p := by omega
  have q4 : (p : Int) ≤ 4 := by omega
  (rw [Sem.f_made_grid_eq]; unfold Sem.s_made_grid)
  simp -implicitDefEqProofs [v_run, w, q1, q4, h1, h2]
def numB : D → Bool
  | .int i => decide (1 ≤ i) && decide (i ≤ 4)
  | _ => false
theorem made_num {d K : D} (n : NoT d) (h : numB d = false) : Sem.f_made_grid [(0, d), (0, K)] = .exc "NoGrid" [.no, .no] := by
  have w := whole_any n
  (rw [Sem.f_made_grid_eq]; unfold Sem.s_made_grid)
  cases d with
  | int i =>
    have h : (decide (1 ≤ i) && decide (i ≤ 4)) = false := h
    by_cases a : 1 ≤ i
    · have b : ¬ i ≤ 4 := fun z => by rw [decide_eq_true a, decide_eq_true z] at h; cases h
      simp -implicitDefEqProofs [v_run, w, wholeB, a, b]
    · simp -implicitDefEqProofs [v_run, w, wholeB, a]
  | dT kvs => exact n.elim
  | non => simp -implicitDefEqProofs [v_run, w, wholeB]
  | bl b => simp -implicitDefEqProofs [v_run, w, wholeB]
  | str s => simp -implicitDefEqProofs [v_run, w, wholeB]
  | tup ds => simp -implicitDefEqProofs [v_run, w, wholeB]
  | lst ds => simp -implicitDefEqProofs [v_run, w, wholeB]
  | dK kvs => simp -implicitDefEqProofs [v_run, w, wholeB]
theorem told_no {d K : D} (e : Sem.f_made_grid [(0, d), (0, K)] = .exc "NoGrid" [.no, .no]) : Sem.f__law_told [(0, d), (0, K)] = .ok 0 (.str "no grid") [.no, .no] := by
  have sb : S.sub Sem.exmT "NoGrid" "ShellError" = some true := by decide
  (rw [Sem.f__law_told_eq]; unfold Sem.s__law_told)
  simp -implicitDefEqProofs [v_run, e, sb, S.wipes]
end Maths

namespace Maths
open DV L2 PySem
/-! ### _law_list -/
noncomputable def LL1 : SS := S.asg 2 (S.lst (S.nil))
noncomputable def LL2 : SS := S.asg 3 (S.fn listD [.ex (S.fz (S.bin ixA (.nm 1) (.ex (S.c (.int 1)))))])
noncomputable def LL3 : SS := Sem.w1__law_list
noncomputable def LL4 : SS := S.ifs (S.tand (S.tst (S.cmp gtX (.ex (S.fnd lenD [.nm 2])) (.ex (S.c (.int 0))))) (S.tst (S.cmp eqD (.ex (S.fz (S.call Sem.f__law_take [.lend 0, .ex (S.c (.int 4))]))) (.ex (S.c (.int 0)))))) (S.asg 2 (S.slc (.ex (S.fz (S.bin mulD (.nm 2) (.ex (S.c (.int 50)))))) none (some (S.c (.int 50))))) (S.pass)
noncomputable def LL5 : SS := S.ret (S.mov 2)
theorem LL_eq : Sem.s__law_list = S.seq LL1 (S.seq LL2 (S.seq LL3 (S.seq LL4 (LL5)))) := rfl
noncomputable def LB1 : SS := S.asg 4 (S.up (S.lm 3 popAtD (S.cons (S.fz (S.call Sem.f__law_take [.lend 0, .ex (S.fnd lenD [.nm 3])])) (S.nil))))
noncomputable def LB2 : SS := S.drop (S.lm 2 appendD (S.cons (S.fz (S.bin ixA (.ex (S.fz (S.lst (S.cons (S.var 4) (S.cons (S.fz (S.call Sem.f__law_turned [.ex (S.var 4)])) (S.nil)))))) (.ex (S.fz (S.call Sem.f__law_take [.lend 0, .ex (S.c (.int 2))]))))) (S.nil)))
noncomputable def LB3 : SS := S.asg 5 (S.bin mulD (.ex (S.fz (S.call Sem.f__law_take [.lend 0, .ex (S.c (.int 4))]))) (.ex (S.fz (S.call Sem.f__law_take [.lend 0, .ex (S.c (.int 2))]))))
noncomputable def LB4 : SS := Sem.l1__law_list
theorem LB_eq : Sem.b2__law_list = S.seq LB1 (S.seq LB2 (S.seq LB3 (LB4))) := rfl
abbrev oS (L : List (List Int)) : DV.Slot := .val 1 false (.lst (L.map tupI))
abbrev eLI (pot g : D) (s2 s3 s4 s5 s6 : DV.Slot) : DV.Env := [.val 1 true pot, vS g, s2, s3, s4, s5, s6]
/-- the ties found, of those of a grid -/
structure Fnd (p : Nat) (ts F Lf : List (List Int)) : Prop where
  fnd : ∀ t ∈ F, Tie p t ∧ Real t ∧ wrt t ∈ ts
  lft : ∀ t ∈ Lf, t ∈ ts
  all : ∀ t ∈ ts, t ∈ Lf ∨ t ∈ F.map wrt
  len : F.length + Lf.length ≤ 50
theorem pick2 {t : List Int} {r : Nat} (hr : r < 2) : ∃ u, atI [tupI t, tupI (flip t)] (r : Int) = some (tupI u) ∧ (u = t ∨ u = flip t) := by
  rcases (by omega : r = 0 ∨ r = 1) with rfl | rfl
  · exact ⟨t, rfl, .inl rfl⟩
  · exact ⟨flip t, rfl, .inr rfl⟩
theorem fnd_add {p : Nat} {ts F Lf : List (List Int)} (G : GS p ts) {t u : List Int} (ht : t ∈ ts) (hu : u = t ∨ u = flip t) : Tie p u ∧ Real u ∧ wrt u = t := by
  have N := G.norm t ht
  have T := G.grid.tie t ht
  rcases hu with rfl | rfl
  · exact ⟨T, N.real, wrt_self N⟩
  · exact ⟨T.flip, N.real.flip, wrt_flip N⟩
theorem app_ok {F : List (List Int)} (h : F.length ≤ 1000) (u : List Int) : appendD (F.map tupI) [tupI u] = some (.non, (F ++ [u]).map tupI) := by
  rw [append' (by rw [List.length_map]; omega), List.map_append]; rfl
theorem li_turn {p : Nat} {ts F Lf : List (List Int)} (G : GS p ts) {t : List Int} (ht : t ∈ ts) {pot g : D} {n : Nat} (hp : PotOk n pot) (hn : n ≤ 800000) (hF : F.length ≤ 1000) (k : D) {s3 s5 s6 : DV.Slot} (f6 : s6.free = true) :
    ∃ (u : List Int) (pot' : D), (u = t ∨ u = flip t) ∧ PotOk (n + 1) pot' ∧ S.turn (S.name 6) Sem.b1__law_list k (eLI pot g (oS F) s3 (vS (tupI t)) s5 s6) = .ok .nx (eLI pot' g (oS (F ++ [u])) s3 (vS (tupI t)) s5 (vS k)) := by
  obtain ⟨r, p1, hr, q1, e1⟩ := draw hp (by omega) 2 (by decide) (by decide)
  have e1 : Sem.f__law_take [(1, pot), (0, .int 2)] = .ok 0 (.int r) [.val 1 true p1, .no] := e1
  obtain ⟨u, eu, hu⟩ := pick2 (t := t) hr
  have tf := turned_flip (G.norm t ht).real
  have ap := app_ok hF u
  refine ⟨u, p1, hu, q1, ?_⟩
  unfold oS
  generalize (F ++ [u]).map tupI = F2 at *
  generalize F.map tupI = F1 at *
  generalize tupI (flip t) = T2 at *
  generalize tupI u = U at *
  generalize tupI t = T at *
  unfold Sem.b1__law_list
  simp -implicitDefEqProofs [f6, e1, eu, tf, ap, small_ok]
structure LX where
  F : List (List Int)
  Lf : List (List Int)
  pot : D
  s4 : DV.Slot
  s5 : DV.Slot
  s6 : DV.Slot
theorem lb1_ok {pot p1 g d : D} {L M : List D} {ll r : Int} {s2 s4 s5 s6 : DV.Slot} (f4 : s4.free = true) (hl : lenD [.lst L] = some (.int ll)) (e : Sem.f__law_take [(1, pot), (0, .int ll)] = .ok 0 (.int r) [.val 1 true p1, .no]) (pa : popAtD L [.int r] = some (d, M)) :
    LB1 (eLI pot g s2 (.val 1 false (.lst L)) s4 s5 s6) = .ok .nx (eLI p1 g s2 (.val 1 false (.lst M)) (vS d) s5 s6) := by
  unfold LB1
  simp -implicitDefEqProofs [f4, hl, e, pa, -v_lenL]
theorem lb2_ok {pot p1 g T T2 U : D} {L M : List D} {r : Int} {s3 s5 s6 : DV.Slot} (e : Sem.f__law_take [(1, pot), (0, .int 2)] = .ok 0 (.int r) [.val 1 true p1, .no]) (tf : Sem.f__law_turned [(0, T)] = .ok 0 T2 [.no]) (eu : atI [T, T2] r = some U) (ap : appendD L [U] = some (.non, M)) :
    LB2 (eLI pot g (.val 1 false (.lst L)) s3 (vS T) s5 s6) = .ok .nx (eLI p1 g (.val 1 false (.lst M)) s3 (vS T) s5 s6) := by
  unfold LB2
  simp -implicitDefEqProofs [e, tf, eu, ap, small_ok]
theorem lb3_ok {pot p1 p2 g : D} {a b : Int} {s2 s3 s4 s5 s6 : DV.Slot} (f5 : s5.free = true) (e1 : Sem.f__law_take [(1, pot), (0, .int 4)] = .ok 0 (.int a) [.val 1 true p1, .no]) (e2 : Sem.f__law_take [(1, p1), (0, .int 2)] = .ok 0 (.int b) [.val 1 true p2, .no]) (mu : mulD (.int a) (.int b) = some (0, .int (a * b))) :
    LB3 (eLI pot g s2 s3 s4 s5 s6) = .ok .nx (eLI p2 g s2 s3 s4 (vS (.int (a * b))) s6) := by
  unfold LB3
  simp -implicitDefEqProofs [f5, e1, e2, mu, -v_mulL, -v_mulR]
theorem lb_turn {p : Nat} {ts : List (List Int)} (G : GS p ts) {F Lf : List (List Int)} (Fn : Fnd p ts F Lf) (h0 : 0 < Lf.length) {pot g : D} {n : Nat} (hp : PotOk n pot) (hn : n ≤ 700000) {s4 s5 s6 : DV.Slot} (f4 : s4.free = true) (f5 : s5.free = true) (f6 : s6.free = true) :
    ∃ (F' Lf' : List (List Int)) (pot' : D) (t4 t5 t6 : DV.Slot), Sem.b2__law_list (eLI pot g (oS F) (oS Lf) s4 s5 s6) = .ok .nx (eLI pot' g (oS F') (oS Lf') t4 t5 t6) ∧ Fnd p ts F' Lf' ∧ PotOk (n + 7) pot' ∧ Lf'.length + 1 = Lf.length ∧ t4.free = true ∧ t5.free = true ∧ t6.free = true := by
  have hlen := Fn.len
  obtain ⟨r, p1, br, q1, e1⟩ := draw hp (by omega) Lf.length h0 (by omega)
  have ht : Lf[r] ∈ ts := Fn.lft _ (List.getElem_mem br)
  have pa : popAtD (Lf.map tupI) [.int r] = some (tupI Lf[r], (Lf.eraseIdx r).map tupI) := by
    have sq : seqIndex? (r : Int) (Lf.map tupI).length = some r := by
      have n0 : ¬ ((r : Int) < 0) := by omega
      rw [List.length_map]
      unfold seqIndex?
      simp [n0, br]
    have c : -(2 ^ 63 : Int) ≤ (r : Int) ∧ (r : Int) < 2 ^ 63 := by omega
    have er : ∀ {l : List (List Int)} {a : Nat}, (l.map tupI).eraseIdx a = (l.eraseIdx a).map tupI := by
      intro l
      induction l with
      | nil => intro a; simp
      | cons x l ih => intro a; cases a <;> simp [ih]
    rw [popAtD, if_pos c, sq]
    simp [br, er]
  obtain ⟨r2, p2, br2, q2, e2⟩ := draw q1 (by omega) 2 (by decide) (by decide)
  have e2 : Sem.f__law_take [(1, p1), (0, .int 2)] = .ok 0 (.int r2) [.val 1 true p2, .no] := e2
  obtain ⟨u, eu, hu⟩ := pick2 (t := Lf[r]) br2
  have tf := turned_flip (G.norm _ ht).real
  have ap := app_ok (F := F) (by omega) u
  obtain ⟨a, p3, ba, q3, e3⟩ := draw q2 (by omega) 4 (by decide) (by decide)
  have e3 : Sem.f__law_take [(1, p2), (0, .int 4)] = .ok 0 (.int a) [.val 1 true p3, .no] := e3
  obtain ⟨b, p4, bb, q4, e4⟩ := draw q3 (by omega) 2 (by decide) (by decide)
  have e4 : Sem.f__law_take [(1, p3), (0, .int 2)] = .ok 0 (.int b) [.val 1 true p4, .no] := e4
  have mu : mulD (.int a) (.int b) = some (0, .int ((a : Int) * b)) := v_mulL (by omega)
  have le : (Lf.eraseIdx r).length + 1 = Lf.length := by rw [List.length_eraseIdx, if_pos br]; omega
  have ab : a * b ≤ 3 := by
    have := Nat.mul_le_mul (show a ≤ 3 by omega) (show b ≤ 1 by omega)
    omega
  have base : Fnd p ts (F ++ [u]) (Lf.eraseIdx r) := by
    obtain ⟨x1, x2, x3⟩ := fnd_add (F := F) (Lf := Lf) G ht hu
    refine ⟨fun t h => ?_, fun t h => Fn.lft t (List.mem_of_mem_eraseIdx h), fun t h => ?_, by rw [List.length_append, List.length_singleton]; omega⟩
    · rcases List.mem_append.mp h with h | h
      · exact Fn.fnd t h
      · rw [List.mem_singleton.mp h]; exact ⟨x1, x2, by rw [x3]; exact ht⟩
    · by_cases c : t = Lf[r]
      · exact .inr (by rw [List.map_append, List.mem_append]; exact .inr (by simp [x3, c]))
      · rcases Fn.all t h with h | h
        · refine .inl ?_
          obtain ⟨i, hi, e⟩ := List.mem_iff_getElem.mp h
          have hne : i ≠ r := fun z => c (by rw [← e]; congr 1)
          exact List.mem_eraseIdx_iff_getElem.mpr ⟨i, hi, hne, e⟩
        · exact .inr (by rw [List.map_append, List.mem_append]; exact .inl h)
  obtain ⟨m, hm, hm3⟩ : ∃ m : Nat, max (0 : Int) (min ((a : Int) * b) (50 - ((F ++ [u]).length : Int) - ((Lf.eraseIdx r).length : Int))) = (m : Int) ∧ (m ≤ 3 ∧ m + (F ++ [u]).length + (Lf.eraseIdx r).length ≤ 50) := by
    have l1 := base.len
    have zz : (a : Int) * b = ((a * b : Nat) : Int) := by simp
    refine ⟨(max (0 : Int) (min ((a : Int) * b) (50 - ((F ++ [u]).length : Int) - ((Lf.eraseIdx r).length : Int)))).toNat, by omega, by rw [zz]; omega⟩
  generalize hLf : Lf.eraseIdx r = Lf2 at *
  obtain ⟨η', e, F3, p5, t6, g6, hF3, q5, l3, rfl⟩ := forL_all (g := S.name 6) (body := Sem.b1__law_list) (ds := S.rangeL 0 m) (η := eLI p4 g (oS (F ++ [u])) (oS Lf2) (vS (tupI Lf[r])) (vS (.int ((a : Int) * b))) s6)
    (fun i η => ∃ (F3 : List (List Int)) (p5 : D) (t6 : DV.Slot), t6.free = true ∧ Fnd p ts F3 (if i ≤ m then Lf2 else []) ∧ PotOk (n + 4 + i) p5 ∧ F3.length = (F ++ [u]).length + i ∧ η = eLI p5 g (oS F3) (oS Lf2) (vS (tupI Lf[r])) (vS (.int ((a : Int) * b))) t6) ⟨F ++ [u], p4, s6, f6, by rw [if_pos (Nat.zero_le _)]; exact base, q4, rfl, rfl⟩ (by
    rintro i hi η ⟨F3, p5, t6, g6, hF3, q5, l3, rfl⟩
    rw [rangeL_len] at hi
    rw [if_pos (by omega)] at hF3
    obtain ⟨v, p6, hv, q6, e⟩ := li_turn (F := F3) (Lf := Lf2) (g := g) G ht q5 (by omega) (by omega) (S.rangeL 0 m)[i] (s3 := oS Lf2) (s5 := vS (.int ((a : Int) * b))) g6
    obtain ⟨x1, x2, x3⟩ := fnd_add (F := F) (Lf := Lf) G ht hv
    refine ⟨_, .inl e, F3 ++ [v], p6, _, rfl, ?_, q6.mono (by omega), by rw [List.length_append, List.length_singleton]; omega, rfl⟩
    rw [if_pos (by omega)]
    refine ⟨fun t h => ?_, hF3.lft, fun t h => ?_, by rw [List.length_append, List.length_singleton]; omega⟩
    · rcases List.mem_append.mp h with h | h
      · exact hF3.fnd t h
      · rw [List.mem_singleton.mp h]; exact ⟨x1, x2, by rw [x3]; exact ht⟩
    · rcases hF3.all t h with h | h
      · exact .inl h
      · exact .inr (by rw [List.map_append, List.mem_append]; exact .inl h))
  rw [rangeL_len] at hF3 q5 l3
  rw [if_pos (Nat.le_refl _)] at hF3
  refine ⟨F3, Lf2, p5, vS (tupI Lf[r]), vS (.int ((a : Int) * b)), t6, ?_, hF3, q5.mono (by omega), le, rfl, rfl, g6⟩
  rw [LB_eq, seq_ok (lb1_ok (s2 := oS F) f4 (by simp) e1 pa), seq_ok (lb2_ok (s3 := oS Lf2) e2 tf eu ap), seq_ok (lb3_ok (s2 := oS (F ++ [u])) (s3 := oS Lf2) (s4 := vS (tupI Lf[r])) f5 e3 e4 mu)]
  have l2 : lenD [.lst ((F ++ [u]).map tupI)] = some (.int (F ++ [u]).length) := by simp
  have l3' : lenD [.lst (Lf2.map tupI)] = some (.int Lf2.length) := by simp
  have mn : minA [.int ((a : Int) * b), .int (50 - ((F ++ [u]).length : Int) - (Lf2.length : Int))] = some (.int (min ((a : Int) * b) (50 - ((F ++ [u]).length : Int) - (Lf2.length : Int)))) := by simp
  have mx : maxA [.int 0, .int (min ((a : Int) * b) (50 - ((F ++ [u]).length : Int) - (Lf2.length : Int)))] = some (.int (m : Int)) := by rw [← hm]; simp
  have mb : (m : Int) < 4611686018427387904 := by omega
  generalize ((F ++ [u]).length : Int) = x1 at *
  generalize (Lf2.length : Int) = x2 at *
  generalize min ((a : Int) * b) (50 - x1 - x2) = x3 at *
  generalize (a : Int) * b = x4 at *
  unfold LB4 Sem.l1__law_list
  rw [v_fors]
  unfold oS at *
  generalize (F ++ [u]).map tupI = M1 at *
  generalize Lf2.map tupI = M2 at *
  simp -implicitDefEqProofs [l2, l3', mn, mx, mb, e, -v_lenL]
end Maths

namespace Maths
open DV L2 PySem
theorem run_li {pot pot' g : D} {M : List D} {s3 s4 s5 s6 : DV.Slot} (h : Sem.s__law_list [.val 1 true pot, vS g, .no, .no, .no, .no, .no] = .ok (.rt 1 (.lst M)) (eLI pot' g .no s3 s4 s5 s6)) : Sem.f__law_list [(1, pot), (0, g)] = .ok 1 (.lst M) [.val 1 true pot', .no] := by
  rw [Sem.f__law_list_eq]
  generalize Sem.s__law_list = Z at *
  simp -implicitDefEqProofs [v_run, h]
theorem ll12_ok {pot g : D} {M : List D} (ix : ixA g (.int 1) = some (0, .tup M)) : LL1 [.val 1 true pot, vS g, .no, .no, .no, .no, .no] = .ok .nx (eLI pot g (oS []) .no .no .no .no) ∧ LL2 (eLI pot g (oS []) .no .no .no .no) = .ok .nx (eLI pot g (oS []) (.val 1 false (.lst M)) .no .no .no) := by
  constructor
  · unfold LL1 oS
    simp -implicitDefEqProofs [small_ok]
  · unfold LL2 oS
    simp -implicitDefEqProofs [ix]
theorem ll4_no {pot g : D} {M : List D} {s3 s4 s5 s6 : DV.Slot} (h : M = []) : LL4 (eLI pot g (.val 1 false (.lst M)) s3 s4 s5 s6) = .ok .nx (eLI pot g (.val 1 false (.lst M)) s3 s4 s5 s6) := by
  subst h
  unfold LL4
  simp -implicitDefEqProofs []
theorem ll4_pass {pot p1 g : D} {M : List D} {r ll : Int} {s3 s4 s5 s6 : DV.Slot} (hl : lenD [.lst M] = some (.int ll)) (h0 : 0 < ll) (e : Sem.f__law_take [(1, pot), (0, .int 4)] = .ok 0 (.int r) [.val 1 true p1, .no]) (hr : ¬ r = 0) : LL4 (eLI pot g (.val 1 false (.lst M)) s3 s4 s5 s6) = .ok .nx (eLI p1 g (.val 1 false (.lst M)) s3 s4 s5 s6) := by
  unfold LL4
  simp -implicitDefEqProofs [hl, h0, e, hr, -v_lenL]
theorem ll4_mul {pot p1 g : D} {M M50 M2 : List D} {ll : Int} {s3 s4 s5 s6 : DV.Slot} (hl : lenD [.lst M] = some (.int ll)) (h0 : 0 < ll) (e : Sem.f__law_take [(1, pot), (0, .int 4)] = .ok 0 (.int 0) [.val 1 true p1, .no]) (mu : mulD (.lst M) (.int 50) = some (1, .lst M50)) (ct : cutD M50 none (some 50) = M2) : LL4 (eLI pot g (.val 1 false (.lst M)) s3 s4 s5 s6) = .ok .nx (eLI p1 g (.val 1 false (.lst M2)) s3 s4 s5 s6) := by
  unfold LL4
  simp -implicitDefEqProofs [hl, h0, e, mu, ct, -v_lenL]
theorem list_ok {n : Nat} {pot : D} (hp : PotOk n pot) (hn : n ≤ 300000) {p : Nat} {ts : List (List Int)} (G : GS p ts) : ∃ (F : List (List Int)) (pot' : D), Sem.f__law_list [(1, pot), (0, gridD p ts)] = .ok 1 (.lst (F.map tupI)) [.val 1 true pot', .no] ∧ PotOk (n + 200) pot' ∧ F.length ≤ 50 ∧ (∀ t ∈ F, Tie p t ∧ Real t) ∧ ∀ t, t ∈ F.map wrt ↔ t ∈ ts := by
  have few := G.few
  have ix : ixA (gridD p ts) (.int 1) = some (0, .tup (ts.map tupI)) := rfl
  have l12 := ll12_ok (pot := pot) ix
  generalize gridD p ts = g at *
  obtain ⟨x, e, h1, h2, h3⟩ := whl_run (t := S.tst (S.cmp gtX (.ex (S.fnd lenD [.nm 3])) (.ex (S.c (.int 0))))) (c := Sem.b2__law_list)
    (fun x : LX => eLI x.pot g (oS x.F) (oS x.Lf) x.s4 x.s5 x.s6)
    (fun x => x.s4.free = true ∧ x.s5.free = true ∧ x.s6.free = true ∧ Fnd p ts x.F x.Lf ∧ PotOk (n + 7 * (ts.length - x.Lf.length)) x.pot ∧ x.Lf.length ≤ ts.length) (fun x => x.Lf = [] ∧ Fnd p ts x.F x.Lf ∧ PotOk (n + 7 * ts.length) x.pot) (fun x => x.Lf.length) (x := ⟨[], ts, pot, .no, .no, .no⟩)
    ⟨rfl, rfl, rfl, ⟨fun t h => by simp at h, fun t h => h, fun t h => .inl h, by simp; omega⟩, hp.mono (by omega), Nat.le_refl _⟩ (by
    rintro ⟨F, Lf, q, s4, s5, s6⟩ ⟨f4, f5, f6, Fn, hq, hle⟩
    simp only at *
    have ll : lenD [.lst (Lf.map tupI)] = some (.int (Lf.length : Int)) := by simp
    by_cases c : Lf = []
    · refine .inl ⟨⟨F, Lf, q, s4, s5, s6⟩, ?_, c, Fn, hq.mono (by omega)⟩
      subst c
      unfold oS
      simp -implicitDefEqProofs []
    · have h0 : 0 < Lf.length := List.length_pos_iff.mpr c
      have h0' : (0 : Int) < (Lf.length : Int) := by omega
      obtain ⟨F', Lf', q', t4, t5, t6, e, Fn', hq', hl', g4, g5, g6⟩ := lb_turn (g := g) G Fn h0 hq (by omega) f4 f5 f6
      refine .inr ⟨_, ⟨F', Lf', q', t4, t5, t6⟩, ?_, .inl e, ⟨g4, g5, g6, Fn', (show PotOk (n + 7 * (ts.length - Lf'.length)) q' from hq'.mono (by omega)), (show Lf'.length ≤ ts.length by omega)⟩, (show Lf'.length < Lf.length by omega)⟩
      unfold oS
      generalize Lf.map tupI = M at *
      generalize (Lf.length : Int) = L at *
      simp -implicitDefEqProofs [ll, h0', -v_lenL])
  obtain ⟨F, Lf, q, s4, s5, s6⟩ := x
  simp only at h1 h2 h3 e
  subst h1
  have l3 : LL3 (eLI pot g (oS []) (oS ts) .no .no .no) = .ok .nx (eLI q g (oS F) (oS []) s4 s5 s6) := e
  have mem : ∀ t, t ∈ F.map wrt ↔ t ∈ ts := fun t => ⟨fun h => by
    obtain ⟨s, hs, rfl⟩ := List.mem_map.mp h
    exact (h2.fnd s hs).2.2, fun h => (h2.all t h).resolve_left (by simp)⟩
  have hF50 : F.length ≤ 50 := by have := h2.len; simp at this; exact this
  have ret : ∀ {M : List D} {q' : D}, LL4 (eLI q g (oS F) (oS []) s4 s5 s6) = .ok .nx (eLI q' g (.val 1 false (.lst M)) (oS []) s4 s5 s6) → Sem.f__law_list [(1, pot), (0, g)] = .ok 1 (.lst M) [.val 1 true q', .no] := fun {M q'} h => by
    refine run_li (s3 := oS []) (s4 := s4) (s5 := s5) (s6 := s6) ?_
    rw [LL_eq, seq_ok l12.1, seq_ok l12.2, seq_ok l3, seq_ok h]
    unfold LL5
    simp -implicitDefEqProofs []
  by_cases c : F = []
  · subst c
    exact ⟨[], q, ret (ll4_no rfl), h3.mono (by omega), by simp, fun t h => by simp at h, mem⟩
  · have h0 : (0 : Int) < (F.length : Int) := by
      have := List.length_pos_iff.mpr c
      omega
    have ll : lenD [.lst (F.map tupI)] = some (.int (F.length : Int)) := by simp
    obtain ⟨r, p1, br, q1, e1⟩ := draw h3 (by omega) 4 (by decide) (by decide)
    have e1 : Sem.f__law_take [(1, q), (0, .int 4)] = .ok 0 (.int r) [.val 1 true p1, .no] := e1
    by_cases z : r = 0
    · subst z
      have fl : ∀ k : Nat, (List.replicate k (F.map tupI)).flatten = ((List.replicate k F).flatten).map tupI := fun k => by
        rw [List.map_flatten, List.map_replicate]
      have mu : mulD (.lst (F.map tupI)) (.int 50) = some (1, .lst (((List.replicate 50 F).flatten).map tupI)) := by
        have cc : (50 : Int) ≤ 1000000 ∧ -1000000 ≤ (50 : Int) ∧ (F.map tupI).length * (50 : Int).toNat ≤ 1000000 := ⟨by decide, by decide, by rw [List.length_map]; show F.length * 50 ≤ 1000000; omega⟩
        rw [mulD, if_pos cc, ← fl]
        rfl
      have ct : cutD (((List.replicate 50 F).flatten).map tupI) none (some 50) = (((List.replicate 50 F).flatten).take 50).map tupI := by
        have := cut_to (ns := ((List.replicate 50 F).flatten).map tupI) (r := 50) (by decide)
        exact this.trans (by rw [List.map_take]; rfl)
      have pre : (List.replicate 50 F).flatten = F ++ (List.replicate 49 F).flatten := rfl
      have inF : ∀ t, t ∈ ((List.replicate 50 F).flatten).take 50 ↔ t ∈ F := fun t => ⟨fun h => by
        obtain ⟨l, hl, ht⟩ := List.mem_flatten.mp (List.mem_of_mem_take h)
        rw [(List.mem_replicate.mp hl).2] at ht
        exact ht, fun h => by
        rw [pre, List.take_append, List.take_of_length_le hF50]
        exact List.mem_append_left _ h⟩
      refine ⟨((List.replicate 50 F).flatten).take 50, p1, ret (ll4_mul ll h0 e1 mu ct), q1.mono (by omega), by rw [List.length_take]; omega, fun t h => ?_, fun t => ?_⟩
      · have := h2.fnd t ((inF t).mp h)
        exact ⟨this.1, this.2.1⟩
      · rw [← mem]
        constructor
        · intro h
          obtain ⟨s, hs, rfl⟩ := List.mem_map.mp h
          exact List.mem_map.mpr ⟨s, (inF s).mp hs, rfl⟩
        · intro h
          obtain ⟨s, hs, rfl⟩ := List.mem_map.mp h
          exact List.mem_map.mpr ⟨s, (inF s).mpr hs, rfl⟩
    · exact ⟨F, p1, ret (ll4_pass ll h0 e1 (by omega)), q1.mono (by omega), hF50, fun t h => ⟨(h2.fnd t h).1, (h2.fnd t h).2.1⟩, mem⟩
end Maths

namespace Maths
open DV L2 PySem
/-! ### _law_odd -/
noncomputable def O1 : SS := S.asg 3 (S.call Sem.f__law_take [.lend 0, .ex (S.c (.int 6))])
noncomputable def O2 : SS := S.asg 4 (S.call Sem.f__law_take [.lend 0, .ex (S.fz (S.bin addD (.ex (S.fnd lenD [.nm 2])) (.ex (S.c (.int 1)))))])
noncomputable def O3 : SS := S.ifs (S.tst (S.cmp eqD (.nm 3) (.ex (S.c (.int 0))))) (S.ret (S.up (S.tup (S.cons (S.fz (S.bin ixA (.ex (S.fz (S.lst (S.cons (S.c (.int 0)) (S.cons (S.c (.int 5)) (S.cons (S.fz (S.bin subD (.ex (S.c (.int 0))) (.ex (S.c (.int 1))))) (S.cons (S.c (.bl true)) (S.cons (S.c .non) (S.cons (S.c (.str "2")) (S.cons (S.tup (S.cons (S.c (.int 1)) (S.nil))) (S.cons (S.fz (S.bin powD (.ex (S.c (.int 10))) (.ex (S.c (.int 30))))) (S.nil)))))))))))) (.ex (S.fz (S.call Sem.f__law_take [.lend 0, .ex (S.c (.int 8))]))))) (S.cons (S.var 2) (S.nil)))))) (S.pass)
noncomputable def O4 : SS := S.ifs (S.tst (S.cmp eqD (.nm 3) (.ex (S.c (.int 1))))) (S.ret (S.up (S.tup (S.cons (S.var 1) (S.cons (S.fz (S.bin ixA (.ex (S.fz (S.lst (S.cons (S.c .non) (S.cons (S.c (.int 7)) (S.cons (S.c (.str "0")) (S.cons (S.fz (S.dnew (.dK []))) (S.cons (S.fz (S.disp (S.tup (S.cons (S.c (.int 0)) (S.cons (S.c (.int 0)) (S.cons (S.c (.int 0)) (S.cons (S.c (.int 1)) (S.nil)))))) (S.c (.int 1)))) (S.cons (S.c (.bl true)) (S.nil)))))))))) (.ex (S.fz (S.call Sem.f__law_take [.lend 0, .ex (S.c (.int 6))]))))) (S.nil)))))) (S.pass)
noncomputable def O5 : SS := S.ifs (S.tst (S.cmp eqD (.nm 3) (.ex (S.c (.int 2))))) (S.ret (S.up (S.tup (S.cons (S.var 1) (S.cons (S.fz (S.slc (.ex (S.fz (S.bin addD (.nm 2) (.ex (S.fz (S.bin mulD (.ex (S.fz (S.lst (S.cons (S.tup (S.cons (S.c (.int 0)) (S.cons (S.c (.int 0)) (S.cons (S.c (.int 0)) (S.cons (S.c (.int 1)) (S.nil)))))) (S.nil))))) (.ex (S.c (.int 51))))))))) none (some (S.c (.int 51))))) (S.nil)))))) (S.pass)
noncomputable def O6 : SS := S.ifs (S.tst (S.cmp eqD (.nm 3) (.ex (S.c (.int 3))))) (S.seq (S.asg 5 (S.bin addD (.ex (S.fz (Sem.c1__law_odd))) (.ex (S.fz (Sem.c2__law_odd))))) (S.ret (S.up (S.tup (S.cons (S.c (.int 2)) (S.cons (S.fz (S.bin addD (.nm 5) (.ex (S.fz (Sem.c3__law_odd))))) (S.nil))))))) (S.pass)
noncomputable def O7 : SS := S.asg 6 (S.lst (S.cons (S.tup (S.cons (S.c (.int 0)) (S.cons (S.c (.int 0)) (S.cons (S.c (.int 0)) (S.cons (S.c (.int 0)) (S.nil)))))) (S.cons (S.tup (S.cons (S.var 1) (S.cons (S.c (.int 0)) (S.cons (S.c (.int 0)) (S.cons (S.c (.int 1)) (S.nil)))))) (S.cons (S.tup (S.cons (S.c (.int 0)) (S.cons (S.c (.int 0)) (S.cons (S.c (.int 2)) (S.cons (S.c (.int 0)) (S.nil)))))) (S.cons (S.tup (S.cons (S.c (.int 0)) (S.cons (S.c (.int 0)) (S.cons (S.c (.int 0)) (S.cons (S.fz (S.bin subD (.ex (S.c (.int 0))) (.ex (S.c (.int 2))))) (S.nil)))))) (S.cons (S.tup (S.cons (S.c (.int 0)) (S.cons (S.c (.int 0)) (S.cons (S.c (.int 1)) (S.nil))))) (S.cons (S.fz (S.lst (S.cons (S.c (.int 0)) (S.cons (S.c (.int 0)) (S.cons (S.c (.int 0)) (S.cons (S.c (.int 1)) (S.nil))))))) (S.cons (S.tup (S.cons (S.c (.int 0)) (S.cons (S.c (.int 0)) (S.cons (S.c (.bl true)) (S.cons (S.c (.int 1)) (S.nil)))))) (S.nil)))))))))
noncomputable def O8 : SS := S.asg 6 (S.bin addD (.nm 6) (.ex (S.fz (S.lst (S.cons (S.c .non) (S.cons (S.tup (S.cons (S.c (.int 0)) (S.cons (S.c (.int 0)) (S.cons (S.c (.int 0)) (S.cons (S.c (.int 1)) (S.cons (S.c (.int 0)) (S.nil))))))) (S.cons (S.tup (S.cons (S.fz (S.bin subD (.ex (S.c (.int 0))) (.ex (S.c (.int 1))))) (S.cons (S.c (.int 0)) (S.cons (S.c (.int 1)) (S.cons (S.c (.int 1)) (S.nil)))))) (S.cons (S.tup (S.cons (S.c (.str "0")) (S.cons (S.c (.int 0)) (S.cons (S.c (.int 0)) (S.cons (S.c (.int 1)) (S.nil)))))) (S.cons (S.tup (S.cons (S.c (.int 0)) (S.cons (S.c (.int 0)) (S.cons (S.c .non) (S.cons (S.c (.int 1)) (S.nil)))))) (S.nil))))))))))
noncomputable def O9 : SS := S.drop (S.lm 6 appendD (S.cons (S.tup (S.cons (S.fz (S.bin subD (.nm 1) (.ex (S.c (.int 1))))) (S.cons (S.fz (S.bin subD (.nm 1) (.ex (S.c (.int 1))))) (S.cons (S.c (.int 0)) (S.cons (S.c (.int 0)) (S.nil)))))) (S.nil)))
noncomputable def O10 : SS := S.ret (S.up (S.tup (S.cons (S.var 1) (S.cons (S.fz (S.slc (.ex (S.fz (S.bin addD (.ex (S.fz (S.bin addD (.ex (S.fz (S.slc (.nm 2) none (some (S.var 4))))) (.ex (S.fz (S.lst (S.cons (S.fz (S.bin ixA (.nm 6) (.ex (S.fz (S.call Sem.f__law_take [.lend 0, .ex (S.c (.int 13))]))))) (S.nil)))))))) (.ex (S.fz (S.slc (.nm 2) (some (S.var 4)) none)))))) none (some (S.fz (S.bin addD (.ex (S.c (.int 50))) (.ex (S.fnd intD [.ex (S.cmp gtX (.nm 4) (.ex (S.c (.int 48))))]))))))) (S.nil)))))
theorem O_eq : Sem.s__law_odd = S.seq O1 (S.seq O2 (S.seq O3 (S.seq O4 (S.seq O5 (S.seq O6 (S.seq O7 (S.seq O8 (S.seq O9 (O10))))))))) := rfl
abbrev eO (pot : D) (p : Int) (T : D) (s3 s4 s5 s6 : DV.Slot) : DV.Env := [.val 1 true pot, vS (.int p), vS T, s3, s4, s5, s6, .no]
def t4 (a b x y : Int) : D := .tup [.int a, .int b, .int x, .int y]
def numsO : List D := [.int 0, .int 5, .int (-1), .bl true, .non, .str "2", .tup [.int 1], .int 1000000000000000000000000000000]
def kindsO : List D := [.non, .int 7, .str "0", .dK [], .dT [(keyI [0, 0, 0, 1], .int 1)], .bl true]
def someA (p : Int) : List D := [t4 0 0 0 0, t4 p 0 0 1, t4 0 0 2 0, t4 0 0 0 (-2), .tup [.int 0, .int 0, .int 1], .lst [.int 0, .int 0, .int 0, .int 1], .tup [.int 0, .int 0, .bl true, .int 1]]
def someB : List D := [.non, .tup [.int 0, .int 0, .int 0, .int 1, .int 0], t4 (-1) 0 1 1, .tup [.str "0", .int 0, .int 0, .int 1], .tup [.int 0, .int 0, .non, .int 1]]
def someO (p : Int) : List D := (someA p ++ someB) ++ [t4 (p - 1) (p - 1) 0 0]
theorem o1_ok {pot p1 T : D} {p r : Int} (e : Sem.f__law_take [(1, pot), (0, .int 6)] = .ok 0 (.int r) [.val 1 true p1, .no]) : O1 (eO pot p T .no .no .no .no) = .ok .nx (eO p1 p T (vS (.int r)) .no .no .no) := by
  unfold O1
  simp -implicitDefEqProofs [e]
theorem o2_ok {pot p1 : D} {L : List D} {p r l : Int} {s3 : DV.Slot} (hl : lenD [.lst L] = some (.int l)) (e : Sem.f__law_take [(1, pot), (0, .int (l + 1))] = .ok 0 (.int r) [.val 1 true p1, .no]) : O2 (eO pot p (.lst L) s3 .no .no .no) = .ok .nx (eO p1 p (.lst L) s3 (vS (.int r)) .no .no) := by
  unfold O2
  simp -implicitDefEqProofs [hl, e, -v_lenL]
theorem o3_no {pot T : D} {p r : Int} {s4 : DV.Slot} (h : ¬ r = 0) : O3 (eO pot p T (vS (.int r)) s4 .no .no) = .ok .nx (eO pot p T (vS (.int r)) s4 .no .no) := by
  unfold O3
  simp -implicitDefEqProofs [h]
theorem o3_yes {pot p1 T d : D} {p a : Int} {s4 : DV.Slot} (e : Sem.f__law_take [(1, pot), (0, .int 8)] = .ok 0 (.int a) [.val 1 true p1, .no]) (hd : atI numsO a = some d) : O3 (eO pot p T (vS (.int 0)) s4 .no .no) = .ok (.rt 0 (.tup [d, T])) (eO p1 p T (vS (.int 0)) s4 .no .no) := by
  unfold numsO at hd
  unfold O3
  simp -implicitDefEqProofs [e, hd, small_ok]
theorem o4_no {pot T : D} {p r : Int} {s4 : DV.Slot} (h : ¬ r = 1) : O4 (eO pot p T (vS (.int r)) s4 .no .no) = .ok .nx (eO pot p T (vS (.int r)) s4 .no .no) := by
  unfold O4
  simp -implicitDefEqProofs [h]
theorem o4_yes {pot p1 T d : D} {p a : Int} {s4 : DV.Slot} (e : Sem.f__law_take [(1, pot), (0, .int 6)] = .ok 0 (.int a) [.val 1 true p1, .no]) (hd : atI kindsO a = some d) : O4 (eO pot p T (vS (.int 1)) s4 .no .no) = .ok (.rt 0 (.tup [.int p, d])) (eO p1 p T (vS (.int 1)) s4 .no .no) := by
  unfold kindsO at hd
  have k0 : keysD [.int 0, .int 0, .int 0, .int 1] = some (keyI [0, 0, 0, 1]) := keysD_ints [0, 0, 0, 1]
  unfold O4
  simp -implicitDefEqProofs [e, hd, k0, small_ok]
theorem o5_no {pot T : D} {p r : Int} {s4 : DV.Slot} (h : ¬ r = 2) : O5 (eO pot p T (vS (.int r)) s4 .no .no) = .ok .nx (eO pot p T (vS (.int r)) s4 .no .no) := by
  unfold O5
  simp -implicitDefEqProofs [h]
theorem o5_yes {pot : D} {L M N R : List D} {p : Int} {s4 : DV.Slot} (mu : mulD (.lst [t4 0 0 0 1]) (.int 51) = some (1, .lst M)) (ad : addD (.lst L) (.lst M) = some (1, .lst N)) (ct : cutD N none (some 51) = R) : O5 (eO pot p (.lst L) (vS (.int 2)) s4 .no .no) = .ok (.rt 0 (.tup [.int p, .lst R])) (eO pot p (.lst L) (vS (.int 2)) s4 .no .no) := by
  unfold t4 at mu
  unfold O5
  simp -implicitDefEqProofs [mu, ad, ct, small_ok]
def manyI : List (List Int) := [[0, 1, -1, -1], [0, 1, -1, 0], [0, 1, -1, 1], [0, 1, 0, -1], [0, 1, 0, 0], [0, 1, 0, 1], [0, 1, 1, -1], [0, 1, 1, 0], [0, 1, 1, 1], [1, 1, -1, -1], [1, 1, -1, 0], [1, 1, -1, 1], [1, 1, 0, -1], [0, 0, -1, -1], [0, 0, -1, 0], [0, 0, -1, 1], [0, 0, 0, -1]]
theorem o6_no {pot T : D} {p r : Int} {s4 : DV.Slot} (h : ¬ r = 3) : O6 (eO pot p T (vS (.int r)) s4 .no .no) = .ok .nx (eO pot p T (vS (.int r)) s4 .no .no) := by
  unfold O6
  simp -implicitDefEqProofs [h]
theorem o6_yes {pot T : D} {p : Int} {s4 : DV.Slot} : ∃ s5, O6 (eO pot p T (vS (.int 3)) s4 .no .no) = .ok (.rt 0 (.tup [.int 2, .lst (manyI.map tupI)])) (eO pot p T (vS (.int 3)) s4 s5 .no) := by
  have c1 : Sem.c1__law_odd (eO pot p T (vS (.int 3)) s4 .no .no) = .ok (1, .lst ((manyI.take 9).map tupI)) (eO pot p T (vS (.int 3)) s4 .no .no) := by kernel_rfl
  have c2 : Sem.c2__law_odd (eO pot p T (vS (.int 3)) s4 .no .no) = .ok (1, .lst (((manyI.drop 9).take 4).map tupI)) (eO pot p T (vS (.int 3)) s4 .no .no) := by kernel_rfl
  have c3 : ∀ X : List D, Sem.c3__law_odd (eO pot p T (vS (.int 3)) s4 (.val 1 false (.lst X)) .no) = .ok (1, .lst ((manyI.drop 13).map tupI)) (eO pot p T (vS (.int 3)) s4 (.val 1 false (.lst X)) .no) := fun X => by kernel_rfl
  have a1 := add_lst' (xs := (manyI.take 9).map tupI) (ys := ((manyI.drop 9).take 4).map tupI) (by decide)
  have a2 := add_lst' (xs := (manyI.take 9).map tupI ++ ((manyI.drop 9).take 4).map tupI) (ys := (manyI.drop 13).map tupI) (by decide)
  have hm : ((manyI.take 9).map tupI ++ ((manyI.drop 9).take 4).map tupI) ++ (manyI.drop 13).map tupI = manyI.map tupI := by rfl
  rw [hm] at a2
  refine ⟨.val 1 false (.lst ((manyI.take 9).map tupI ++ ((manyI.drop 9).take 4).map tupI)), ?_⟩
  have c3 := c3 ((manyI.take 9).map tupI ++ ((manyI.drop 9).take 4).map tupI)
  generalize (manyI.take 9).map tupI ++ ((manyI.drop 9).take 4).map tupI = X at *
  generalize (manyI.take 9).map tupI = X1 at *
  generalize ((manyI.drop 9).take 4).map tupI = X2 at *
  generalize (manyI.drop 13).map tupI = X3 at *
  generalize manyI.map tupI = X4 at *
  unfold O6
  simp -implicitDefEqProofs [c1, c2, c3, a1, a2, small_ok]
theorem o789_ok {pot T : D} {p : Int} {s3 s4 : DV.Slot} {f : SS} : S.seq O7 (S.seq O8 (S.seq O9 f)) (eO pot p T s3 s4 .no .no) = f (eO pot p T s3 s4 .no (.val 1 false (.lst (someO p)))) := by
  have a1 : addD (.lst (someA p)) (.lst someB) = some (1, .lst (someA p ++ someB)) := add_lst' (by simp [someA, someB])
  have a2 : appendD (someA p ++ someB) [t4 (p - 1) (p - 1) 0 0] = some (.non, someO p) := append' (by simp [someA, someB])
  have h7 : O7 (eO pot p T s3 s4 .no .no) = .ok .nx (eO pot p T s3 s4 .no (.val 1 false (.lst (someA p)))) := by
    unfold O7 someA t4
    simp -implicitDefEqProofs [small_ok]
  have h8 : O8 (eO pot p T s3 s4 .no (.val 1 false (.lst (someA p)))) = .ok .nx (eO pot p T s3 s4 .no (.val 1 false (.lst (someA p ++ someB)))) := by
    unfold someB t4 at *
    generalize someA p = A at *
    unfold O8
    simp -implicitDefEqProofs [a1, small_ok]
  have h9 : O9 (eO pot p T s3 s4 .no (.val 1 false (.lst (someA p ++ someB)))) = .ok .nx (eO pot p T s3 s4 .no (.val 1 false (.lst (someO p)))) := by
    unfold t4 at a2
    generalize someA p ++ someB = A at *
    generalize someO p = B at *
    unfold O9
    simp -implicitDefEqProofs [a2, small_ok]
  rw [seq_ok h7, seq_ok h8, seq_ok h9]
theorem o10_ok {pot p1 d : D} {L A B N1 N2 R so : List D} {p a r c : Int} {s3 : DV.Slot} (cA : cutD L none (some a) = A) (cB : cutD L (some a) none = B) (e : Sem.f__law_take [(1, pot), (0, .int 13)] = .ok 0 (.int r) [.val 1 true p1, .no]) (hd : atI so r = some d) (a1 : addD (.lst A) (.lst [d]) = some (1, .lst N1)) (a2 : addD (.lst N1) (.lst B) = some (1, .lst N2)) (hc : (if 48 < a then (1 : Int) else 0) = c) (ct : cutD N2 none (some (50 + c)) = R) :
    O10 (eO pot p (.lst L) s3 (vS (.int a)) .no (.val 1 false (.lst so))) = .ok (.rt 0 (.tup [.int p, .lst R])) (eO p1 p (.lst L) s3 (vS (.int a)) .no (.val 1 false (.lst so))) := by
  unfold O10
  by_cases h : 48 < a
  · rw [if_pos h] at hc
    subst hc
    have i1 : intD [.bl true] = some (.int 1) := rfl
    have ct : cutD N2 none (some 51) = R := ct
    simp -implicitDefEqProofs [cA, cB, e, hd, a1, a2, h, i1, ct, small_ok]
  · rw [if_neg h] at hc
    subst hc
    have i1 : intD [.bl false] = some (.int 0) := rfl
    have ct : cutD N2 none (some 50) = R := ct
    simp -implicitDefEqProofs [cA, cB, e, hd, a1, a2, h, i1, ct, small_ok]
theorem run_o {pot q d T : D} {p : Int} {s3 s4 s5 s6 : DV.Slot} (e : Sem.s__law_odd (eO pot p T .no .no .no .no) = .ok (.rt 0 d) (eO q p T s3 s4 s5 s6)) : Sem.f__law_odd [(1, pot), (0, .int p), (0, T)] = .ok 0 d [.val 1 true q, .no, .no] := by
  rw [Sem.f__law_odd_eq]
  generalize Sem.s__law_odd = Z at *
  simp -implicitDefEqProofs [v_run, e]
end Maths

namespace Maths
open DV L2 PySem
def shwB (n B : Nat) (d : D) : Bool := okD n d && (py d).showable && decide ((py d).shown.length ≤ B)
theorem shw_ofB {n B : Nat} {d : D} (h : shwB n B d = true) : Shw n B d := by
  unfold shwB at h
  simp only [Bool.and_eq_true, decide_eq_true_eq] at h
  exact ⟨h.1.1, h.1.2, h.2⟩
theorem some_shw {p : Nat} (p1 : 1 ≤ p) (p4 : p ≤ 4) : ∀ d ∈ someO p, Shw 15 2015 d := by
  have : (someO p).all (shwB 15 2015) = true := by
    rcases (by omega : p = 1 ∨ p = 2 ∨ p = 3 ∨ p = 4) with rfl | rfl | rfl | rfl <;> decide +kernel
  exact fun d hd => shw_ofB (List.all_eq_true.mp this d hd)
theorem tie_shw {p : Nat} (p4 : p ≤ 4) {t : List Int} (T : Tie p t) : Shw 15 2015 (tupI t) := by
  obtain ⟨a, b, x, y, rfl, h⟩ := T.ex
  have one : ∀ {i : Int}, i.natAbs ≤ 100 → Shw 14 501 (.int i) := fun h => Shw.int (Nat.lt_of_le_of_lt h (by decide +kernel))
  exact (Shw.tup (n := 14) (B := 501) (k := 4) (ds := [.int a, .int b, .int x, .int y]) (fun d hd => by
    simp only [List.mem_cons, List.not_mem_nil, or_false] at hd
    rcases hd with rfl | rfl | rfl | rfl
    · exact one (by omega)
    · exact one (by omega)
    · exact one (by omega)
    · exact one (by omega)) (by simp)).mono (by decide)
theorem lst_text {L : List D} (h : ∀ d ∈ L, Shw 15 2015 d) (hl : L.length ≤ 60) : ∃ x, strY [.lst L] = some (.str x) := by
  have h := Shw.lst (n := 15) (B := 2015) (k := 60) h hl
  exact h.str_lst (by decide)
theorem kinds_text {d : D} (h : d ∈ kindsO) : ∃ x, strY [d] = some (.str x) := by
  unfold kindsO at h
  simp only [List.mem_cons, List.not_mem_nil, or_false] at h
  rcases h with rfl | rfl | rfl | rfl | rfl | rfl
  · exact ⟨_, rfl⟩
  · have e : strX [.int 7] = some (.str (toString (7 : Int))) := by
      unfold strX
      exact if_pos (by decide +kernel)
    exact ⟨_, (show strY [.int 7] = strX [.int 7] from rfl).trans e⟩
  · exact ⟨_, rfl⟩
  · exact ⟨_, rfl⟩
  · have hk : keyI [0, 0, 0, 1] = [.inl 0, .inl 0, .inl 0, .inl 1] := rfl
    have e : strY [.dT [(keyI [0, 0, 0, 1], .int 1)]] = some (.str (dtD [0, 0, 0, 1] 1).shown) := by
      rw [hk]
      unfold strY
      exact if_pos (by rw [sizeLine_eq]; decide +kernel)
    exact ⟨_, e⟩
  · exact ⟨_, rfl⟩
/-- an odd pair: it is refused, and has a text -/
def OddOk (a K : D) : Prop := Sem.f_made_grid [(0, a), (0, K)] = .exc "NoGrid" [.no, .no] ∧ ∃ x, strY [K] = some (.str x)
theorem kinds_no {p : Nat} (p1 : 1 ≤ p) (p4 : p ≤ 4) {d : D} (h : d ∈ kindsO) : OddOk (.int p) d := by
  refine ⟨?_, kinds_text h⟩
  unfold kindsO at h
  simp only [List.mem_cons, List.not_mem_nil, or_false] at h
  have k : ∀ e : D, isiE "list" e = some false → isiE "tuple" e = some false → Sem.f_made_grid [(0, .int p), (0, e)] = .exc "NoGrid" [.no, .no] := fun e h1 h2 => made_kind p1 p4 h1 h2
  rcases h with rfl | rfl | rfl | rfl | rfl | rfl
  · exact k _ isi_list_non isi_tuple_non
  · exact k _ isi_list_int isi_tuple_int
  · exact k _ isi_list_str isi_tuple_str
  · exact k _ isi_list_dK isi_tuple_dK
  · exact k _ (by show kitB "dict" "list" = some false; decide +kernel) (by show kitB "dict" "tuple" = some false; decide +kernel)
  · exact k _ isi_list_bl isi_tuple_bl
theorem nums_no {K d : D} (h : d ∈ numsO) : Sem.f_made_grid [(0, d), (0, K)] = .exc "NoGrid" [.no, .no] := by
  unfold numsO at h
  simp only [List.mem_cons, List.not_mem_nil, or_false] at h
  rcases h with rfl | rfl | rfl | rfl | rfl | rfl | rfl | rfl
  · exact made_num trivial (by decide)
  · exact made_num trivial (by decide)
  · exact made_num trivial (by decide)
  · exact made_num trivial rfl
  · exact made_num trivial rfl
  · exact made_num trivial rfl
  · exact made_num trivial rfl
  · exact made_num trivial (by decide)
theorem some_no {p : Nat} (p1 : 1 ≤ p) (p4 : p ≤ 4) {o : D} (h : o ∈ someO p) : Sem.f_is_tie [(0, .int p), (0, o)] = .ok 0 (.bl false) [.no, .no] := by
  have n4 : ∀ x0 x1 x2 x3 : D, NoT x0 → NoT x1 → NoT x2 → NoT x3 → four p (.tup [x0, x1, x2, x3]) = false → Sem.f_is_tie [(0, .int p), (0, .tup [x0, x1, x2, x3])] = .ok 0 (.bl false) [.no, .no] := fun _ _ _ _ a b c d => tie_four a b c d
  unfold someO someA someB at h
  simp only [List.cons_append, List.nil_append, List.mem_cons, List.not_mem_nil, or_false] at h
  rcases h with rfl | rfl | rfl | rfl | rfl | rfl | rfl | rfl | rfl | rfl | rfl | rfl | rfl
  · exact tie_ints (p := p) (a := 0) (b := 0) (x := 0) (y := 0) (by omega)
  · exact n4 _ _ _ _ trivial trivial trivial trivial (by show (decide (0 ≤ (p : Int)) && decide ((p : Int) < p) && _) = false; simp)
  · exact n4 _ _ _ _ trivial trivial trivial trivial (by
      show ((decide ((0 : Int) ≤ 0) && decide ((0 : Int) < p)) && ((decide ((0 : Int) ≤ 0) && decide ((0 : Int) < p)) && ((decide (-1 ≤ (2 : Int)) && decide ((2 : Int) ≤ 1)) && _))) = false
      simp)
  · exact n4 _ _ _ _ trivial trivial trivial trivial (by
      show ((decide ((0 : Int) ≤ 0) && decide ((0 : Int) < p)) && ((decide ((0 : Int) ≤ 0) && decide ((0 : Int) < p)) && ((decide (-1 ≤ (0 : Int)) && decide ((0 : Int) ≤ 1)) && (decide (-1 ≤ (-2 : Int)) && decide ((-2 : Int) ≤ 1))))) = false
      simp)
  · exact tie_len (by simp)
  · exact tie_kind (by simp)
  · exact n4 _ _ _ _ trivial trivial trivial trivial (by
      show (_ && (_ && (false && _))) = false
      simp)
  · exact tie_kind (by simp)
  · exact tie_len (by simp)
  · exact n4 _ _ _ _ trivial trivial trivial trivial (by show ((decide ((0 : Int) ≤ -1) && decide ((-1 : Int) < p)) && (ofB p (.int 0) && (stepB (.int 1) && stepB (.int 1)))) = false; simp)
  · exact n4 _ _ _ _ trivial trivial trivial trivial rfl
  · exact n4 _ _ _ _ trivial trivial trivial trivial (by
      show (_ && (_ && (false && _))) = false
      simp)
  · have := tie_ints (p := p) (a := (p : Int) - 1) (b := (p : Int) - 1) (x := 0) (y := 0) (by omega)
    rw [decide_eq_false (by omega)] at this
    exact this
theorem tie_yes {p : Nat} {t : List Int} (h : Tie p t ∧ Real t) : Sem.f_is_tie [(0, .int p), (0, tupI t)] = .ok 0 (.bl true) [.no, .no] := by
  obtain ⟨T, R⟩ := h
  obtain ⟨a, b, x, y, rfl, hh⟩ := T.ex
  have := tie_ints (p := p) hh
  obtain ⟨_, _, _, _, e, hr⟩ := R
  cases e
  rw [decide_eq_true hr] at this
  exact this
open Classical in
noncomputable def tieTruth (p : Nat) (d : D) : Bool := if Sem.f_is_tie [(0, .int p), (0, d)] = .ok 0 (.bl true) [.no, .no] then true else false
theorem truth_yes {p : Nat} {d : D} (h : Sem.f_is_tie [(0, .int p), (0, d)] = .ok 0 (.bl true) [.no, .no]) : tieTruth p d = true := if_pos h
theorem truth_no {p : Nat} {d : D} (h : Sem.f_is_tie [(0, .int p), (0, d)] = .ok 0 (.bl false) [.no, .no]) : tieTruth p d = false := if_neg (by rw [h]; intro z; cases z)
/-- a row with an odd thing in it -/
theorem row_no {p : Nat} (p1 : 1 ≤ p) (p4 : p ≤ 4) {F : List (List Int)} (hF : ∀ t ∈ F, Tie p t ∧ Real t) {o : D} (ho : o ∈ someO p) {R : List D} (hR : ∀ d ∈ R, d ∈ F.map tupI ∨ d = o) (hl : R.length ≤ 51) (inn : R.length ≤ 50 → o ∈ R) : OddOk (.int p) (.lst R) := by
  have sh : ∀ d ∈ R, Shw 15 2015 d := fun d hd => by
    rcases hR d hd with h | rfl
    · obtain ⟨t, ht, rfl⟩ := List.mem_map.mp h
      exact tie_shw p4 (hF t ht).1
    · exact some_shw p1 p4 _ ho
  refine ⟨?_, lst_text sh (by omega)⟩
  by_cases c : R.length ≤ 50
  · refine made_odd p1 p4 c (tieTruth p) (fun d hd => ?_) (inn c) (truth_no (some_no p1 p4 ho)) (.inl rfl)
    rcases hR d hd with h | rfl
    · obtain ⟨t, ht, rfl⟩ := List.mem_map.mp h
      have := tie_yes (hF t ht)
      rw [truth_yes this]; exact this
    · have := some_no p1 p4 ho
      rw [truth_no this]; exact this
  · exact made_long p1 p4 (by omega) (.inl rfl)
theorem cut_f {ds : List D} {a : Nat} : cutD ds (some (a : Int)) none = ds.drop a := by
  have := cut_from (ns := ds) (r := (a : Int)) (by omega)
  exact this
theorem cut_t {ds : List D} {a : Nat} : cutD ds none (some (a : Int)) = ds.take a := by
  have := cut_to (ns := ds) (r := (a : Int)) (by omega)
  exact this
theorem odd_ok {n : Nat} {pot : D} (hp : PotOk n pot) (hn : n ≤ 300000) {p : Nat} (p1 : 1 ≤ p) (p4 : p ≤ 4) {F : List (List Int)} (hF : ∀ t ∈ F, Tie p t ∧ Real t) (hl : F.length ≤ 50) : ∃ (a K pot' : D), Sem.f__law_odd [(1, pot), (0, .int p), (0, .lst (F.map tupI))] = .ok 0 (.tup [a, K]) [.val 1 true pot', .no, .no] ∧ OddOk a K := by
  obtain ⟨r, q1, br, h1, e1⟩ := draw hp (by omega) 6 (by decide) (by decide)
  have e1 : Sem.f__law_take [(1, pot), (0, .int 6)] = .ok 0 (.int r) [.val 1 true q1, .no] := e1
  obtain ⟨at', q2, ba, h2, e2⟩ := draw h1 (by omega) (F.length + 1) (by omega) (by omega)
  have ll : lenD [.lst (F.map tupI)] = some (.int (F.length : Int)) := by simp
  have e2 : Sem.f__law_take [(1, q1), (0, .int ((F.length : Int) + 1))] = .ok 0 (.int at') [.val 1 true q2, .no] := by
    rw [show (F.length : Int) + 1 = ((F.length + 1 : Nat) : Int) by omega]; exact e2
  have s12 : ∀ {R : Out DV.Flow} {f : SS}, f (eO q2 p (.lst (F.map tupI)) (vS (.int r)) (vS (.int at')) .no .no) = R → S.seq O1 (S.seq O2 f) (eO pot p (.lst (F.map tupI)) .no .no .no .no) = R := fun {R f} h => by
    rw [seq_ok (o1_ok e1), seq_ok (o2_ok ll e2)]; exact h
  have sret : ∀ {f g : SS} {η η1 : DV.Env} {k : Nat} {d : D}, f η = .ok (.rt k d) η1 → S.seq f g η = .ok (.rt k d) η1 := fun {f g η η1 k d} h => by
    show (f η).bind _ = _
    rw [h]; rfl
  rcases (by omega : r = 0 ∨ r = 1 ∨ r = 2 ∨ r = 3 ∨ (r = 4 ∨ r = 5)) with rfl | rfl | rfl | rfl | c
  · obtain ⟨a, q3, ba, h3, e3⟩ := draw h2 (by omega) 8 (by decide) (by decide)
    obtain ⟨d, ed, md⟩ := at_some (xs := numsO) (i := (a : Int)) (by omega) (by simp [numsO]; omega)
    refine ⟨d, .lst (F.map tupI), q3, run_o (s3 := vS (.int 0)) (s4 := vS (.int at')) (s5 := .no) (s6 := .no) ?_, nums_no md, lst_text (fun d hd => ?_) (by rw [List.length_map]; omega)⟩
    · rw [O_eq]
      exact s12 (sret (o3_yes e3 ed))
    · obtain ⟨t, ht, rfl⟩ := List.mem_map.mp hd
      exact tie_shw p4 (hF t ht).1
  · obtain ⟨a, q3, ba, h3, e3⟩ := draw h2 (by omega) 6 (by decide) (by decide)
    obtain ⟨d, ed, md⟩ := at_some (xs := kindsO) (i := (a : Int)) (by omega) (by simp [kindsO]; omega)
    refine ⟨.int p, d, q3, run_o (s3 := vS (.int 1)) (s4 := vS (.int at')) (s5 := .no) (s6 := .no) ?_, kinds_no p1 p4 md⟩
    rw [O_eq]
    refine s12 ?_
    rw [seq_ok (o3_no (by omega))]
    exact sret (o4_yes e3 ed)
  · have mu : mulD (.lst [t4 0 0 0 1]) (.int 51) = some (1, .lst ((List.replicate 51 [0, 0, 0, 1]).map tupI)) := by
      have cc : (51 : Int) ≤ 1000000 ∧ -1000000 ≤ (51 : Int) ∧ [t4 0 0 0 1].length * (51 : Int).toNat ≤ 1000000 := by decide
      rw [mulD, if_pos cc]
      rfl
    have ad := add_lst' (xs := F.map tupI) (ys := (List.replicate 51 [0, 0, 0, 1]).map tupI) (by simp; omega)
    refine ⟨.int p, .lst ((F.map tupI ++ (List.replicate 51 [0, 0, 0, 1]).map tupI).take 51), q2, run_o (s3 := vS (.int 2)) (s4 := vS (.int at')) (s5 := .no) (s6 := .no) ?_, made_long p1 p4 (by rw [List.length_take]; simp) (.inl rfl), lst_text (fun d hd => ?_) (by rw [List.length_take]; omega)⟩
    · rw [O_eq]
      refine s12 ?_
      rw [seq_ok (o3_no (by omega)), seq_ok (o4_no (by omega))]
      exact sret (o5_yes mu ad (cut_t (a := 51)))
    · have hd := List.mem_of_mem_take hd
      rcases List.mem_append.mp hd with h | h
      · obtain ⟨t, ht, rfl⟩ := List.mem_map.mp h
        exact tie_shw p4 (hF t ht).1
      · obtain ⟨t, ht, rfl⟩ := List.mem_map.mp h
        rw [(List.mem_replicate.mp ht).2]
        exact tie_shw (p := 1) (by decide) (tie_of (by decide))
  · have T17 : ∀ t ∈ manyI, Tie 2 t ∧ Real t := by
      have h1 : manyI.all (tieB 2) = true := by decide +kernel
      have h2 : ∀ t ∈ manyI, ∃ a b x y : Int, t = [a, b, x, y] ∧ (a ≠ b ∨ x ≠ 0 ∨ y ≠ 0) := by
        intro t ht
        unfold manyI at ht
        simp only [List.mem_cons, List.not_mem_nil, or_false] at ht
        rcases ht with rfl | rfl | rfl | rfl | rfl | rfl | rfl | rfl | rfl | rfl | rfl | rfl | rfl | rfl | rfl | rfl | rfl <;> exact ⟨_, _, _, _, rfl, by decide⟩
      exact fun t ht => ⟨tie_ofB (List.all_eq_true.mp h1 t ht), h2 t ht⟩
    have m17 : ¬ (madeL manyI).length ≤ 16 := by
      unfold madeL
      rw [List.length_mergeSort]
      decide +kernel
    obtain ⟨s5, e6⟩ := o6_yes (pot := q2) (T := .lst (F.map tupI)) (p := p) (s4 := vS (.int at'))
    refine ⟨.int 2, .lst (manyI.map tupI), q2, run_o (s3 := vS (.int 3)) (s4 := vS (.int at')) (s5 := s5) (s6 := .no) ?_, ?_, lst_text (fun d hd => ?_) (by decide)⟩
    · rw [O_eq]
      refine s12 ?_
      rw [seq_ok (o3_no (by omega)), seq_ok (o4_no (by omega)), seq_ok (o5_no (by omega))]
      exact sret e6
    · have := made_yes (p := 2) (by decide) (by decide) (L := manyI) (by decide) T17 (K := .lst (manyI.map tupI)) (.inl rfl)
      rw [if_neg m17] at this
      exact this
    · obtain ⟨t, ht, rfl⟩ := List.mem_map.mp hd
      exact tie_shw (by decide) (T17 t ht).1
  · obtain ⟨a, q3, bb, h3, e3⟩ := draw h2 (by omega) 13 (by decide) (by decide)
    obtain ⟨o, eo, mo⟩ := at_some (xs := someO p) (i := (a : Int)) (by omega) (by simp [someO, someA, someB]; omega)
    have a1 := add_lst' (xs := (F.map tupI).take at') (ys := [o]) (by simp; omega)
    have a2 := add_lst' (xs := (F.map tupI).take at' ++ [o]) (ys := (F.map tupI).drop at') (by simp; omega)
    obtain ⟨k, hk, hk2⟩ : ∃ k : Nat, (50 : Int) + (if 48 < (at' : Int) then (1 : Int) else 0) = (k : Int) ∧ k = if 48 < at' then 51 else 50 := by
      by_cases z : 48 < at'
      · exact ⟨51, by rw [if_pos (by omega)]; rfl, by rw [if_pos z]⟩
      · exact ⟨50, by rw [if_neg (by omega)]; rfl, by rw [if_neg z]⟩
    refine ⟨.int p, .lst (((F.map tupI).take at' ++ [o] ++ (F.map tupI).drop at').take k), q3, run_o (s3 := vS (.int r)) (s4 := vS (.int at')) (s5 := .no) (s6 := .val 1 false (.lst (someO p))) ?_, row_no p1 p4 hF mo (fun d hd => ?_) (by rw [List.length_take]; split at hk2 <;> omega) (fun hle => ?_)⟩
    · rw [O_eq]
      refine s12 ?_
      rw [seq_ok (o3_no (by omega)), seq_ok (o4_no (by omega)), seq_ok (o5_no (by omega)), seq_ok (o6_no (by omega)), o789_ok]
      exact o10_ok cut_t cut_f e3 eo a1 a2 rfl (by rw [hk]; exact cut_t)
    · have hd := List.mem_of_mem_take hd
      simp only [List.mem_append, List.mem_singleton] at hd
      rcases hd with (hd | hd) | hd
      · exact .inl (List.mem_of_mem_take hd)
      · exact .inr hd
      · exact .inl (List.mem_of_mem_drop hd)
    · have hat : ((F.map tupI).take at' ++ [o]).length = at' + 1 := by
        rw [List.length_append, List.length_take, List.length_map, List.length_singleton]; omega
      have : ((F.map tupI).take at' ++ [o] ++ (F.map tupI).drop at').take k = ((F.map tupI).take at' ++ [o]) ++ ((F.map tupI).drop at').take (k - (at' + 1)) := by
        rw [List.take_append, List.take_of_length_le (by rw [hat]; split at hk2 <;> omega), hat]
      rw [this]
      simp
end Maths

namespace Maths
open DV L2 PySem
noncomputable def B1 : SS := S.asg 2 (S.call Sem.f__law_begun [.ex (S.var 1)])
noncomputable def B2 : SS := S.asg 3 (Sem.c1_law)
noncomputable def B3 : SS := S.asg 4 (S.call Sem.f__law_grid [.lend 2])
noncomputable def B4 : SS := S.asg 5 (S.call Sem.f__law_list [.lend 2, .ex (S.var 4)])
noncomputable def B5 : SS := Sem.l1_law
noncomputable def B6 : SS := Sem.l2_law
theorem B_eq : Sem.b3_law = S.seq B1 (S.seq B2 (S.seq B3 (S.seq B4 (S.seq B5 (B6))))) := rfl
noncomputable def C1 : SS := S.asg 7 (S.call Sem.f_made_grid [.ex (S.fz (S.bin ixA (.nm 4) (.ex (S.c (.int 0))))), .ex (S.var 6)])
noncomputable def C2 : SS := S.ifs (S.tor (S.tnot (S.tst (S.isi "tuple" (.nm 7)))) (S.tor (S.tst (S.cmp neD (.nm 7) (.nm 4))) (S.tor (S.tnot (S.tst (S.fz (S.call Sem.f__law_all_whole [.ex (S.var 7)])))) (S.tst (S.cmp neD (.ex (S.fz (S.fn listD [.nm 6]))) (.nm 5)))))) (S.ret (S.up (S.c (.bl false)))) (S.pass)
theorem C_eq : Sem.b1_law = S.seq C1 (C2) := rfl
noncomputable def E1 : SS := S.asgG (S.fz (S.call Sem.f__law_odd [.lend 8, .ex (S.fz (S.bin ixA (.nm 4) (.ex (S.c (.int 0))))), .ex (S.var 5)])) (S.gtup [S.name 9, S.name 10])
noncomputable def E2 : SS := S.asg 11 (S.up (S.fnd strY [.nm 10]))
noncomputable def E3 : SS := S.ifs (S.tor (S.tst (S.cmp neD (.ex (S.fz (S.call Sem.f__law_told [.ex (S.var 9), .ex (S.var 10)]))) (.ex (S.c (.str "no grid"))))) (S.tst (S.cmp neS (.ex (S.fnd strY [.nm 10])) (.nm 11)))) (S.ret (S.up (S.c (.bl false)))) (S.pass)
theorem E_eq : Sem.b2_law = S.seq E1 (S.seq E2 (E3)) := rfl
abbrev eL (ns : D) (s1 s2 s3 s4 s5 s6 s7 s8 s9 s10 s11 : DV.Slot) : DV.Env := [vS ns, s1, s2, s3, s4, s5, s6, s7, s8, s9, s10, s11, .no]
theorem spoils_ok {ns : D} {n : Nat} {pot : D} (hp : PotOk n pot) (hn : n ≤ 100000) {s1 s3 s4 s5 s6 s7 s8 s9 s10 s11 : DV.Slot} :
    ∃ (L : List D) (pot' : D), Sem.c1_law (eL ns s1 (.val 1 false pot) s3 s4 s5 s6 s7 s8 s9 s10 s11) = .ok (2, .lst L) (eL ns s1 (.val 1 false pot') s3 s4 s5 s6 s7 s8 s9 s10 s11) ∧ PotOk (n + 4004) pot' ∧ (∀ d ∈ L, PotOk 0 d) ∧ L.length = 4 := by
  unfold Sem.c1_law
  obtain ⟨R, p, e, h1, h2, h3⟩ := comp_drawsN (it := S.range1 (S.c (.int 4))) (g := S.name 12) (tt := S.ct true) (f := S.lst (S.cons (S.fz (S.call Sem.f__law_wide [.lend 2, .ex (S.fz (S.bin powD (.ex (S.c (.int 10))) (.ex (S.c (.int 40)))))])) (S.cons (S.c (.int 0)) (S.cons (S.fz (S.call Sem.f__law_take [.lend 2, .ex (S.c (.int 2147483647))])) (S.nil))))) (k := 1) (vs := [12]) (ds := S.rangeL 0 4) (η := eL ns s1 (.val 1 false pot) s3 s4 s5 s6 s7 s8 s9 s10 s11) (α := D)
    (fun x => eL ns s1 (.val 1 false x) s3 s4 s5 s6 s7 s8 s9 s10 s11) (fun i x => PotOk (n + 1001 * i) x) (PotOk 0) (p0 := pot) (by simp -implicitDefEqProofs []) hp (by rfl) (by rw [rangeL_len]; decide) (fun _ _ => by simp) (by
    intro i hi pt hq
    rw [rangeL_len] at hi
    obtain ⟨a, p1, ha, q1, e1⟩ := wide_ok hq (by omega) 10000000000000000000000000000000000000000 (by decide) (by decide +kernel) (by decide +kernel)
    obtain ⟨b, p2, hb, q2, e2⟩ := drawL q1 (by omega) 2147483647 (by decide) (by decide +kernel)
    have e1 : Sem.f__law_wide [(1, pt), (0, .int 10000000000000000000000000000000000000000)] = .ok 0 (.int a) [.val 1 true p1, .no] := e1
    have e2 : Sem.f__law_take [(1, p1), (0, .int 2147483647)] = .ok 0 (.int b) [.val 1 true p2, .no] := e2
    refine ⟨potD a 0 b, p2, (eL ns s1 (.val 1 false p2) s3 s4 s5 s6 s7 s8 s9 s10 s11).set 12 (.val 0 false (S.rangeL 0 4)[i]), ?_, ⟨_, _, _, by omega, Int.le_refl _, by omega, by omega, by omega, rfl⟩, by simp [S.hide], q2.mono (by omega)⟩
    generalize (S.rangeL 0 4)[i] = x at *
    unfold potD
    simp -implicitDefEqProofs [S.hide, e1, e2, small_ok])
  rw [rangeL_len] at h1 h2
  exact ⟨R, p, e, h1.mono (by omega), h3, h2⟩
/-! all whole -/
theorem aw_turn {d : D} {ns t : List Int} (hl : ns.length + t.length ≤ 1000000) (s2 : DV.Slot) (f2 : s2.free = true) : S.turn (S.name 2) Sem.b1__law_all_whole (tupI t) [.val 0 false d, .val 1 false (.lst (ns.map .int)), s2, .no] = .ok .nx [.val 0 false d, .val 1 false (.lst ((ns ++ t).map .int)), .val 0 false (tupI t), .no] := by
  have it : isiD "tuple" (tupI t) = some true := by unfold tupI; simp
  have ex : extendX (ns.map D.int) [tupI t] = some (.non, (ns ++ t).map D.int) := by
    have z : ns.length + t.length ≤ sizeLine := small_ok (by omega)
    unfold tupI
    show (if (ns.map D.int).length + (t.map D.int).length ≤ sizeLine then some (D.non, ns.map D.int ++ t.map D.int) else none) = _
    rw [List.length_map, List.length_map, if_pos z, List.map_append]
  generalize (ns ++ t).map D.int = X at *
  generalize tupI t = T at *
  unfold Sem.b1__law_all_whole
  simp -implicitDefEqProofs [f2, it, ex]
theorem aw_ok {p : Nat} {ts : List (List Int)} (G : GS p ts) : Sem.f__law_all_whole [(0, gridD p ts)] = .ok 0 (.bl true) [.no] := by
  have few := G.few
  have i0 : ixA (gridD p ts) (.int 0) = some (0, .int p) := rfl
  have i1 : ixA (gridD p ts) (.int 1) = some (0, .tup (ts.map tupI)) := rfl
  obtain ⟨η', e, ns, s2, f2, hl, rfl⟩ := forL_all (g := S.name 2) (body := Sem.b1__law_all_whole) (ds := ts.map tupI) (η := [.val 0 false (gridD p ts), .val 1 false (.lst (([(p : Int)] : List Int).map .int)), .no, .no])
    (fun i η => ∃ (ns : List Int) (s2 : DV.Slot), s2.free = true ∧ ns.length ≤ 1 + 4 * i ∧ η = [.val 0 false (gridD p ts), .val 1 false (.lst (ns.map .int)), s2, .no]) ⟨[(p : Int)], .no, rfl, by simp, rfl⟩ (by
    rintro i hi η ⟨ns, s2, f2, hl, rfl⟩
    rw [List.length_map] at hi
    rw [List.getElem_map]
    obtain ⟨a, b, x, y, et, _⟩ := (G.grid.tie _ (List.getElem_mem hi)).ex
    have l4 : (ts[i]).length = 4 := by rw [et]; rfl
    exact ⟨_, .inl (aw_turn (by omega) s2 f2), ns ++ ts[i], _, rfl, by rw [List.length_append]; omega, rfl⟩)
  rw [List.length_map] at hl
  have c : Sem.c1__law_all_whole [.val 0 false (gridD p ts), .val 1 false (.lst (ns.map .int)), s2, .no] = .ok (1, .lst ((ns.map D.int).map fun _ => .bl true)) [.val 0 false (gridD p ts), .val 0 false (.lst (ns.map .int)), s2, .no] := by
    unfold Sem.c1__law_all_whole
    rw [compX_seq (by rfl)]
    refine comp_map (fun _ => .bl true) (η1 := [.val 0 false (gridD p ts), .val 0 false (.lst (ns.map .int)), s2, .no]) (by simp -implicitDefEqProofs []) (by rfl) (small_ok (by rw [List.length_map]; omega)) (by simp) ?_
    intro d hd
    obtain ⟨v, hv, rfl⟩ := List.mem_map.mp hd
    generalize gridD p ts = g
    exact ⟨[.val 0 false g, .val 0 false (.lst (ns.map .int)), s2, .val 0 false (.int v)], by simp -implicitDefEqProofs [S.hide], by simp [S.hide]⟩
  have al : allD [.lst ((ns.map D.int).map fun _ => D.bl true)] = some (.bl true) := by
    have e : ((ns.map D.int).map fun _ => D.bl true) = (ns.map fun _ => true).map D.bl := by rw [List.map_map, List.map_map]; rfl
    rw [e, all_bls]
    simp
  generalize ((ns.map D.int).map fun _ => D.bl true) = B at *
  generalize ns.map D.int = N at *
  have e2 : Sem.l1__law_all_whole [.val 0 false (gridD p ts), .val 1 false (.lst [.int p]), .no, .no] = .ok .nx [.val 0 false (gridD p ts), .val 1 false (.lst N), s2, .no] := by
    unfold Sem.l1__law_all_whole
    rw [v_fors]
    simp only [List.map_cons, List.map_nil] at e
    generalize gridD p ts = g at *
    simp -implicitDefEqProofs [i1, e]
  generalize gridD p ts = g at *
  (rw [Sem.f__law_all_whole_eq]; unfold Sem.s__law_all_whole)
  simp -implicitDefEqProofs [v_run, i0, e2, c, al, small_ok]
/-! the law -/
theorem c_turn {ns K : D} {p : Nat} {ts : List (List Int)} (G : GS p ts) {M : List D} (e1 : Sem.f_made_grid [(0, .int p), (0, K)] = .ok 0 (gridD p ts) [.no, .no]) (li : listD [K] = some (1, .lst M)) (ne : neD (.lst M) (.lst M) = some false) {s1 s2 s3 s6 s7 s8 s9 s10 s11 : DV.Slot} {k : Nat} (f6 : s6.free = true) (f7 : s7.free = true) :
    S.turn (S.name 6) Sem.b1_law K (eL ns s1 s2 s3 (vS (gridD p ts)) (.val k false (.lst M)) s6 s7 s8 s9 s10 s11) = .ok .nx (eL ns s1 s2 s3 (vS (gridD p ts)) (.val k false (.lst M)) (vS K) (vS (gridD p ts)) s8 s9 s10 s11) := by
  have aw := aw_ok G
  have i0 : ixA (gridD p ts) (.int 0) = some (0, .int p) := rfl
  have ng : neD (gridD p ts) (gridD p ts) = some false := by
    refine neD_self ?_ ?_
    · unfold gridD
      rw [ok_tup (by decide)]
      simp only [okL_cons, okL_nil, ok_int, Bool.true_and, Bool.and_true]
      rw [ok_tup (by decide)]
      refine okL_all fun d hd => ?_
      obtain ⟨t, _, rfl⟩ := List.mem_map.mp hd
      exact ok_tupI (by decide)
    · unfold gridD
      simp only [nb_tup, nbL_cons, nbL_nil, nb_int, Bool.true_and, Bool.and_true]
      refine nbL_all fun d hd => ?_
      obtain ⟨t, _, rfl⟩ := List.mem_map.mp hd
      exact nb_tupI
  have it : isiD "tuple" (gridD p ts) = some true := by unfold gridD; simp
  generalize gridD p ts = g at *
  have t : S.turn (S.name 6) Sem.b1_law K (eL ns s1 s2 s3 (vS g) (.val k false (.lst M)) s6 s7 s8 s9 s10 s11) = Sem.b1_law (eL ns s1 s2 s3 (vS g) (.val k false (.lst M)) (vS K) s7 s8 s9 s10 s11) := by
    simp -implicitDefEqProofs [f6]
  have k1 : C1 (eL ns s1 s2 s3 (vS g) (.val k false (.lst M)) (vS K) s7 s8 s9 s10 s11) = .ok .nx (eL ns s1 s2 s3 (vS g) (.val k false (.lst M)) (vS K) (vS g) s8 s9 s10 s11) := by
    unfold C1
    simp -implicitDefEqProofs [i0, e1, f7]
  have k2 : C2 (eL ns s1 s2 s3 (vS g) (.val k false (.lst M)) (vS K) (vS g) s8 s9 s10 s11) = .ok .nx (eL ns s1 s2 s3 (vS g) (.val k false (.lst M)) (vS K) (vS g) s8 s9 s10 s11) := by
    unfold C2
    simp -implicitDefEqProofs [it, ng, aw, li, ne]
  rw [t, C_eq, seq_ok k1]
  exact k2
theorem e_turn {ns pot : D} {p : Nat} {ts F : List (List Int)} (G : GS p ts) (hF : ∀ t ∈ F, Tie p t ∧ Real t) (hl : F.length ≤ 50) (hp : PotOk 0 pot) {s1 s2 s3 s6 s7 s8 s9 s10 s11 : DV.Slot} {k : Nat} (hk : k = 0 ∨ k = 1) (f8 : s8.free = true) (f9 : s9.free = true) (f10 : s10.free = true) (f11 : s11.free = true) :
    ∃ t8 t9 t10 t11 : DV.Slot, S.turn (S.nameO 8) Sem.b2_law pot (eL ns s1 s2 s3 (vS (gridD p ts)) (.val k false (.lst (F.map tupI))) s6 s7 s8 s9 s10 s11) = .ok .nx (eL ns s1 s2 s3 (vS (gridD p ts)) (vS (.lst (F.map tupI))) s6 s7 t8 t9 t10 t11) ∧ t8.free = true ∧ t9.free = true ∧ t10.free = true ∧ t11.free = true := by
  obtain ⟨a, K, p', e1, hno, x, ex⟩ := odd_ok hp (by omega) G.grid.pos G.grid.le hF hl
  have td := told_no hno
  have i0 : ixA (gridD p ts) (.int 0) = some (0, .int p) := rfl
  generalize gridD p ts = g at *
  generalize F.map tupI = M at *
  have t : S.turn (S.nameO 8) Sem.b2_law pot (eL ns s1 s2 s3 (vS g) (.val k false (.lst M)) s6 s7 s8 s9 s10 s11) = Sem.b2_law (eL ns s1 s2 s3 (vS g) (.val k false (.lst M)) s6 s7 (.val 1 false pot) s9 s10 s11) := by
    simp -implicitDefEqProofs [f8]
  have k1 : E1 (eL ns s1 s2 s3 (vS g) (.val k false (.lst M)) s6 s7 (.val 1 false pot) s9 s10 s11) = .ok .nx (eL ns s1 s2 s3 (vS g) (vS (.lst M)) s6 s7 (.val 1 false p') (vS a) (vS K) s11) := by
    unfold E1
    rcases hk with rfl | rfl <;> simp -implicitDefEqProofs [i0, e1, f9, f10]
  have k2 : E2 (eL ns s1 s2 s3 (vS g) (vS (.lst M)) s6 s7 (.val 1 false p') (vS a) (vS K) s11) = .ok .nx (eL ns s1 s2 s3 (vS g) (vS (.lst M)) s6 s7 (.val 1 false p') (vS a) (vS K) (vS (.str x))) := by
    unfold E2
    simp -implicitDefEqProofs [ex, f11]
  have n1 : neD (.str "no grid") (.str "no grid") = some false := by decide +kernel
  have n2 : neS (.str x) (.str x) = some false := v_neS
  have k3 : E3 (eL ns s1 s2 s3 (vS g) (vS (.lst M)) s6 s7 (.val 1 false p') (vS a) (vS K) (vS (.str x))) = .ok .nx (eL ns s1 s2 s3 (vS g) (vS (.lst M)) s6 s7 (.val 1 false p') (vS a) (vS K) (vS (.str x))) := by
    unfold E3
    simp -implicitDefEqProofs [td, n1, ex, n2]
  exact ⟨_, _, _, _, by rw [t, E_eq, seq_ok k1, seq_ok k2]; exact k3, rfl, rfl, rfl, rfl⟩
def ILaw (ns : D) (η : DV.Env) : Prop := ∃ s1 s2 s3 s4 s5 s6 s7 s8 s9 s10 s11 : DV.Slot, s1.free = true ∧ s2.free = true ∧ s3.free = true ∧ s4.free = true ∧ s5.free = true ∧ s6.free = true ∧ s7.free = true ∧ s8.free = true ∧ s9.free = true ∧ s10.free = true ∧ s11.free = true ∧ η = eL ns s1 s2 s3 s4 s5 s6 s7 s8 s9 s10 s11
theorem turn_ok {ns : D} (c : Int) {η : DV.Env} (hI : ILaw ns η) : Good (ILaw ns) (S.turn (S.name 1) Sem.b3_law (.int c) η) := by
  obtain ⟨s1, s2, s3, s4, s5, s6, s7, s8, s9, s10, s11, f1, f2, f3, f4, f5, f6, f7, f8, f9, f10, f11, rfl⟩ := hI
  have t0 : S.turn (S.name 1) Sem.b3_law (.int c) (eL ns s1 s2 s3 s4 s5 s6 s7 s8 s9 s10 s11) = Sem.b3_law (eL ns (vS (.int c)) s2 s3 s4 s5 s6 s7 s8 s9 s10 s11) := by
    simp -implicitDefEqProofs [f1]
  refine good_eq t0 ?_
  rw [B_eq]
  obtain ⟨p0, q0, e0⟩ := begun_ok c
  refine good_seq (by unfold B1; simp -implicitDefEqProofs [f2, e0]; exact rfl) ?_
  obtain ⟨L, p1, e1, q1, hL, l4⟩ := spoils_ok (ns := ns) (s1 := vS (.int c)) (s3 := s3) (s4 := s4) (s5 := s5) (s6 := s6) (s7 := s7) (s8 := s8) (s9 := s9) (s10 := s10) (s11 := s11) q0 (by omega)
  refine good_seq (η1 := eL ns (vS (.int c)) (.val 1 false p1) (.val 2 false (.lst L)) s4 s5 s6 s7 s8 s9 s10 s11) (by unfold B2; simp -implicitDefEqProofs [f3, e1]) ?_
  obtain ⟨p, ts, p3, G, q3, e3⟩ := grid_okS q1 (by omega)
  refine good_seq (by unfold B3; simp -implicitDefEqProofs [f4, e3]; exact rfl) ?_
  obtain ⟨F, p4, e4, q4, hF50, hF, mem⟩ := list_ok q3 (by omega) G
  refine good_seq (η1 := eL ns (vS (.int c)) (.val 1 false p4) (.val 2 false (.lst L)) (vS (gridD p ts)) (.val 1 false (.lst (F.map tupI))) s6 s7 s8 s9 s10 s11) (by
    generalize gridD p ts = g at *
    unfold B4
    simp -implicitDefEqProofs [f5, e4]) ?_
  have me := made_eq G mem
  have few := G.few
  have ml : ∀ K, IsSeq (F.map tupI) K → Sem.f_made_grid [(0, .int p), (0, K)] = .ok 0 (gridD p ts) [.no, .no] := fun K hK => by
    have := made_yes G.grid.pos G.grid.le hF50 hF hK
    rw [me, if_pos few] at this
    exact this
  have ne : neD (.lst (F.map tupI)) (.lst (F.map tupI)) = some false := by
    refine neD_self ?_ ?_
    · rw [ok_lst (by decide)]
      refine okL_all fun d hd => ?_
      obtain ⟨t, _, rfl⟩ := List.mem_map.mp hd
      exact ok_tupI (by decide)
    · rw [nb_lst]
      refine nbL_all fun d hd => ?_
      obtain ⟨t, _, rfl⟩ := List.mem_map.mp hd
      exact nb_tupI
  have li1 : listD [.lst (F.map tupI)] = some (1, .lst (F.map tupI)) := rfl
  have li2 : listD [.tup (F.map tupI)] = some (1, .lst (F.map tupI)) := rfl
  have tu1 : tupleD [.lst (F.map tupI)] = some (0, .tup (F.map tupI)) := rfl
  have c1 := c_turn (ns := ns) G (ml _ (.inl rfl)) li1 ne (s1 := vS (.int c)) (s2 := .val 1 false p4) (s3 := .val 2 false (.lst L)) (s8 := s8) (s9 := s9) (s10 := s10) (s11 := s11) (k := 1) f6 f7
  have c2 := c_turn (ns := ns) G (ml _ (.inr rfl)) li2 ne (s1 := vS (.int c)) (s2 := .val 1 false p4) (s3 := .val 2 false (.lst L)) (s6 := vS (.lst (F.map tupI))) (s7 := vS (gridD p ts)) (s8 := s8) (s9 := s9) (s10 := s10) (s11 := s11) (k := 1) rfl rfl
  have fl : S.forL (S.name 6) Sem.b1_law [.lst (F.map tupI), .tup (F.map tupI)] (eL ns (vS (.int c)) (.val 1 false p4) (.val 2 false (.lst L)) (vS (gridD p ts)) (.val 1 false (.lst (F.map tupI))) s6 s7 s8 s9 s10 s11) = .ok .nx (eL ns (vS (.int c)) (.val 1 false p4) (.val 2 false (.lst L)) (vS (gridD p ts)) (.val 1 false (.lst (F.map tupI))) (vS (.tup (F.map tupI))) (vS (gridD p ts)) s8 s9 s10 s11) := by
    rw [forL_cons, c1]
    simp only [bind_ok]
    rw [forL_cons, c2]
    rfl
  refine good_seq (η1 := eL ns (vS (.int c)) (.val 1 false p4) (.val 2 false (.lst L)) (vS (gridD p ts)) (.val 1 false (.lst (F.map tupI))) (vS (.tup (F.map tupI))) (vS (gridD p ts)) s8 s9 s10 s11) (by
    generalize gridD p ts = g at *
    generalize F.map tupI = M at *
    unfold B5 Sem.l1_law
    rw [v_fors]
    simp -implicitDefEqProofs [li1, tu1, fl, small_ok]) ?_
  obtain ⟨η', e, t5, t8, t9, t10, t11, h5, g8, g9, g10, g11, rfl⟩ := forL_same (g := S.nameO 8) (body := Sem.b2_law) (ds := L) (η := eL ns (vS (.int c)) (.val 1 false p4) .no (vS (gridD p ts)) (.val 1 false (.lst (F.map tupI))) (vS (.tup (F.map tupI))) (vS (gridD p ts)) s8 s9 s10 s11)
    (fun η => ∃ (k : Nat) (t8 t9 t10 t11 : DV.Slot), (k = 0 ∨ k = 1) ∧ t8.free = true ∧ t9.free = true ∧ t10.free = true ∧ t11.free = true ∧ η = eL ns (vS (.int c)) (.val 1 false p4) .no (vS (gridD p ts)) (.val k false (.lst (F.map tupI))) (vS (.tup (F.map tupI))) (vS (gridD p ts)) t8 t9 t10 t11) ⟨1, s8, s9, s10, s11, .inr rfl, f8, f9, f10, f11, rfl⟩ (by
    rintro d hd η ⟨k, t8, t9, t10, t11, hk, g8, g9, g10, g11, rfl⟩
    obtain ⟨z8, z9, z10, z11, e, k8, k9, k10, k11⟩ := e_turn (ns := ns) G hF hF50 (hL d hd) (s1 := vS (.int c)) (s2 := .val 1 false p4) (s3 := .no) (s6 := vS (.tup (F.map tupI))) (s7 := vS (gridD p ts)) hk g8 g9 g10 g11
    exact ⟨_, .inl e, 0, z8, z9, z10, z11, .inl rfl, k8, k9, k10, k11, rfl⟩)
  have b6 : B6 (eL ns (vS (.int c)) (.val 1 false p4) (.val 2 false (.lst L)) (vS (gridD p ts)) (.val 1 false (.lst (F.map tupI))) (vS (.tup (F.map tupI))) (vS (gridD p ts)) s8 s9 s10 s11) = S.forL (S.nameO 8) Sem.b2_law L (eL ns (vS (.int c)) (.val 1 false p4) .no (vS (gridD p ts)) (.val 1 false (.lst (F.map tupI))) (vS (.tup (F.map tupI))) (vS (gridD p ts)) s8 s9 s10 s11) := rfl
  exact good_end (b6.trans e) ⟨_, _, _, _, .val t5 false _, _, _, _, _, _, _, rfl, rfl, rfl, rfl, rfl, rfl, rfl, g8, g9, g10, g11, rfl⟩
theorem hit_gen {F : FnSem} {d m : D} {xs : List D} {t : List DV.Slot} (ef : F [(0, d), (0, m)] = .ok 1 (.lst xs) [.no, .no]) : S.items (S.fz (S.call F [.ex (S.var 0), .ex (S.c m)])) (.val 0 false d :: t) = .ok xs (.val 0 false d :: t) := by
  simp -implicitDefEqProofs [ef]
theorem l3_eq {η : DV.Env} : Sem.l3_law η = (S.items (S.fz (S.call Sem.f__law_folded [.ex (S.var 0), .ex (S.c (.int 5))])) η).bind fun ds η1 => S.forL (S.name 1) Sem.b3_law ds η1 := rfl
theorem end_ok {ns : D} {η : DV.Env} (hI : ILaw ns η) (lp : Sem.l3_law (eL ns .no .no .no .no .no .no .no .no .no .no .no) = .ok .nx η) : Sem.f_law [(0, ns)] = .ok 0 (.bl true) [.no] := by
  obtain ⟨s1, s2, s3, s4, s5, s6, s7, s8, s9, s10, s11, _, _, _, _, _, _, _, _, _, _, _, rfl⟩ := hI
  (rw [Sem.f_law_eq]; unfold Sem.s_law)
  simp -implicitDefEqProofs [v_run, lp]
theorem holds (ns : List Int) (hn : ns.length ≤ 63) : ∃ k bk, Sem.f_law [(0, .lst (ns.map .int))] = .ok k (.bl true) bk := by
  obtain ⟨xs, ef, _⟩ := folded_ok ns 5 (by decide) (by decide)
  have ef : Sem.f__law_folded [(0, .lst (ns.map .int)), (0, .int 5)] = .ok 1 (.lst (xs.map .int)) [.no, .no] := ef
  obtain ⟨η', e1, e2⟩ := forL_same (g := S.name 1) (body := Sem.b3_law) (ds := xs.map .int) (η := eL (.lst (ns.map .int)) .no .no .no .no .no .no .no .no .no .no .no) (ILaw (.lst (ns.map .int))) ⟨.no, .no, .no, .no, .no, .no, .no, .no, .no, .no, .no, rfl, rfl, rfl, rfl, rfl, rfl, rfl, rfl, rfl, rfl, rfl, rfl⟩ fun d hd η hI => by
    obtain ⟨c, hc, rfl⟩ := List.mem_map.mp hd
    exact turn_ok c hI
  refine ⟨0, [.no], end_ok e2 ?_⟩
  rw [l3_eq]
  show (S.items _ (vS (.lst (ns.map .int)) :: _)).bind _ = _
  rw [hit_gen ef, bind_ok]
  exact e1
end Maths

/-! ### the text, the meanings -/
namespace G
open PySem PySem.Spec PyProof.Rows L2 DV
def top (i : Nat) : Stmt := PySem.Challenge.pw_farwide_k06_grids_made.main.body.getD i (.Pass ⟨0, 0, 0, 0⟩)
def N_is_whole : List Str := ["thing"]
def N_written : List Str := ["tie", "a", "b", "x", "y"]
def N__law_folded : List Str := ["cells", "many", "found", "k", "cell"]
def N__law_begun : List Str := ["cell", "rest"]
def N__law_take : List Str := ["pot", "size", "digit", "mixed"]
def N__law_turned : List Str := ["tie"]
def N__law_all_whole : List Str := ["grid", "numbers", "tie", "number"]
def N_is_of : List Str := ["places", "thing"]
def N_is_step : List Str := ["thing"]
def N__law_wide : List Str := ["pot", "size", "number", "turn"]
def N__law_tie : List Str := ["pot", "places", "a", "b", "x", "y"]
def N__law_written : List Str := ["tie"]
def N__law_known : List Str := ["pot", "some"]
def N__law_list : List Str := ["pot", "grid", "found", "left", "tie", "more", "turn"]
def N__law_odd : List Str := ["pot", "places", "ties", "turn", "at", "more", "some", "k"]
def N_is_tie : List Str := ["places", "thing"]
def N__law_grid : List Str := ["pot", "places", "ties", "turn", "tie"]
def N_made_grid : List Str := ["places", "ties", "unlike", "tie"]
def N__law_told : List Str := ["places", "ties", "e", "others"]
def N_law : List Str := ["script", "cell", "pot", "spoils", "grid", "ties", "handed", "found", "spoil", "places", "odd", "kept", "turn"]
end G
namespace G
open PySem PySem.Spec PyProof.Rows L2 DV RZ Sem
/-- what the top has left -/
structure Tt (K : PySem.W.Frag) (mg : Str → Option Value) : Prop where
  g_is_whole : mg "is_whole" = some (.ref (He.ga K "is_whole"))
  d_is_whole : ∃ fd, FunD K "is_whole" "is_whole" (defArgs (top 12)) (defBody (top 12)) (defScope (top 12)) [] [] (He.ga K "is_whole") fd
  g_is_of : mg "is_of" = some (.ref (He.ga K "is_of"))
  d_is_of : ∃ fd, FunD K "is_of" "is_of" (defArgs (top 17)) (defBody (top 17)) (defScope (top 17)) [] [] (He.ga K "is_of") fd
  g_is_step : mg "is_step" = some (.ref (He.ga K "is_step"))
  d_is_step : ∃ fd, FunD K "is_step" "is_step" (defArgs (top 18)) (defBody (top 18)) (defScope (top 18)) [] [] (He.ga K "is_step") fd
  g_is_tie : mg "is_tie" = some (.ref (He.ga K "is_tie"))
  d_is_tie : ∃ fd, FunD K "is_tie" "is_tie" (defArgs (top 19)) (defBody (top 19)) (defScope (top 19)) [] [] (He.ga K "is_tie") fd
  g_written : mg "written" = some (.ref (He.ga K "written"))
  d_written : ∃ fd, FunD K "written" "written" (defArgs (top 20)) (defBody (top 20)) (defScope (top 20)) [] [] (He.ga K "written") fd
  g_made_grid : mg "made_grid" = some (.ref (He.ga K "made_grid"))
  d_made_grid : ∃ fd, FunD K "made_grid" "made_grid" (defArgs (top 21)) (defBody (top 21)) (defScope (top 21)) [] [] (He.ga K "made_grid") fd
  g__law_folded : mg "_law_folded" = some (.ref (He.ga K "_law_folded"))
  d__law_folded : ∃ fd, FunD K "_law_folded" "_law_folded" (defArgs (top 23)) (defBody (top 23)) (defScope (top 23)) [] [] (He.ga K "_law_folded") fd
  g__law_begun : mg "_law_begun" = some (.ref (He.ga K "_law_begun"))
  d__law_begun : ∃ fd, FunD K "_law_begun" "_law_begun" (defArgs (top 24)) (defBody (top 24)) (defScope (top 24)) [] [] (He.ga K "_law_begun") fd
  g__law_take : mg "_law_take" = some (.ref (He.ga K "_law_take"))
  d__law_take : ∃ fd, FunD K "_law_take" "_law_take" (defArgs (top 25)) (defBody (top 25)) (defScope (top 25)) [] [] (He.ga K "_law_take") fd
  g__law_wide : mg "_law_wide" = some (.ref (He.ga K "_law_wide"))
  d__law_wide : ∃ fd, FunD K "_law_wide" "_law_wide" (defArgs (top 26)) (defBody (top 26)) (defScope (top 26)) [] [] (He.ga K "_law_wide") fd
  g__law_tie : mg "_law_tie" = some (.ref (He.ga K "_law_tie"))
  d__law_tie : ∃ fd, FunD K "_law_tie" "_law_tie" (defArgs (top 27)) (defBody (top 27)) (defScope (top 27)) [] [] (He.ga K "_law_tie") fd
  g__law_turned : mg "_law_turned" = some (.ref (He.ga K "_law_turned"))
  d__law_turned : ∃ fd, FunD K "_law_turned" "_law_turned" (defArgs (top 28)) (defBody (top 28)) (defScope (top 28)) [] [] (He.ga K "_law_turned") fd
  g__law_written : mg "_law_written" = some (.ref (He.ga K "_law_written"))
  d__law_written : ∃ fd, FunD K "_law_written" "_law_written" (defArgs (top 29)) (defBody (top 29)) (defScope (top 29)) [] [] (He.ga K "_law_written") fd
  g__law_known : mg "_law_known" = some (.ref (He.ga K "_law_known"))
  d__law_known : ∃ fd, FunD K "_law_known" "_law_known" (defArgs (top 30)) (defBody (top 30)) (defScope (top 30)) [] [] (He.ga K "_law_known") fd
  g__law_grid : mg "_law_grid" = some (.ref (He.ga K "_law_grid"))
  d__law_grid : ∃ fd, FunD K "_law_grid" "_law_grid" (defArgs (top 31)) (defBody (top 31)) (defScope (top 31)) [] [] (He.ga K "_law_grid") fd
  g__law_told : mg "_law_told" = some (.ref (He.ga K "_law_told"))
  d__law_told : ∃ fd, FunD K "_law_told" "_law_told" (defArgs (top 32)) (defBody (top 32)) (defScope (top 32)) [] [] (He.ga K "_law_told") fd
  g__law_list : mg "_law_list" = some (.ref (He.ga K "_law_list"))
  d__law_list : ∃ fd, FunD K "_law_list" "_law_list" (defArgs (top 33)) (defBody (top 33)) (defScope (top 33)) [] [] (He.ga K "_law_list") fd
  g__law_odd : mg "_law_odd" = some (.ref (He.ga K "_law_odd"))
  d__law_odd : ∃ fd, FunD K "_law_odd" "_law_odd" (defArgs (top 34)) (defBody (top 34)) (defScope (top 34)) [] [] (He.ga K "_law_odd") fd
  g__law_all_whole : mg "_law_all_whole" = some (.ref (He.ga K "_law_all_whole"))
  d__law_all_whole : ∃ fd, FunD K "_law_all_whole" "_law_all_whole" (defArgs (top 35)) (defBody (top 35)) (defScope (top 35)) [] [] (He.ga K "_law_all_whole") fd
  g_law : mg "law" = some (.ref (He.ga K "law"))
  d_law : ∃ fd, FunD K "law" "law" (defArgs (top 36)) (defBody (top 36)) (defScope (top 36)) [] [] (He.ga K "law") fd
  b_ValueError : mg "ValueError" = none
  b_abs : mg "abs" = none
  b_all : mg "all" = none
  b_bool : mg "bool" = none
  b_enumerate : mg "enumerate" = none
  b_int : mg "int" = none
  b_isinstance : mg "isinstance" = none
  b_len : mg "len" = none
  b_list : mg "list" = none
  b_max : mg "max" = none
  b_min : mg "min" = none
  b_range : mg "range" = none
  b_set : mg "set" = none
  b_sorted : mg "sorted" = none
  b_str : mg "str" = none
  b_tuple : mg "tuple" = none
  c_MOST_PLACES : ∃ t, mg "MOST_PLACES" = some (.int 4 t)
  c_MOST_TIES : ∃ t, mg "MOST_TIES" = some (.int 16 t)
  c_MOST_WRITTEN : ∃ t, mg "MOST_WRITTEN" = some (.int 50 t)
  g_NoGrid : mg "NoGrid" = some (.ref (He.ga K "NoGrid"))
  x_NoGrid : PySem.W.excIn K (He.ga K "NoGrid") He.veBase "ValueError.__new__" = true ∧ PySem.W.keepIn K (.ref (He.ga K "NoGrid")) = true ∧ PySem.W.subIn K (.ref (He.ga K "NoGrid")) (.type "BaseException") = some true ∧ PySem.W.typeIn K (.ref (He.ga K "NoGrid")) = some (.type "type")
  g_ShellError : mg "ShellError" = some (.ref (He.ga K "ShellError"))
  x_ShellError : PySem.W.excIn K (He.ga K "ShellError") He.veBase "ValueError.__new__" = true ∧ PySem.W.keepIn K (.ref (He.ga K "ShellError")) = true ∧ PySem.W.subIn K (.ref (He.ga K "ShellError")) (.type "BaseException") = some true ∧ PySem.W.typeIn K (.ref (He.ga K "ShellError")) = some (.type "type")
  sub : DV.SubOk K exmT
  g_NoBack : mg "NoBack" = some (.ref (He.ga K "NoBack"))
  g_NoLine : mg "NoLine" = some (.ref (He.ga K "NoLine"))
  g_NoPlace : mg "NoPlace" = some (.ref (He.ga K "NoPlace"))
  g_NoRatio : mg "NoRatio" = some (.ref (He.ga K "NoRatio"))
  g_NoText : mg "NoText" = some (.ref (He.ga K "NoText"))
  g_NotTogether : mg "NotTogether" = some (.ref (He.ga K "NotTogether"))
  g_TooFar : mg "TooFar" = some (.ref (He.ga K "TooFar"))
  g_TooMany : mg "TooMany" = some (.ref (He.ga K "TooMany"))
  er_NoGrid : errB K "NoGrid" = true
  o_0 : PySem.W.kitAny K (.ref (He.ga K "NoGrid")) (([.own "NoBack", .own "NoLine", .own "NoPlace", .own "NoRatio", .own "NotTogether", .own "NoText"] : List Cl).map (Cl.u K)) = some false
  o_1 : PySem.W.kitAny K (.ref (He.ga K "NoGrid")) (([.own "TooFar", .own "TooMany"] : List Cl).map (Cl.u K)) = some false
  o_2 : PySem.W.kitOne K (.ref (He.ga K "NoGrid")) (Cl.u K (.own "NoGrid")) = some true
  o_3 : PySem.W.kitOne K (.ref (He.ga K "NoGrid")) (Cl.u K (.blt "ValueError")) = some true
section
variable {P : Program} {w : World} {K : PySem.W.Frag} {mg : Str → Option Value} {base : Heap}
theorem sc_is_whole : FnScope N_is_whole ["thing"] (defScope (top 12)) := ⟨rfl, rfl, rfl, by decide +kernel, rfl, by decide +kernel, by decide +kernel⟩
theorem ok_is_whole (T : Tt K mg) : Has P w K mg base "is_whole" ["thing"] 1 f_is_whole [false] := by
  obtain ⟨fd, F⟩ := T.d_is_whole
  rw [f_is_whole_eq]
  exact has_of F sc_is_whole rfl T.g_is_whole (fun _ _ _ _ _ _ us hl => match us, hl with | [_], _ => rfl) fun cdv A outer s H E L hr =>
    (js_one (js_ret (jf_up (je_and (je_isi (jo_nm (pv 0)) rfl T.b_isinstance rfl T.b_int (by decide +kernel)) (je_one (je_not (je_isi (jo_nm (pv 0)) rfl T.b_isinstance rfl T.b_bool (by decide +kernel))))))))
theorem sc_written : FnScope N_written ["tie"] (defScope (top 20)) := ⟨rfl, rfl, rfl, by decide +kernel, rfl, by decide +kernel, by decide +kernel⟩
theorem ok_written (T : Tt K mg) : Has P w K mg base "written" ["tie"] 1 f_written [false] := by
  obtain ⟨fd, F⟩ := T.d_written
  rw [f_written_eq]
  exact has_of F sc_written rfl T.g_written (fun _ _ _ _ _ _ us hl => match us, hl with | [_], _ => rfl) fun cdv A outer s H E L hr =>
    (js_cons (js_asgG (je_var (pv 0)) (jg_tup rfl (jgs_cons (jg_name sc_written.nd rfl (by first | exact Or.inl rfl | exact Or.inr rfl) (by first | exact Or.inr rfl | exact Or.inl rfl)) (jgs_cons (jg_name sc_written.nd rfl (by first | exact Or.inl rfl | exact Or.inr rfl) (by first | exact Or.inr rfl | exact Or.inl rfl)) (jgs_cons (jg_name sc_written.nd rfl (by first | exact Or.inl rfl | exact Or.inr rfl) (by first | exact Or.inr rfl | exact Or.inl rfl)) (jgs_cons (jg_name sc_written.nd rfl (by first | exact Or.inl rfl | exact Or.inr rfl) (by first | exact Or.inr rfl | exact Or.inl rfl)) jgs_nil)))) rfl)) (js_cons (js_if (PW.pt (jw_or (jt_cmp (op_gtX (u65 hr)) cz_gtX (jo_nm (pv 1)) (jo_nm (pv 2)) (nomark _)) (jw_or1 (PW.pt (jw_and (jt_cmp (op_eqD hr.units) cz_eq (jo_nm (pv 1)) (jo_nm (pv 2)) (nomark _)) (jw_and1 (jt_cmp (op_ltA hr.units0) cz_lt (jo_ex (je_tup (jl_cons (je_var (pv 3)) (jl_cons (je_var (pv 4)) jl_nil)))) (jo_ex (je_tup (jl_cons je_int (jl_cons je_int jl_nil)))) (nomark _)))))))) (js_one (js_ret (jf_up (je_tup (jl_cons (je_var (pv 2)) (jl_cons (je_var (pv 1)) (jl_cons (je_fz (jf_bin op_sub sz_sub (jo_ex je_int) (jo_nm (pv 3)))) (jl_cons (je_fz (jf_bin op_sub sz_sub (jo_ex je_int) (jo_nm (pv 4)))) jl_nil)))))))) js_nil) (js_one (js_ret (jf_mov (pv 0))))))
theorem sc__law_folded : FnScope N__law_folded ["cells", "many"] (defScope (top 23)) := ⟨rfl, rfl, rfl, by decide +kernel, rfl, by decide +kernel, by decide +kernel⟩
theorem ok__law_folded (T : Tt K mg) : Has P w K mg base "_law_folded" ["cells", "many"] 1 f__law_folded [false, false] := by
  obtain ⟨fd, F⟩ := T.d__law_folded
  rw [f__law_folded_eq]
  exact has_of F sc__law_folded rfl T.g__law_folded (fun _ _ _ _ _ _ us hl => match us, hl with | [_, _], _ => rfl) fun cdv A outer s H E L hr =>
    (js_cons (js_asg sc__law_folded.nd rfl (by first | exact Or.inl rfl | exact Or.inr rfl) (jf_bin op_mulA sz_mul (jo_ex (je_fz (jf_lst (jl_cons je_int jl_nil)))) (jo_ex (je_callD (cd_minA cd_min) (pe_callB (CallR.or' (cr_minT rfl (u65 hr)) (CallR.or' (call_min2 rfl) (cr_min rfl))) rfl T.b_min (by decide +kernel) (jos_cons (jo_nm (pv 1)) (jos_cons (jo_ex (je_callD (cd_maxA cd_max) (pe_callB (CallR.or' (cr_maxT rfl (u65 hr)) (CallR.or' (call_max2 rfl) (cr_max rfl))) rfl T.b_max (by decide +kernel) (jos_cons (jo_ex je_int) (jos_cons (jo_ex (je_callD cd_len (pe_callB call_len rfl T.b_len (by decide +kernel) (jos_cons (jo_nm (pv 0)) jos_nil)))) jos_nil))))) jos_nil)))))) rfl (by first | exact Or.inr rfl | exact Or.inl rfl)) (js_cons (js_for (passes_of rfl) rfl (ji_enum rfl T.b_enumerate (je_var (pv 0))) (jg_tup rfl (jgs_cons (jg_name sc__law_folded.nd rfl (by first | exact Or.inl rfl | exact Or.inr rfl) (by first | exact Or.inr rfl | exact Or.inl rfl)) (jgs_cons (jg_name sc__law_folded.nd rfl (by first | exact Or.inl rfl | exact Or.inr rfl) (by first | exact Or.inr rfl | exact Or.inl rfl)) jgs_nil)) rfl) (js_one (js_setA (u1 hr) (je_fz (jf_bin op_addA sz_op (jo_ex (je_fz (jf_bin op_mulA sz_mul (jo_ex (je_fz (jf_ixA (u1 hr) (jo_nm (pv 2)) (jo_ex (je_fz (jf_bin op_modN sz_mod (jo_nm (pv 3)) (jo_ex (je_callD cd_len (pe_callB call_len rfl T.b_len (by decide +kernel) (jos_cons (jo_nm (pv 2)) jos_nil))))))) (fun _ _ => rfl)))) (jo_ex je_int)))) (jo_nm (pv 4)))) (pv 2) (je_fz (jf_bin op_modN sz_mod (jo_nm (pv 3)) (jo_ex (je_callD cd_len (pe_callB call_len rfl T.b_len (by decide +kernel) (jos_cons (jo_nm (pv 2)) jos_nil)))))))) (fun _ => rfl)) (js_one (js_ret (jf_mov (pv 2))))))
theorem sc__law_begun : FnScope N__law_begun ["cell"] (defScope (top 24)) := ⟨rfl, rfl, rfl, by decide +kernel, rfl, by decide +kernel, by decide +kernel⟩
theorem ok__law_begun (T : Tt K mg) : Has P w K mg base "_law_begun" ["cell"] 1 f__law_begun [false] := by
  obtain ⟨fd, F⟩ := T.d__law_begun
  rw [f__law_begun_eq]
  exact has_of F sc__law_begun rfl T.g__law_begun (fun _ _ _ _ _ _ us hl => match us, hl with | [_], _ => rfl) fun cdv A outer s H E L hr =>
    (js_cons (js_asg sc__law_begun.nd rfl (by first | exact Or.inl rfl | exact Or.inr rfl) (jf_up je_int) rfl (by first | exact Or.inr rfl | exact Or.inl rfl)) (js_cons (js_if (jt_cmp (op_geX (u65 hr)) cz_geX (jo_ex (je_callD cd_abs (pe_callB call_abs rfl T.b_abs (by decide +kernel) (jos_cons (jo_nm (pv 0)) jos_nil)))) (jo_ex (je_fz (jf_bin op_pow sz_pow (jo_ex je_int) (jo_ex je_int)))) (nomark _)) (js_one (js_asg sc__law_begun.nd rfl (by first | exact Or.inl rfl | exact Or.inr rfl) (jf_bin op_addA sz_op (jo_ex (je_fz (jf_bin op_sub sz_sub (jo_ex (je_callD cd_abs (pe_callB call_abs rfl T.b_abs (by decide +kernel) (jos_cons (jo_nm (pv 0)) jos_nil)))) (jo_ex (je_fz (jf_bin op_pow sz_pow (jo_ex je_int) (jo_ex je_int))))))) (jo_ex je_int)) rfl (by first | exact Or.inr rfl | exact Or.inl rfl))) js_nil) (js_one (js_ret (jf_lst (jl_cons (je_var (pv 1)) (jl_cons je_int (jl_cons (je_fz (jf_bin op_modN sz_mod (jo_nm (pv 0)) (jo_ex je_int))) jl_nil))))))))
theorem sc__law_take : FnScope N__law_take ["pot", "size"] (defScope (top 25)) := ⟨rfl, rfl, rfl, by decide +kernel, rfl, by decide +kernel, by decide +kernel⟩
theorem ok__law_take (T : Tt K mg) : Has P w K mg base "_law_take" ["pot", "size"] 1 f__law_take [true, false] := by
  obtain ⟨fd, F⟩ := T.d__law_take
  rw [f__law_take_eq]
  exact has_of F sc__law_take rfl T.g__law_take (fun _ _ _ _ _ _ us hl => match us, hl with | [_, _], _ => rfl) fun cdv A outer s H E L hr =>
    (js_cons (js_if (jt_cmp (op_gtX (u65 hr)) cz_gtX (jo_ex (je_fz (jf_ixA (u1 hr) (jo_nm (pv 0)) (jo_ex je_int) (fun _ _ => rfl)))) (jo_ex je_int) (nomark _)) (js_cons (js_asg sc__law_take.nd rfl (by first | exact Or.inl rfl | exact Or.inr rfl) (jf_bin op_modN sz_mod (jo_ex (je_fz (jf_ixA (u1 hr) (jo_nm (pv 0)) (jo_ex je_int) (fun _ _ => rfl)))) (jo_nm (pv 1))) rfl (by first | exact Or.inr rfl | exact Or.inl rfl)) (js_cons (js_setA (u1 hr) (je_fz (jf_bin op_fdivA sz_fdiv (jo_ex (je_fz (jf_ixA (u1 hr) (jo_nm (pv 0)) (jo_ex je_int) (fun _ _ => rfl)))) (jo_nm (pv 1)))) (pv 0) je_int) (js_one (js_ret (jf_mov (pv 2)))))) js_nil) (js_cons (js_setA (u1 hr) (je_fz (jf_bin op_addA sz_op (jo_ex (je_fz (jf_ixA (u1 hr) (jo_nm (pv 0)) (jo_ex je_int) (fun _ _ => rfl)))) (jo_ex je_int))) (pv 0) je_int) (js_cons (js_asg sc__law_take.nd rfl (by first | exact Or.inl rfl | exact Or.inr rfl) (jf_bin op_modN sz_mod (jo_ex (je_fz (jf_bin op_addA sz_op (jo_ex (je_fz (jf_bin op_addA sz_op (jo_ex (je_fz (jf_bin op_addA sz_op (jo_ex (je_fz (jf_ixA (u1 hr) (jo_nm (pv 0)) (jo_ex je_int) (fun _ _ => rfl)))) (jo_ex (je_fz (jf_bin op_mulA sz_mul (jo_ex (je_fz (jf_bin op_mulA sz_mul (jo_ex je_int) (jo_ex (je_fz (jf_ixA (u1 hr) (jo_nm (pv 0)) (jo_ex je_int) (fun _ _ => rfl))))))) (jo_ex (je_fz (jf_ixA (u1 hr) (jo_nm (pv 0)) (jo_ex je_int) (fun _ _ => rfl)))))))))) (jo_ex (je_fz (jf_bin op_mulA sz_mul (jo_ex je_int) (jo_ex (je_fz (jf_ixA (u1 hr) (jo_nm (pv 0)) (jo_ex je_int) (fun _ _ => rfl)))))))))) (jo_ex je_int)))) (jo_ex je_int)) rfl (by first | exact Or.inr rfl | exact Or.inl rfl)) (js_cons (js_asg sc__law_take.nd rfl (by first | exact Or.inl rfl | exact Or.inr rfl) (jf_bin op_modN sz_mod (jo_ex (je_fz (jf_bin op_mulA sz_mul (jo_ex (je_fz (jf_bin op_modN sz_mod (jo_ex (je_fz (jf_bin op_mulA sz_mul (jo_nm (pv 3)) (jo_nm (pv 3))))) (jo_ex je_int)))) (jo_ex je_int)))) (jo_ex je_int)) rfl (by first | exact Or.inr rfl | exact Or.inl rfl)) (js_one (js_ret (jf_bin op_modN sz_mod (jo_ex (je_fz (jf_bin op_fdivA sz_fdiv (jo_nm (pv 3)) (jo_ex je_int)))) (jo_nm (pv 1)))))))))
theorem sc__law_turned : FnScope N__law_turned ["tie"] (defScope (top 28)) := ⟨rfl, rfl, rfl, by decide +kernel, rfl, by decide +kernel, by decide +kernel⟩
theorem ok__law_turned (T : Tt K mg) : Has P w K mg base "_law_turned" ["tie"] 1 f__law_turned [false] := by
  obtain ⟨fd, F⟩ := T.d__law_turned
  rw [f__law_turned_eq]
  exact has_of F sc__law_turned rfl T.g__law_turned (fun _ _ _ _ _ _ us hl => match us, hl with | [_], _ => rfl) fun cdv A outer s H E L hr =>
    (js_one (js_ret (jf_up (je_tup (jl_cons (je_fz (jf_ixA (u1 hr) (jo_nm (pv 0)) (jo_ex je_int) (fun _ _ => rfl))) (jl_cons (je_fz (jf_ixA (u1 hr) (jo_nm (pv 0)) (jo_ex je_int) (fun _ _ => rfl))) (jl_cons (je_fz (jf_bin op_sub sz_sub (jo_ex je_int) (jo_ex (je_fz (jf_ixA (u1 hr) (jo_nm (pv 0)) (jo_ex je_int) (fun _ _ => rfl)))))) (jl_cons (je_fz (jf_bin op_sub sz_sub (jo_ex je_int) (jo_ex (je_fz (jf_ixA (u1 hr) (jo_nm (pv 0)) (jo_ex je_int) (fun _ _ => rfl)))))) jl_nil))))))))
theorem sc__law_all_whole : FnScope N__law_all_whole ["grid"] (defScope (top 35)) := ⟨rfl, rfl, rfl, by decide +kernel, rfl, by decide +kernel, by decide +kernel⟩
theorem ok__law_all_whole (T : Tt K mg) : Has P w K mg base "_law_all_whole" ["grid"] 1 f__law_all_whole [false] := by
  obtain ⟨fd, F⟩ := T.d__law_all_whole
  rw [f__law_all_whole_eq]
  exact has_of F sc__law_all_whole rfl T.g__law_all_whole (fun _ _ _ _ _ _ us hl => match us, hl with | [_], _ => rfl) fun cdv A outer s H E L hr =>
    (js_cons (js_asg sc__law_all_whole.nd rfl (by first | exact Or.inl rfl | exact Or.inr rfl) (jf_lst (jl_cons (je_fz (jf_ixA (u1 hr) (jo_nm (pv 0)) (jo_ex je_int) (fun _ _ => rfl))) jl_nil)) rfl (by first | exact Or.inr rfl | exact Or.inl rfl)) (js_cons (js_for (passes_of rfl) rfl (ji_items (je_fz (jf_ixA (u1 hr) (jo_nm (pv 0)) (jo_ex je_int) (fun _ _ => rfl)))) (jg_name sc__law_all_whole.nd rfl (by first | exact Or.inl rfl | exact Or.inr rfl) (by first | exact Or.inr rfl | exact Or.inl rfl)) (js_one (js_expr (je_lm md_extendX PySem.F.slot_list_extend PySem.F.type_list_extend mt_extendX (pv 1) (jl_cons (je_var (pv 2)) jl_nil)))) (fun _ => rfl)) (js_one (js_ret (jf_up (je_callD cd_all (pe_callB (cr_all rfl) rfl T.b_all (by decide +kernel) (jos_cons (jo_ex (je_fz (jf_lcX rfl sc__law_all_whole.nd (pv 1) (blkOk_by (own := [("number", 3)]) (N := N__law_all_whole) (sc := defScope (top 35)) (by decide +kernel)) rfl (fun _ _ _ _ _ => (jgv_name sc__law_all_whole.nd rfl (by first | exact Or.inl rfl | exact Or.inr rfl) (by first | exact Or.inr rfl | exact Or.inl rfl) (by decide))) (fun _ _ _ _ _ => jts_nil) (fun _ _ _ _ _ => (jf_up (je_and (je_isi (jo_nm (pv 3)) rfl T.b_isinstance rfl T.b_int (by decide +kernel)) (je_one (je_not (je_isi (jo_nm (pv 3)) rfl T.b_isinstance rfl T.b_bool (by decide +kernel)))))))))) jos_nil))))))))
theorem sc_is_of : FnScope N_is_of ["places", "thing"] (defScope (top 17)) := ⟨rfl, rfl, rfl, by decide +kernel, rfl, by decide +kernel, by decide +kernel⟩
theorem ok_is_of (T : Tt K mg) : Has P w K mg base "is_of" ["places", "thing"] 2 f_is_of [false, false] := by
  obtain ⟨fd, F⟩ := T.d_is_of
  rw [f_is_of_eq]
  have h_is_whole : Has P w K mg base "is_whole" ["thing"] 1 f_is_whole [false] := ok_is_whole T
  exact has_of F sc_is_of rfl T.g_is_of (fun _ _ _ _ _ _ us hl => match us, hl with | [_, _], _ => rfl) fun cdv A outer s H E L hr =>
    (js_one (js_ret (jf_up (je_and (je_fz (jf_callH h_is_whole (hr.mono (by decide)) rfl (takes_of rfl rfl rfl rfl) rfl rfl (ja_ex (je_var (pv 1)) ja_nil))) (je_one (je_chain (op_leX (u65 hr)) (op_ltA hr.units0) cz_leX cz_lt je_int (je_var (pv 1)) (je_var (pv 0))))))))
theorem sc_is_step : FnScope N_is_step ["thing"] (defScope (top 18)) := ⟨rfl, rfl, rfl, by decide +kernel, rfl, by decide +kernel, by decide +kernel⟩
theorem ok_is_step (T : Tt K mg) : Has P w K mg base "is_step" ["thing"] 2 f_is_step [false] := by
  obtain ⟨fd, F⟩ := T.d_is_step
  rw [f_is_step_eq]
  have h_is_whole : Has P w K mg base "is_whole" ["thing"] 1 f_is_whole [false] := ok_is_whole T
  exact has_of F sc_is_step rfl T.g_is_step (fun _ _ _ _ _ _ us hl => match us, hl with | [_], _ => rfl) fun cdv A outer s H E L hr =>
    (js_one (js_ret (jf_up (je_and (je_fz (jf_callH h_is_whole (hr.mono (by decide)) rfl (takes_of rfl rfl rfl rfl) rfl rfl (ja_ex (je_var (pv 0)) ja_nil))) (je_one (je_chain (op_leX (u65 hr)) (op_leX (u65 hr)) cz_leX cz_leX (je_fz (jf_bin op_sub sz_sub (jo_ex je_int) (jo_ex je_int))) (je_var (pv 0)) je_int))))))
theorem sc__law_wide : FnScope N__law_wide ["pot", "size"] (defScope (top 26)) := ⟨rfl, rfl, rfl, by decide +kernel, rfl, by decide +kernel, by decide +kernel⟩
theorem ok__law_wide (T : Tt K mg) : Has P w K mg base "_law_wide" ["pot", "size"] 2 f__law_wide [true, false] := by
  obtain ⟨fd, F⟩ := T.d__law_wide
  rw [f__law_wide_eq]
  have h__law_take : Has P w K mg base "_law_take" ["pot", "size"] 1 f__law_take [true, false] := ok__law_take T
  exact has_of F sc__law_wide rfl T.g__law_wide (fun _ _ _ _ _ _ us hl => match us, hl with | [_, _], _ => rfl) fun cdv A outer s H E L hr =>
    (js_cons (js_if (PW.pt (jw_or (jt_cmp (op_gtX (u65 hr)) cz_gtX (jo_ex (je_fz (jf_ixA (u1 hr) (jo_nm (pv 0)) (jo_ex je_int) (fun _ _ => rfl)))) (jo_ex je_int) (nomark _)) (jw_or1 (jt_cmp (op_ltA hr.units0) cz_lt (jo_nm (pv 1)) (jo_ex (je_fz (jf_bin op_pow sz_pow (jo_ex je_int) (jo_ex je_int)))) (nomark _))))) (js_one (js_ret (jf_callH h__law_take (hr.mono (by decide)) rfl (takes_of rfl rfl rfl rfl) rfl rfl (ja_lend (pv 0) (ja_ex (je_var (pv 1)) ja_nil))))) js_nil) (js_cons (js_asg sc__law_wide.nd rfl (by first | exact Or.inl rfl | exact Or.inr rfl) (jf_up je_int) rfl (by first | exact Or.inr rfl | exact Or.inl rfl)) (js_cons (js_for (passes_of rfl) rfl (ji_range1 rfl T.b_range (je_fz (jf_bin op_addA sz_op (jo_ex je_int) (jo_ex (je_fz (jf_bin op_fdivA sz_fdiv (jo_ex (je_bits (je_var (pv 1)))) (jo_ex je_int))))))) (jg_name sc__law_wide.nd rfl (by first | exact Or.inl rfl | exact Or.inr rfl) (by first | exact Or.inr rfl | exact Or.inl rfl)) (js_one (js_asg sc__law_wide.nd rfl (by first | exact Or.inl rfl | exact Or.inr rfl) (jf_bin op_addA sz_op (jo_ex (je_fz (jf_bin op_mulA sz_mul (jo_nm (pv 2)) (jo_ex je_int)))) (jo_ex (je_fz (jf_callH h__law_take (hr.mono (by decide)) rfl (takes_of rfl rfl rfl rfl) rfl rfl (ja_lend (pv 0) (ja_ex je_int ja_nil)))))) rfl (by first | exact Or.inr rfl | exact Or.inl rfl))) (fun _ => rfl)) (js_one (js_ret (jf_bin op_modN sz_mod (jo_nm (pv 2)) (jo_nm (pv 1))))))))
theorem sc__law_tie : FnScope N__law_tie ["pot", "places"] (defScope (top 27)) := ⟨rfl, rfl, rfl, by decide +kernel, rfl, by decide +kernel, by decide +kernel⟩
theorem ok__law_tie (T : Tt K mg) : Has P w K mg base "_law_tie" ["pot", "places"] 2 f__law_tie [true, false] := by
  obtain ⟨fd, F⟩ := T.d__law_tie
  rw [f__law_tie_eq]
  have h__law_take : Has P w K mg base "_law_take" ["pot", "size"] 1 f__law_take [true, false] := ok__law_take T
  exact has_of F sc__law_tie rfl T.g__law_tie (fun _ _ _ _ _ _ us hl => match us, hl with | [_, _], _ => rfl) fun cdv A outer s H E L hr =>
    (js_cons (js_asg sc__law_tie.nd rfl (by first | exact Or.inl rfl | exact Or.inr rfl) (jf_callH h__law_take (hr.mono (by decide)) rfl (takes_of rfl rfl rfl rfl) rfl rfl (ja_lend (pv 0) (ja_ex (je_var (pv 1)) ja_nil))) rfl (by first | exact Or.inr rfl | exact Or.inl rfl)) (js_cons (js_asg sc__law_tie.nd rfl (by first | exact Or.inl rfl | exact Or.inr rfl) (jf_callH h__law_take (hr.mono (by decide)) rfl (takes_of rfl rfl rfl rfl) rfl rfl (ja_lend (pv 0) (ja_ex (je_var (pv 1)) ja_nil))) rfl (by first | exact Or.inr rfl | exact Or.inl rfl)) (js_cons (js_asg sc__law_tie.nd rfl (by first | exact Or.inl rfl | exact Or.inr rfl) (jf_bin op_sub sz_sub (jo_ex (je_fz (jf_callH h__law_take (hr.mono (by decide)) rfl (takes_of rfl rfl rfl rfl) rfl rfl (ja_lend (pv 0) (ja_ex je_int ja_nil))))) (jo_ex je_int)) rfl (by first | exact Or.inr rfl | exact Or.inl rfl)) (js_cons (js_asg sc__law_tie.nd rfl (by first | exact Or.inl rfl | exact Or.inr rfl) (jf_bin op_sub sz_sub (jo_ex (je_fz (jf_callH h__law_take (hr.mono (by decide)) rfl (takes_of rfl rfl rfl rfl) rfl rfl (ja_lend (pv 0) (ja_ex je_int ja_nil))))) (jo_ex je_int)) rfl (by first | exact Or.inr rfl | exact Or.inl rfl)) (js_cons (js_if (PW.pt (jw_and (jt_cmp (op_eqD hr.units) cz_eq (jo_nm (pv 2)) (jo_nm (pv 3)) (nomark _)) (jw_and1 (jt_cmp (op_eqD hr.units) cz_eq (jo_ex (je_tup (jl_cons (je_var (pv 4)) (jl_cons (je_var (pv 5)) jl_nil)))) (jo_ex (je_tup (jl_cons je_int (jl_cons je_int jl_nil)))) (nomark _))))) (js_one (js_asg sc__law_tie.nd rfl (by first | exact Or.inl rfl | exact Or.inr rfl) (jf_bin op_sub sz_sub (jo_ex je_int) (jo_ex (je_fz (jf_bin op_mulA sz_mul (jo_ex je_int) (jo_ex (je_fz (jf_callH h__law_take (hr.mono (by decide)) rfl (takes_of rfl rfl rfl rfl) rfl rfl (ja_lend (pv 0) (ja_ex je_int ja_nil))))))))) rfl (by first | exact Or.inr rfl | exact Or.inl rfl))) js_nil) (js_one (js_ret (jf_up (je_tup (jl_cons (je_var (pv 2)) (jl_cons (je_var (pv 3)) (jl_cons (je_var (pv 4)) (jl_cons (je_var (pv 5)) jl_nil)))))))))))))
theorem sc__law_written : FnScope N__law_written ["tie"] (defScope (top 29)) := ⟨rfl, rfl, rfl, by decide +kernel, rfl, by decide +kernel, by decide +kernel⟩
theorem ok__law_written (T : Tt K mg) : Has P w K mg base "_law_written" ["tie"] 2 f__law_written [false] := by
  obtain ⟨fd, F⟩ := T.d__law_written
  rw [f__law_written_eq]
  have h__law_turned : Has P w K mg base "_law_turned" ["tie"] 1 f__law_turned [false] := ok__law_turned T
  exact has_of F sc__law_written rfl T.g__law_written (fun _ _ _ _ _ _ us hl => match us, hl with | [_], _ => rfl) fun cdv A outer s H E L hr =>
    (js_cons (js_if (PW.pt (jw_or (jt_cmp (op_ltA hr.units0) cz_lt (jo_ex (je_fz (jf_ixA (u1 hr) (jo_nm (pv 0)) (jo_ex je_int) (fun _ _ => rfl)))) (jo_ex (je_fz (jf_ixA (u1 hr) (jo_nm (pv 0)) (jo_ex je_int) (fun _ _ => rfl)))) (nomark _)) (jw_or1 (PW.pt (jw_and (jt_cmp (op_eqD hr.units) cz_eq (jo_ex (je_fz (jf_ixA (u1 hr) (jo_nm (pv 0)) (jo_ex je_int) (fun _ _ => rfl)))) (jo_ex (je_fz (jf_ixA (u1 hr) (jo_nm (pv 0)) (jo_ex je_int) (fun _ _ => rfl)))) (nomark _)) (jw_and1 (jt_cmp (op_gtX (u65 hr)) cz_gtX (jo_ex (je_fz (jf_slc (jo_nm (pv 0)) (jp_some je_int) jp_none))) (jo_ex (je_tup (jl_cons je_int (jl_cons je_int jl_nil)))) (nomark _)))))))) (js_one (js_ret (jf_mov (pv 0)))) js_nil) (js_one (js_ret (jf_callH h__law_turned (hr.mono (by decide)) rfl (takes_of rfl rfl rfl rfl) rfl rfl (ja_ex (je_var (pv 0)) ja_nil)))))
theorem sc__law_known : FnScope N__law_known ["pot"] (defScope (top 30)) := ⟨rfl, rfl, rfl, by decide +kernel, rfl, by decide +kernel, by decide +kernel⟩
theorem ok__law_known (T : Tt K mg) : Has P w K mg base "_law_known" ["pot"] 2 f__law_known [true] := by
  obtain ⟨fd, F⟩ := T.d__law_known
  rw [f__law_known_eq]
  have h__law_take : Has P w K mg base "_law_take" ["pot", "size"] 1 f__law_take [true, false] := ok__law_take T
  exact has_of F sc__law_known rfl T.g__law_known (fun _ _ _ _ _ _ us hl => match us, hl with | [_], _ => rfl) fun cdv A outer s H E L hr =>
    (js_cons (js_asg sc__law_known.nd rfl (by first | exact Or.inl rfl | exact Or.inr rfl) (jf_lst (jl_cons (je_tup (jl_cons je_int (jl_cons (je_tup (jl_cons (je_tup (jl_cons je_int (jl_cons je_int (jl_cons je_int (jl_cons je_int jl_nil))))) (jl_cons (je_tup (jl_cons je_int (jl_cons je_int (jl_cons je_int (jl_cons je_int jl_nil))))) jl_nil))) jl_nil))) (jl_cons (je_tup (jl_cons je_int (jl_cons (je_tup (jl_cons (je_tup (jl_cons je_int (jl_cons je_int (jl_cons je_int (jl_cons je_int jl_nil))))) (jl_cons (je_tup (jl_cons je_int (jl_cons je_int (jl_cons je_int (jl_cons je_int jl_nil))))) (jl_cons (je_tup (jl_cons je_int (jl_cons je_int (jl_cons je_int (jl_cons je_int jl_nil))))) jl_nil)))) jl_nil))) jl_nil))) rfl (by first | exact Or.inr rfl | exact Or.inl rfl)) (js_cons (js_expr (je_lm md_append PySem.F.slot_list_append PySem.F.type_list_append mt_append (pv 1) (jl_cons (je_tup (jl_cons je_int (jl_cons (je_tup (jl_cons (je_tup (jl_cons je_int (jl_cons je_int (jl_cons je_int (jl_cons je_int jl_nil))))) (jl_cons (je_tup (jl_cons je_int (jl_cons je_int (jl_cons je_int (jl_cons (je_fz (jf_un un_neg sz_neg (jo_ex je_int))) jl_nil))))) (jl_cons (je_tup (jl_cons je_int (jl_cons je_int (jl_cons je_int (jl_cons je_int jl_nil))))) (jl_cons (je_tup (jl_cons je_int (jl_cons je_int (jl_cons je_int (jl_cons je_int jl_nil))))) jl_nil))))) jl_nil))) jl_nil))) (js_cons (js_expr (je_lm md_append PySem.F.slot_list_append PySem.F.type_list_append mt_append (pv 1) (jl_cons (je_tup (jl_cons je_int (jl_cons (je_tup (jl_cons (je_tup (jl_cons je_int (jl_cons je_int (jl_cons (je_fz (jf_un un_neg sz_neg (jo_ex je_int))) (jl_cons je_int jl_nil))))) (jl_cons (je_tup (jl_cons je_int (jl_cons je_int (jl_cons je_int (jl_cons (je_fz (jf_un un_neg sz_neg (jo_ex je_int))) jl_nil))))) (jl_cons (je_tup (jl_cons je_int (jl_cons je_int (jl_cons je_int (jl_cons je_int jl_nil))))) jl_nil)))) jl_nil))) jl_nil))) (js_cons (js_expr (je_lm md_append PySem.F.slot_list_append PySem.F.type_list_append mt_append (pv 1) (jl_cons (je_tup (jl_cons je_int (jl_cons (je_tup (jl_cons (je_tup (jl_cons je_int (jl_cons je_int (jl_cons (je_fz (jf_un un_neg sz_neg (jo_ex je_int))) (jl_cons je_int jl_nil))))) (jl_cons (je_tup (jl_cons je_int (jl_cons je_int (jl_cons je_int (jl_cons je_int jl_nil))))) (jl_cons (je_tup (jl_cons je_int (jl_cons je_int (jl_cons je_int (jl_cons (je_fz (jf_un un_neg sz_neg (jo_ex je_int))) jl_nil))))) (jl_cons (je_tup (jl_cons je_int (jl_cons je_int (jl_cons je_int (jl_cons je_int jl_nil))))) (jl_cons (je_tup (jl_cons je_int (jl_cons je_int (jl_cons je_int (jl_cons je_int jl_nil))))) (jl_cons (je_tup (jl_cons je_int (jl_cons je_int (jl_cons je_int (jl_cons (je_fz (jf_un un_neg sz_neg (jo_ex je_int))) jl_nil))))) jl_nil))))))) jl_nil))) jl_nil))) (js_cons (js_expr (je_lm md_append PySem.F.slot_list_append PySem.F.type_list_append mt_append (pv 1) (jl_cons (je_tup (jl_cons je_int (jl_cons (je_tup (jl_cons (je_tup (jl_cons je_int (jl_cons je_int (jl_cons je_int (jl_cons je_int jl_nil))))) (jl_cons (je_tup (jl_cons je_int (jl_cons je_int (jl_cons (je_fz (jf_un un_neg sz_neg (jo_ex je_int))) (jl_cons je_int jl_nil))))) (jl_cons (je_tup (jl_cons je_int (jl_cons je_int (jl_cons je_int (jl_cons je_int jl_nil))))) (jl_cons (je_tup (jl_cons je_int (jl_cons je_int (jl_cons je_int (jl_cons je_int jl_nil))))) (jl_cons (je_tup (jl_cons je_int (jl_cons je_int (jl_cons je_int (jl_cons je_int jl_nil))))) (jl_cons (je_tup (jl_cons je_int (jl_cons je_int (jl_cons je_int (jl_cons je_int jl_nil))))) jl_nil))))))) jl_nil))) jl_nil))) (js_cons (js_expr (je_lm md_append PySem.F.slot_list_append PySem.F.type_list_append mt_append (pv 1) (jl_cons (je_tup (jl_cons je_int (jl_cons (je_tup (jl_cons (je_tup (jl_cons je_int (jl_cons je_int (jl_cons je_int (jl_cons je_int jl_nil))))) jl_nil)) jl_nil))) jl_nil))) (js_cons (js_expr (je_lm md_append PySem.F.slot_list_append PySem.F.type_list_append mt_append (pv 1) (jl_cons (je_tup (jl_cons je_int (jl_cons (je_tup (jl_cons (je_tup (jl_cons je_int (jl_cons je_int (jl_cons je_int (jl_cons je_int jl_nil))))) (jl_cons (je_tup (jl_cons je_int (jl_cons je_int (jl_cons je_int (jl_cons je_int jl_nil))))) (jl_cons (je_tup (jl_cons je_int (jl_cons je_int (jl_cons je_int (jl_cons je_int jl_nil))))) (jl_cons (je_tup (jl_cons je_int (jl_cons je_int (jl_cons je_int (jl_cons je_int jl_nil))))) jl_nil))))) jl_nil))) jl_nil))) (js_one (js_ret (jf_ixA (u1 hr) (jo_nm (pv 1)) (jo_ex (je_fz (jf_callH h__law_take (hr.mono (by decide)) rfl (takes_of rfl rfl rfl rfl) rfl rfl (ja_lend (pv 0) (ja_ex je_int ja_nil))))) (fun _ _ => rfl)))))))))))
theorem sc__law_list : FnScope N__law_list ["pot", "grid"] (defScope (top 33)) := ⟨rfl, rfl, rfl, by decide +kernel, rfl, by decide +kernel, by decide +kernel⟩
theorem ok__law_list (T : Tt K mg) : Has P w K mg base "_law_list" ["pot", "grid"] 2 f__law_list [true, false] := by
  obtain ⟨fd, F⟩ := T.d__law_list
  rw [f__law_list_eq]
  have h__law_take : Has P w K mg base "_law_take" ["pot", "size"] 1 f__law_take [true, false] := ok__law_take T
  have h__law_turned : Has P w K mg base "_law_turned" ["tie"] 1 f__law_turned [false] := ok__law_turned T
  exact has_of F sc__law_list rfl T.g__law_list (fun _ _ _ _ _ _ us hl => match us, hl with | [_, _], _ => rfl) fun cdv A outer s H E L hr =>
    (js_cons (js_asg sc__law_list.nd rfl (by first | exact Or.inl rfl | exact Or.inr rfl) (jf_lst jl_nil) rfl (by first | exact Or.inr rfl | exact Or.inl rfl)) (js_cons (js_asg sc__law_list.nd rfl (by first | exact Or.inl rfl | exact Or.inr rfl) (jf_callR cf_list (pe_callTy call_list_of rfl T.b_list (by decide +kernel) (jos_cons (jo_ex (je_fz (jf_ixA (u1 hr) (jo_nm (pv 1)) (jo_ex je_int) (fun _ _ => rfl)))) jos_nil))) rfl (by first | exact Or.inr rfl | exact Or.inl rfl)) (js_cons (js_while (passes_of rfl) (jt_cmp (op_gtX (u65 hr)) cz_gtX (jo_ex (je_callD cd_len (pe_callB call_len rfl T.b_len (by decide +kernel) (jos_cons (jo_nm (pv 3)) jos_nil)))) (jo_ex je_int) (nomark _)) (js_cons (js_asg sc__law_list.nd rfl (by first | exact Or.inl rfl | exact Or.inr rfl) (jf_up (je_lm md_popAt PySem.F.slot_list_pop PySem.F.type_list_pop mt_popAt (pv 3) (jl_cons (je_fz (jf_callH h__law_take (hr.mono (by decide)) rfl (takes_of rfl rfl rfl rfl) rfl rfl (ja_lend (pv 0) (ja_ex (je_callD cd_len (pe_callB call_len rfl T.b_len (by decide +kernel) (jos_cons (jo_nm (pv 3)) jos_nil))) ja_nil)))) jl_nil))) rfl (by first | exact Or.inr rfl | exact Or.inl rfl)) (js_cons (js_expr (je_lm md_append PySem.F.slot_list_append PySem.F.type_list_append mt_append (pv 2) (jl_cons (je_fz (jf_ixA (u1 hr) (jo_ex (je_fz (jf_lst (jl_cons (je_var (pv 4)) (jl_cons (je_fz (jf_callH h__law_turned (hr.mono (by decide)) rfl (takes_of rfl rfl rfl rfl) rfl rfl (ja_ex (je_var (pv 4)) ja_nil))) jl_nil))))) (jo_ex (je_fz (jf_callH h__law_take (hr.mono (by decide)) rfl (takes_of rfl rfl rfl rfl) rfl rfl (ja_lend (pv 0) (ja_ex je_int ja_nil))))) (fun _ _ => rfl))) jl_nil))) (js_cons (js_asg sc__law_list.nd rfl (by first | exact Or.inl rfl | exact Or.inr rfl) (jf_bin op_mulA sz_mul (jo_ex (je_fz (jf_callH h__law_take (hr.mono (by decide)) rfl (takes_of rfl rfl rfl rfl) rfl rfl (ja_lend (pv 0) (ja_ex je_int ja_nil))))) (jo_ex (je_fz (jf_callH h__law_take (hr.mono (by decide)) rfl (takes_of rfl rfl rfl rfl) rfl rfl (ja_lend (pv 0) (ja_ex je_int ja_nil)))))) rfl (by first | exact Or.inr rfl | exact Or.inl rfl)) (js_one (js_for (passes_of rfl) rfl (ji_range1 rfl T.b_range (je_callD (cd_maxA cd_max) (pe_callB (CallR.or' (cr_maxT rfl (u65 hr)) (CallR.or' (call_max2 rfl) (cr_max rfl))) rfl T.b_max (by decide +kernel) (jos_cons (jo_ex je_int) (jos_cons (jo_ex (je_callD (cd_minA cd_min) (pe_callB (CallR.or' (cr_minT rfl (u65 hr)) (CallR.or' (call_min2 rfl) (cr_min rfl))) rfl T.b_min (by decide +kernel) (jos_cons (jo_nm (pv 5)) (jos_cons (jo_ex (je_fz (jf_bin op_sub sz_sub (jo_ex (je_fz (jf_bin op_sub sz_sub (jo_ex je_int) (jo_ex (je_callD cd_len (pe_callB call_len rfl T.b_len (by decide +kernel) (jos_cons (jo_nm (pv 2)) jos_nil))))))) (jo_ex (je_callD cd_len (pe_callB call_len rfl T.b_len (by decide +kernel) (jos_cons (jo_nm (pv 3)) jos_nil))))))) jos_nil))))) jos_nil))))) (jg_name sc__law_list.nd rfl (by first | exact Or.inl rfl | exact Or.inr rfl) (by first | exact Or.inr rfl | exact Or.inl rfl)) (js_one (js_expr (je_lm md_append PySem.F.slot_list_append PySem.F.type_list_append mt_append (pv 2) (jl_cons (je_fz (jf_ixA (u1 hr) (jo_ex (je_fz (jf_lst (jl_cons (je_var (pv 4)) (jl_cons (je_fz (jf_callH h__law_turned (hr.mono (by decide)) rfl (takes_of rfl rfl rfl rfl) rfl rfl (ja_ex (je_var (pv 4)) ja_nil))) jl_nil))))) (jo_ex (je_fz (jf_callH h__law_take (hr.mono (by decide)) rfl (takes_of rfl rfl rfl rfl) rfl rfl (ja_lend (pv 0) (ja_ex je_int ja_nil))))) (fun _ _ => rfl))) jl_nil)))) (fun _ => rfl))))))) (js_cons (js_if (PW.pt (jw_and (jt_cmp (op_gtX (u65 hr)) cz_gtX (jo_ex (je_callD cd_len (pe_callB call_len rfl T.b_len (by decide +kernel) (jos_cons (jo_nm (pv 2)) jos_nil)))) (jo_ex je_int) (nomark _)) (jw_and1 (jt_cmp (op_eqD hr.units) cz_eq (jo_ex (je_fz (jf_callH h__law_take (hr.mono (by decide)) rfl (takes_of rfl rfl rfl rfl) rfl rfl (ja_lend (pv 0) (ja_ex je_int ja_nil))))) (jo_ex je_int) (nomark _))))) (js_one (js_asg sc__law_list.nd rfl (by first | exact Or.inl rfl | exact Or.inr rfl) (jf_slc (jo_ex (je_fz (jf_bin op_mulA sz_mul (jo_nm (pv 2)) (jo_ex je_int)))) jp_none (jp_some je_int)) rfl (by first | exact Or.inr rfl | exact Or.inl rfl))) js_nil) (js_one (js_ret (jf_mov (pv 2))))))))
theorem sc__law_odd : FnScope N__law_odd ["pot", "places", "ties"] (defScope (top 34)) := ⟨rfl, rfl, rfl, by decide +kernel, rfl, by decide +kernel, by decide +kernel⟩
theorem ok__law_odd (T : Tt K mg) : Has P w K mg base "_law_odd" ["pot", "places", "ties"] 2 f__law_odd [true, false, false] := by
  obtain ⟨fd, F⟩ := T.d__law_odd
  rw [f__law_odd_eq]
  have h__law_take : Has P w K mg base "_law_take" ["pot", "size"] 1 f__law_take [true, false] := ok__law_take T
  exact has_of F sc__law_odd rfl T.g__law_odd (fun _ _ _ _ _ _ us hl => match us, hl with | [_, _, _], _ => rfl) fun cdv A outer s H E L hr =>
    (js_cons (js_asg sc__law_odd.nd rfl (by first | exact Or.inl rfl | exact Or.inr rfl) (jf_callH h__law_take (hr.mono (by decide)) rfl (takes_of rfl rfl rfl rfl) rfl rfl (ja_lend (pv 0) (ja_ex je_int ja_nil))) rfl (by first | exact Or.inr rfl | exact Or.inl rfl)) (js_cons (js_asg sc__law_odd.nd rfl (by first | exact Or.inl rfl | exact Or.inr rfl) (jf_callH h__law_take (hr.mono (by decide)) rfl (takes_of rfl rfl rfl rfl) rfl rfl (ja_lend (pv 0) (ja_ex (je_fz (jf_bin op_addA sz_op (jo_ex (je_callD cd_len (pe_callB call_len rfl T.b_len (by decide +kernel) (jos_cons (jo_nm (pv 2)) jos_nil)))) (jo_ex je_int))) ja_nil))) rfl (by first | exact Or.inr rfl | exact Or.inl rfl)) (js_cons (js_if (jt_cmp (op_eqD hr.units) cz_eq (jo_nm (pv 3)) (jo_ex je_int) (nomark _)) (js_one (js_ret (jf_up (je_tup (jl_cons (je_fz (jf_ixA (u1 hr) (jo_ex (je_fz (jf_lst (jl_cons je_int (jl_cons je_int (jl_cons (je_fz (jf_bin op_sub sz_sub (jo_ex je_int) (jo_ex je_int))) (jl_cons je_bl (jl_cons je_non (jl_cons je_str (jl_cons (je_tup (jl_cons je_int jl_nil)) (jl_cons (je_fz (jf_bin op_pow sz_pow (jo_ex je_int) (jo_ex je_int))) jl_nil))))))))))) (jo_ex (je_fz (jf_callH h__law_take (hr.mono (by decide)) rfl (takes_of rfl rfl rfl rfl) rfl rfl (ja_lend (pv 0) (ja_ex je_int ja_nil))))) (fun _ _ => rfl))) (jl_cons (je_var (pv 2)) jl_nil)))))) js_nil) (js_cons (js_if (jt_cmp (op_eqD hr.units) cz_eq (jo_nm (pv 3)) (jo_ex je_int) (nomark _)) (js_one (js_ret (jf_up (je_tup (jl_cons (je_var (pv 1)) (jl_cons (je_fz (jf_ixA (u1 hr) (jo_ex (je_fz (jf_lst (jl_cons je_non (jl_cons je_int (jl_cons je_str (jl_cons (je_fz jf_dnewK) (jl_cons (je_fz (jf_disp (u1 hr) (je_tup (jl_cons je_int (jl_cons je_int (jl_cons je_int (jl_cons je_int jl_nil))))) je_int)) (jl_cons je_bl jl_nil))))))))) (jo_ex (je_fz (jf_callH h__law_take (hr.mono (by decide)) rfl (takes_of rfl rfl rfl rfl) rfl rfl (ja_lend (pv 0) (ja_ex je_int ja_nil))))) (fun _ _ => rfl))) jl_nil)))))) js_nil) (js_cons (js_if (jt_cmp (op_eqD hr.units) cz_eq (jo_nm (pv 3)) (jo_ex je_int) (nomark _)) (js_one (js_ret (jf_up (je_tup (jl_cons (je_var (pv 1)) (jl_cons (je_fz (jf_slc (jo_ex (je_fz (jf_bin op_addA sz_op (jo_nm (pv 2)) (jo_ex (je_fz (jf_bin op_mulA sz_mul (jo_ex (je_fz (jf_lst (jl_cons (je_tup (jl_cons je_int (jl_cons je_int (jl_cons je_int (jl_cons je_int jl_nil))))) jl_nil)))) (jo_ex je_int))))))) jp_none (jp_some je_int))) jl_nil)))))) js_nil) (js_cons (js_if (jt_cmp (op_eqD hr.units) cz_eq (jo_nm (pv 3)) (jo_ex je_int) (nomark _)) (js_cons (js_asg sc__law_odd.nd rfl (by first | exact Or.inl rfl | exact Or.inr rfl) (jf_bin op_addA sz_op (jo_ex (je_fz (jf_lc rfl sc__law_odd.nd (ji_range1 rfl T.b_range je_int) (blkOk_by (own := [("k", 7)]) (N := N__law_odd) (sc := defScope (top 34)) (by decide +kernel)) rfl (fun _ _ _ _ _ => (jgv_name sc__law_odd.nd rfl (by first | exact Or.inl rfl | exact Or.inr rfl) (by first | exact Or.inr rfl | exact Or.inl rfl) (by decide))) (fun _ _ _ _ _ => jts_nil) (fun _ _ _ _ _ => (jf_up (je_tup (jl_cons je_int (jl_cons je_int (jl_cons (je_fz (jf_bin op_sub sz_sub (jo_ex (je_fz (jf_bin op_fdivA sz_fdiv (jo_nm (pv 7)) (jo_ex je_int)))) (jo_ex je_int))) (jl_cons (je_fz (jf_bin op_sub sz_sub (jo_ex (je_fz (jf_bin op_modN sz_mod (jo_nm (pv 7)) (jo_ex je_int)))) (jo_ex je_int))) jl_nil)))))))))) (jo_ex (je_fz (jf_lc rfl sc__law_odd.nd (ji_range1 rfl T.b_range je_int) (blkOk_by (own := [("k", 7)]) (N := N__law_odd) (sc := defScope (top 34)) (by decide +kernel)) rfl (fun _ _ _ _ _ => (jgv_name sc__law_odd.nd rfl (by first | exact Or.inl rfl | exact Or.inr rfl) (by first | exact Or.inr rfl | exact Or.inl rfl) (by decide))) (fun _ _ _ _ _ => jts_nil) (fun _ _ _ _ _ => (jf_up (je_tup (jl_cons je_int (jl_cons je_int (jl_cons (je_fz (jf_bin op_sub sz_sub (jo_ex (je_fz (jf_bin op_fdivA sz_fdiv (jo_nm (pv 7)) (jo_ex je_int)))) (jo_ex je_int))) (jl_cons (je_fz (jf_bin op_sub sz_sub (jo_ex (je_fz (jf_bin op_modN sz_mod (jo_nm (pv 7)) (jo_ex je_int)))) (jo_ex je_int))) jl_nil))))))))))) rfl (by first | exact Or.inr rfl | exact Or.inl rfl)) (js_one (js_ret (jf_up (je_tup (jl_cons je_int (jl_cons (je_fz (jf_bin op_addA sz_op (jo_nm (pv 5)) (jo_ex (je_fz (jf_lc rfl sc__law_odd.nd (ji_range1 rfl T.b_range je_int) (blkOk_by (own := [("k", 7)]) (N := N__law_odd) (sc := defScope (top 34)) (by decide +kernel)) rfl (fun _ _ _ _ _ => (jgv_name sc__law_odd.nd rfl (by first | exact Or.inl rfl | exact Or.inr rfl) (by first | exact Or.inr rfl | exact Or.inl rfl) (by decide))) (fun _ _ _ _ _ => jts_nil) (fun _ _ _ _ _ => (jf_up (je_tup (jl_cons je_int (jl_cons je_int (jl_cons (je_fz (jf_bin op_sub sz_sub (jo_ex (je_fz (jf_bin op_fdivA sz_fdiv (jo_nm (pv 7)) (jo_ex je_int)))) (jo_ex je_int))) (jl_cons (je_fz (jf_bin op_sub sz_sub (jo_ex (je_fz (jf_bin op_modN sz_mod (jo_nm (pv 7)) (jo_ex je_int)))) (jo_ex je_int))) jl_nil)))))))))))) jl_nil))))))) js_nil) (js_cons (js_asg sc__law_odd.nd rfl (by first | exact Or.inl rfl | exact Or.inr rfl) (jf_lst (jl_cons (je_tup (jl_cons je_int (jl_cons je_int (jl_cons je_int (jl_cons je_int jl_nil))))) (jl_cons (je_tup (jl_cons (je_var (pv 1)) (jl_cons je_int (jl_cons je_int (jl_cons je_int jl_nil))))) (jl_cons (je_tup (jl_cons je_int (jl_cons je_int (jl_cons je_int (jl_cons je_int jl_nil))))) (jl_cons (je_tup (jl_cons je_int (jl_cons je_int (jl_cons je_int (jl_cons (je_fz (jf_bin op_sub sz_sub (jo_ex je_int) (jo_ex je_int))) jl_nil))))) (jl_cons (je_tup (jl_cons je_int (jl_cons je_int (jl_cons je_int jl_nil)))) (jl_cons (je_fz (jf_lst (jl_cons je_int (jl_cons je_int (jl_cons je_int (jl_cons je_int jl_nil)))))) (jl_cons (je_tup (jl_cons je_int (jl_cons je_int (jl_cons je_bl (jl_cons je_int jl_nil))))) jl_nil)))))))) rfl (by first | exact Or.inr rfl | exact Or.inl rfl)) (js_cons (js_asg sc__law_odd.nd rfl (by first | exact Or.inl rfl | exact Or.inr rfl) (jf_bin op_addA sz_op (jo_nm (pv 6)) (jo_ex (je_fz (jf_lst (jl_cons je_non (jl_cons (je_tup (jl_cons je_int (jl_cons je_int (jl_cons je_int (jl_cons je_int (jl_cons je_int jl_nil)))))) (jl_cons (je_tup (jl_cons (je_fz (jf_bin op_sub sz_sub (jo_ex je_int) (jo_ex je_int))) (jl_cons je_int (jl_cons je_int (jl_cons je_int jl_nil))))) (jl_cons (je_tup (jl_cons je_str (jl_cons je_int (jl_cons je_int (jl_cons je_int jl_nil))))) (jl_cons (je_tup (jl_cons je_int (jl_cons je_int (jl_cons je_non (jl_cons je_int jl_nil))))) jl_nil))))))))) rfl (by first | exact Or.inr rfl | exact Or.inl rfl)) (js_cons (js_expr (je_lm md_append PySem.F.slot_list_append PySem.F.type_list_append mt_append (pv 6) (jl_cons (je_tup (jl_cons (je_fz (jf_bin op_sub sz_sub (jo_nm (pv 1)) (jo_ex je_int))) (jl_cons (je_fz (jf_bin op_sub sz_sub (jo_nm (pv 1)) (jo_ex je_int))) (jl_cons je_int (jl_cons je_int jl_nil))))) jl_nil))) (js_one (js_ret (jf_up (je_tup (jl_cons (je_var (pv 1)) (jl_cons (je_fz (jf_slc (jo_ex (je_fz (jf_bin op_addA sz_op (jo_ex (je_fz (jf_bin op_addA sz_op (jo_ex (je_fz (jf_slc (jo_nm (pv 2)) jp_none (jp_some (je_var (pv 4)))))) (jo_ex (je_fz (jf_lst (jl_cons (je_fz (jf_ixA (u1 hr) (jo_nm (pv 6)) (jo_ex (je_fz (jf_callH h__law_take (hr.mono (by decide)) rfl (takes_of rfl rfl rfl rfl) rfl rfl (ja_lend (pv 0) (ja_ex je_int ja_nil))))) (fun _ _ => rfl))) jl_nil))))))) (jo_ex (je_fz (jf_slc (jo_nm (pv 2)) (jp_some (je_var (pv 4))) jp_none)))))) jp_none (jp_some (je_fz (jf_bin op_addA sz_op (jo_ex je_int) (jo_ex (je_callD cd_int (pe_callTy call_int1 rfl T.b_int (by decide +kernel) (jos_cons (jo_ex (je_cmp (op_gtX (u65 hr)) cz_gtX (jo_nm (pv 4)) (jo_ex je_int) (nomark _))) jos_nil))))))))) jl_nil)))))))))))))))
theorem sc_is_tie : FnScope N_is_tie ["places", "thing"] (defScope (top 19)) := ⟨rfl, rfl, rfl, by decide +kernel, rfl, by decide +kernel, by decide +kernel⟩
theorem ok_is_tie (T : Tt K mg) : Has P w K mg base "is_tie" ["places", "thing"] 3 f_is_tie [false, false] := by
  obtain ⟨fd, F⟩ := T.d_is_tie
  rw [f_is_tie_eq]
  have h_is_of : Has P w K mg base "is_of" ["places", "thing"] 2 f_is_of [false, false] := ok_is_of T
  have h_is_step : Has P w K mg base "is_step" ["thing"] 2 f_is_step [false] := ok_is_step T
  exact has_of F sc_is_tie rfl T.g_is_tie (fun _ _ _ _ _ _ us hl => match us, hl with | [_, _], _ => rfl) fun cdv A outer s H E L hr =>
    (js_cons (js_if (PW.pt (jw_or (jt_not (jt_val (je_isi (jo_nm (pv 1)) rfl T.b_isinstance rfl T.b_tuple (by decide +kernel)) (fun _ => rfl))) (jw_or1 (jt_cmp (op_neD hr.units) cz_ne (jo_ex (je_callD cd_len (pe_callB call_len rfl T.b_len (by decide +kernel) (jos_cons (jo_nm (pv 1)) jos_nil)))) (jo_ex je_int) (nomark _))))) (js_one (js_ret (jf_up je_bl))) js_nil) (js_cons (js_if (PW.pt (jw_or (jt_not (jt_val (je_fz (jf_callH h_is_of (hr.mono (by decide)) rfl (takes_of rfl rfl rfl rfl) rfl rfl (ja_ex (je_var (pv 0)) (ja_ex (je_fz (jf_ixA (u1 hr) (jo_nm (pv 1)) (jo_ex je_int) (fun _ _ => rfl))) ja_nil)))) (fun _ => rfl))) (jw_or (jt_not (jt_val (je_fz (jf_callH h_is_of (hr.mono (by decide)) rfl (takes_of rfl rfl rfl rfl) rfl rfl (ja_ex (je_var (pv 0)) (ja_ex (je_fz (jf_ixA (u1 hr) (jo_nm (pv 1)) (jo_ex je_int) (fun _ _ => rfl))) ja_nil)))) (fun _ => rfl))) (jw_or (jt_not (jt_val (je_fz (jf_callH h_is_step (hr.mono (by decide)) rfl (takes_of rfl rfl rfl rfl) rfl rfl (ja_ex (je_fz (jf_ixA (u1 hr) (jo_nm (pv 1)) (jo_ex je_int) (fun _ _ => rfl))) ja_nil))) (fun _ => rfl))) (jw_or1 (jt_not (jt_val (je_fz (jf_callH h_is_step (hr.mono (by decide)) rfl (takes_of rfl rfl rfl rfl) rfl rfl (ja_ex (je_fz (jf_ixA (u1 hr) (jo_nm (pv 1)) (jo_ex je_int) (fun _ _ => rfl))) ja_nil))) (fun _ => rfl)))))))) (js_one (js_ret (jf_up je_bl))) js_nil) (js_one (js_ret (jf_up (je_or (je_cmp (op_neD hr.units) cz_ne (jo_ex (je_fz (jf_ixA (u1 hr) (jo_nm (pv 1)) (jo_ex je_int) (fun _ _ => rfl)))) (jo_ex (je_fz (jf_ixA (u1 hr) (jo_nm (pv 1)) (jo_ex je_int) (fun _ _ => rfl)))) (nomark _)) (je_one (je_cmp (op_neD hr.units) cz_ne (jo_ex (je_fz (jf_slc (jo_nm (pv 1)) (jp_some je_int) jp_none))) (jo_ex (je_tup (jl_cons je_int (jl_cons je_int jl_nil)))) (nomark _)))))))))
theorem sc__law_grid : FnScope N__law_grid ["pot"] (defScope (top 31)) := ⟨rfl, rfl, rfl, by decide +kernel, rfl, by decide +kernel, by decide +kernel⟩
theorem ok__law_grid (T : Tt K mg) : Has P w K mg base "_law_grid" ["pot"] 3 f__law_grid [true] := by
  obtain ⟨fd, F⟩ := T.d__law_grid
  rw [f__law_grid_eq]
  have h__law_take : Has P w K mg base "_law_take" ["pot", "size"] 1 f__law_take [true, false] := ok__law_take T
  have h__law_known : Has P w K mg base "_law_known" ["pot"] 2 f__law_known [true] := ok__law_known T
  have h__law_tie : Has P w K mg base "_law_tie" ["pot", "places"] 2 f__law_tie [true, false] := ok__law_tie T
  have h__law_written : Has P w K mg base "_law_written" ["tie"] 2 f__law_written [false] := ok__law_written T
  exact has_of F sc__law_grid rfl T.g__law_grid (fun _ _ _ _ _ _ us hl => match us, hl with | [_], _ => rfl) fun cdv A outer s H E L hr =>
    (js_cons (js_if (jt_cmp (op_eqD hr.units) cz_eq (jo_ex (je_fz (jf_callH h__law_take (hr.mono (by decide)) rfl (takes_of rfl rfl rfl rfl) rfl rfl (ja_lend (pv 0) (ja_ex je_int ja_nil))))) (jo_ex je_int) (nomark _)) (js_one (js_ret (jf_callH h__law_known (hr.mono (by decide)) rfl (takes_of rfl rfl rfl rfl) rfl rfl (ja_lend (pv 0) ja_nil)))) js_nil) (js_cons (js_asg sc__law_grid.nd rfl (by first | exact Or.inl rfl | exact Or.inr rfl) (jf_bin op_addA sz_op (jo_ex je_int) (jo_ex (je_fz (jf_callH h__law_take (hr.mono (by decide)) rfl (takes_of rfl rfl rfl rfl) rfl rfl (ja_lend (pv 0) (ja_ex je_int ja_nil)))))) rfl (by first | exact Or.inr rfl | exact Or.inl rfl)) (js_cons (js_asg sc__law_grid.nd rfl (by first | exact Or.inl rfl | exact Or.inr rfl) (jf_lst jl_nil) rfl (by first | exact Or.inr rfl | exact Or.inl rfl)) (js_cons (js_for (passes_of rfl) rfl (ji_range1 rfl T.b_range (je_fz (jf_ixA (u1 hr) (jo_ex (je_fz (jf_lst (jl_cons (je_fz (jf_callH h__law_take (hr.mono (by decide)) rfl (takes_of rfl rfl rfl rfl) rfl rfl (ja_lend (pv 0) (ja_ex je_int ja_nil)))) (jl_cons (je_fz (jf_bin op_addA sz_op (jo_ex je_int) (jo_ex (je_fz (jf_callH h__law_take (hr.mono (by decide)) rfl (takes_of rfl rfl rfl rfl) rfl rfl (ja_lend (pv 0) (ja_ex je_int ja_nil))))))) (jl_cons (je_fz (jf_callH h__law_take (hr.mono (by decide)) rfl (takes_of rfl rfl rfl rfl) rfl rfl (ja_lend (pv 0) (ja_ex je_int ja_nil)))) jl_nil)))))) (jo_ex (je_fz (jf_callH h__law_take (hr.mono (by decide)) rfl (takes_of rfl rfl rfl rfl) rfl rfl (ja_lend (pv 0) (ja_ex je_int ja_nil))))) (fun _ _ => rfl)))) (jg_name sc__law_grid.nd rfl (by first | exact Or.inl rfl | exact Or.inr rfl) (by first | exact Or.inr rfl | exact Or.inl rfl)) (js_cons (js_asg sc__law_grid.nd rfl (by first | exact Or.inl rfl | exact Or.inr rfl) (jf_callH h__law_written (hr.mono (by decide)) rfl (takes_of rfl rfl rfl rfl) rfl rfl (ja_ex (je_fz (jf_callH h__law_tie (hr.mono (by decide)) rfl (takes_of rfl rfl rfl rfl) rfl rfl (ja_lend (pv 0) (ja_ex (je_var (pv 1)) ja_nil)))) ja_nil)) rfl (by first | exact Or.inr rfl | exact Or.inl rfl)) (js_one (js_if (PW.pt (jw_and (jt_cmp (op_ninB (u65 hr)) cz_ninB (jo_nm (pv 4)) (jo_nm (pv 2)) (by with_unfolding_all rfl)) (jw_and1 (jt_cmp (op_ltA hr.units0) cz_lt (jo_ex (je_callD cd_len (pe_callB call_len rfl T.b_len (by decide +kernel) (jos_cons (jo_nm (pv 2)) jos_nil)))) (jo_ex je_int) (nomark _))))) (js_one (js_expr (je_lm md_append PySem.F.slot_list_append PySem.F.type_list_append mt_append (pv 2) (jl_cons (je_var (pv 4)) jl_nil)))) js_nil))) (fun _ => rfl)) (js_one (js_ret (jf_up (je_tup (jl_cons (je_var (pv 1)) (jl_cons (je_fz (jf_callR cf_tuple (pe_callTy call_tuple_of rfl T.b_tuple (by decide +kernel) (jos_cons (jo_ex (je_fz (jf_callR cf_sortedA (pe_callB (cr_sortedA rfl (u65 hr)) rfl T.b_sorted (by decide +kernel) (jos_cons (jo_nm (pv 2)) jos_nil))))) jos_nil)))) jl_nil))))))))))
theorem sc_made_grid : FnScope N_made_grid ["places", "ties"] (defScope (top 21)) := ⟨rfl, rfl, rfl, by decide +kernel, rfl, by decide +kernel, by decide +kernel⟩
theorem ok_made_grid (T : Tt K mg) : Has P w K mg base "made_grid" ["places", "ties"] 4 f_made_grid [false, false] := by
  obtain ⟨fd, F⟩ := T.d_made_grid
  rw [f_made_grid_eq]
  have h_is_whole : Has P w K mg base "is_whole" ["thing"] 1 f_is_whole [false] := ok_is_whole T
  have h_is_tie : Has P w K mg base "is_tie" ["places", "thing"] 3 f_is_tie [false, false] := ok_is_tie T
  have h_written : Has P w K mg base "written" ["tie"] 1 f_written [false] := ok_written T
  exact has_of F sc_made_grid rfl T.g_made_grid (fun _ _ _ _ _ _ us hl => match us, hl with | [_, _], _ => rfl) fun cdv A outer s H E L hr =>
    (js_cons (js_if (PW.pt (jw_or (jt_not (jt_val (je_fz (jf_callH h_is_whole (hr.mono (by decide)) rfl (takes_of rfl rfl rfl rfl) rfl rfl (ja_ex (je_var (pv 0)) ja_nil))) (fun _ => rfl))) (jw_or1 (jt_not (jt_chain (op_leX (u65 hr)) (op_leX (u65 hr)) cz_leX cz_leX je_int (je_var (pv 0)) (je_const (C8.pe_gc rfl (gc_int T.c_MOST_PLACES)) fun _ => .int _)))))) (js_one (js_raise rfl (takes_of rfl rfl rfl rfl) T.x_NoGrid.1 T.g_NoGrid T.x_NoGrid.2.1 T.x_NoGrid.2.2.1 T.x_NoGrid.2.2.2 rfl)) js_nil) (js_cons (js_if (PW.pt (jw_or (jt_not (jt_val (je_isi2E (jo_nm (pv 1)) rfl T.b_isinstance rfl T.b_list (by decide +kernel) rfl T.b_tuple (by decide +kernel)) (fun _ => rfl))) (jw_or1 (jt_cmp (op_gtX (u65 hr)) cz_gtX (jo_ex (je_callD cd_len (pe_callB call_len rfl T.b_len (by decide +kernel) (jos_cons (jo_nm (pv 1)) jos_nil)))) (jo_ex (je_const (C8.pe_gc rfl (gc_int T.c_MOST_WRITTEN)) fun _ => .int _)) (nomark _))))) (js_one (js_raise rfl (takes_of rfl rfl rfl rfl) T.x_NoGrid.1 T.g_NoGrid T.x_NoGrid.2.1 T.x_NoGrid.2.2.1 T.x_NoGrid.2.2.2 rfl)) js_nil) (js_cons (js_if (jt_not (jt_val (je_callD cd_all (pe_callB (cr_all rfl) rfl T.b_all (by decide +kernel) (jos_cons (jo_ex (je_fz (jf_lcX rfl sc_made_grid.nd (pv 1) (blkOk_by (own := [("tie", 3)]) (N := N_made_grid) (sc := defScope (top 21)) (by decide +kernel)) rfl (fun _ _ _ _ _ => (jgv_name sc_made_grid.nd rfl (by first | exact Or.inl rfl | exact Or.inr rfl) (by first | exact Or.inr rfl | exact Or.inl rfl) (by decide))) (fun _ _ _ _ _ => jts_nil) (fun _ _ _ _ _ => (jf_callH h_is_tie (hr.mono (by decide)) rfl takes_blk rfl rfl (ja_ex (je_var (pv 0)) (ja_ex (je_var (pv 3)) ja_nil))))))) jos_nil))) (fun _ => rfl))) (js_one (js_raise rfl (takes_of rfl rfl rfl rfl) T.x_NoGrid.1 T.g_NoGrid T.x_NoGrid.2.1 T.x_NoGrid.2.2.1 T.x_NoGrid.2.2.2 rfl)) js_nil) (js_cons (js_asg sc_made_grid.nd rfl (by first | exact Or.inl rfl | exact Or.inr rfl) (jf_setSort (pe_callB (cr_sortSet rfl (u65 hr)) rfl T.b_sorted (by decide +kernel) (pa_cons (pe_callTy (cr_setOfT rfl (u64 hr)) rfl T.b_set (by decide +kernel) (jos_cons (jo_ex (je_fz (jf_lcX rfl sc_made_grid.nd (pv 1) (blkOk_by (own := [("tie", 3)]) (N := N_made_grid) (sc := defScope (top 21)) (by decide +kernel)) rfl (fun _ _ _ _ _ => (jgv_name sc_made_grid.nd rfl (by first | exact Or.inl rfl | exact Or.inr rfl) (by first | exact Or.inr rfl | exact Or.inl rfl) (by decide))) (fun _ _ _ _ _ => jts_nil) (fun _ _ _ _ _ => (jf_callH h_written (hr.mono (by decide)) rfl takes_blk rfl rfl (ja_ex (je_var (pv 3)) ja_nil)))))) jos_nil)) pa_nil))) rfl (by first | exact Or.inr rfl | exact Or.inl rfl)) (js_cons (js_if (jt_cmp (op_gtX (u65 hr)) cz_gtX (jo_ex (je_callD cd_len (pe_callB call_len rfl T.b_len (by decide +kernel) (jos_cons (jo_nm (pv 2)) jos_nil)))) (jo_ex (je_const (C8.pe_gc rfl (gc_int T.c_MOST_TIES)) fun _ => .int _)) (nomark _)) (js_one (js_raise rfl (takes_of rfl rfl rfl rfl) T.x_NoGrid.1 T.g_NoGrid T.x_NoGrid.2.1 T.x_NoGrid.2.2.1 T.x_NoGrid.2.2.2 rfl)) js_nil) (js_one (js_ret (jf_up (je_tup (jl_cons (je_var (pv 0)) (jl_cons (je_fz (jf_callR cf_tuple (pe_callTy call_tuple_of rfl T.b_tuple (by decide +kernel) (jos_cons (jo_nm (pv 2)) jos_nil)))) jl_nil)))))))))))
theorem sc__law_told : FnScope N__law_told ["places", "ties"] (defScope (top 32)) := ⟨rfl, rfl, rfl, by decide +kernel, rfl, by decide +kernel, by decide +kernel⟩
theorem ok__law_told (T : Tt K mg) : Has P w K mg base "_law_told" ["places", "ties"] 5 f__law_told [false, false] := by
  obtain ⟨fd, F⟩ := T.d__law_told
  rw [f__law_told_eq]
  have h_made_grid : Has P w K mg base "made_grid" ["places", "ties"] 4 f_made_grid [false, false] := ok_made_grid T
  exact has_of F sc__law_told rfl T.g__law_told (fun _ _ _ _ _ _ us hl => match us, hl with | [_, _], _ => rfl) fun cdv A outer s H E L hr =>
    (js_cons (js_refe (i := 2) rfl rfl sc__law_told.nd rfl rfl T.g_ShellError rfl (by decide) (takes_of rfl rfl rfl rfl) T.sub (by decide) (fun _ _ _ tk => (js_one (js_ret (jf_callH h_made_grid (hr.mono (by decide)) rfl tk rfl rfl (ja_ex (je_var (pv 0)) (ja_ex (je_var (pv 1)) ja_nil)))))) (fun a oe pn hz hf => (es_set (k := 3) (er_any hz hf rfl (Or.inl rfl) (by decide) (by decide) rfl T.b_isinstance (.own T.g_NoBack rfl (by decide) (.own T.g_NoLine rfl (by decide) (.own T.g_NoPlace rfl (by decide) (.own T.g_NoRatio rfl (by decide) (.own T.g_NotTogether rfl (by decide) (.own T.g_NoText rfl (by decide) .nil)))))) (small_ok (by decide)) T.er_NoGrid T.o_0) sc__law_told.nd rfl (by first | exact Or.inl rfl | exact Or.inr rfl) (Or.inr rfl) (by decide) (by decide) rfl (es_set (k := 3) (er_orF (er_var (k := 3) (m := "others") (r := false) rfl (Or.inl rfl) (by decide) (by decide) (by decide)) (er_last (er_any hz hf rfl (Or.inl rfl) (by decide) (by decide) rfl T.b_isinstance (.own T.g_TooFar rfl (by decide) (.own T.g_TooMany rfl (by decide) .nil)) (small_ok (by decide)) T.er_NoGrid T.o_1))) sc__law_told.nd rfl (by first | exact Or.inl rfl | exact Or.inr rfl) (Or.inr rfl) (by decide) (by decide) rfl (es_if (et_w (ew_and (et_val (er_one hz hf rfl (Or.inl rfl) (by decide) (by decide) rfl T.b_isinstance (.own T.g_NoGrid rfl (by decide) .nil) T.er_NoGrid T.o_2)) (ew_and (et_val (er_one hz hf rfl (Or.inl rfl) (by decide) (by decide) rfl T.b_isinstance (.blt T.b_ValueError rfl (by decide +kernel) (by decide) (by decide) .nil) T.er_NoGrid T.o_3)) (ew_last (et_not (r := false) (et_val (er_var (k := 3) (m := "others") (r := false) rfl (Or.inl rfl) (by decide) (by decide) (by decide)))))))) pss_nil))))) (js_one (js_ret (jf_up je_str))))
theorem sc_law : FnScope N_law ["script"] (defScope (top 36)) := ⟨rfl, rfl, rfl, by decide +kernel, rfl, by decide +kernel, by decide +kernel⟩
theorem ok_law (T : Tt K mg) {fd : FuncData} (F : FunD K "law" "law" (defArgs (top 36)) (defBody (top 36)) (defScope (top 36)) [] [] (He.ga K "law") fd) : FnAt callerA P w K mg base (L2.CX P w) (He.ga K "law") fd ["script"] (spF K f_law [false]) := by
  rw [f_law_eq]
  have h__law_folded : Has P w K mg base "_law_folded" ["cells", "many"] 1 f__law_folded [false, false] := ok__law_folded T
  have h__law_begun : Has P w K mg base "_law_begun" ["cell"] 1 f__law_begun [false] := ok__law_begun T
  have h__law_take : Has P w K mg base "_law_take" ["pot", "size"] 1 f__law_take [true, false] := ok__law_take T
  have h__law_wide : Has P w K mg base "_law_wide" ["pot", "size"] 2 f__law_wide [true, false] := ok__law_wide T
  have h__law_grid : Has P w K mg base "_law_grid" ["pot"] 3 f__law_grid [true] := ok__law_grid T
  have h__law_list : Has P w K mg base "_law_list" ["pot", "grid"] 2 f__law_list [true, false] := ok__law_list T
  have h_made_grid : Has P w K mg base "made_grid" ["places", "ties"] 4 f_made_grid [false, false] := ok_made_grid T
  have h__law_all_whole : Has P w K mg base "_law_all_whole" ["grid"] 1 f__law_all_whole [false] := ok__law_all_whole T
  have h__law_odd : Has P w K mg base "_law_odd" ["pot", "places", "ties"] 2 f__law_odd [true, false, false] := ok__law_odd T
  have h__law_told : Has P w K mg base "_law_told" ["places", "ties"] 5 f__law_told [false, false] := ok__law_told T
  exact fn_sem_at (k := 5) F sc_law rfl ⟨rfl, by decide, by decide⟩ fun cdv outer s H E L hr =>
    (js_cons (js_for (passes_of rfl) rfl (ji_items (je_fz (jf_callH h__law_folded (hr.mono (by decide)) rfl (takes_of rfl rfl rfl rfl) rfl rfl (ja_ex (je_var (pv 0)) (ja_ex je_int ja_nil))))) (jg_name sc_law.nd rfl (by first | exact Or.inl rfl | exact Or.inr rfl) (by first | exact Or.inr rfl | exact Or.inl rfl)) (js_cons (js_asg sc_law.nd rfl (by first | exact Or.inl rfl | exact Or.inr rfl) (jf_callH h__law_begun (hr.mono (by decide)) rfl (takes_of rfl rfl rfl rfl) rfl rfl (ja_ex (je_var (pv 1)) ja_nil)) rfl (by first | exact Or.inr rfl | exact Or.inl rfl)) (js_cons (js_setLc rfl sc_law.nd rfl rfl (sw_true rfl rfl rfl (by decide +kernel)) (ji_range1 rfl T.b_range je_int) (blkOk_by (own := [("turn", 12)]) (N := N_law) (sc := defScope (top 36)) (by decide +kernel)) rfl (fun _ _ _ _ _ => (jgv_name sc_law.nd rfl (by first | exact Or.inl rfl | exact Or.inr rfl) (by first | exact Or.inr rfl | exact Or.inl rfl) (by decide))) (fun _ _ _ _ _ => jts_nil) (fun _ _ _ _ _ => (jf_lst (jl_cons (je_fz (jf_callH h__law_wide (hr.mono (by decide)) rfl takes_blk rfl rfl (ja_lend (pv 2) (ja_ex (je_fz (jf_bin op_pow sz_pow (jo_ex je_int) (jo_ex je_int))) ja_nil)))) (jl_cons je_int (jl_cons (je_fz (jf_callH h__law_take (hr.mono (by decide)) rfl takes_blk rfl rfl (ja_lend (pv 2) (ja_ex je_int ja_nil)))) jl_nil)))))) (js_cons (js_asg sc_law.nd rfl (by first | exact Or.inl rfl | exact Or.inr rfl) (jf_callH h__law_grid (hr.mono (by decide)) rfl (takes_of rfl rfl rfl rfl) rfl rfl (ja_lend (pv 2) ja_nil)) rfl (by first | exact Or.inr rfl | exact Or.inl rfl)) (js_cons (js_asg sc_law.nd rfl (by first | exact Or.inl rfl | exact Or.inr rfl) (jf_callH h__law_list (hr.mono (by decide)) rfl (takes_of rfl rfl rfl rfl) rfl rfl (ja_lend (pv 2) (ja_ex (je_var (pv 4)) ja_nil))) rfl (by first | exact Or.inr rfl | exact Or.inl rfl)) (js_cons (js_for (passes_of rfl) rfl (ji_items (je_fz (jf_lst (jl_cons (je_fz (jf_callR cf_list (pe_callTy call_list_of rfl T.b_list (by decide +kernel) (jos_cons (jo_nm (pv 5)) jos_nil)))) (jl_cons (je_fz (jf_callR cf_tuple (pe_callTy call_tuple_of rfl T.b_tuple (by decide +kernel) (jos_cons (jo_nm (pv 5)) jos_nil)))) jl_nil))))) (jg_name sc_law.nd rfl (by first | exact Or.inl rfl | exact Or.inr rfl) (by first | exact Or.inr rfl | exact Or.inl rfl)) (js_cons (js_asg sc_law.nd rfl (by first | exact Or.inl rfl | exact Or.inr rfl) (jf_callH h_made_grid (hr.mono (by decide)) rfl (takes_of rfl rfl rfl rfl) rfl rfl (ja_ex (je_fz (jf_ixA (u1 hr) (jo_nm (pv 4)) (jo_ex je_int) (fun _ _ => rfl))) (ja_ex (je_var (pv 6)) ja_nil))) rfl (by first | exact Or.inr rfl | exact Or.inl rfl)) (js_one (js_if (PW.pt (jw_or (jt_not (jt_val (je_isi (jo_nm (pv 7)) rfl T.b_isinstance rfl T.b_tuple (by decide +kernel)) (fun _ => rfl))) (jw_or (jt_cmp (op_neD hr.units) cz_ne (jo_nm (pv 7)) (jo_nm (pv 4)) (nomark _)) (jw_or (jt_not (jt_val (je_fz (jf_callH h__law_all_whole (hr.mono (by decide)) rfl (takes_of rfl rfl rfl rfl) rfl rfl (ja_ex (je_var (pv 7)) ja_nil))) (fun _ => rfl))) (jw_or1 (jt_cmp (op_neD hr.units) cz_ne (jo_ex (je_fz (jf_callR cf_list (pe_callTy call_list_of rfl T.b_list (by decide +kernel) (jos_cons (jo_nm (pv 6)) jos_nil))))) (jo_nm (pv 5)) (nomark _))))))) (js_one (js_ret (jf_up je_bl))) js_nil))) (fun _ => rfl)) (js_one (js_forM (passes_of rfl) rfl (pv 3) sc_law.nd rfl (by first | exact Or.inl rfl | exact Or.inr rfl) (by first | exact Or.inr rfl | exact Or.inl rfl) (js_cons (js_asgG (je_fz (jf_callH h__law_odd (hr.mono (by decide)) rfl (takes_of rfl rfl rfl rfl) rfl rfl (ja_lend (pv 8) (ja_ex (je_fz (jf_ixA (u1 hr) (jo_nm (pv 4)) (jo_ex je_int) (fun _ _ => rfl))) (ja_ex (je_var (pv 5)) ja_nil))))) (jg_tup rfl (jgs_cons (jg_name sc_law.nd rfl (by first | exact Or.inl rfl | exact Or.inr rfl) (by first | exact Or.inr rfl | exact Or.inl rfl)) (jgs_cons (jg_name sc_law.nd rfl (by first | exact Or.inl rfl | exact Or.inr rfl) (by first | exact Or.inr rfl | exact Or.inl rfl)) jgs_nil)) rfl)) (js_cons (js_asg sc_law.nd rfl (by first | exact Or.inl rfl | exact Or.inr rfl) (jf_up (je_callD cd_strY (pe_callTy (cr_strY rfl (u65 hr)) rfl T.b_str (by decide +kernel) (jos_cons (jo_nm (pv 10)) jos_nil)))) rfl (by first | exact Or.inr rfl | exact Or.inl rfl)) (js_one (js_if (PW.pt (jw_or (jt_cmp (op_neD hr.units) cz_ne (jo_ex (je_fz (jf_callH h__law_told (hr.mono (by decide)) rfl (takes_of rfl rfl rfl rfl) rfl rfl (ja_ex (je_var (pv 9)) (ja_ex (je_var (pv 10)) ja_nil))))) (jo_ex je_str) (nomark _)) (jw_or1 (jt_cmp (OpR.or op_ne (op_neD hr.units)) cz_neS (jo_ex (je_callD cd_strY (pe_callTy (cr_strY rfl (u65 hr)) rfl T.b_str (by decide +kernel) (jos_cons (jo_nm (pv 10)) jos_nil)))) (jo_nm (pv 11)) (nomark _))))) (js_one (js_ret (jf_up je_bl))) js_nil)))) (fun _ => rfl)))))))) (fun _ => rfl)) (js_one (js_ret (jf_up je_bl))))
end
end G

namespace G
open PySem PySem.Spec PyProof.Rows L2 DV RZ Sem
def d_is_whole : He.DefD := ⟨("is_whole", none), "is_whole", "is_whole", defArgs (top 12), defBody (top 12), defScope (top 12), [], []⟩
def d_is_of : He.DefD := ⟨("is_of", none), "is_of", "is_of", defArgs (top 17), defBody (top 17), defScope (top 17), [], []⟩
def d_is_step : He.DefD := ⟨("is_step", none), "is_step", "is_step", defArgs (top 18), defBody (top 18), defScope (top 18), [], []⟩
def d_is_tie : He.DefD := ⟨("is_tie", none), "is_tie", "is_tie", defArgs (top 19), defBody (top 19), defScope (top 19), [], []⟩
def d_written : He.DefD := ⟨("written", none), "written", "written", defArgs (top 20), defBody (top 20), defScope (top 20), [], []⟩
def d_made_grid : He.DefD := ⟨("made_grid", none), "made_grid", "made_grid", defArgs (top 21), defBody (top 21), defScope (top 21), [], []⟩
def d__law_folded : He.DefD := ⟨("_law_folded", none), "_law_folded", "_law_folded", defArgs (top 23), defBody (top 23), defScope (top 23), [], []⟩
def d__law_begun : He.DefD := ⟨("_law_begun", none), "_law_begun", "_law_begun", defArgs (top 24), defBody (top 24), defScope (top 24), [], []⟩
def d__law_take : He.DefD := ⟨("_law_take", none), "_law_take", "_law_take", defArgs (top 25), defBody (top 25), defScope (top 25), [], []⟩
def d__law_wide : He.DefD := ⟨("_law_wide", none), "_law_wide", "_law_wide", defArgs (top 26), defBody (top 26), defScope (top 26), [], []⟩
def d__law_tie : He.DefD := ⟨("_law_tie", none), "_law_tie", "_law_tie", defArgs (top 27), defBody (top 27), defScope (top 27), [], []⟩
def d__law_turned : He.DefD := ⟨("_law_turned", none), "_law_turned", "_law_turned", defArgs (top 28), defBody (top 28), defScope (top 28), [], []⟩
def d__law_written : He.DefD := ⟨("_law_written", none), "_law_written", "_law_written", defArgs (top 29), defBody (top 29), defScope (top 29), [], []⟩
def d__law_known : He.DefD := ⟨("_law_known", none), "_law_known", "_law_known", defArgs (top 30), defBody (top 30), defScope (top 30), [], []⟩
def d__law_grid : He.DefD := ⟨("_law_grid", none), "_law_grid", "_law_grid", defArgs (top 31), defBody (top 31), defScope (top 31), [], []⟩
def d__law_told : He.DefD := ⟨("_law_told", none), "_law_told", "_law_told", defArgs (top 32), defBody (top 32), defScope (top 32), [], []⟩
def d__law_list : He.DefD := ⟨("_law_list", none), "_law_list", "_law_list", defArgs (top 33), defBody (top 33), defScope (top 33), [], []⟩
def d__law_odd : He.DefD := ⟨("_law_odd", none), "_law_odd", "_law_odd", defArgs (top 34), defBody (top 34), defScope (top 34), [], []⟩
def d__law_all_whole : He.DefD := ⟨("_law_all_whole", none), "_law_all_whole", "_law_all_whole", defArgs (top 35), defBody (top 35), defScope (top 35), [], []⟩
def d_law : He.DefD := ⟨("law", none), "law", "law", defArgs (top 36), defBody (top 36), defScope (top 36), [], []⟩
def fn : List He.DefD := ([d_is_whole, d_is_of, d_is_step, d_is_tie, d_written, d_made_grid, d__law_folded, d__law_begun, d__law_take, d__law_wide, d__law_tie, d__law_turned, d__law_written, d__law_known, d__law_grid, d__law_told, d__law_list, d__law_odd, d__law_all_whole, d_law] : List He.DefD)
def fa : List He.Fa := ([.glo "is_whole", .glo "is_of", .glo "is_step", .glo "is_tie", .glo "written", .glo "made_grid", .glo "_law_folded", .glo "_law_begun", .glo "_law_take", .glo "_law_wide", .glo "_law_tie", .glo "_law_turned", .glo "_law_written", .glo "_law_known", .glo "_law_grid", .glo "_law_told", .glo "_law_list", .glo "_law_odd", .glo "_law_all_whole", .glo "law"] : List He.Fa) ++ ([.free "ValueError", .free "abs", .free "all", .free "bool", .free "enumerate", .free "int", .free "isinstance", .free "len", .free "list", .free "max", .free "min", .free "range", .free "set", .free "sorted", .free "str", .free "tuple", .int "MOST_PLACES" 4, .int "MOST_TIES" 16, .int "MOST_WRITTEN" 50, .glo "NoGrid"] : List He.Fa) ++ ([.exc "NoGrid", .glo "ShellError", .exc "ShellError", .glo "NoBack", .glo "NoLine", .glo "NoPlace", .glo "NoRatio", .glo "NoText", .glo "NotTogether", .glo "TooFar", .glo "TooMany", .exm "NoGrid" "ShellError" true, .exm "ShellError" "ShellError" true] : List He.Fa)
abbrev R : PySem.W.OpenRow := PySem.W.OpenLaw.row PySem.Challenge.rw_farwide_k06_grids_made
def ex (K : PySem.W.Frag) : Bool := errB K "NoGrid" && (anyB K "NoGrid" [.own "NoBack", .own "NoLine", .own "NoPlace", .own "NoRatio", .own "NotTogether", .own "NoText"] false && (anyB K "NoGrid" [.own "TooFar", .own "TooMany"] false && (oneB K "NoGrid" (.own "NoGrid") true && (oneB K "NoGrid" (.blt "ValueError") true))))
abbrev hk : PySem.W.Hook := hookE 4 fa fn ex
def ob (s : PySem.W.SharedT) : He.AlD := obsE 4 fa fn ex (HandSHeadRun.getT s)
theorem ob_eq (s : PySem.W.SharedT) : ob s = hk.obs s.abs := obsE_eq (HandSHeadRun.getT_eq s)
def loose : List PySem.Str := (["ShellError", "NoRatio", "NoGrid", "NoPlace", "TooFar", "TooMany", "NotTogether", "NoText", "NoLine", "NoBack", "is_whole", "MOST_PLACES", "MOST_TIES", "MOST_WRITTEN", "is_of", "is_step", "is_tie", "written", "made_grid", "_law_folded"] : List PySem.Str) ++ (["_law_begun", "_law_take", "_law_wide", "_law_tie", "_law_turned", "_law_written", "_law_known", "_law_grid", "_law_told", "_law_list", "_law_odd", "_law_all_whole"] : List PySem.Str)
theorem run (w : World) : HandSHeadRun.RunEq R (PySem.W.view R.prog [36]) hk ob 4000 loose w := by
  intro os
  kernel_rfl
theorem facts {K : PySem.W.Frag} {h : Heap} {mg : Str → Option Value} (X : K.In h) (G : h.Ns mainGlobals mg) (c : He.SaysD fa fn K) (x : ex K = true) : Tt K mg where
  g_is_whole := He.glo_ok X G (c.fact 0 (f := .glo "is_whole") rfl)
  g_is_of := He.glo_ok X G (c.fact 1 (f := .glo "is_of") rfl)
  g_is_step := He.glo_ok X G (c.fact 2 (f := .glo "is_step") rfl)
  g_is_tie := He.glo_ok X G (c.fact 3 (f := .glo "is_tie") rfl)
  g_written := He.glo_ok X G (c.fact 4 (f := .glo "written") rfl)
  g_made_grid := He.glo_ok X G (c.fact 5 (f := .glo "made_grid") rfl)
  g__law_folded := He.glo_ok X G (c.fact 6 (f := .glo "_law_folded") rfl)
  g__law_begun := He.glo_ok X G (c.fact 7 (f := .glo "_law_begun") rfl)
  g__law_take := He.glo_ok X G (c.fact 8 (f := .glo "_law_take") rfl)
  g__law_wide := He.glo_ok X G (c.fact 9 (f := .glo "_law_wide") rfl)
  g__law_tie := He.glo_ok X G (c.fact 10 (f := .glo "_law_tie") rfl)
  g__law_turned := He.glo_ok X G (c.fact 11 (f := .glo "_law_turned") rfl)
  g__law_written := He.glo_ok X G (c.fact 12 (f := .glo "_law_written") rfl)
  g__law_known := He.glo_ok X G (c.fact 13 (f := .glo "_law_known") rfl)
  g__law_grid := He.glo_ok X G (c.fact 14 (f := .glo "_law_grid") rfl)
  g__law_told := He.glo_ok X G (c.fact 15 (f := .glo "_law_told") rfl)
  g__law_list := He.glo_ok X G (c.fact 16 (f := .glo "_law_list") rfl)
  g__law_odd := He.glo_ok X G (c.fact 17 (f := .glo "_law_odd") rfl)
  g__law_all_whole := He.glo_ok X G (c.fact 18 (f := .glo "_law_all_whole") rfl)
  g_law := He.glo_ok X G (c.fact 19 (f := .glo "law") rfl)
  b_ValueError := He.free_ok X G (c.fact 20 (f := .free "ValueError") rfl)
  b_abs := He.free_ok X G (c.fact 21 (f := .free "abs") rfl)
  b_all := He.free_ok X G (c.fact 22 (f := .free "all") rfl)
  b_bool := He.free_ok X G (c.fact 23 (f := .free "bool") rfl)
  b_enumerate := He.free_ok X G (c.fact 24 (f := .free "enumerate") rfl)
  b_int := He.free_ok X G (c.fact 25 (f := .free "int") rfl)
  b_isinstance := He.free_ok X G (c.fact 26 (f := .free "isinstance") rfl)
  b_len := He.free_ok X G (c.fact 27 (f := .free "len") rfl)
  b_list := He.free_ok X G (c.fact 28 (f := .free "list") rfl)
  b_max := He.free_ok X G (c.fact 29 (f := .free "max") rfl)
  b_min := He.free_ok X G (c.fact 30 (f := .free "min") rfl)
  b_range := He.free_ok X G (c.fact 31 (f := .free "range") rfl)
  b_set := He.free_ok X G (c.fact 32 (f := .free "set") rfl)
  b_sorted := He.free_ok X G (c.fact 33 (f := .free "sorted") rfl)
  b_str := He.free_ok X G (c.fact 34 (f := .free "str") rfl)
  b_tuple := He.free_ok X G (c.fact 35 (f := .free "tuple") rfl)
  c_MOST_PLACES := He.int_ok X G (c.fact 36 (f := .int "MOST_PLACES" 4) rfl)
  c_MOST_TIES := He.int_ok X G (c.fact 37 (f := .int "MOST_TIES" 16) rfl)
  c_MOST_WRITTEN := He.int_ok X G (c.fact 38 (f := .int "MOST_WRITTEN" 50) rfl)
  g_NoGrid := He.glo_ok X G (c.fact 39 (f := .glo "NoGrid") rfl)
  x_NoGrid := He.exc_ok (c.fact 40 (f := .exc "NoGrid") rfl)
  g_ShellError := He.glo_ok X G (c.fact 41 (f := .glo "ShellError") rfl)
  x_ShellError := He.exc_ok (c.fact 42 (f := .exc "ShellError") rfl)
  g_NoBack := He.glo_ok X G (c.fact 43 (f := .glo "NoBack") rfl)
  g_NoLine := He.glo_ok X G (c.fact 44 (f := .glo "NoLine") rfl)
  g_NoPlace := He.glo_ok X G (c.fact 45 (f := .glo "NoPlace") rfl)
  g_NoRatio := He.glo_ok X G (c.fact 46 (f := .glo "NoRatio") rfl)
  g_NoText := He.glo_ok X G (c.fact 47 (f := .glo "NoText") rfl)
  g_NotTogether := He.glo_ok X G (c.fact 48 (f := .glo "NotTogether") rfl)
  g_TooFar := He.glo_ok X G (c.fact 49 (f := .glo "TooFar") rfl)
  g_TooMany := He.glo_ok X G (c.fact 50 (f := .glo "TooMany") rfl)
  er_NoGrid := (Bool.and_eq_true_iff.mp x).1
  o_0 := anyB_ok ((Bool.and_eq_true_iff.mp (Bool.and_eq_true_iff.mp x).2).1)
  o_1 := anyB_ok ((Bool.and_eq_true_iff.mp (Bool.and_eq_true_iff.mp (Bool.and_eq_true_iff.mp x).2).2).1)
  o_2 := oneB_ok ((Bool.and_eq_true_iff.mp (Bool.and_eq_true_iff.mp (Bool.and_eq_true_iff.mp (Bool.and_eq_true_iff.mp x).2).2).2).1)
  o_3 := oneB_ok ((Bool.and_eq_true_iff.mp (Bool.and_eq_true_iff.mp (Bool.and_eq_true_iff.mp (Bool.and_eq_true_iff.mp x).2).2).2).2)
  sub := by
    intro p hp
    simp only [exmT, List.mem_cons, List.not_mem_nil, or_false] at hp
    rcases hp with rfl | rfl
    · exact of_decide_eq_true (c.fact 51 (f := .exm "NoGrid" "ShellError" true) rfl)
    · exact of_decide_eq_true (c.fact 52 (f := .exm "ShellError" "ShellError" true) rfl)
  d_is_whole := c.def_ 0 (d := d_is_whole) rfl
  d_is_of := c.def_ 1 (d := d_is_of) rfl
  d_is_step := c.def_ 2 (d := d_is_step) rfl
  d_is_tie := c.def_ 3 (d := d_is_tie) rfl
  d_written := c.def_ 4 (d := d_written) rfl
  d_made_grid := c.def_ 5 (d := d_made_grid) rfl
  d__law_folded := c.def_ 6 (d := d__law_folded) rfl
  d__law_begun := c.def_ 7 (d := d__law_begun) rfl
  d__law_take := c.def_ 8 (d := d__law_take) rfl
  d__law_wide := c.def_ 9 (d := d__law_wide) rfl
  d__law_tie := c.def_ 10 (d := d__law_tie) rfl
  d__law_turned := c.def_ 11 (d := d__law_turned) rfl
  d__law_written := c.def_ 12 (d := d__law_written) rfl
  d__law_known := c.def_ 13 (d := d__law_known) rfl
  d__law_grid := c.def_ 14 (d := d__law_grid) rfl
  d__law_told := c.def_ 15 (d := d__law_told) rfl
  d__law_list := c.def_ 16 (d := d__law_list) rfl
  d__law_odd := c.def_ 17 (d := d__law_odd) rfl
  d__law_all_whole := c.def_ 18 (d := d__law_all_whole) rfl
  d_law := c.def_ 19 (d := d_law) rfl
end G
open PySem PySem.W PySem.Calls PyProof.Rows
theorem PySem.Challenge.cw_farwide_k06_grids_made_holds : PySem.Challenge.rw_farwide_k06_grids_made.Holds := by
  w_on; o_law
  refine HandSHeadRun.head_any (r := OpenLaw.row PySem.Challenge.rw_farwide_k06_grids_made) (q := view (OpenLaw.row PySem.Challenge.rw_farwide_k06_grids_made).prog [36]) (H := G.hk) (ob := G.ob) (M := 4000) (loose := G.loose) (d := HandSHeadRun.topDef (OpenLaw.row PySem.Challenge.rw_farwide_k06_grids_made).prog 36) (kwd := []) G.ob_eq
    (by kernel_rfl) (fun s => by kernel_rfl) G.run (by kernel_rfl) (by kernel_rfl) (by kernel_rfl) (by rfl) (by first | assumption | decide +kernel) (by decide +kernel) ⟨rfl, rfl, rfl, rfl, rfl, by decide +kernel⟩ ?hw ?hc
  case hw => w_witness2
  case hc =>
    refine DV.law_endC (l := PySem.Challenge.rw_farwide_k06_grids_made) (n := 63) (x := "script") (F := Sem.f_law) rfl (by decide) (by kernel_rfl) ?F Maths.holds
    intro w mg fa h Y Gh hmg0
    obtain ⟨K, ⟨KX, nl⟩, c, x⟩ := Y
    have T := G.facts KX Gh c x
    obtain ⟨fd, F⟩ := T.d_law
    have hmg : mg ("law" : PySem.Str) = some (.ref fa) := by
      have e : (HandSHeadRun.topDef (OpenLaw.row PySem.Challenge.rw_farwide_k06_grids_made).prog 36).name = ("law" : PySem.Str) := by kernel_rfl
      rw [← e]
      exact hmg0
    have e := hmg.symm.trans T.g_law
    cases e
    have b := L2.FunD.bindsA (ps := ["script"]) F fun _ _ _ _ _ _ us hl => match us, hl with | [_], _ => rfl
    exact ⟨K, fd, KX, nl, fun s v => b s [v] rfl, fun base _ _ => G.ok_law T F⟩

