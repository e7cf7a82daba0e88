import PyProof.Rows.All
import Wide.All
import OpenK.AllK
import Wide.FinOn
import HandS.ForMost
import HandS.ForExc
import HandS.HeadHook2
import HandS.Wide
import HandS.TupAny
import HandS.TupMul
import HandS.Deep
import HandS.Style
import HandS.CallSlots
import HandS.WordsExc
import HandS.Defaults
import HandS.HeadEnd
import HandS.Iter
import HandS.Zip
import HandS.Comp
import HandS.IsInst
import HandS.SortInts
import HandS.Head0
import HandS.Head1
import HandS.Head2
import HandS.HeadHook1
import HandS.More
import HandS.Dict
import HandS.Small
import HandS.TupLen
import HandS.WordsDict
import KE.SortData
import HandS.Conv
import KE.KDictSum
import HandS.TryMany
import HandS.TupSets
import HandS.TryOnly
import KE.DataMinMax
import HandS.ExcIs
import HandS.ExcValue
import PyProof.ReprRoads
import PyProof.Rows.TupDisplay
import HandS.DictTup
import HandS.Codes
import KE.DataCmp
import KE.SortLaws
import HandS.WideBits
import PyProof.CallStr
import HandS.RaiseMore
import KE.KDictPairs
import KE.KDictCopyH
import PySem.Challenge.RW_farwide_k20_whole_far_from_one_another
set_option Elab.async false
set_option linter.all false
set_option maxRecDepth 100000
set_option maxHeartbeats 0
/-! DV0: pure data values, how they stand in the abstract heap, environments with ownership. -/
namespace DV
open PySem PySem.Spec PyProof.Rows L2

/-- a pure value -/
inductive D where
  | non | bl (b : Bool) | int (i : Int) | str (x : Str)
  | tup (ds : List D) | lst (ds : List D)
  | dK (kvs : List (Key × D)) | dT (kvs : List (List Key × D))
instance : Inhabited D := ⟨.non⟩

/-- what G tells is told by H -/
structure Sub (G H : Hp) : Prop where
  rd : ∀ a u, Rd G a u → Rd H a u
  tp : ∀ a xs, G a = some (.tup xs) → H a = some (.tup xs)
  fz : ∀ a o u, G a = some (.frz o u) → H a = some (.frz o u)
theorem Sub.refl (G : Hp) : Sub G G := ⟨fun _ _ h => h, fun _ _ h => h, fun _ _ _ h => h⟩
theorem Sub.trans {A B C : Hp} (x : Sub A B) (y : Sub B C) : Sub A C := ⟨fun a u h => y.rd a u (x.rd a u h), fun a u h => y.tp a u (x.tp a u h), fun a o u h => y.fz a o u (x.fz a o u h)⟩
/-- exact agreement -/
def Le (G H : Hp) : Prop := ∀ a o, G a = some o → H a = some o
theorem Le.sub {G H : Hp} (h : Le G H) : Sub G H := ⟨fun a u r => r.elim (fun e => .inl (h a _ e)) (fun ⟨o, e⟩ => .inr ⟨o, h a _ e⟩), fun a xs e => h a _ e, fun a o u e => h a _ e⟩
theorem Le.refl (G : Hp) : Le G G := fun _ _ h => h
theorem Le.trans {A B C : Hp} (x : Le A B) (y : Le B C) : Le A C := fun a o h => y a o (x a o h)

mutual
/-- v stands for d, read off G -/
inductive Rep (G : Hp) : V → D → Prop
  | non : Rep G .non .non
  | bl (b : Bool) : Rep G (.bl b) (.bl b)
  | int (i : Int) : Rep G (.int i) (.int i)
  | str (x : Str) : Rep G (.str x) (.str x)
  | tup {a : Addr} {xs : List V} {ds : List D} : G a = some (.tup xs) → RepL G xs ds → Rep G (.ref a) (.tup ds)
  | lst {a : Addr} {xs : List V} {ds : List D} : Rd G a (.lst xs) → RepL G xs ds → Rep G (.ref a) (.lst ds)
  | dK {a : Addr} {vs : List (Key × V)} {kvs : List (Key × D)} : Rd G a (.dK vs) → vs.map (·.1) = kvs.map (·.1) → RepL G (vs.map (·.2)) (kvs.map (·.2)) → Rep G (.ref a) (.dK kvs)
  | dT {a : Addr} {vs : List (List Key × V)} {kvs : List (List Key × D)} : Rd G a (.dT vs) → vs.map (·.1) = kvs.map (·.1) → RepL G (vs.map (·.2)) (kvs.map (·.2)) → Rep G (.ref a) (.dT kvs)
inductive RepL (G : Hp) : List V → List D → Prop
  | nil : RepL G [] []
  | cons {v : V} {vs : List V} {d : D} {ds : List D} : Rep G v d → RepL G vs ds → RepL G (v :: vs) (d :: ds)
end

mutual
theorem Rep.mono {G G' : Hp} (s : Sub G G') : ∀ {v : V} {d : D}, Rep G v d → Rep G' v d
  | _, _, .non => .non
  | _, _, .bl b => .bl b
  | _, _, .int i => .int i
  | _, _, .str x => .str x
  | _, _, .tup h hl => .tup (s.tp _ _ h) (RepL.mono s hl)
  | _, _, .lst h hl => .lst (s.rd _ _ h) (RepL.mono s hl)
  | _, _, .dK h e hl => .dK (s.rd _ _ h) e (RepL.mono s hl)
  | _, _, .dT h e hl => .dT (s.rd _ _ h) e (RepL.mono s hl)
theorem RepL.mono {G G' : Hp} (s : Sub G G') : ∀ {vs : List V} {ds : List D}, RepL G vs ds → RepL G' vs ds
  | _, _, .nil => .nil
  | _, _, .cons h t => .cons (Rep.mono s h) (RepL.mono s t)
end
theorem RepL.length {G : Hp} : ∀ {vs : List V} {ds : List D}, RepL G vs ds → vs.length = ds.length
  | _, _, .nil => rfl
  | _, _, .cons _ t => by rw [List.length_cons, List.length_cons, RepL.length t]
theorem RepL.get {G : Hp} : ∀ {vs : List V} {ds : List D} {i : Nat} {d : D}, RepL G vs ds → ds[i]? = some d → ∃ v, vs[i]? = some v ∧ Rep G v d
  | _, _, _, _, .nil, e => by simp at e
  | _, _, 0, _, .cons r _, e => by simp at e; subst e; exact ⟨_, rfl, r⟩
  | _, _, i + 1, d, .cons _ t, e => by
    obtain ⟨v, h1, h2⟩ := RepL.get (i := i) (d := d) t (by simpa using e)
    exact ⟨v, by simpa using h1, h2⟩
theorem RepL.getV {G : Hp} : ∀ {vs : List V} {ds : List D} {i : Nat} {v : V}, RepL G vs ds → vs[i]? = some v → ∃ d, ds[i]? = some d ∧ Rep G v d
  | _, _, _, _, .nil, e => by simp at e
  | _, _, 0, _, .cons r _, e => by simp at e; subst e; exact ⟨_, rfl, r⟩
  | _, _, i + 1, d, .cons _ t, e => by
    obtain ⟨v, h1, h2⟩ := RepL.getV (i := i) (v := d) t (by simpa using e)
    exact ⟨v, by simpa using h1, h2⟩
theorem RepL.append {G : Hp} : ∀ {vs ws : List V} {ds es : List D}, RepL G vs ds → RepL G ws es → RepL G (vs ++ ws) (ds ++ es)
  | _, _, _, _, .nil, h => h
  | _, _, _, _, .cons r t, h => .cons r (RepL.append t h)
theorem RepL.take {G : Hp} : ∀ {vs : List V} {ds : List D} (n : Nat), RepL G vs ds → RepL G (vs.take n) (ds.take n)
  | _, _, 0, _ => .nil
  | _, _, _ + 1, .nil => .nil
  | _, _, n + 1, .cons r t => .cons r (RepL.take n t)
theorem RepL.drop {G : Hp} : ∀ {vs : List V} {ds : List D} (n : Nat), RepL G vs ds → RepL G (vs.drop n) (ds.drop n)
  | _, _, 0, r => r
  | _, _, _ + 1, .nil => .nil
  | _, _, n + 1, .cons _ t => RepL.drop n t
theorem RepL.set {G : Hp} {v : V} {d : D} (r : Rep G v d) : ∀ {vs : List V} {ds : List D} (i : Nat), RepL G vs ds → RepL G (vs.set i v) (ds.set i d)
  | _, _, _, .nil => .nil
  | _, _, 0, .cons _ t => .cons r t
  | _, _, i + 1, .cons q t => .cons q (RepL.set r i t)
theorem RepL.reverse {G : Hp} {vs : List V} {ds : List D} (h : RepL G vs ds) : RepL G vs.reverse ds.reverse := by
  induction vs generalizing ds with
  | nil => cases h; exact .nil
  | cons v vs ih =>
    cases h with
    | cons r t => rw [List.reverse_cons, List.reverse_cons]; exact (ih t).append (.cons r .nil)

/-! ### owned values: at most k levels of containers are held by this one place alone; F: their addresses -/
inductive OwnL (R : V → D → List Addr → Prop) : List V → List D → List Addr → Prop
  | nil : OwnL R [] [] []
  | cons {v : V} {d : D} {F : List Addr} {vs : List V} {ds : List D} {Fs : List Addr} : R v d F → OwnL R vs ds Fs → OwnL R (v :: vs) (d :: ds) (F ++ Fs)
def Own (G H : Hp) : Nat → V → D → List Addr → Prop
  | 0, v, d, F => Rep G v d ∧ F = []
  | k + 1, v, .lst ds, F => ∃ a vs Fs, v = .ref a ∧ H a = some (.lst vs) ∧ F = a :: Fs ∧ OwnL (Own G H k) vs ds Fs
  | k + 1, v, .dK kvs, F => ∃ a vs Fs, v = .ref a ∧ H a = some (.dK vs) ∧ F = a :: Fs ∧ vs.map (·.1) = kvs.map (·.1) ∧ OwnL (Own G H k) (vs.map (·.2)) (kvs.map (·.2)) Fs
  | k + 1, v, .dT kvs, F => ∃ a vs Fs, v = .ref a ∧ H a = some (.dT vs) ∧ F = a :: Fs ∧ vs.map (·.1) = kvs.map (·.1) ∧ OwnL (Own G H k) (vs.map (·.2)) (kvs.map (·.2)) Fs
  | k + 1, v, .tup ds, F => ∃ a vs, v = .ref a ∧ G a = some (.tup vs) ∧ OwnL (Own G H k) vs ds F
  | _ + 1, v, d, F => Rep G v d ∧ F = []

theorem OwnL.imp {R S : V → D → List Addr → Prop} (h : ∀ v d F, R v d F → S v d F) : ∀ {vs : List V} {ds : List D} {F : List Addr}, OwnL R vs ds F → OwnL S vs ds F
  | _, _, _, .nil => .nil
  | _, _, _, .cons r t => .cons (h _ _ _ r) (OwnL.imp h t)
/-- with the knowledge of where each part lies -/
theorem OwnL.impF {R S : V → D → List Addr → Prop} : ∀ {vs : List V} {ds : List D} {F : List Addr}, OwnL R vs ds F → (∀ v d F', R v d F' → (∀ a ∈ F', a ∈ F) → S v d F') → OwnL S vs ds F
  | _, _, _, .nil, _ => .nil
  | _, _, _, .cons r t, h => .cons (h _ _ _ r fun a ha => List.mem_append_left _ ha) (OwnL.impF t fun v d F' q z => h v d F' q fun a ha => List.mem_append_right _ (z a ha))
theorem OwnL.length {R : V → D → List Addr → Prop} : ∀ {vs : List V} {ds : List D} {F : List Addr}, OwnL R vs ds F → vs.length = ds.length
  | _, _, _, .nil => rfl
  | _, _, _, .cons _ t => by rw [List.length_cons, List.length_cons, OwnL.length t]
theorem OwnL.append {R : V → D → List Addr → Prop} : ∀ {vs ws : List V} {ds es : List D} {F F' : List Addr}, OwnL R vs ds F → OwnL R ws es F' → OwnL R (vs ++ ws) (ds ++ es) (F ++ F')
  | _, _, _, _, _, _, .nil, h => h
  | _, _, _, _, _, _, .cons r t, h => by rw [List.append_assoc]; exact .cons r (OwnL.append t h)
theorem OwnL.repL {G : Hp} {R : V → D → List Addr → Prop} (h : ∀ v d F, R v d F → Rep G v d) : ∀ {vs : List V} {ds : List D} {F : List Addr}, OwnL R vs ds F → RepL G vs ds
  | _, _, _, .nil => .nil
  | _, _, _, .cons r t => .cons (h _ _ _ r) (OwnL.repL h t)
/-- frozen parts -/
theorem OwnL.of0 {G H : Hp} : ∀ {vs : List V} {ds : List D}, RepL G vs ds → OwnL (Own G H 0) vs ds []
  | _, _, .nil => .nil
  | _, _, .cons r t => by
    have := OwnL.cons (R := Own G H 0) (F := []) (Fs := []) ⟨r, rfl⟩ (OwnL.of0 t)
    simpa using this
theorem OwnL.to0 {G H : Hp} : ∀ {vs : List V} {ds : List D} {F : List Addr}, OwnL (Own G H 0) vs ds F → RepL G vs ds ∧ F = []
  | _, _, _, .nil => ⟨.nil, rfl⟩
  | _, _, _, .cons r t => by
    obtain ⟨h, e⟩ := OwnL.to0 t
    exact ⟨.cons r.1 h, by rw [r.2, e]; rfl⟩

theorem Own.mono {G G' H H' : Hp} (s : Sub G G') : ∀ (k : Nat) {v : V} {d : D} {F : List Addr}, Own G H k v d F → (∀ a ∈ F, H' a = H a) → Own G' H' k v d F
  | 0, v, d, F, o, _ => ⟨o.1.mono s, o.2⟩
  | k + 1, v, .lst ds, F, ⟨a, vs, Fs, e1, e2, e3, e4⟩, h => by
    subst e3
    exact ⟨a, vs, Fs, e1, (h a List.mem_cons_self).trans e2, rfl, e4.impF fun v d F' r z => Own.mono s k r fun b hb => h b (List.mem_cons_of_mem _ (z b hb))⟩
  | k + 1, v, .dK ds, F, ⟨a, vs, Fs, e1, e2, e3, e5, e4⟩, h => by
    subst e3
    exact ⟨a, vs, Fs, e1, (h a List.mem_cons_self).trans e2, rfl, e5, e4.impF fun v d F' r z => Own.mono s k r fun b hb => h b (List.mem_cons_of_mem _ (z b hb))⟩
  | k + 1, v, .dT ds, F, ⟨a, vs, Fs, e1, e2, e3, e5, e4⟩, h => by
    subst e3
    exact ⟨a, vs, Fs, e1, (h a List.mem_cons_self).trans e2, rfl, e5, e4.impF fun v d F' r z => Own.mono s k r fun b hb => h b (List.mem_cons_of_mem _ (z b hb))⟩
  | k + 1, v, .tup ds, F, ⟨a, vs, e1, e2, e4⟩, h => ⟨a, vs, e1, s.tp _ _ e2, e4.impF fun v d F' r z => Own.mono s k r fun b hb => h b (z b hb)⟩
  | _ + 1, _, .non, _, o, _ => ⟨o.1.mono s, o.2⟩
  | _ + 1, _, .bl _, _, o, _ => ⟨o.1.mono s, o.2⟩
  | _ + 1, _, .int _, _, o, _ => ⟨o.1.mono s, o.2⟩
  | _ + 1, _, .str _, _, o, _ => ⟨o.1.mono s, o.2⟩
/-- read in any heap that tells G and has the owned objects -/
theorem Own.rep {G H M : Hp} (s : Sub G M) : ∀ (k : Nat) {v : V} {d : D} {F : List Addr}, Own G H k v d F → (∀ a ∈ F, M a = H a) → Rep M v d
  | 0, v, d, F, o, _ => o.1.mono s
  | k + 1, v, .lst ds, F, ⟨a, vs, Fs, e1, e2, e3, e4⟩, h => by
    subst e3; subst e1
    exact .lst (.inl ((h a List.mem_cons_self).trans e2)) ((e4.impF (S := fun v d _ => Rep M v d) fun v d F' r z => Own.rep s k r fun b hb => h b (List.mem_cons_of_mem _ (z b hb))).repL fun _ _ _ q => q)
  | k + 1, v, .dK ds, F, ⟨a, vs, Fs, e1, e2, e3, e5, e4⟩, h => by
    subst e3; subst e1
    exact .dK (.inl ((h a List.mem_cons_self).trans e2)) e5 ((e4.impF (S := fun v d _ => Rep M v d) fun v d F' r z => Own.rep s k r fun b hb => h b (List.mem_cons_of_mem _ (z b hb))).repL fun _ _ _ q => q)
  | k + 1, v, .dT ds, F, ⟨a, vs, Fs, e1, e2, e3, e5, e4⟩, h => by
    subst e3; subst e1
    exact .dT (.inl ((h a List.mem_cons_self).trans e2)) e5 ((e4.impF (S := fun v d _ => Rep M v d) fun v d F' r z => Own.rep s k r fun b hb => h b (List.mem_cons_of_mem _ (z b hb))).repL fun _ _ _ q => q)
  | k + 1, v, .tup ds, F, ⟨a, vs, e1, e2, e4⟩, h => by
    subst e1
    exact .tup (s.tp _ _ e2) ((e4.impF (S := fun v d _ => Rep M v d) fun v d F' r z => Own.rep s k r fun b hb => h b (z b hb)).repL fun _ _ _ q => q)
  | _ + 1, _, .non, _, o, _ => o.1.mono s
  | _ + 1, _, .bl _, _, o, _ => o.1.mono s
  | _ + 1, _, .int _, _, o, _ => o.1.mono s
  | _ + 1, _, .str _, _, o, _ => o.1.mono s
theorem OwnL.mem {R : V → D → List Addr → Prop} {P : Addr → Prop} (h : ∀ v d F, R v d F → ∀ a ∈ F, P a) : ∀ {vs : List V} {ds : List D} {F : List Addr}, OwnL R vs ds F → ∀ a ∈ F, P a
  | _, _, _, .nil, a, ha => by simp at ha
  | _, _, _, .cons r t, a, ha => (List.mem_append.mp ha).elim (h _ _ _ r a) (OwnL.mem h t a)
/-- what is owned stands in the heap, and is no tuple, not locked -/
theorem Own.mem {G H : Hp} : ∀ (k : Nat) {v : V} {d : D} {F : List Addr}, Own G H k v d F → ∀ a ∈ F, ∃ u, H a = some u ∧ Mut (some u)
  | 0, _, _, _, o, a, ha => by rw [o.2] at ha; simp at ha
  | k + 1, v, .lst ds, F, ⟨b, vs, Fs, e1, e2, e3, e4⟩, a, ha => by
    subst e3
    rcases List.mem_cons.mp ha with e | ha
    · subst e; exact ⟨_, e2, trivial⟩
    · exact e4.mem (fun v d F r => Own.mem k r) a ha
  | k + 1, v, .dK ds, F, ⟨b, vs, Fs, e1, e2, e3, e5, e4⟩, a, ha => by
    subst e3
    rcases List.mem_cons.mp ha with e | ha
    · subst e; exact ⟨_, e2, trivial⟩
    · exact e4.mem (fun v d F r => Own.mem k r) a ha
  | k + 1, v, .dT ds, F, ⟨b, vs, Fs, e1, e2, e3, e5, e4⟩, a, ha => by
    subst e3
    rcases List.mem_cons.mp ha with e | ha
    · subst e; exact ⟨_, e2, trivial⟩
    · exact e4.mem (fun v d F r => Own.mem k r) a ha
  | k + 1, v, .tup ds, F, ⟨b, vs, e1, e2, e4⟩, a, ha => e4.mem (fun v d F r => Own.mem k r) a ha
  | _ + 1, _, .non, _, o, a, ha => by rw [o.2] at ha; simp at ha
  | _ + 1, _, .bl _, _, o, a, ha => by rw [o.2] at ha; simp at ha
  | _ + 1, _, .int _, _, o, a, ha => by rw [o.2] at ha; simp at ha
  | _ + 1, _, .str _, _, o, a, ha => by rw [o.2] at ha; simp at ha
end DV

/-! DV1: environments of slots, outcomes, the relation of an environment to a frame's slots and the heap, how a step may change the heap. -/
namespace DV
open PySem PySem.Spec PyProof.Rows L2

/-- a slot: nothing known; or a value, owned k deep; l: it is lent by the caller (never stored anew) -/
inductive Slot where
  | no
  | val (k : Nat) (l : Bool) (d : D)
instance : Inhabited Slot := ⟨.no⟩
abbrev Env := List Slot
abbrev Sig := L2.St
def Slot.isLent : Slot → Bool
  | .val _ l _ => l
  | .no => false
inductive Out (α : Type) where
  | ok (a : α) (η : Env)
  | exc (c : Str) (η : Env)
  | bad
def Out.bind {α β : Type} : Out α → (α → Env → Out β) → Out β
  | .ok a η, f => f a η
  | .exc c η, _ => .exc c η
  | .bad, _ => .bad
@[simp] theorem bind_ok {α β : Type} (a : α) (η : Env) (f : α → Env → Out β) : (Out.ok a η).bind f = f a η := rfl
@[simp] theorem bind_exc {α β : Type} (c : Str) (η : Env) (f : α → Env → Out β) : (Out.exc c η : Out α).bind f = .exc c η := rfl
@[simp] theorem bind_bad {α β : Type} (f : α → Env → Out β) : (Out.bad : Out α).bind f = .bad := rfl

abbrev Feet := Nat → List Addr
def foot (Fs : Feet) (a : Addr) : Prop := ∃ i, a ∈ Fs i
/-- how many slots there are; the slots that are lent, with what they hold -/
abbrev Lents := Nat × List (Nat × V)

structure Rel (L : Lents) (G : Hp) (η : Env) (σ : Sig) (H : Hp) (Fs : Feet) : Prop where
  sub : Sub G H
  len : η.length = σ.length
  wid : η.length = L.1
  slot : ∀ i k l d, η[i]? = some (.val k l d) → ∃ v, σ[i]? = some (some v) ∧ Own G H k v d (Fs i) ∧ (l = true → (i, v) ∈ L.2)
  emp : ∀ i, (∀ k l d, η[i]? ≠ some (.val k l d)) → Fs i = []
  nod : ∀ i, (Fs i).Nodup
  dis : ∀ i a, a ∈ Fs i → G a = none
  sep : ∀ i j a, a ∈ Fs i → a ∈ Fs j → i = j
  lnt : ∀ p ∈ L.2, ∃ k d, η[p.1]? = some (.val k true d) ∧ σ[p.1]? = some (some p.2)

/-- what may come to be known: new objects, and tuples -/
def Lrn : Option HO → Prop
  | none => True
  | some (.tup _) => True
  | _ => False
theorem Lrn.none {o : Option HO} (h : o = none) : Lrn o := by rw [h]; trivial
theorem Lrn.mut {o : Option HO} (h : Lrn o) {u : HO} (e : o = some u) (m : Mut (some u)) : False := by
  subst e
  cases u <;> first | exact h | exact m
/-- how a step may change what is known and the heap -/
structure Ext (G H : Hp) (Fs : Feet) (G' H' : Hp) (Fs' : Feet) : Prop where
  g : Le G G'
  h : ∀ a o, H a = some o → ¬ foot Fs a → H' a = some o
  n : ∀ a, G' a ≠ none → G a ≠ none ∨ foot Fs a ∨ Lrn (H a)
  f : ∀ a, foot Fs' a → foot Fs a ∨ H a = none
  d : ∀ a, H a ≠ none → H' a ≠ none
theorem Ext.refl {G H : Hp} {Fs : Feet} : Ext G H Fs G H Fs := ⟨Le.refl G, fun _ _ h _ => h, fun _ h => .inl h, fun _ h => .inl h, fun _ h => h⟩
theorem Ext.trans {G H G1 H1 G2 H2 : Hp} {Fs Fs1 Fs2 : Feet} (x : Ext G H Fs G1 H1 Fs1) (y : Ext G1 H1 Fs1 G2 H2 Fs2) : Ext G H Fs G2 H2 Fs2 where
  g := x.g.trans y.g
  h := fun a o e n => by
    refine y.h a o (x.h a o e n) fun z => ?_
    rcases x.f a z with q | q
    · exact n q
    · rw [q] at e; cases e
  n := fun a e => by
    rcases y.n a e with q | q | q
    · exact x.n a q
    · rcases x.f a q with r | r
      · exact .inr (.inl r)
      · exact .inr (.inr (.none r))
    · by_cases nf : foot Fs a
      · exact .inr (.inl nf)
      · refine .inr (.inr ?_)
        cases z : H a with
        | none => trivial
        | some o => rw [x.h a o z nf] at q; exact q
  f := fun a e => by
    rcases y.f a e with q | q
    · exact x.f a q
    · refine .inr ?_
      cases z : H a with
      | none => rfl
      | some o => exact absurd q (x.d a (by rw [z]; simp))
  d := fun a e => y.d a (x.d a e)

section
variable {L : Lents} {G H G' H' : Hp} {η : Env} {σ : Sig} {Fs Fs' : Feet}
/-- a value that is held apart: owned by nobody else -/
structure Apart (G H : Hp) (Fs : Feet) (k : Nat) (v : V) (d : D) (F : List Addr) : Prop where
  own : Own G H k v d F
  nod : F.Nodup
  dis : ∀ a ∈ F, G a = none
  sep : ∀ a ∈ F, ¬ foot Fs a
theorem Apart.zero {v : V} {d : D} (r : Rep G v d) : Apart G H Fs 0 v d [] := ⟨⟨r, rfl⟩, List.nodup_nil, fun _ h => by simp at h, fun _ h => by simp at h⟩
theorem Apart.there {k : Nat} {v : V} {d : D} {F : List Addr} (x : Apart G H Fs k v d F) : ∀ a ∈ F, H a ≠ none := fun a ha e => by
  obtain ⟨u, h, _⟩ := x.own.mem k a ha
  rw [e] at h; cases h
/-- it stays through a step of the rest -/
theorem Apart.ext {k : Nat} {v : V} {d : D} {F : List Addr} (x : Apart G H Fs k v d F) (e : Ext G H Fs G' H' Fs') : Apart G' H' Fs' k v d F := by
  refine ⟨x.own.mono e.g.sub k fun a ha => ?_, x.nod, fun a ha => ?_, fun a ha z => ?_⟩
  · obtain ⟨u, h, _⟩ := x.own.mem k a ha
    rw [h, e.h a u h (x.sep a ha)]
  · cases q : G' a with
    | none => rfl
    | some o =>
      rcases e.n a (by rw [q]; simp) with z | z | z
      · exact absurd (x.dis a ha) z
      · exact absurd z (x.sep a ha)
      · obtain ⟨u, h, m⟩ := x.own.mem k a ha; exact (z.mut h m).elim
  · rcases e.f a z with q | q
    · exact x.sep a ha q
    · exact x.there a ha q

/-- what stood in H frozen on top of G -/
def frz (G H : Hp) (F : List Addr) : Hp := fun b => if b ∈ F then H b else G b
theorem frz_in {F : List Addr} {b : Addr} (h : b ∈ F) : frz G H F b = H b := if_pos h
theorem frz_out {F : List Addr} {b : Addr} (h : b ∉ F) : frz G H F b = G b := if_neg h
theorem frz_le {F : List Addr} (dis : ∀ a ∈ F, G a = none) : Le G (frz G H F) := fun a o e => by
  rw [frz_out fun h => by rw [dis a h] at e; cases e]; exact e
theorem frz_sub {F : List Addr} (s : Sub G H) : Sub (frz G H F) H where
  rd := fun a u r => by
    by_cases h : a ∈ F
    · rcases r with e | ⟨o, e⟩
      · rw [frz_in h] at e; exact .inl e
      · rw [frz_in h] at e; exact .inr ⟨o, e⟩
    · rcases r with e | ⟨o, e⟩
      · rw [frz_out h] at e; exact s.rd a u (.inl e)
      · rw [frz_out h] at e; exact s.rd a u (.inr ⟨o, e⟩)
  tp := fun a xs e => by
    by_cases h : a ∈ F
    · rw [frz_in h] at e; exact e
    · rw [frz_out h] at e; exact s.tp a xs e
  fz := fun a o u e => by
    by_cases h : a ∈ F
    · rw [frz_in h] at e; exact e
    · rw [frz_out h] at e; exact s.fz a o u e
/-- G grown beside all feet -/
theorem Rel.grow {G2 : Hp} (R : Rel L G η σ H Fs) (g : Le G G2) (s : Sub G2 H) (d : ∀ i a, a ∈ Fs i → G2 a = none) : Rel L G2 η σ H Fs where
  sub := s
  len := R.len
  wid := R.wid
  slot := fun i k l x e => let ⟨v, h1, h2, h3⟩ := R.slot i k l x e; ⟨v, h1, h2.mono g.sub k fun _ _ => rfl, h3⟩
  emp := R.emp
  nod := R.nod
  dis := d
  sep := R.sep
  lnt := R.lnt
/-- a value apart is frozen -/
theorem Rel.freezeApart {k : Nat} {v : V} {d : D} {F : List Addr} (R : Rel L G η σ H Fs) (x : Apart G H Fs k v d F) : Rel L (frz G H F) η σ H Fs ∧ Rep (frz G H F) v d := by
  refine ⟨R.grow (frz_le x.dis) (frz_sub R.sub) fun i a h => ?_, ?_⟩
  · rw [frz_out fun z => x.sep a z ⟨i, h⟩]; exact R.dis i a h
  · exact x.own.rep (frz_le x.dis).sub k fun a ha => frz_in ha
/-- what is owned stands there -/
theorem Rel.mem (R : Rel L G η σ H Fs) {i : Nat} {a : Addr} (ha : a ∈ Fs i) : ∃ u, H a = some u ∧ Mut (some u) := by
  cases e : η[i]? with
  | none => rw [R.emp i fun k l d y => by rw [e] at y; cases y] at ha; simp at ha
  | some sl =>
    cases sl with
    | no => rw [R.emp i fun k l d y => by rw [e] at y; cases y] at ha; simp at ha
    | val k l d =>
      obtain ⟨v, _, h2, _⟩ := R.slot i k l d e
      exact h2.mem k a ha
/-- every value of the environment is read in the heap -/
theorem Rel.rep (R : Rel L G η σ H Fs) {i k : Nat} {l : Bool} {d : D} (e : η[i]? = some (.val k l d)) : ∃ v, σ[i]? = some (some v) ∧ Rep H v d :=
  let ⟨v, h1, h2, _⟩ := R.slot i k l d e
  ⟨v, h1, h2.rep R.sub k fun _ _ => rfl⟩

/-- the feet with one slot's changed -/
def setF (Fs : Feet) (i : Nat) (F : List Addr) : Feet := fun j => if j = i then F else Fs j
theorem setF_same {i : Nat} {F : List Addr} : setF Fs i F i = F := if_pos rfl
theorem setF_ne {i j : Nat} {F : List Addr} (h : j ≠ i) : setF Fs i F j = Fs j := if_neg h
theorem foot_setF {i : Nat} {F : List Addr} {a : Addr} (h : foot (setF Fs i F) a) : a ∈ F ∨ ∃ j, j ≠ i ∧ a ∈ Fs j := by
  obtain ⟨j, h⟩ := h
  by_cases e : j = i
  · subst e; rw [setF_same] at h; exact .inl h
  · rw [setF_ne e] at h; exact .inr ⟨j, e, h⟩
theorem get_set_self {α : Type} {l : List α} {i : Nat} {x : α} (h : i < l.length) : (l.set i x)[i]? = some x := List.getElem?_set_self h
theorem get_set_ne {α : Type} {l : List α} {i j : Nat} {x : α} (h : j ≠ i) : (l.set i x)[j]? = l[j]? := List.getElem?_set_ne (Ne.symm h)
/-- slot i, not lent, is dropped: its value stands apart -/
theorem Rel.drop (R : Rel L G η σ H Fs) {i k : Nat} {d : D} (e : η[i]? = some (.val k false d)) :
    ∃ v, σ[i]? = some (some v) ∧ Rel L G (η.set i .no) σ H (setF Fs i []) ∧ Apart G H (setF Fs i []) k v d (Fs i) := by
  obtain ⟨v, h1, h2, _⟩ := R.slot i k false d e
  have hi : i < η.length := (List.getElem?_eq_some_iff.mp e).1
  refine ⟨v, h1, ⟨R.sub, by rw [List.length_set]; exact R.len, by rw [List.length_set]; exact R.wid, fun j k' l' d' q => ?_, fun j q => ?_, fun j => ?_, fun j a h => ?_, fun j j' a h h' => ?_, fun p hp => ?_⟩, h2, R.nod i, R.dis i, fun a ha z => ?_⟩
  · by_cases hj : j = i
    · subst hj; rw [get_set_self hi] at q; cases q
    · rw [get_set_ne hj] at q; rw [setF_ne hj]; exact R.slot j k' l' d' q
  · by_cases hj : j = i
    · subst hj; exact setF_same
    · rw [setF_ne hj]; exact R.emp j fun k l d z => q k l d (by rw [get_set_ne hj]; exact z)
  · by_cases hj : j = i
    · subst hj; rw [setF_same]; exact List.nodup_nil
    · rw [setF_ne hj]; exact R.nod j
  · by_cases hj : j = i
    · subst hj; rw [setF_same] at h; simp at h
    · rw [setF_ne hj] at h; exact R.dis j a h
  · by_cases hj : j = i
    · subst hj; rw [setF_same] at h; simp at h
    · by_cases hj' : j' = i
      · subst hj'; rw [setF_same] at h'; simp at h'
      · rw [setF_ne hj] at h; rw [setF_ne hj'] at h'; exact R.sep j j' a h h'
  · obtain ⟨k', d', z1, z2⟩ := R.lnt p hp
    have hj : p.1 ≠ i := fun z => by rw [z, e] at z1; cases z1
    exact ⟨k', d', by rw [get_set_ne hj]; exact z1, z2⟩
  · rcases foot_setF z with q | ⟨j, hj, q⟩
    · simp at q
    · exact hj (R.sep j i a q ha)
/-- a slot that is not lent forgets what it held -/
theorem Rel.forget (R : Rel L G η σ H Fs) {i : Nat} (e : ∀ k d, η[i]? ≠ some (.val k true d)) : Rel L G (η.set i .no) σ H (setF Fs i []) := by
  by_cases hi : i < η.length
  · cases q : η[i]? with
    | none => exact absurd (List.getElem?_eq_none_iff.mp q) (by omega)
    | some s =>
      cases s with
      | no =>
        have e1 : η.set i .no = η := by
          apply List.ext_getElem?
          intro j
          by_cases hj : j = i
          · subst hj; rw [get_set_self hi, q]
          · rw [get_set_ne hj]
        have e2 : setF Fs i [] = Fs := by
          funext j
          by_cases hj : j = i
          · subst hj; rw [setF_same]; exact (R.emp j fun k l d z => by rw [q] at z; cases z).symm
          · rw [setF_ne hj]
        rw [e1, e2]; exact R
      | val k l d =>
        cases l with
        | true => exact absurd q (e k d)
        | false => exact (R.drop q).choose_spec.2.1
  · have e1 : η.set i .no = η := List.set_eq_of_length_le (by omega)
    have e2 : setF Fs i [] = Fs := by
      funext j
      by_cases hj : j = i
      · subst hj; rw [setF_same]; exact (R.emp j fun k l d z => by have := (List.getElem?_eq_some_iff.mp z).1; omega).symm
      · rw [setF_ne hj]
    rw [e1, e2]; exact R
/-- a value apart is stored in a slot that holds nothing known -/
theorem Rel.put (R : Rel L G η σ H Fs) {i k : Nat} {v : V} {d : D} {F : List Addr} (x : Apart G H Fs k v d F) (hi : i < η.length) (e : η[i]? = some .no) : Rel L G (η.set i (.val k false d)) (σ.set i (some v)) H (setF Fs i F) := by
  have emi : Fs i = [] := R.emp i fun k l d z => by rw [e] at z; cases z
  refine ⟨R.sub, by rw [List.length_set, List.length_set]; exact R.len, by rw [List.length_set]; exact R.wid, fun j k' l' d' q => ?_, fun j q => ?_, fun j => ?_, fun j a h => ?_, fun j j' a h h' => ?_, fun p hp => ?_⟩
  · by_cases hj : j = i
    · subst hj; rw [get_set_self hi] at q; cases q
      exact ⟨v, get_set_self (by rw [← R.len]; exact hi), by rw [setF_same]; exact x.own, fun z => by cases z⟩
    · rw [get_set_ne hj] at q; rw [setF_ne hj, get_set_ne hj]; exact R.slot j k' l' d' q
  · by_cases hj : j = i
    · subst hj; exact absurd (get_set_self hi) (q k false d)
    · rw [setF_ne hj]; exact R.emp j fun k l d z => q k l d (by rw [get_set_ne hj]; exact z)
  · by_cases hj : j = i
    · subst hj; rw [setF_same]; exact x.nod
    · rw [setF_ne hj]; exact R.nod j
  · by_cases hj : j = i
    · subst hj; rw [setF_same] at h; exact x.dis a h
    · rw [setF_ne hj] at h; exact R.dis j a h
  · by_cases hj : j = i
    · subst hj; rw [setF_same] at h
      by_cases hj' : j' = j
      · exact hj'.symm
      · rw [setF_ne hj'] at h'; exact absurd ⟨j', h'⟩ (x.sep a h)
    · by_cases hj' : j' = i
      · subst hj'; rw [setF_same] at h'; rw [setF_ne hj] at h; exact absurd ⟨j, h⟩ (x.sep a h')
      · rw [setF_ne hj] at h; rw [setF_ne hj'] at h'; exact R.sep j j' a h h'
  · obtain ⟨k', d', z1, z2⟩ := R.lnt p hp
    have hj : p.1 ≠ i := fun z => by rw [z, e] at z1; cases z1
    exact ⟨k', d', by rw [get_set_ne hj]; exact z1, by rw [get_set_ne hj]; exact z2⟩
end
end DV

/-! DV2: readings that run a meaning (Env → Out ..), operands, the judgements. -/
namespace DV
open PySem PySem.Spec PyProof.Rows L2

abbrev SE := Env → Out D
abbrev SF := Env → Out (Nat × D)
abbrev ST := Env → Out Bool
inductive Flow where
  | nx | bk | ct | rt (k : Nat) (d : D)
abbrev SS := Env → Out Flow
abbrev SG := D → Env → Out Unit
abbrev SI := Env → Out (List D)

section
variable {K : PySem.W.Frag} {L : Lents} {W : WX} {σ : Sig} {α β : Type} {G H G' H' : Hp} {η η' : Env} {Fs Fs' : Feet}
/-- what an outcome of an expression is to reach -/
def Res (K : PySem.W.Frag) (L : Lents) (W : WX) (σ : Sig) (G H : Hp) (Fs : Feet) (P : α → Env → Hp → Hp → Feet → Prop) : Out α → Prop
  | .ok a η' => ∀ G' H' Fs', Rel L G' η' σ H' Fs' → Ext G H Fs G' H' Fs' → P a η' G' H' Fs'
  | .exc c η' => ∀ G' H' Fs', Rel L G' η' σ H' Fs' → Ext G H Fs G' H' Fs' → W (.ref (He.ga K c)) none σ H'
  | .bad => False
theorem Res.mono {P P' : α → Env → Hp → Hp → Feet → Prop} {o : Out α} (h : Res K L W σ G H Fs P o)
    (m : ∀ a η' G' H' Fs', Rel L G' η' σ H' Fs' → Ext G H Fs G' H' Fs' → P a η' G' H' Fs' → P' a η' G' H' Fs') : Res K L W σ G H Fs P' o := by
  cases o with
  | ok a η' => exact fun G' H' Fs' R E => m a η' G' H' Fs' R E (h G' H' Fs' R E)
  | exc c η' => exact h
  | bad => exact h
theorem Res.bind {P : β → Env → Hp → Hp → Feet → Prop} {o : Out α} {f : α → Env → Out β} (h : Res K L W σ G H Fs P (o.bind f)) :
    Res K L W σ G H Fs (fun a η1 G1 H1 Fs1 => Res K L W σ G1 H1 Fs1 P (f a η1)) o := by
  cases o with
  | ok a η1 =>
    intro G1 H1 Fs1 R1 E1
    have h : Res K L W σ G H Fs P (f a η1) := h
    show Res K L W σ G1 H1 Fs1 P (f a η1)
    cases q : f a η1 with
    | ok b η2 => rw [q] at h; exact fun G2 H2 Fs2 R2 E2 => h G2 H2 Fs2 R2 (E1.trans E2)
    | exc c η2 => rw [q] at h; exact fun G2 H2 Fs2 R2 E2 => h G2 H2 Fs2 R2 (E1.trans E2)
    | bad => rw [q] at h; exact h
  | exc c η' => exact h
  | bad => exact h
/-- from a later start -/
theorem Res.later {P : α → Env → Hp → Hp → Feet → Prop} {o : Out α} (h : Res K L W σ G H Fs P o) (E : Ext G H Fs G' H' Fs') : Res K L W σ G' H' Fs' P o := by
  cases o with
  | ok a η1 => exact fun G2 H2 Fs2 R2 E2 => h G2 H2 Fs2 R2 (E.trans E2)
  | exc c η1 => exact fun G2 H2 Fs2 R2 E2 => h G2 H2 Fs2 R2 (E.trans E2)
  | bad => exact h
def lift (o : Option α) (η : Env) : Out α := match o with
  | some a => .ok a η
  | none => .bad
@[simp] theorem lift_some (a : α) (η : Env) : lift (some a) η = .ok a η := rfl
@[simp] theorem lift_none (η : Env) : lift (none : Option α) η = .bad := rfl
theorem Res.lift {P : α → Env → Hp → Hp → Feet → Prop} {o : Option α} (h : Res K L W σ G H Fs P (lift o η)) : ∃ a, o = some a ∧ ∀ G' H' Fs', Rel L G' η σ H' Fs' → Ext G H Fs G' H' Fs' → P a η G' H' Fs' := by
  cases o with
  | none => exact h.elim
  | some a => exact ⟨a, rfl, h⟩

/-- only new frozen objects came -/
structure New (G H G' H' : Hp) : Prop where
  g : Le G G'
  h : Le H H'
  s : Sub G' H'
  n : ∀ a, G' a ≠ none → G a ≠ none ∨ Lrn (H a)
theorem Rel.new (R : Rel L G η σ H Fs) (N : New G H G' H') : Rel L G' η σ H' Fs where
  sub := N.s
  len := R.len
  wid := R.wid
  slot := fun i k l x e => by
    obtain ⟨v, h1, h2, h3⟩ := R.slot i k l x e
    refine ⟨v, h1, h2.mono N.g.sub k fun a ha => ?_, h3⟩
    obtain ⟨u, q, _⟩ := h2.mem k a ha
    rw [q, N.h a u q]
  emp := R.emp
  nod := R.nod
  dis := fun i a ha => by
    cases q : G' a with
    | none => rfl
    | some o =>
      rcases N.n a (by rw [q]; simp) with z | z
      · exact absurd (R.dis i a ha) z
      · cases e : η[i]? with
        | none => rw [R.emp i fun k l d y => by rw [e] at y; cases y] at ha; simp at ha
        | some sl =>
          cases sl with
          | no => rw [R.emp i fun k l d y => by rw [e] at y; cases y] at ha; simp at ha
          | val k l d =>
            obtain ⟨v, _, h2, _⟩ := R.slot i k l d e
            obtain ⟨u, y, m⟩ := h2.mem k a ha
            exact (z.mut y m).elim
  sep := R.sep
  lnt := R.lnt
theorem New.ext (N : New G H G' H') : Ext G H Fs G' H' Fs where
  g := N.g
  h := fun a o e _ => N.h a o e
  n := fun a e => (N.n a e).elim .inl fun z => .inr (.inr z)
  f := fun a h => .inl h
  d := fun a e => by
    cases q : H a with
    | none => exact absurd q e
    | some o => rw [N.h a o q]; simp
theorem New.refl (s : Sub G H) : New G H G H := ⟨Le.refl G, Le.refl H, s, fun _ h => .inl h⟩
theorem upd_le {a : Addr} {o : HO} (h : H a = none) : Le H (upd H a o) := fun b u e => by
  rw [upd_ne fun z => by rw [z, h] at e; cases e]; exact e
/-- what is known is not at an address where nothing stands -/
theorem Sub.free {a : Addr} (s : Sub G H) (h : H a = none) : G a = none := by
  cases q : G a with
  | none => rfl
  | some u =>
    rcases s.rd a u (.inl q) with z | ⟨o, z⟩
    · rw [h] at z; cases z
    · rw [h] at z; cases z
theorem sub_upd {a : Addr} {o : HO} (s : Sub G H) (h : H a = none) : Sub (upd G a o) (upd H a o) where
  rd := fun b u r => by
    by_cases e : b = a
    · subst e
      rcases r with z | ⟨x, z⟩
      · rw [upd_same] at z; exact .inl (by rw [upd_same]; exact z)
      · rw [upd_same] at z; exact .inr ⟨x, by rw [upd_same]; exact z⟩
    · have r' : Rd G b u := by
        rcases r with z | ⟨x, z⟩
        · rw [upd_ne e] at z; exact .inl z
        · rw [upd_ne e] at z; exact .inr ⟨x, z⟩
      rcases s.rd b u r' with z | ⟨x, z⟩
      · exact .inl (by rw [upd_ne e]; exact z)
      · exact .inr ⟨x, by rw [upd_ne e]; exact z⟩
  tp := fun b xs r => by
    by_cases e : b = a
    · subst e; rw [upd_same] at r; rw [upd_same]; exact r
    · rw [upd_ne e] at r; rw [upd_ne e]; exact s.tp b xs r
  fz := fun b x u r => by
    by_cases e : b = a
    · subst e; rw [upd_same] at r; rw [upd_same]; exact r
    · rw [upd_ne e] at r; rw [upd_ne e]; exact s.fz b x u r
/-- a new frozen object -/
theorem New.frozen {a : Addr} {o : HO} (s : Sub G H) (h : H a = none) : New G H (upd G a o) (upd H a o) where
  g := upd_le (s.free h)
  h := upd_le h
  s := sub_upd s h
  n := fun b e => by
    by_cases z : b = a
    · subst z; exact .inr (.none h)
    · rw [upd_ne z] at e; exact .inl e

/-! ### readings -/
def tE (K : PySem.W.Frag) (L : Lents) (W : WX) (f : SE) : TE := fun σ H Q => ∃ G η Fs, Rel L G η σ H Fs ∧ Res K L W σ G H Fs (fun d _ G' H' _ => ∀ v, Rep G' v d → Q v H') (f η)
def tF (K : PySem.W.Frag) (L : Lents) (W : WX) (f : SF) : TE := fun σ H Q => ∃ G η Fs, Rel L G η σ H Fs ∧
  Res K L W σ G H Fs (fun p _ G' H' Fs' => ∀ v F, Apart G' H' Fs' p.1 v p.2 F → (∀ a ∈ F, foot Fs a ∨ H a = none) → Q v H') (f η)
def tT (K : PySem.W.Frag) (L : Lents) (W : WX) (f : ST) : TT := fun σ H Q => ∃ G η Fs, Rel L G η σ H Fs ∧ Res K L W σ G H Fs (fun b _ _ H' _ => Q b H') (f η)

/-! ### operands: a meaning whose value is frozen; or a name, whose slot is read when all operands are there -/
inductive Opd where
  | ex (f : SE)
  | nm (i : Nat)
def Opd.pre : Opd → Env → Out (Option D)
  | .ex f, η => (f η).bind fun d η' => .ok (some d) η'
  | .nm i, η => match η[i]? with
    | some (.val _ _ _) => .ok none η
    | _ => .bad
def slot1 : Option Slot → Option D
  | some (.val 0 _ d) => some d
  | some (.val 1 _ d) => some d
  | _ => none
def slotA : Option Slot → Option D
  | some (.val _ _ d) => some d
  | _ => none
def Opd.fin : Opd → Option D → Env → Option D
  | .ex _, p, _ => p
  | .nm i, _, η => slot1 η[i]?
/-- any depth: for what gives back numbers and truths alone -/
def Opd.deep : Opd → Option D → Env → Option D
  | .ex _, p, _ => p
  | .nm i, _, η => slotA η[i]?
def tO (K : PySem.W.Frag) (L : Lents) (W : WX) : Opd → TE
  | .ex f => tE K L W f
  | .nm i => tVar i
/-- what is known of an operand's value while the others are evaluated -/
def Kn (σ : Sig) (G : Hp) (v : V) : Opd → Option D → Prop
  | .ex _, p => ∃ d, p = some d ∧ Rep G v d
  | .nm i, p => p = none ∧ σ[i]? = some (some v)
theorem Kn.mono {v : V} {o : Opd} {p : Option D} (h : Kn σ G v o p) (s : Sub G G') : Kn σ G' v o p := by
  cases o with
  | ex f => obtain ⟨d, e, r⟩ := h; exact ⟨d, e, r.mono s⟩
  | nm i => exact h
/-- one level read in the heap, what is below frozen -/
def Bor (G H : Hp) (v : V) (d : D) : Prop := Rep G v d ∨ ∃ F, Own G H 1 v d F
theorem Kn.bor {v : V} {o : Opd} {p : Option D} {d : D} (h : Kn σ G v o p) (R : Rel L G η σ H Fs) (e : o.fin p η = some d) : Bor G H v d := by
  cases o with
  | ex f => obtain ⟨d', e', r⟩ := h; subst e'; cases e; exact .inl r
  | nm i =>
    obtain ⟨_, hv⟩ := h
    have e : slot1 η[i]? = some d := e
    cases q : η[i]? with
    | none => rw [q] at e; cases e
    | some sl =>
      rw [q] at e
      cases sl with
      | no => cases e
      | val k l d' =>
        obtain ⟨v', h1, h2, _⟩ := R.slot i k l d' q
        rw [hv] at h1; cases h1
        match k, e with
        | 0, e => cases e; exact .inl h2.1
        | 1, e => cases e; exact .inr ⟨_, h2⟩
theorem Kn.rep {v : V} {o : Opd} {p : Option D} {d : D} (h : Kn σ G v o p) (R : Rel L G η σ H Fs) (e : o.deep p η = some d) : Rep H v d := by
  cases o with
  | ex f => obtain ⟨d', e', r⟩ := h; subst e'; cases e; exact r.mono R.sub
  | nm i =>
    obtain ⟨_, hv⟩ := h
    have e : slotA η[i]? = some d := e
    cases q : η[i]? with
    | none => rw [q] at e; cases e
    | some sl =>
      rw [q] at e
      cases sl with
      | no => cases e
      | val k l d' =>
        cases e
        obtain ⟨v', h1, r⟩ := R.rep q
        rw [hv] at h1; cases h1
        exact r
theorem Bor.rep {v : V} {d : D} (s : Sub G H) (h : Bor G H v d) : Rep H v d := h.elim (fun r => r.mono s) fun ⟨_, o⟩ => o.rep s 1 fun _ _ => rfl
theorem Bor.lst {v : V} {ds : List D} (s : Sub G H) (h : Bor G H v (.lst ds)) : ∃ a vs, v = .ref a ∧ Rd H a (.lst vs) ∧ RepL G vs ds := by
  rcases h with r | ⟨F, a, vs, Fs, e1, e2, e3, e4⟩
  · cases r with
    | lst h1 h2 => exact ⟨_, _, rfl, s.rd _ _ h1, h2⟩
  · exact ⟨a, vs, e1, .inl e2, (e4.to0).1⟩
theorem Bor.tup {v : V} {ds : List D} (s : Sub G H) (h : Bor G H v (.tup ds)) : ∃ a vs, v = .ref a ∧ G a = some (.tup vs) ∧ RepL G vs ds := by
  rcases h with r | ⟨F, a, vs, e1, e2, e4⟩
  · cases r with
    | tup h1 h2 => exact ⟨_, _, rfl, h1, h2⟩
  · exact ⟨a, vs, e1, e2, (e4.to0).1⟩
theorem Bor.dK {v : V} {kvs : List (Key × D)} (s : Sub G H) (h : Bor G H v (.dK kvs)) : ∃ a vs, v = .ref a ∧ Rd H a (.dK vs) ∧ vs.map (·.1) = kvs.map (·.1) ∧ RepL G (vs.map (·.2)) (kvs.map (·.2)) := by
  rcases h with r | ⟨F, a, vs, Fs, e1, e2, e3, e5, e4⟩
  · cases r with
    | dK h1 h2 h3 => exact ⟨_, _, rfl, s.rd _ _ h1, h2, h3⟩
  · exact ⟨a, vs, e1, .inl e2, e5, (e4.to0).1⟩
theorem Bor.dT {v : V} {kvs : List (List Key × D)} (s : Sub G H) (h : Bor G H v (.dT kvs)) : ∃ a vs, v = .ref a ∧ Rd H a (.dT vs) ∧ vs.map (·.1) = kvs.map (·.1) ∧ RepL G (vs.map (·.2)) (kvs.map (·.2)) := by
  rcases h with r | ⟨F, a, vs, Fs, e1, e2, e3, e5, e4⟩
  · cases r with
    | dT h1 h2 h3 => exact ⟨_, _, rfl, s.rd _ _ h1, h2, h3⟩
  · exact ⟨a, vs, e1, .inl e2, e5, (e4.to0).1⟩
/-- an operand is evaluated: what comes behind knows its value -/
theorem tO_use {P : β → Env → Hp → Hp → Feet → Prop} {o : Opd} {f : Option D → Env → Out β} {Q : V → Hp → Prop} (R : Rel L G η σ H Fs) (h : Res K L W σ G H Fs P ((o.pre η).bind f))
    (k : ∀ v p η1 G1 H1 Fs1, Rel L G1 η1 σ H1 Fs1 → Ext G H Fs G1 H1 Fs1 → Kn σ G1 v o p → Res K L W σ G1 H1 Fs1 P (f p η1) → Q v H1) : tO K L W o σ H Q := by
  cases o with
  | ex e =>
    have h1 := h.bind
    refine ⟨G, η, Fs, R, h1.bind.mono fun d η1 G1 H1 Fs1 R1 E1 q v r => ?_⟩
    exact k v (some d) η1 G1 H1 Fs1 R1 E1 ⟨d, rfl, r⟩ (q G1 H1 Fs1 R1 Ext.refl)
  | nm i =>
    unfold Opd.pre at h
    cases q : η[i]? with
    | none => simp only [q] at h; exact h.elim
    | some sl =>
      cases sl with
      | no => simp only [q] at h; exact h.elim
      | val kk l d =>
        simp only [q] at h
        obtain ⟨v, h1, _⟩ := R.slot i kk l d q
        exact ⟨v, h1, k v none η G H Fs R Ext.refl ⟨rfl, h1⟩ h⟩
end
end DV

/-! DV3: operators. -/
namespace DV
open PySem PySem.Spec PyProof.Rows L2

section
variable {G H G' H' : Hp} {v : V} {L : Lents} {η : Env} {σ : Sig} {Fs : Feet}
theorem Bor.int {i : Int} (h : Bor G H v (.int i)) : v = .int i := by
  rcases h with r | ⟨F, o⟩
  · cases r; rfl
  · have r : Rep G v (.int i) := o.1
    cases r; rfl
theorem Bor.bl {b : Bool} (h : Bor G H v (.bl b)) : v = .bl b := by
  rcases h with r | ⟨F, o⟩
  · cases r; rfl
  · have r : Rep G v (.bl b) := o.1
    cases r; rfl
theorem Bor.str {x : Str} (h : Bor G H v (.str x)) : v = .str x := by
  rcases h with r | ⟨F, o⟩
  · cases r; rfl
  · have r : Rep G v (.str x) := o.1
    cases r; rfl
theorem Bor.non (h : Bor G H v .non) : v = .non := by
  rcases h with r | ⟨F, o⟩
  · cases r; rfl
  · have r : Rep G v .non := o.1
    cases r; rfl
/-- a new owned object -/
theorem New.own {a : Addr} {o : HO} (s : Sub G H) (h : H a = none) : New G H G (upd H a o) := ⟨Le.refl G, upd_le h, s.trans (upd_le h).sub, fun _ e => .inl e⟩
theorem Rel.noFoot (R : Rel L G η σ H Fs) {a : Addr} (h : H a = none) : ¬ foot Fs a := fun ⟨i, ha⟩ => by
  cases e : η[i]? with
  | none => rw [R.emp i fun k l d y => by rw [e] at y; cases y] at ha; simp at ha
  | some sl =>
    cases sl with
    | no => rw [R.emp i fun k l d y => by rw [e] at y; cases y] at ha; simp at ha
    | val k l d =>
      obtain ⟨v, _, h2, _⟩ := R.slot i k l d e
      obtain ⟨u, y, _⟩ := h2.mem k a ha
      rw [h] at y; cases y
end

/-- what an operation's rule asks is given by its meaning: an end that is a new object of its own, or frozen -/
abbrev Fin2 (G H : Hp) (k : Nat) (d : D) (Q : V → Hp → Prop) : Prop := ∀ u G' H' F, New G H G' H' → Own G' H' k u d F → F.Nodup → (∀ a ∈ F, G' a = none ∧ H a = none) → Q u H'
def Op2 (r : R2) (g : D → D → Option (Nat × D)) : Prop :=
  ∀ (G H : Hp) (v w : V) (dx dy : D) (k : Nat) (d : D) (Q : VK), Sub G H → Bor G H v dx → Bor G H w dy → g dx dy = some (k, d) → Fin2 G H k d Q → r v w H Q
def Op1 (r : V → Hp → VK → Prop) (g : D → Option (Nat × D)) : Prop :=
  ∀ (G H : Hp) (v : V) (dx : D) (k : Nat) (d : D) (Q : VK), Sub G H → Bor G H v dx → g dx = some (k, d) → Fin2 G H k d Q → r v H Q
section
variable {G H : Hp} {Q : V → Hp → Prop} {d : D}
theorem Fin2.same {v : V} (s : Sub G H) (h : Fin2 G H 0 d Q) (r : Rep G v d) : Q v H := h v G H [] (New.refl s) ⟨r, rfl⟩ List.nodup_nil fun _ z => by simp at z
/-- a new frozen object -/
theorem Fin2.froz {a : Addr} {o : HO} (s : Sub G H) (h : Fin2 G H 0 d Q) (ha : H a = none) (r : Rep (upd G a o) (.ref a) d) : Q (.ref a) (upd H a o) :=
  h _ _ _ [] (New.frozen s ha) ⟨r, rfl⟩ List.nodup_nil fun _ z => by simp at z
theorem Fin2.tupN {a : Addr} {xs : List V} {ds : List D} (s : Sub G H) (h : Fin2 G H 0 (.tup ds) Q) (ha : H a = none) (r : RepL G xs ds) : Q (.ref a) (upd H a (.tup xs)) :=
  h.froz s ha (.tup upd_same (r.mono (upd_le (s.free ha)).sub))
/-- a new list of its own -/
theorem Fin2.lstN {a : Addr} {xs : List V} {ds : List D} (s : Sub G H) (h : Fin2 G H 1 (.lst ds) Q) (ha : H a = none) (r : RepL G xs ds) : Q (.ref a) (upd H a (.lst xs)) :=
  h _ _ _ [a] (New.own s ha) ⟨a, xs, [], rfl, upd_same, rfl, OwnL.of0 r⟩ (by simp) fun b hb => by
    have e : b = a := by simpa using hb
    subst e; exact ⟨s.free ha, ha⟩
end

/-! ### the meanings -/
def addD : D → D → Option (Nat × D)
  | .int i, .int j => some (0, .int (i + j))
  | .tup xs, .tup ys => if xs.length + ys.length ≤ sizeLine then some (0, .tup (xs ++ ys)) else none
  | .lst xs, .lst ys => if xs.length + ys.length ≤ sizeLine then some (1, .lst (xs ++ ys)) else none
  | _, _ => none
def subD : D → D → Option (Nat × D)
  | .int i, .int j => some (0, .int (i - j))
  | _, _ => none
def mulD : D → D → Option (Nat × D)
  | .int i, .int j => if i.natAbs < 2 ^ 64 ∨ j.natAbs < 2 ^ 64 ∨ i.natAbs.log2 + j.natAbs.log2 < 1000000 then some (0, .int (i * j)) else none
  | .lst xs, .int k => if k ≤ 1000000 ∧ -1000000 ≤ k ∧ xs.length * k.toNat ≤ 1000000 then some (1, .lst (List.replicate k.toNat xs).flatten) else none
  | .tup xs, .int k => if 2 ≤ k ∧ k ≤ 1000 ∧ 1 ≤ xs.length ∧ xs.length ≤ 1000 then some (0, .tup (List.replicate k.toNat xs).flatten) else none
  | _, _ => none
def fdivD : D → D → Option (Nat × D)
  | .int i, .int j => if 0 < j then (if j.natAbs.log2 < 9000 then some (0, .int (i / j)) else none) else if j < 0 ∧ j.natAbs.log2 < 9000 then some (0, .int (i.fdiv j)) else none
  | _, _ => none
def modD : D → D → Option (Nat × D)
  | .int i, .int j => if 0 < j then some (0, .int (i % j)) else if j < 0 then some (0, .int (i.fmod j)) else none
  | _, _ => none
def powD : D → D → Option (Nat × D)
  | .int i, .int j => if 0 ≤ j ∧ j ≤ 1000000 ∧ i.natAbs < 2 ^ 64 then some (0, .int (i ^ j.toNat)) else none
  | _, _ => none
def negD : D → Option (Nat × D)
  | .int i => some (0, .int (-i))
  | _ => none

/-! ### the rules, the left list read whether it is locked or not -/
section
variable {X : Cx}
theorem rdLst {pins : List (Addr × Obj)} {σ : Sig} {H : Hp} {s : Shared} {l : Addr} {xs : List V} (I : Inv X pins σ H s) (hH : Rd H l (.lst xs)) :
    xs.length ≤ sizeLine ∧ ∃ (its : List Value) (n : Nat), Vals xs its ∧ xs.length = its.length ∧ s.heap.get? l = some { cls := .type "list", data := .seq its.toArray n } := by
  obtain ⟨z, its, n, r, e⟩ := hH.ok I.hok
  exact ⟨z, its, n, r, r.length, e⟩
def rCat2 : R2 := fun x y H Q => ∃ l b xs zs, x = .ref l ∧ y = .ref b ∧ Rd H l (.lst xs) ∧ Rd H b (.lst zs) ∧ xs.length + zs.length ≤ sizeLine ∧ ∀ p, H p = none → Q (.ref p) (upd H p (.lst (xs ++ zs)))
theorem op_cat2 : OpR X (binaryOp .Add) rCat2 := by
  intro pins s σ H x y v u Q I rx ry h
  obtain ⟨l, b, xs, zs, rfl, rfl, hH, hB, hz, q⟩ := h
  cases rx
  cases ry
  obtain ⟨z, its, n, r, hl, e⟩ := rdLst I hH
  obtain ⟨z2, its2, n2, r2, hl2, e2⟩ := rdLst I hB
  refine PySem.P.add_list e e2 ?_ (by rw [List.size_toArray, List.size_toArray]; omega)
  have ea : its.toArray ++ its2.toArray = (its ++ its2).toArray := by simp
  rw [ea]
  exact ⟨.ref _, _, I.lnew (t' := s.toks) (r.append r2) (by rw [List.length_append]; omega), rfl, q _ I.fresh⟩
def rRep2 : R2 := fun x y H Q => ∃ l k xs, x = .ref l ∧ y = .int k ∧ Rd H l (.lst xs) ∧ -(2 ^ 63) ≤ k ∧ k < 2 ^ 63 ∧ xs.length * k.toNat ≤ sizeLine ∧
  ∀ p, H p = none → Q (.ref p) (upd H p (.lst (List.replicate k.toNat xs).flatten))
theorem op_rep2 : OpR X (binaryOp .Mult) rRep2 := by
  intro pins s σ H x y v u Q I rx ry h
  obtain ⟨l, k, xs, rfl, rfl, hH, h1, h2, hz, q⟩ := h
  rcases hH with hH | ⟨o, hH⟩
  · exact op_rep pins s σ H _ _ v u Q I rx ry ⟨l, k, xs, rfl, rfl, hH, h1, h2, hz, q⟩
  · cases rx
    obtain ⟨t, rfl⟩ := ry
    obtain ⟨z, its, n, r, hl, e⟩ := rdLst I (.inr ⟨o, hH⟩)
    have hlen : its.toArray.size * k.toNat ≤ sizeLine := by rw [List.size_toArray, ← hl]; exact hz
    have hcap : ¬ its.toArray.size * k.toNat > (2 ^ 63 - 1) / 8 := by
      have : (sizeLine : Nat) ≤ (2 ^ 63 - 1) / 8 := by decide
      omega
    have hfit : ¬ (!Builtin.List.listFitsIndex k) = true := by
      rw [fitsIndex_both h1 h2]; exact Bool.false_ne_true
    have hlong : ¬ Builtin.List.listTooLong (its.toArray.size * k.toNat) = true := by
      rw [notLongL hlen]; exact Bool.false_ne_true
    have f0 : ∀ m : Nat, List.foldl (fun x1 x2 => x1 ++ x2) #[] (List.replicate m its.toArray) = (List.replicate m its).flatten.toArray := fun m => by
      have := foldl_rep its m []
      rw [List.nil_append] at this; exact this
    have hnew : List.foldl (fun x1 x2 => x1 ++ x2) #[] (List.replicate (if its.toArray.isEmpty = true then 0 else k.toNat) its.toArray) = (List.replicate k.toNat its).flatten.toArray := by
      rw [f0]
      cases its with
      | nil => simp
      | cons a r' => rw [if_neg (by simp)]
    refine wpAny_binaryOp_repeat_ref (T := "list") (U := "int") (by decide) ⟨_, e, rfl⟩ (fun s' => typeIs_int s' k t) noFill_list_mul F.fills_int_mul F.slot_int_rmul repeat_list F.slot_int_index.lookup
      (call_meets F.slot_int_rmul (typeIs_int s k t) F.entry_int_rmul (F.args_int_rmul_2 _ _) (int___rmul___int_list k t l its.toArray n)
        ⟨e, rfl, ⟨_, e, rfl⟩, call_meets F.slot_list_mul ⟨_, e, rfl⟩ F.entry_list_mul (F.args_list_mul_2 _ _) (AutoListH.list___mul___list_int_3 l its.toArray n k t hfit hcap hlong) ⟨e, ?_⟩⟩)
    rw [hnew]
    exact ⟨.ref _, _, I.lnew (t' := s.toks) (r.rep k.toNat) (by rw [PyProof.Rows.lm_len_rep_flat, Nat.mul_comm]; exact hz), rfl, q _ I.fresh⟩
theorem op_fdivA : OpR X (binaryOp .FloorDiv) (rI (fun _ j => j ≠ 0 ∧ j.natAbs.log2 < 9000) fun i j => .int (i.fdiv j)) := opI fun _ _ _ _ _ _ _ hc q => floordiv_int hc.1 q (.inl (PyProof.noPylong_of_log2 hc.2))

theorem RepL.rep {G : Hp} {vs : List V} {ds : List D} (h : RepL G vs ds) : ∀ k : Nat, RepL G (List.replicate k vs).flatten (List.replicate k ds).flatten
  | 0 => .nil
  | k + 1 => by rw [List.replicate_succ, List.replicate_succ, List.flatten_cons, List.flatten_cons]; exact h.append (RepL.rep h k)
def rAddA (K : PySem.W.Frag) : R2 := fun x y H Q => rI0 (fun i j => .int (i + j)) x y H Q ∨ (rCatA K x y H Q ∨ rCat2 x y H Q)
theorem op_addA : OpR X (binaryOp .Add) (rAddA X.K) := op_add.or (op_catA.or op_cat2)
theorem two_int {g : D → D → Option (Nat × D)} {P : Prop} {dx dy : D} {k : Nat} {d : D} (h : g dx dy = some (k, d)) (no : ∀ a b, (∀ i j, ¬ (a = .int i ∧ b = .int j)) → g a b = none)
    (c : ∀ i j, dx = .int i → dy = .int j → P) : P := by
  by_cases z : ∃ i j, dx = .int i ∧ dy = .int j
  · obtain ⟨i, j, e1, e2⟩ := z; exact c i j e1 e2
  · rw [no dx dy fun i j q => z ⟨i, j, q⟩] at h; cases h
theorem sz_op {K : PySem.W.Frag} : Op2 (rAddA K) addD := by
  intro G H v w dx dy k d Q s bx by' h fin
  cases dx <;> cases dy <;> simp only [addD] at h <;> try cases h
  · exact .inl ⟨_, _, bx.int, by'.int, fin.same s (.int _)⟩
  · split at h <;> cases h
    rename_i hz
    obtain ⟨a, xs, rfl, h1, r1⟩ := bx.tup s
    obtain ⟨b, ys, rfl, h2, r2⟩ := by'.tup s
    refine .inr (.inl ⟨a, b, xs, ys, rfl, rfl, .of (s.tp _ _ h1), .of (s.tp _ _ h2), by rw [r1.length, r2.length]; exact hz, fun e => ?_, fun e e2 => ?_, fun _ _ p hp => fin.tupN s hp (r1.append r2)⟩)
    · subst e; cases r1; exact fin.same s (.tup h2 r2)
    · subst e2; cases r2; rw [List.append_nil] at fin; exact fin.same s (.tup h1 r1)
  · split at h <;> cases h
    rename_i hz
    obtain ⟨a, xs, rfl, h1, r1⟩ := bx.lst s
    obtain ⟨b, ys, rfl, h2, r2⟩ := by'.lst s
    exact .inr (.inr ⟨a, b, xs, ys, rfl, rfl, h1, h2, by rw [r1.length, r2.length]; exact hz, fun p hp => fin.lstN s hp (r1.append r2)⟩)
theorem sz_sub : Op2 (rI0 fun i j => .int (i - j)) subD := by
  intro G H v w dx dy k d Q s bx by' h fin
  cases dx <;> cases dy <;> simp only [subD] at h <;> try cases h
  exact ⟨_, _, bx.int, by'.int, fin.same s (.int _)⟩
def rMulA (K : PySem.W.Frag) : R2 := fun x y H Q => rI CMul (fun i j => .int (i * j)) x y H Q ∨ (rI CMulW (fun i j => .int (i * j)) x y H Q ∨ (rRep2 x y H Q ∨ rRepT K x y H Q))
theorem op_mulA : OpR X (binaryOp .Mult) (rMulA X.K) := op_mul.or (op_mulW.or (op_rep2.or op_repT))
theorem sz_mul {K : PySem.W.Frag} : Op2 (rMulA K) mulD := by
  intro G H v w dx dy k d Q s bx by' h fin
  cases dx <;> cases dy <;> simp only [mulD] at h <;> try cases h
  · split at h <;> cases h
    rename_i hz
    rcases hz with hz | hz | hz
    · exact .inl ⟨_, _, bx.int, by'.int, .inl (by omega), fin.same s (.int _)⟩
    · exact .inl ⟨_, _, bx.int, by'.int, .inr (by omega), fin.same s (.int _)⟩
    · exact .inr (.inl ⟨_, _, bx.int, by'.int, hz, fin.same s (.int _)⟩)
  · split at h <;> cases h
    rename_i hz
    obtain ⟨a, xs, rfl, h1, r1⟩ := bx.tup s
    refine .inr (.inr (.inr ⟨a, _, xs, rfl, by'.int, .of (s.tp _ _ h1), fun e => ?_, hz.1, hz.2.1, by rw [r1.length]; exact hz.2.2.2, fun p hp => fin.tupN s hp (r1.rep _)⟩))
    have := r1.length
    rw [e] at this
    have h2 := hz.2.2.1
    rw [← this] at h2
    exact absurd h2 (by simp)
  · split at h <;> cases h
    rename_i hz
    obtain ⟨a, xs, rfl, h1, r1⟩ := bx.lst s
    exact .inr (.inr (.inl ⟨a, _, xs, rfl, by'.int, h1, by omega, by omega, by rw [r1.length, sizeLine_eq]; omega, fun p hp => fin.lstN s hp (r1.rep _)⟩))
theorem sz_fdiv : Op2 (rI (fun _ j => j ≠ 0 ∧ j.natAbs.log2 < 9000) fun i j => .int (i.fdiv j)) fdivD := by
  intro G H v w dx dy k d Q s bx by' h fin
  cases dx <;> cases dy <;> simp only [fdivD] at h <;> try cases h
  rename_i i j
  refine ⟨i, j, bx.int, by'.int, ?_⟩
  split at h
  · rename_i hj
    split at h <;> cases h
    rename_i hz
    have e : i.fdiv j = i / j := Int.fdiv_eq_ediv_of_nonneg i (by omega)
    refine ⟨⟨by omega, hz⟩, ?_⟩
    show Q (V.int (i.fdiv j)) H
    rw [e]; exact fin.same s (.int _)
  · split at h <;> cases h
    rename_i hz
    exact ⟨⟨by omega, hz.2⟩, fin.same s (.int _)⟩
theorem sz_mod : Op2 (rI (fun _ j => j ≠ 0) fun i j => .int (i.fmod j)) modD := by
  intro G H v w dx dy k d Q s bx by' h fin
  cases dx <;> cases dy <;> simp only [modD] at h <;> try cases h
  rename_i i j
  refine ⟨i, j, bx.int, by'.int, ?_⟩
  split at h
  · rename_i hj
    cases h
    have e : i.fmod j = i % j := Int.fmod_eq_emod_of_nonneg i (by omega)
    refine ⟨(by omega : j ≠ 0), ?_⟩
    show Q (V.int (i.fmod j)) H
    rw [e]; exact fin.same s (.int _)
  · split at h <;> cases h
    exact ⟨(by omega : j ≠ 0), fin.same s (.int _)⟩
theorem sz_pow : Op2 (rI CPow fun i j => .int (i ^ j.toNat)) powD := by
  intro G H v w dx dy k d Q s bx by' h fin
  cases dx <;> cases dy <;> simp only [powD] at h <;> try cases h
  split at h <;> cases h
  rename_i hz
  exact ⟨_, _, bx.int, by'.int, hz, fin.same s (.int _)⟩
theorem sz_neg : Op1 (rU fun i => .int (-i)) negD := by
  intro G H v dx k d Q s bx h fin
  cases dx <;> simp only [negD] at h <;> try cases h
  exact ⟨_, bx.int, fin.same s (.int _)⟩
end
end DV

/-! DV4: expressions: names, constants, operators, tests, displays, calls of built-ins. -/
namespace DV
open PySem PySem.Spec PyProof.Rows L2

section
variable {X : Cx}
theorem PE.imp {e : Expr} {t t' : TE} (h : PE X e t) (i : ∀ σ H Q, t' σ H Q → t σ H Q) : PE X e t' := ⟨fun pins s σ H Q I q => h.run pins s σ H Q I (i σ H Q q)⟩
theorem PT.imp {e : Expr} {t t' : TT} (h : PT X e t) (i : ∀ σ H Q, t' σ H Q → t σ H Q) : PT X e t' := ⟨fun pins s σ H Q I q => h.run pins s σ H Q I (i σ H Q q)⟩
theorem PW.imp {e : Expr} {t t' : TT} (h : PW X e t) (i : ∀ σ H Q, t' σ H Q → t σ H Q) : PW X e t' := ⟨fun w pins s σ H Q I q => h.run w pins s σ H Q I (i σ H Q q)⟩
theorem PA.imp {es : List Expr} {t t' : TA} (h : PA X es t) (i : ∀ σ H Q, t' σ H Q → t σ H Q) : PA X es t' := ⟨fun p pins s σ H Q I q => h.run p pins s σ H Q I (i σ H Q q)⟩
end

/-! ### meanings -/
namespace S
/-- a frozen value as one that may be owned -/
def up (f : SE) : SF := fun η => (f η).bind fun d η' => .ok (0, d) η'
/-- a value's own objects are frozen -/
def fz (f : SF) : SE := fun η => (f η).bind fun p η' => .ok p.2 η'
def c (d : D) : SE := fun η => .ok d η
def ct (b : Bool) : ST := fun η => .ok b η
/-- a name: its value is frozen from now on -/
def var (i : Nat) : SE := fun η => match η[i]? with
  | some (.val 0 _ d) => .ok d η
  | some (.val (_ + 1) false d) => .ok d (η.set i (.val 0 false d))
  | _ => .bad
/-- a name's value, given away: the slot forgets it -/
def mov (i : Nat) : SF := fun η => match η[i]? with
  | some (.val k false d) => .ok (k, d) (η.set i .no)
  | _ => .bad
def bin (g : D → D → Option (Nat × D)) (a b : Opd) : SF := fun η => (a.pre η).bind fun p η1 => (b.pre η1).bind fun q η2 =>
  lift ((a.fin p η2).bind fun x => (b.fin q η2).bind fun y => g x y) η2
def un (g : D → Option (Nat × D)) (a : Opd) : SF := fun η => (a.pre η).bind fun p η1 => lift ((a.fin p η1).bind g) η1
/-- a comparison: operands of any depth -/
def cmp (g : D → D → Option Bool) (a b : Opd) : SE := fun η => (a.pre η).bind fun p η1 => (b.pre η1).bind fun q η2 =>
  lift ((a.deep p η2).bind fun x => (b.deep q η2).bind fun y => (g x y).map D.bl) η2
def truth : D → Option Bool
  | .bl b => some b
  | _ => none
/-- a value that is a truth, as a test -/
def tst (f : SE) : ST := fun η => (f η).bind fun d η' => lift (truth d) η'
def band (a b : SE) : SE := fun η => (a η).bind fun d η1 => match d with
  | .bl true => b η1
  | .bl false => .ok (.bl false) η1
  | _ => .bad
def bor (a b : SE) : SE := fun η => (a η).bind fun d η1 => match d with
  | .bl false => b η1
  | .bl true => .ok (.bl true) η1
  | _ => .bad
def bnot (a : SE) : SE := fun η => (a η).bind fun d η1 => match d with
  | .bl b => .ok (.bl (!b)) η1
  | _ => .bad
def tand (a b : ST) : ST := fun η => (a η).bind fun x η1 => if x = true then b η1 else .ok false η1
def tor (a b : ST) : ST := fun η => (a η).bind fun x η1 => if x = true then .ok true η1 else b η1
def tnot (a : ST) : ST := fun η => (a η).bind fun x η1 => .ok (!x) η1
def ite (t : ST) (a b : SF) : SF := fun η => (t η).bind fun x η1 => if x = true then a η1 else b η1
/-- a row of values -/
def nil : Env → Out (List D) := fun η => .ok [] η
def cons (f : SE) (r : Env → Out (List D)) : Env → Out (List D) := fun η => (f η).bind fun d η1 => (r η1).bind fun ds η2 => .ok (d :: ds) η2
def tup (r : Env → Out (List D)) : SE := fun η => (r η).bind fun ds η1 => lift (if ds.length ≤ sizeLine then some (.tup ds) else none) η1
def lst (r : Env → Out (List D)) : SF := fun η => (r η).bind fun ds η1 => lift (if ds.length ≤ sizeLine then some (1, .lst ds) else none) η1
/-- operands in a row -/
def preL : List Opd → Env → Out (List (Option D))
  | [], η => .ok [] η
  | o :: os, η => (o.pre η).bind fun p η1 => (preL os η1).bind fun ps η2 => .ok (p :: ps) η2
def finL : List Opd → List (Option D) → Env → Option (List D)
  | [], _, _ => some []
  | o :: os, p :: ps, η => (o.fin p η).bind fun d => (finL os ps η).bind fun ds => some (d :: ds)
  | _ :: _, [], _ => none
def deepL : List Opd → List (Option D) → Env → Option (List D)
  | [], _, _ => some []
  | o :: os, p :: ps, η => (o.deep p η).bind fun d => (deepL os ps η).bind fun ds => some (d :: ds)
  | _ :: _, [], _ => none
def fn (g : List D → Option (Nat × D)) (os : List Opd) : SF := fun η => (preL os η).bind fun ps η1 => lift ((finL os ps η1).bind g) η1
def fnd (g : List D → Option D) (os : List Opd) : SE := fun η => (preL os η).bind fun ps η1 => lift ((deepL os ps η1).bind g) η1
end S

section
variable {X : Cx} {L : Lents} {W : WX} {e a b c : Expr} {es : List Expr} {pos : Pos}
theorem je_imp {f : SE} {t : TE} (h : PE X e t) (i : ∀ σ H Q, tE X.K L W f σ H Q → t σ H Q) : PE X e (tE X.K L W f) := PE.imp h i
/-! ### frozen and owned -/
theorem jf_up {f : SE} (h : PE X e (tE X.K L W f)) : PE X e (tF X.K L W (S.up f)) := by
  refine PE.imp h fun σ H Q ⟨G, η, Fs, R, q⟩ => ⟨G, η, Fs, R, q.bind.mono fun d η1 G1 H1 Fs1 R1 E1 q1 v r => ?_⟩
  exact q1 G1 H1 Fs1 R1 Ext.refl v [] (Apart.zero r) fun a z => by simp at z
theorem Ext.frz {G H G1 H1 : Hp} {Fs Fs1 : Feet} {F : List Addr} (E : Ext G H Fs G1 H1 Fs1) (d : ∀ a ∈ F, G1 a = none) (o : ∀ a ∈ F, foot Fs a ∨ H a = none) : Ext G H Fs (frz G1 H1 F) H1 Fs1 where
  g := E.g.trans (frz_le d)
  h := E.h
  n := fun b z => by
    by_cases hb : b ∈ F
    · exact .inr ((o b hb).elim .inl fun z => .inr (.none z))
    · rw [frz_out hb] at z; exact E.n b z
  f := E.f
  d := E.d
theorem je_fz {f : SF} (h : PE X e (tF X.K L W f)) : PE X e (tE X.K L W (S.fz f)) := by
  refine PE.imp h fun σ H Q ⟨G, η, Fs, R, q⟩ => ⟨G, η, Fs, R, ?_⟩
  cases z : f η with
  | bad => rw [S.fz, z] at q; exact q
  | exc c η' => rw [S.fz, z] at q; exact q
  | ok p η1 =>
    rw [S.fz, z] at q
    intro G1 H1 Fs1 R1 E1 v F x o
    obtain ⟨R2, r⟩ := R1.freezeApart x
    exact q _ H1 Fs1 R2 (E1.frz x.dis o) v r

/-! ### names, constants -/
theorem je_const {d : D} {v : V} (h : PE X e (tC v)) (r : ∀ G, Rep G v d) : PE X e (tE X.K L W (S.c d)) :=
  PE.imp h fun σ H Q ⟨G, η, Fs, R, q⟩ => q G H Fs R Ext.refl v (r G)
theorem je_int {i : Int} {j} : PE X (.Constant (.int i) j pos) (tE X.K L W (S.c (.int i))) := je_const pe_int fun _ => .int i
theorem je_bl {b : Bool} {j} : PE X (.Constant (.bool b) j pos) (tE X.K L W (S.c (.bl b))) := je_const pe_bl fun _ => .bl b
theorem je_non {j} : PE X (.Constant .none j pos) (tE X.K L W (S.c .non)) := je_const pe_non fun _ => .non
theorem je_str {x : Str} {j} : PE X (.Constant (.str x) j pos) (tE X.K L W (S.c (.str x))) := je_const pe_str fun _ => .str x
theorem Rel.emptied {G H : Hp} {η : Env} {σ : Sig} {Fs : Feet} {i k : Nat} {d : D} {v : V} (R : Rel L G η σ H Fs) (q : η[i]? = some (.val k false d)) (hv : σ[i]? = some (some v)) :
    Rel L (frz G H (Fs i)) (η.set i (.val 0 false d)) σ H (setF Fs i []) ∧ Rep (frz G H (Fs i)) v d ∧ Ext G H Fs (frz G H (Fs i)) H (setF Fs i []) := by
  obtain ⟨v', h1, R1, x⟩ := R.drop q
  rw [hv] at h1; cases h1
  obtain ⟨R2, r⟩ := R1.freezeApart x
  have hi : i < η.length := (List.getElem?_eq_some_iff.mp q).1
  have R3 := R2.put (i := i) (Apart.zero (H := H) (Fs := setF Fs i []) r) (by rw [List.length_set]; exact hi) (get_set_self hi)
  have e1 : (η.set i .no).set i (.val 0 false d) = η.set i (.val 0 false d) := List.set_set ..
  have e2 : σ.set i (some v) = σ := by
    apply List.ext_getElem?
    intro j
    by_cases hj : j = i
    · subst hj; rw [get_set_self (by rw [← R.len]; exact hi), hv]
    · rw [get_set_ne hj]
  have e3 : setF (setF Fs i []) i [] = setF Fs i [] := by
    funext j
    by_cases hj : j = i
    · subst hj; rw [setF_same, setF_same]
    · rw [setF_ne hj]
  rw [e1, e2, e3] at R3
  refine ⟨R3, r, frz_le x.dis, fun _ _ h _ => h, fun b z => ?_, fun b z => ?_, fun _ z => z⟩
  · by_cases hb : b ∈ Fs i
    · exact .inr (.inl ⟨i, hb⟩)
    · rw [frz_out hb] at z; exact .inl z
  · rcases foot_setF z with z | ⟨j, _, z⟩
    · simp at z
    · exact .inl ⟨j, z⟩
theorem je_var {i : Nat} (h : PE X e (tVar i)) : PE X e (tE X.K L W (S.var i)) := by
  refine PE.imp h fun σ H Q ⟨G, η, Fs, R, q⟩ => ?_
  unfold S.var at q
  split at q
  · rename_i l d z
    obtain ⟨v, h1, h2, _⟩ := R.slot i 0 l d z
    exact ⟨v, h1, q G H Fs R Ext.refl v h2.1⟩
  · rename_i k d z
    obtain ⟨v, h1, h2, _⟩ := R.slot i (k + 1) false d z
    obtain ⟨R2, r, E⟩ := R.emptied z h1
    exact ⟨v, h1, q _ H _ R2 E v r⟩
  · exact q.elim
theorem jf_mov {i : Nat} (h : PE X e (tVar i)) : PE X e (tF X.K L W (S.mov i)) := by
  refine PE.imp h fun σ H Q ⟨G, η, Fs, R, q⟩ => ?_
  unfold S.mov at q
  split at q
  · rename_i k d z
    obtain ⟨v, h1, R1, x⟩ := R.drop z
    refine ⟨v, h1, q G H _ R1 ⟨Le.refl G, fun _ _ h _ => h, fun _ z => .inl z, fun b z => ?_, fun _ z => z⟩ v (Fs i) x fun a ha => .inl ⟨i, ha⟩⟩
    rcases foot_setF z with z | ⟨j, _, z⟩
    · simp at z
    · exact .inl ⟨j, z⟩
  · exact q.elim

/-! ### operands -/
theorem jo_ex {f : SE} (h : PE X e (tE X.K L W f)) : PE X e (tO X.K L W (.ex f)) := h
theorem jo_nm {i : Nat} (h : PE X e (tVar i)) : PE X e (tO X.K L W (.nm i)) := h
/-- a result of a rule that makes a new object of its own or a frozen one -/
theorem fin_tF {σ : Sig} {G H : Hp} {η : Env} {Fs : Feet} {k : Nat} {d : D} {Q : V → Hp → Prop} {P : Nat × D → Env → Hp → Hp → Feet → Prop} (R : Rel L G η σ H Fs)
    (h : ∀ G' H' Fs', Rel L G' η σ H' Fs' → Ext G H Fs G' H' Fs' → ∀ v F, Apart G' H' Fs' k v d F → (∀ a ∈ F, H a = none) → Q v H') : Fin2 G H k d Q := by
  intro u G' H' F N o nd fr
  refine h G' H' Fs (R.new N) N.ext u F ⟨o, nd, fun a ha => (fr a ha).1, fun a ha => ?_⟩ fun a ha => (fr a ha).2
  exact R.noFoot (fr a ha).2
theorem Ext.noneOf {G H G1 H1 : Hp} {Fs Fs1 : Feet} (E : Ext G H Fs G1 H1 Fs1) {a : Addr} (h : H1 a = none) : H a = none := by
  cases z : H a with
  | none => rfl
  | some o => exact absurd h (E.d a (by rw [z]; simp))
/-- the readings' ends: what is told of a start is told of a later one -/
theorem tF_post {σ : Sig} {G H : Hp} {η : Env} {Fs : Feet} {Q : V → Hp → Prop} {o : Out (Nat × D)}
    (q : Res X.K L W σ G H Fs (fun p _ G' H' Fs' => ∀ v F, Apart G' H' Fs' p.1 v p.2 F → (∀ a ∈ F, foot Fs a ∨ H a = none) → Q v H') o) :
    Res X.K L W σ G H Fs (fun p _ G' H' Fs' => ∀ v F, Apart G' H' Fs' p.1 v p.2 F → (∀ a ∈ F, foot Fs a ∨ H a = none) → Q v H') o := q
theorem jf_bin {op : Operator} {r : R2} {g : D → D → Option (Nat × D)} {oa ob : Opd} (ho : OpR X (binaryOp op) r) (hs : Op2 r g) (ha : PE X a (tO X.K L W oa)) (hb : PE X b (tO X.K L W ob)) :
    PE X (.BinOp a op b pos) (tF X.K L W (S.bin g oa ob)) := by
  refine PE.imp (pe_op ho ha hb) fun σ H Q ⟨G, η, Fs, R, q⟩ => ?_
  refine tO_use R q fun v p η1 G1 H1 Fs1 R1 E1 k1 q1 => ?_
  refine tO_use R1 q1 fun w p2 η2 G2 H2 Fs2 R2 E2 k2 q2 => ?_
  obtain ⟨⟨k, d⟩, e, q3⟩ := q2.lift
  cases hx : oa.fin p η2 with
  | none => rw [hx] at e; cases e
  | some x =>
    rw [hx] at e
    cases hy : ob.fin p2 η2 with
    | none => rw [show (some x).bind _ = (ob.fin p2 η2).bind _ from rfl, hy] at e; cases e
    | some y =>
      rw [show (some x).bind _ = (ob.fin p2 η2).bind _ from rfl, hy] at e
      refine hs G2 H2 v w x y k d Q R2.sub ((k1.mono E2.g.sub).bor R2 hx) (k2.bor R2 hy) e (fin_tF (P := fun _ _ _ _ _ => True) R2 fun G' H' Fs' R' E' u F x o => ?_)
      exact q3 G' H' Fs' R' E' u F x fun a ha => .inr ((E1.trans E2).noneOf (o a ha))
theorem jf_un {op : UnaryOp} {r : V → Hp → VK → Prop} {g : D → Option (Nat × D)} {oa : Opd} (ho : UnR X (unaryOp op) r) (hs : Op1 r g) (ha : PE X a (tO X.K L W oa)) : PE X (.UnaryOp op a pos) (tF X.K L W (S.un g oa)) := by
  refine PE.imp (pe_un ho ha) fun σ H Q ⟨G, η, Fs, R, q⟩ => ?_
  refine tO_use R q fun v p η1 G1 H1 Fs1 R1 E1 k1 q1 => ?_
  obtain ⟨⟨k, d⟩, e, q3⟩ := q1.lift
  cases hx : oa.fin p η1 with
  | none => rw [hx] at e; cases e
  | some x =>
    rw [hx] at e
    refine hs G1 H1 v x k d Q R1.sub (k1.bor R1 hx) e (fin_tF (P := fun _ _ _ _ _ => True) R1 fun G' H' Fs' R' E' u F x o => ?_)
    exact q3 G' H' Fs' R' E' u F x fun a ha => .inr (E1.noneOf (o a ha))
end
end DV

/-! DV5: comparisons, tests, displays, calls of built-ins. -/
namespace DV
open PySem PySem.Spec PyProof.Rows L2

/-! ### data for == -/
mutual
def py : D → PyData
  | .non => .none
  | .bl b => .bool b
  | .int i => .int i
  | .str x => .str x
  | .tup ds => .tuple (pyL ds)
  | .lst ds => .list (pyL ds)
  | .dK _ => .dict []
  | .dT _ => .dict []
def pyL : List D → List PyData
  | [] => []
  | d :: ds => py d :: pyL ds
end
mutual
/-- plain data, at most n containers deep -/
def okD : Nat → D → Bool
  | _, .non => true
  | _, .bl _ => true
  | _, .int _ => true
  | _, .str x => PyData.strOk x
  | n + 1, .tup ds => okL n ds
  | n + 1, .lst ds => okL n ds
  | _, _ => false
def okL : Nat → List D → Bool
  | _, [] => true
  | n, d :: ds => okD n d && okL n ds
end
mutual
theorem okD_lay : ∀ (n : Nat) (d : D), okD n d = true → (py d).canLay0 = true ∧ (py d).depth ≤ n
  | _, .non, _ => ⟨rfl, by simp [py, PyData.depth]⟩
  | _, .bl _, _ => ⟨rfl, by simp [py, PyData.depth]⟩
  | _, .int _, _ => ⟨rfl, by simp [py, PyData.depth]⟩
  | _, .str x, h => ⟨by simpa [py, PyData.canLay0, okD] using h, by simp [py, PyData.depth]⟩
  | n + 1, .tup ds, h => by
    obtain ⟨h1, h2⟩ := okL_lay n ds (by simpa [okD] using h)
    exact ⟨by simpa [py, PyData.canLay0] using h1, by simpa [py, PyData.depth] using h2⟩
  | n + 1, .lst ds, h => by
    obtain ⟨h1, h2⟩ := okL_lay n ds (by simpa [okD] using h)
    exact ⟨by simpa [py, PyData.canLay0] using h1, by simpa [py, PyData.depth] using h2⟩
  | 0, .tup _, h => by simp [okD] at h
  | 0, .lst _, h => by simp [okD] at h
  | 0, .dK _, h => by simp [okD] at h
  | 0, .dT _, h => by simp [okD] at h
  | _ + 1, .dK _, h => by simp [okD] at h
  | _ + 1, .dT _, h => by simp [okD] at h
theorem okL_lay : ∀ (n : Nat) (ds : List D), okL n ds = true → PyData.canLayAll0 (pyL ds) = true ∧ PyData.depthAll (pyL ds) ≤ n
  | _, [], _ => ⟨rfl, by simp [pyL, PyData.depthAll]⟩
  | n, d :: ds, h => by
    have h' : okD n d = true ∧ okL n ds = true := by simpa [okL] using h
    obtain ⟨a1, a2⟩ := okD_lay n d h'.1
    obtain ⟨b1, b2⟩ := okL_lay n ds h'.2
    exact ⟨by simp [pyL, PyData.canLayAll0, a1, b1], by simp only [pyL, PyData.depthAll]; omega⟩
end
theorem shaped_ok {d : D} (h : okD 16 d = true) : SeqAt.shaped (py d) = true := by
  obtain ⟨h1, h2⟩ := okD_lay 16 d h
  unfold SeqAt.shaped
  rw [h1, decide_eq_true (by omega)]; rfl
mutual
theorem Rep.dp {K : PySem.W.Frag} {G : Hp} : ∀ (n : Nat) (d : D) (v : V), Rep G v d → okD n d = true → Dp K G v (py d)
  | _, .non, _, r, _ => by cases r; exact .non
  | _, .bl _, _, r, _ => by cases r; exact .bl _
  | _, .int _, _, r, _ => by cases r; exact .int _
  | _, .str _, _, r, _ => by cases r; exact .str _
  | n + 1, .tup ds, _, r, h => by
    cases r with
    | tup h1 h2 => exact .tup (.of h1) (RepL.dp n ds _ h2 (by simpa [okD] using h))
  | n + 1, .lst ds, _, r, h => by
    cases r with
    | lst h1 h2 => exact .lst (.inl h1) (RepL.dp n ds _ h2 (by simpa [okD] using h))
  | 0, .tup _, _, _, h => by simp [okD] at h
  | 0, .lst _, _, _, h => by simp [okD] at h
  | 0, .dK _, _, _, h => by simp [okD] at h
  | 0, .dT _, _, _, h => by simp [okD] at h
  | _ + 1, .dK _, _, _, h => by simp [okD] at h
  | _ + 1, .dT _, _, _, h => by simp [okD] at h
theorem RepL.dp {K : PySem.W.Frag} {G : Hp} : ∀ (n : Nat) (ds : List D) (vs : List V), RepL G vs ds → okL n ds = true → DpAll K G vs (pyL ds)
  | _, [], _, r, _ => by cases r; exact .nil
  | n, d :: ds, _, r, h => by
    have h' : okD n d = true ∧ okL n ds = true := by simpa [okL] using h
    cases r with
    | cons r1 r2 => exact .cons (Rep.dp n d _ r1 h'.1) (RepL.dp n ds _ r2 h'.2)
end
/-- == -/
def eqv (a b : D) : Bool := PyData.eqv (py a) (py b)

/-! ### comparisons: their meanings -/
def eqD (a b : D) : Option Bool := if okD 16 a = true ∧ okD 16 b = true then some (eqv a b) else none
def neD (a b : D) : Option Bool := if okD 16 a = true ∧ okD 16 b = true then some (!eqv a b) else none
/-- tuples of whole numbers -/
def intsOf : List D → Option (List Int)
  | [] => some []
  | .int i :: ds => (intsOf ds).map (i :: ·)
  | _ :: _ => none
def ltD : D → D → Option Bool
  | .int i, .int j => some (decide (i < j))
  | .tup xs, .tup ys => match intsOf xs, intsOf ys with
    | some ns, some ms => some (HT.lexLt ns ms)
    | _, _ => none
  | _, _ => none
def leD : D → D → Option Bool
  | .int i, .int j => some (decide (i ≤ j))
  | _, _ => none
def gtD : D → D → Option Bool
  | .int i, .int j => some (decide (j < i))
  | _, _ => none
def geD : D → D → Option Bool
  | .int i, .int j => some (decide (j ≤ i))
  | _, _ => none
def sameD : D → D → Bool
  | .non, .non => true
  | .bl a, .bl b => a == b
  | _, _ => false
def constD : D → Bool
  | .non => true
  | .bl _ => true
  | _ => false
def isD (a b : D) : Option Bool := if constD b = true then some (sameD a b) else none
def isnD (a b : D) : Option Bool := if constD b = true then some (!sameD a b) else none

def Cmp2 (r : R2) (g : D → D → Option Bool) : Prop :=
  ∀ (H : Hp) (v w : V) (dx dy : D) (b : Bool) (Q : VK), Rep H v dx → Rep H w dy → g dx dy = some b → Q (.bl b) H → r v w H Q
section
variable {K : PySem.W.Frag}
theorem cz_eq : Cmp2 (rEqD K) eqD := by
  intro H v w dx dy b Q rx ry h q
  unfold eqD at h
  split at h <;> cases h
  rename_i z
  exact ⟨py dx, py dy, rx.dp 16 dx v z.1, ry.dp 16 dy w z.2, shaped_ok z.1, shaped_ok z.2, q⟩
theorem cz_ne : Cmp2 (rNeD K) neD := by
  intro H v w dx dy b Q rx ry h q
  unfold neD at h
  split at h <;> cases h
  rename_i z
  exact ⟨py dx, py dy, rx.dp 16 dx v z.1, ry.dp 16 dy w z.2, shaped_ok z.1, shaped_ok z.2, q⟩
theorem intsOf_rep {H : Hp} : ∀ {vs : List V} {ds : List D} {ns : List Int}, RepL H vs ds → intsOf ds = some ns → vs = ns.map V.int
  | _, _, _, .nil, e => by cases e; rfl
  | _, _, ns, .cons (d := d) (ds := ds) r t, e => by
    cases d <;> simp only [intsOf] at e <;> try cases e
    rename_i i
    cases q : intsOf ds with
    | none => rw [q] at e; cases e
    | some ms =>
      rw [q] at e; cases e
      cases r
      rw [intsOf_rep t q]; rfl
def rLtA (K : PySem.W.Frag) : R2 := fun x y H Q => rI0 (fun i j => .bl (decide (i < j))) x y H Q ∨ rLtT K x y H Q
theorem cz_lt : Cmp2 (rLtA K) ltD := by
  intro H v w dx dy b Q rx ry h q
  cases dx <;> cases dy <;> simp only [ltD] at h <;> try cases h
  · cases rx; cases ry; exact .inl ⟨_, _, rfl, rfl, q⟩
  · rename_i xs ys
    cases rx with
    | tup h1 r1 =>
      cases ry with
      | tup h2 r2 =>
        cases e1 : intsOf xs with
        | none => rw [e1] at h; cases h
        | some ns =>
          cases e2 : intsOf ys with
          | none => rw [e1, e2] at h; cases h
          | some ms =>
            rw [e1, e2] at h; cases h
            exact .inr ⟨_, _, ns, ms, rfl, rfl, .of (by rw [← intsOf_rep r1 e1]; exact h1), .of (by rw [← intsOf_rep r2 e2]; exact h2), q⟩
theorem cz_le : Cmp2 (rI0 fun i j => .bl (decide (i ≤ j))) leD := by
  intro H v w dx dy b Q rx ry h q
  cases dx <;> cases dy <;> simp only [leD] at h <;> try cases h
  cases rx; cases ry; exact ⟨_, _, rfl, rfl, q⟩
theorem cz_gt : Cmp2 (rI0 fun i j => .bl (decide (j < i))) gtD := by
  intro H v w dx dy b Q rx ry h q
  cases dx <;> cases dy <;> simp only [gtD] at h <;> try cases h
  cases rx; cases ry; exact ⟨_, _, rfl, rfl, q⟩
theorem cz_ge : Cmp2 (rI0 fun i j => .bl (decide (j ≤ i))) geD := by
  intro H v w dx dy b Q rx ry h q
  cases dx <;> cases dy <;> simp only [geD] at h <;> try cases h
  cases rx; cases ry; exact ⟨_, _, rfl, rfl, q⟩
/-- is, is not, of a written None, True, False -/
def rIsC (n : Bool) : R2 := fun x y H Q => (y = .non ∨ ∃ b, y = .bl b) ∧ Q (.bl (if n = true then !decide (x = y) else decide (x = y))) H
theorem same_dec {H : Hp} {v w : V} {dx dy : D} (rx : Rep H v dx) (ry : Rep H w dy) (c : constD dy = true) : decide (v = w) = sameD dx dy := by
  cases dy <;> simp only [constD] at c <;> try cases c
  · cases ry
    cases rx <;> simp [sameD]
  · cases ry
    cases rx <;> simp [sameD]
    rename_i a b
    cases a <;> cases b <;> rfl
theorem cz_is : Cmp2 (rIsC false) isD := by
  intro H v w dx dy b Q rx ry h q
  unfold isD at h
  split at h <;> cases h
  rename_i z
  refine ⟨?_, by rw [if_neg Bool.false_ne_true, same_dec rx ry z]; exact q⟩
  cases dy <;> simp only [constD] at z <;> try cases z
  · cases ry; exact .inl rfl
  · cases ry; exact .inr ⟨_, rfl⟩
theorem cz_isn : Cmp2 (rIsC true) isnD := by
  intro H v w dx dy b Q rx ry h q
  unfold isnD at h
  split at h <;> cases h
  rename_i z
  refine ⟨?_, by rw [if_pos rfl, same_dec rx ry z]; exact q⟩
  cases dy <;> simp only [constD] at z <;> try cases z
  · cases ry; exact .inl rfl
  · cases ry; exact .inr ⟨_, rfl⟩
end
end DV

/-! DV6: comparisons, tests, rows, displays, calls of built-ins: the rules. -/
namespace DV
open PySem PySem.Spec PyProof.Rows L2

section
variable {X : Cx}
theorem rel_eq_const {x y : V} {v u : Value} (rx : RelV x v) (ry : RelV y u) (c : y = .non ∨ ∃ b, y = .bl b) : (v == u) = decide (x = y) ∧ plainIs v u = true := by
  have key : (v = u ↔ x = y) := by
    constructor
    · intro e; subst e; exact rx.inj ry
    · intro e; subst e
      rcases c with e | ⟨b, e⟩
      · subst e; cases rx; cases ry; rfl
      · subst e; cases rx; cases ry; rfl
  refine ⟨?_, ?_⟩
  · by_cases e : x = y
    · rw [decide_eq_true e]; exact beq_iff_eq.mpr (key.mpr e)
    · rw [decide_eq_false e]; exact beq_eq_false_iff_ne.mpr fun z => e (key.mp z)
  · rcases c with e | ⟨b, e⟩
    · subst e; cases ry
      cases x <;> first
        | (cases rx; rfl)
        | (obtain ⟨t, rfl⟩ := rx; rfl)
    · subst e; cases ry
      cases x <;> first
        | (cases rx; rfl)
        | (obtain ⟨t, rfl⟩ := rx; rfl)
theorem op_isC : OpR X (compareOp .Is) (rIsC false) := by
  intro pins s σ H x y v u Q I rx ry ⟨c, q⟩
  obtain ⟨e, p⟩ := rel_eq_const rx ry c
  rw [if_neg Bool.false_ne_true] at q
  exact wpAny_is_plain p ⟨.bl _, H, I, by rw [e]; rfl, q⟩
theorem op_isnC : OpR X (compareOp .IsNot) (rIsC true) := by
  intro pins s σ H x y v u Q I rx ry ⟨c, q⟩
  obtain ⟨e, p⟩ := rel_eq_const rx ry c
  rw [if_pos rfl] at q
  exact wpAny_isNot_plain p ⟨.bl _, H, I, by rw [e]; rfl, q⟩
theorem op_ltA (hu : X.A.units < cLine) : OpR X (compareOp .Lt) (rLtA X.K) := op_lt.or (op_ltT hu)
end

section
variable {X : Cx} {L : Lents} {W : WX} {e a b c : Expr} {es : List Expr} {pos : Pos}
theorem cmp_use {σ : Sig} {H : Hp} {Q : VK} {oa ob : Opd} {g : D → D → Option Bool} {r : R2} (hs : Cmp2 r g)
    (h : tE X.K L W (S.cmp g oa ob) σ H Q) : tOp r (tO X.K L W oa) (tO X.K L W ob) σ H Q := by
  obtain ⟨G, η, Fs, R, q⟩ := h
  refine tO_use R q fun v p η1 G1 H1 Fs1 R1 E1 k1 q1 => ?_
  refine tO_use R1 q1 fun w p2 η2 G2 H2 Fs2 R2 E2 k2 q2 => ?_
  obtain ⟨d, e, q3⟩ := q2.lift
  cases hx : oa.deep p η2 with
  | none => rw [hx] at e; cases e
  | some x =>
    rw [hx] at e
    cases hy : ob.deep p2 η2 with
    | none => rw [show (some x).bind _ = (ob.deep p2 η2).bind _ from rfl, hy] at e; cases e
    | some y =>
      rw [show (some x).bind _ = (ob.deep p2 η2).bind _ from rfl, hy] at e
      have e : (g x y).map D.bl = some d := e
      cases hg : g x y with
      | none => rw [hg] at e; cases e
      | some k =>
        rw [hg] at e; cases e
        exact hs H2 v w x y k Q ((k1.mono E2.g.sub).rep R2 hx) (k2.rep R2 hy) hg (q3 G2 H2 Fs2 R2 Ext.refl (.bl k) (.bl k))
theorem je_cmp {op : CmpOp} {r : R2} {g : D → D → Option Bool} {oa ob : Opd} (ho : OpR X (compareOp op) r) (hs : Cmp2 r g) (ha : PE X a (tO X.K L W oa)) (hb : PE X b (tO X.K L W ob)) (hm : behindInMarks op b = false) :
    PE X (.Compare a [op] [b] pos) (tE X.K L W (S.cmp g oa ob)) := PE.imp (pe_cmpR ho ha hb hm) fun σ H Q h => cmp_use hs h
/-- a value that is a truth as a test's reading -/
theorem tst_use {σ : Sig} {H : Hp} {Q : Bool → Hp → Prop} {f : SE} (h : tT X.K L W (S.tst f) σ H Q) : tE X.K L W f σ H fun x H' => ∃ k, x = .bl k ∧ Q k H' := by
  obtain ⟨G, η, Fs, R, q⟩ := h
  refine ⟨G, η, Fs, R, q.bind.mono fun d η1 G1 H1 Fs1 R1 E1 q1 v rv => ?_⟩
  obtain ⟨k, e, q2⟩ := q1.lift
  cases d <;> simp only [S.truth] at e <;> try cases e
  cases rv
  exact ⟨_, rfl, q2 G1 H1 Fs1 R1 Ext.refl⟩
theorem jt_cmp {op : CmpOp} {r : R2} {g : D → D → Option Bool} {oa ob : Opd} (ho : OpR X (compareOp op) r) (hs : Cmp2 r g) (ha : PE X a (tO X.K L W oa)) (hb : PE X b (tO X.K L W ob)) (hm : behindInMarks op b = false) :
    PT X (.Compare a [op] [b] pos) (tT X.K L W (S.tst (S.cmp g oa ob))) := PT.imp (pt_cmpR ho ha hb hm) fun σ H Q h => cmp_use hs (tst_use h)
theorem jt_val {f : SE} (h : PE X e (tE X.K L W f)) (he : ∀ whole, isTrue e X.env whole = (do let v ← whole; standAt e.pos; holding [v] (truthy v))) : PT X e (tT X.K L W (S.tst f)) :=
  PT.imp (pt_val h he) fun σ H Q h => tst_use h
/-! ### and, or, not -/
theorem tand_use {σ : Sig} {H : Hp} {Q : Bool → Hp → Prop} {f g : ST} (h : tT X.K L W (S.tand f g) σ H Q) : tAnd (tT X.K L W f) (tT X.K L W g) σ H Q := by
  obtain ⟨G, η, Fs, R, q⟩ := h
  refine ⟨G, η, Fs, R, q.bind.mono fun x η1 G1 H1 Fs1 R1 E1 q1 => ?_⟩
  cases x with
  | true => exact ⟨G1, η1, Fs1, R1, q1⟩
  | false => exact q1 G1 H1 Fs1 R1 Ext.refl
theorem tor_use {σ : Sig} {H : Hp} {Q : Bool → Hp → Prop} {f g : ST} (h : tT X.K L W (S.tor f g) σ H Q) : tOr (tT X.K L W f) (tT X.K L W g) σ H Q := by
  obtain ⟨G, η, Fs, R, q⟩ := h
  refine ⟨G, η, Fs, R, q.bind.mono fun x η1 G1 H1 Fs1 R1 E1 q1 => ?_⟩
  cases x with
  | false => exact ⟨G1, η1, Fs1, R1, q1⟩
  | true => exact q1 G1 H1 Fs1 R1 Ext.refl
variable {rest : List Expr}
theorem jw_and1 {f : ST} (h : PT X a (tT X.K L W f)) : PW X (.BoolOp .And [a] pos) (tT X.K L W f) := pw_and1 h
theorem jw_or1 {f : ST} (h : PT X a (tT X.K L W f)) : PW X (.BoolOp .Or [a] pos) (tT X.K L W f) := pw_or1 h
theorem jw_and {f g : ST} (h : PT X a (tT X.K L W f)) (hr : PW X (.BoolOp .And (b :: rest) pos) (tT X.K L W g)) : PW X (.BoolOp .And (a :: b :: rest) pos) (tT X.K L W (S.tand f g)) :=
  PW.imp (pw_and h hr) fun σ H Q q => tand_use q
theorem jw_or {f g : ST} (h : PT X a (tT X.K L W f)) (hr : PW X (.BoolOp .Or (b :: rest) pos) (tT X.K L W g)) : PW X (.BoolOp .Or (a :: b :: rest) pos) (tT X.K L W (S.tor f g)) :=
  PW.imp (pw_or h hr) fun σ H Q q => tor_use q
theorem jt_not {f : ST} (h : PT X a (tT X.K L W f)) : PT X (.UnaryOp .Not a pos) (tT X.K L W (S.tnot f)) :=
  PT.imp (pt_not h) fun σ H Q ⟨G, η, Fs, R, q⟩ => ⟨G, η, Fs, R, q.bind.mono fun x η1 G1 H1 Fs1 R1 E1 q1 => q1 G1 H1 Fs1 R1 Ext.refl⟩
theorem je_one {op} {f : SE} (h : PE X a (tE X.K L W f)) : PE X (.BoolOp op [a] pos) (tE X.K L W f) := pe_one h
theorem je_and {f g : SE} (h : PE X a (tE X.K L W f)) (hr : PE X (.BoolOp .And (b :: rest) pos) (tE X.K L W g)) : PE X (.BoolOp .And (a :: b :: rest) pos) (tE X.K L W (S.band f g)) := by
  refine PE.imp (pe_and h hr) fun σ H Q ⟨G, η, Fs, R, q⟩ => ⟨G, η, Fs, R, q.bind.mono fun d η1 G1 H1 Fs1 R1 E1 q1 v rv => ?_⟩
  cases d <;> first | exact (show False from q1).elim | skip
  rename_i k
  cases rv
  refine ⟨k, rfl, ?_⟩
  cases k with
  | true => exact ⟨G1, η1, Fs1, R1, q1⟩
  | false => exact q1 G1 H1 Fs1 R1 Ext.refl _ (.bl false)
theorem je_or {f g : SE} (h : PE X a (tE X.K L W f)) (hr : PE X (.BoolOp .Or (b :: rest) pos) (tE X.K L W g)) : PE X (.BoolOp .Or (a :: b :: rest) pos) (tE X.K L W (S.bor f g)) := by
  refine PE.imp (pe_or h hr) fun σ H Q ⟨G, η, Fs, R, q⟩ => ⟨G, η, Fs, R, q.bind.mono fun d η1 G1 H1 Fs1 R1 E1 q1 v rv => ?_⟩
  cases d <;> first | exact (show False from q1).elim | skip
  rename_i k
  cases rv
  refine ⟨k, rfl, ?_⟩
  cases k with
  | false => exact ⟨G1, η1, Fs1, R1, q1⟩
  | true => exact q1 G1 H1 Fs1 R1 Ext.refl _ (.bl true)
theorem je_not {f : SE} (h : PE X a (tE X.K L W f)) : PE X (.UnaryOp .Not a pos) (tE X.K L W (S.bnot f)) := by
  refine PE.imp (pe_not h) fun σ H Q ⟨G, η, Fs, R, q⟩ => ⟨G, η, Fs, R, q.bind.mono fun d η1 G1 H1 Fs1 R1 E1 q1 v rv => ?_⟩
  cases d <;> first | exact (show False from q1).elim | skip
  rename_i k
  cases rv
  exact ⟨k, rfl, q1 G1 H1 Fs1 R1 Ext.refl _ (.bl _)⟩
/-- a if t else b -/
theorem jf_ite {t : ST} {f g : SF} (ht : PT X c (tT X.K L W t)) (ha : PE X a (tF X.K L W f)) (hb : PE X b (tF X.K L W g)) : PE X (.IfExp c a b pos) (tF X.K L W (S.ite t f g)) := by
  refine PE.imp (pe_ifExp ht ha hb) fun σ H Q ⟨G, η, Fs, R, q⟩ => ⟨G, η, Fs, R, q.bind.mono fun x η1 G1 H1 Fs1 R1 E1 q1 => ?_⟩
  have post : ∀ {o : Out (Nat × D)}, Res X.K L W σ G1 H1 Fs1 (fun p _ G' H' Fs' => ∀ v F, Apart G' H' Fs' p.1 v p.2 F → (∀ a ∈ F, foot Fs a ∨ H a = none) → Q v H') o →
      Res X.K L W σ G1 H1 Fs1 (fun p _ G' H' Fs' => ∀ v F, Apart G' H' Fs' p.1 v p.2 F → (∀ a ∈ F, foot Fs1 a ∨ H1 a = none) → Q v H') o := fun h => h.mono fun p η2 G2 H2 Fs2 R2 E2 q2 v F y o => q2 v F y fun a ha => (o a ha).elim (E1.f a) fun z => .inr (E1.noneOf z)
  cases x with
  | true => exact ⟨G1, η1, Fs1, R1, post q1⟩
  | false => exact ⟨G1, η1, Fs1, R1, post q1⟩

/-! ### rows of values, displays -/
def tL (K : PySem.W.Frag) (L : Lents) (W : WX) (f : Env → Out (List D)) : TA := fun σ H Q => ∃ G η Fs, Rel L G η σ H Fs ∧ Res K L W σ G H Fs (fun ds _ G' H' _ => ∀ vs, RepL G' vs ds → Q vs H') (f η)
theorem jl_nil : PA X [] (tL X.K L W S.nil) := PA.imp pa_nil fun σ H Q ⟨G, η, Fs, R, q⟩ => q G H Fs R Ext.refl [] .nil
theorem jl_cons {f : SE} {r : Env → Out (List D)} (h : PE X e (tE X.K L W f)) (hr : PA X es (tL X.K L W r)) (hs : starEach (e :: es) X.env = (false, eval e X.env) :: starEach es X.env := by rfl) : PA X (e :: es) (tL X.K L W (S.cons f r)) := by
  refine PA.imp (pa_cons h hr hs) fun σ H Q ⟨G, η, Fs, R, q⟩ => ⟨G, η, Fs, R, q.bind.mono fun d η1 G1 H1 Fs1 R1 E1 q1 v rv => ⟨G1, η1, Fs1, R1, q1.bind.mono fun ds η2 G2 H2 Fs2 R2 E2 q2 vs rvs => ?_⟩⟩
  exact q2 G2 H2 Fs2 R2 Ext.refl (v :: vs) (.cons (rv.mono E2.g.sub) rvs)
theorem je_tup {r : Env → Out (List D)} {x1} (h : PA X es (tL X.K L W r)) : PE X (.Tuple es x1 pos) (tE X.K L W (S.tup r)) := by
  refine PE.imp (pe_tup h) fun σ H Q ⟨G, η, Fs, R, q⟩ => ⟨G, η, Fs, R, q.bind.mono fun ds η1 G1 H1 Fs1 R1 E1 q1 vs rv => ?_⟩
  obtain ⟨d, e, q2⟩ := q1.lift
  split at e <;> cases e
  rename_i hz
  refine ⟨by rw [rv.length]; exact hz, fun p hp => ?_⟩
  have N := New.frozen (o := .tup vs) R1.sub hp
  exact q2 _ _ _ (R1.new N) N.ext _ (.tup upd_same (rv.mono N.g.sub))
theorem jf_lst {r : Env → Out (List D)} (h : PA X es (tL X.K L W r)) : PE X (.List es pos) (tF X.K L W (S.lst r)) := by
  refine PE.imp (pe_lst h) fun σ H Q ⟨G, η, Fs, R, q⟩ => ⟨G, η, Fs, R, q.bind.mono fun ds η1 G1 H1 Fs1 R1 E1 q1 vs rv => ?_⟩
  obtain ⟨d, e, q2⟩ := q1.lift
  split at e <;> cases e
  rename_i hz
  refine ⟨by rw [rv.length]; exact hz, fun p hp => ?_⟩
  have N := New.own (o := .lst vs) R1.sub hp
  refine q2 _ _ _ (R1.new N) N.ext _ [p] ⟨⟨p, vs, [], rfl, upd_same, rfl, OwnL.of0 rv⟩, by simp, fun a ha => ?_, fun a ha => ?_⟩ fun a ha => ?_
  · have e : a = p := by simpa using ha
    subst e; exact R1.sub.free hp
  · have e : a = p := by simpa using ha
    subst e; exact R1.noFoot hp
  · have e : a = p := by simpa using ha
    subst e; exact .inr (E1.noneOf hp)

/-! ### calls of built-ins, by values -/
def tOs (K : PySem.W.Frag) (L : Lents) (W : WX) : List Opd → TA
  | [] => tNil
  | o :: os => tCons (tO K L W o) (tOs K L W os)
theorem jos_nil : PA X [] (tOs X.K L W []) := pa_nil
theorem jos_cons {o : Opd} {os : List Opd} (h : PE X e (tO X.K L W o)) (hr : PA X es (tOs X.K L W os)) (hs : starEach (e :: es) X.env = (false, eval e X.env) :: starEach es X.env := by rfl) : PA X (e :: es) (tOs X.K L W (o :: os)) := pa_cons h hr hs
inductive KnL (σ : Sig) (G : Hp) : List V → List Opd → List (Option D) → Prop
  | nil : KnL σ G [] [] []
  | cons {v vs o os p ps} : Kn σ G v o p → KnL σ G vs os ps → KnL σ G (v :: vs) (o :: os) (p :: ps)
theorem KnL.mono {σ : Sig} {G G' : Hp} (s : Sub G G') : ∀ {vs os ps}, KnL σ G vs os ps → KnL σ G' vs os ps
  | _, _, _, .nil => .nil
  | _, _, _, .cons k t => .cons (k.mono s) (KnL.mono s t)
inductive BorL (G H : Hp) : List V → List D → Prop
  | nil : BorL G H [] []
  | cons {v vs d ds} : Bor G H v d → BorL G H vs ds → BorL G H (v :: vs) (d :: ds)
theorem KnL.bor {σ : Sig} {G H : Hp} {η : Env} {Fs : Feet} (R : Rel L G η σ H Fs) : ∀ {vs os ps ds}, KnL σ G vs os ps → S.finL os ps η = some ds → BorL G H vs ds
  | _, _, _, _, .nil, e => by cases e; exact .nil
  | _, _, _, ds, .cons (o := o) (os := os) (p := p) (ps := ps) k t, e => by
    have e : (o.fin p η).bind (fun d => (S.finL os ps η).bind fun ds => some (d :: ds)) = some ds := e
    cases h1 : o.fin p η with
    | none => rw [h1] at e; cases e
    | some d =>
      rw [h1] at e
      have e : (S.finL os ps η).bind (fun ds => some (d :: ds)) = some ds := e
      cases h2 : S.finL os ps η with
      | none => rw [h2] at e; cases e
      | some ds' => rw [h2] at e; cases e; exact .cons (k.bor R h1) (KnL.bor R t h2)
theorem KnL.rep {σ : Sig} {G H : Hp} {η : Env} {Fs : Feet} (R : Rel L G η σ H Fs) : ∀ {vs os ps ds}, KnL σ G vs os ps → S.deepL os ps η = some ds → RepL H vs ds
  | _, _, _, _, .nil, e => by cases e; exact .nil
  | _, _, _, ds, .cons (o := o) (os := os) (p := p) (ps := ps) k t, e => by
    have e : (o.deep p η).bind (fun d => (S.deepL os ps η).bind fun ds => some (d :: ds)) = some ds := e
    cases h1 : o.deep p η with
    | none => rw [h1] at e; cases e
    | some d =>
      rw [h1] at e
      have e : (S.deepL os ps η).bind (fun ds => some (d :: ds)) = some ds := e
      cases h2 : S.deepL os ps η with
      | none => rw [h2] at e; cases e
      | some ds' => rw [h2] at e; cases e; exact .cons (k.rep R h1) (KnL.rep R t h2)
theorem tOs_use {β : Type} {σ : Sig} {P : β → Env → Hp → Hp → Feet → Prop} {K : PySem.W.Frag} : ∀ {os : List Opd} {f : List (Option D) → Env → Out β} {Q : List V → Hp → Prop} {G H : Hp} {η : Env} {Fs : Feet} (R : Rel L G η σ H Fs) (h : Res K L W σ G H Fs P ((S.preL os η).bind f))
    (k : ∀ vs ps η1 G1 H1 Fs1, Rel L G1 η1 σ H1 Fs1 → Ext G H Fs G1 H1 Fs1 → KnL σ G1 vs os ps → Res K L W σ G1 H1 Fs1 P (f ps η1) → Q vs H1), tOs K L W os σ H Q
  | [], f, Q, G, H, η, Fs, R, h, k => k [] [] η G H Fs R Ext.refl .nil h
  | o :: os, f, Q, G, H, η, Fs, R, h, k => by
    have e : (S.preL (o :: os) η).bind f = (o.pre η).bind fun p η1 => (S.preL os η1).bind fun ps η2 => f (p :: ps) η2 := by
      show ((o.pre η).bind fun p η1 => (S.preL os η1).bind fun ps η2 => .ok (p :: ps) η2).bind f = _
      cases o.pre η with
      | bad => rfl
      | exc c η' => rfl
      | ok p η1 =>
        show ((S.preL os η1).bind fun ps η2 => .ok (p :: ps) η2).bind f = (S.preL os η1).bind fun ps η2 => f (p :: ps) η2
        cases S.preL os η1 <;> rfl
    rw [e] at h
    refine tO_use R h fun v p η1 G1 H1 Fs1 R1 E1 k1 q1 => ?_
    refine tOs_use R1 q1 fun vs ps η2 G2 H2 Fs2 R2 E2 k2 q2 => ?_
    exact k (v :: vs) (p :: ps) η2 G2 H2 Fs2 R2 (E1.trans E2) (.cons (k1.mono E2.g.sub) k2) q2
/-- what the rule asks is given by the meaning -/
def CallF (r : List V → Hp → VK → Prop) (g : List D → Option (Nat × D)) : Prop :=
  ∀ (G H : Hp) (vs : List V) (ds : List D) (k : Nat) (d : D) (Q : VK), Sub G H → BorL G H vs ds → g ds = some (k, d) → Fin2 G H k d Q → r vs H Q
def CallD (r : List V → Hp → VK → Prop) (g : List D → Option D) : Prop :=
  ∀ (H : Hp) (vs : List V) (ds : List D) (d : D) (Q : VK), RepL H vs ds → g ds = some d → (∀ u, (∀ G, Rep G u d) → Q u H) → r vs H Q
theorem jf_callR {r : List V → Hp → VK → Prop} {g : List D → Option (Nat × D)} {os : List Opd} (hs : CallF r g) (h : PE X e (tCB r (tOs X.K L W os))) : PE X e (tF X.K L W (S.fn g os)) := by
  refine PE.imp h fun σ H Q ⟨G, η, Fs, R, q⟩ => ?_
  refine tOs_use R q fun vs ps η1 G1 H1 Fs1 R1 E1 k1 q1 => ?_
  obtain ⟨⟨k, d⟩, e, q3⟩ := q1.lift
  cases hx : S.finL os ps η1 with
  | none => rw [hx] at e; cases e
  | some ds =>
    rw [hx] at e
    refine hs G1 H1 vs ds k d Q R1.sub (k1.bor R1 hx) e (fin_tF (P := fun _ _ _ _ _ => True) R1 fun G' H' Fs' R' E' u F x o => ?_)
    exact q3 G' H' Fs' R' E' u F x fun a ha => .inr (E1.noneOf (o a ha))
theorem je_callD {r : List V → Hp → VK → Prop} {g : List D → Option D} {os : List Opd} (hs : CallD r g) (h : PE X e (tCB r (tOs X.K L W os))) : PE X e (tE X.K L W (S.fnd g os)) := by
  refine PE.imp h fun σ H Q ⟨G, η, Fs, R, q⟩ => ?_
  refine tOs_use R q fun vs ps η1 G1 H1 Fs1 R1 E1 k1 q1 => ?_
  obtain ⟨d, e, q3⟩ := q1.lift
  cases hx : S.deepL os ps η1 with
  | none => rw [hx] at e; cases e
  | some ds =>
    rw [hx] at e
    exact hs H1 vs ds d Q (k1.rep R1 hx) e fun u ru => q3 G1 H1 Fs1 R1 Ext.refl u (ru G1)
end
end DV

/-! DV7: statements, targets, loops. -/
namespace DV
open PySem PySem.Spec PyProof.Rows L2

/-- a value without lists and dicts -/
def flatD : D → Bool
  | .tup ds => flatL ds
  | .lst _ => false
  | .dK _ => false
  | .dT _ => false
  | _ => true
where flatL : List D → Bool
  | [] => true
  | d :: ds => flatD d && flatL ds

namespace S
def pass : SS := fun η => .ok .nx η
def brk : SS := fun η => .ok .bk η
def cnt : SS := fun η => .ok .ct η
def flowThen (fl : Flow) (g : SS) (η : Env) : Out Flow := match fl with
  | .nx => g η
  | f => .ok f η
def seq (f g : SS) : SS := fun η => (f η).bind fun fl η1 => flowThen fl g η1
/-- what slot i may take: it isn't lent -/
def stores (i : Nat) (η : Env) : Bool := match η[i]? with
  | some (.val _ true _) => false
  | some _ => true
  | none => false
def asg (i : Nat) (f : SF) : SS := fun η => (f η).bind fun p η1 => if stores i η1 = true then .ok .nx (η1.set i (.val p.1 false p.2)) else .bad
def drop (f : SE) : SS := fun η => (f η).bind fun _ η1 => .ok .nx η1
def ret (f : SF) : SS := fun η => (f η).bind fun p η1 => .ok (.rt p.1 p.2) η1
def retN : SS := fun η => .ok (.rt 0 .non) η
def ifs (t : ST) (a b : SS) : SS := fun η => (t η).bind fun x η1 => if x = true then a η1 else b η1
def raise (c : Str) : SS := fun η => .exc c η
def name (i : Nat) : SG := fun d η => if stores i η = true then .ok () (η.set i (.val 0 false d)) else .bad
def names : List SG → List D → Env → Out Unit
  | [], [], η => .ok () η
  | g :: gs, d :: ds, η => (g d η).bind fun _ η1 => names gs ds η1
  | _, _, _ => .bad
def gtup (gs : List SG) : SG := fun d η => match d with
  | .tup ds => names gs ds η
  | _ => .bad
def asgG (f : SE) (g : SG) : SS := fun η => (f η).bind fun d η1 => match g d η1 with
  | .ok _ η2 => .ok .nx η2
  | _ => .bad
/-- a, b = x, y -/
def par (is : List Nat) (r : Env → Out (List D)) : SS := fun η => (r η).bind fun ds η1 => match names (is.map name) ds η1 with
  | .ok _ η2 => .ok .nx η2
  | _ => .bad
def forL (g : SG) (body : SS) : List D → Env → Out Flow
  | [], η => .ok .nx η
  | d :: ds, η => match g d η with
    | .ok _ η1 => (body η1).bind fun fl η2 => match fl with
      | .nx => forL g body ds η2
      | .ct => forL g body ds η2
      | .bk => .ok .nx η2
      | .rt k d => .ok (.rt k d) η2
    | _ => .bad
def fors (it : SI) (g : SG) (body : SS) : SS := fun η => (it η).bind fun ds η1 => forL g body ds η1
def whileN (t : ST) (body : SS) : Nat → Env → Option (Out Flow)
  | 0, _ => none
  | n + 1, η => match t η with
    | .bad => some .bad
    | .exc c η1 => some (.exc c η1)
    | .ok false η1 => some (.ok .nx η1)
    | .ok true η1 => match body η1 with
      | .bad => some .bad
      | .exc c η2 => some (.exc c η2)
      | .ok .nx η2 => whileN t body n η2
      | .ok .ct η2 => whileN t body n η2
      | .ok .bk η2 => some (.ok .nx η2)
      | .ok (.rt k d) η2 => some (.ok (.rt k d) η2)
open Classical in
noncomputable def whl (t : ST) (body : SS) : SS := fun η => if h : ∃ o n, whileN t body n η = some o then h.choose else .bad
theorem whileN_mono {t : ST} {body : SS} : ∀ {n : Nat} {η : Env} {o : Out Flow}, whileN t body n η = some o → ∀ m, n ≤ m → whileN t body m η = some o
  | 0, _, _, h, _, _ => by cases h
  | n + 1, η, o, h, 0, hm => by omega
  | n + 1, η, o, h, m + 1, hm => by
    unfold whileN at h ⊢
    split at h
    · exact h
    · exact h
    · exact h
    · split at h
      · exact h
      · exact h
      · exact whileN_mono h m (by omega)
      · exact whileN_mono h m (by omega)
      · exact h
      · exact h
theorem whl_of {t : ST} {body : SS} {n : Nat} {η : Env} {o : Out Flow} (h : whileN t body n η = some o) : whl t body η = o := by
  have hx : ∃ o n, whileN t body n η = some o := ⟨o, n, h⟩
  unfold whl
  rw [dif_pos hx]
  obtain ⟨m, hm⟩ := hx.choose_spec
  have h1 := whileN_mono h (max n m) (Nat.le_max_left _ _)
  have h2 := whileN_mono hm (max n m) (Nat.le_max_right _ _)
  rw [h1] at h2
  exact (Option.some.inj h2).symm
theorem whl_ex {t : ST} {body : SS} {η : Env} (h : whl t body η ≠ .bad) : ∃ n, whileN t body n η = some (whl t body η) := by
  by_cases hx : ∃ o n, whileN t body n η = some o
  · have e : whl t body η = hx.choose := by unfold whl; rw [dif_pos hx]
    obtain ⟨n, hn⟩ := hx.choose_spec
    exact ⟨n, by rw [e]; exact hn⟩
  · exact absurd (by unfold whl; rw [dif_neg hx]) h
/-- what is walked: a list, a tuple -/
def seqOf : D → Option (List D)
  | .lst ds => some ds
  | .tup ds => some ds
  | _ => none
def items (f : SE) : SI := fun η => (f η).bind fun d η1 => lift (seqOf d) η1
def rangeL (lo : Int) (n : Nat) : List D := (List.range n).map fun (i : Nat) => D.int (lo + i)
def range1 (f : SE) : SI := fun η => (f η).bind fun d η1 => match d with
  | .int j => if -(2 ^ 62) ≤ j ∧ j < 2 ^ 62 then .ok (rangeL 0 j.toNat) η1 else .bad
  | _ => .bad
def range2 (f g : SE) : SI := fun η => (f η).bind fun d η1 => (g η1).bind fun e η2 => match d, e with
  | .int i, .int j => if -(2 ^ 62) ≤ i ∧ i < 2 ^ 62 ∧ -(2 ^ 62) ≤ j ∧ j < 2 ^ 62 then .ok (rangeL i (j - i).toNat) η2 else .bad
  | _, _ => .bad
end S

section
variable {K : PySem.W.Frag} {L : Lents} {W : WX} {α β : Type} {G H G' H' : Hp} {η η' : Env} {Fs Fs' : Feet} {σ : Sig}
/-- what an outcome of a statement is to reach -/
def ResS (K : PySem.W.Frag) (L : Lents) (W : WX) (D : Ends) (G H : Hp) (Fs : Feet) : Out Flow → Prop
  | .ok .nx η' => ∀ σ' G' H' Fs', Rel L G' η' σ' H' Fs' → Ext G H Fs G' H' Fs' → D.nx σ' H'
  | .ok .bk η' => ∀ σ' G' H' Fs', Rel L G' η' σ' H' Fs' → Ext G H Fs G' H' Fs' → D.bk σ' H'
  | .ok .ct η' => ∀ σ' G' H' Fs', Rel L G' η' σ' H' Fs' → Ext G H Fs G' H' Fs' → D.ct σ' H'
  | .ok (.rt k d) η' => ∀ σ' G' H' Fs' v F, Rel L G' η' σ' H' Fs' → Ext G H Fs G' H' Fs' → Apart G' H' Fs' k v d F → (∀ a ∈ F, foot Fs a ∨ H a = none) → D.rt v H'
  | .exc c η' => ∀ σ' G' H' Fs', Rel L G' η' σ' H' Fs' → Ext G H Fs G' H' Fs' → W (.ref (He.ga K c)) none σ' H'
  | .bad => False
theorem ResS.later {D : Ends} {o : Out Flow} (h : ResS K L W D G H Fs o) (E : Ext G H Fs G' H' Fs') : ResS K L W D G' H' Fs' o := by
  cases o with
  | ok fl η1 =>
    cases fl with
    | nx => exact fun σ2 G2 H2 Fs2 R2 E2 => h σ2 G2 H2 Fs2 R2 (E.trans E2)
    | bk => exact fun σ2 G2 H2 Fs2 R2 E2 => h σ2 G2 H2 Fs2 R2 (E.trans E2)
    | ct => exact fun σ2 G2 H2 Fs2 R2 E2 => h σ2 G2 H2 Fs2 R2 (E.trans E2)
    | rt k d => exact fun σ2 G2 H2 Fs2 v F R2 E2 x o => h σ2 G2 H2 Fs2 v F R2 (E.trans E2) x fun a ha => (o a ha).elim (E.f a) fun z => .inr (E.noneOf z)
  | exc c η1 => exact fun σ2 G2 H2 Fs2 R2 E2 => h σ2 G2 H2 Fs2 R2 (E.trans E2)
  | bad => exact h
theorem ResS.bind {D : Ends} {o : Out α} {f : α → Env → Out Flow} (h : ResS K L W D G H Fs (o.bind f)) :
    Res K L W σ G H Fs (fun a η1 G1 H1 Fs1 => ResS K L W D G1 H1 Fs1 (f a η1)) o := by
  cases o with
  | ok a η1 => exact fun G1 H1 Fs1 R1 E1 => ResS.later (show ResS K L W D G H Fs (f a η1) from h) E1
  | exc c η1 => exact fun G1 H1 Fs1 R1 E1 => h σ G1 H1 Fs1 R1 E1
  | bad => exact h
/-- the end of a first statement; what stands behind goes on -/
theorem ResS.seq {D D' : Ends} {f : SS} {g : SS} (h : ResS K L W D G H Fs (S.seq f g η)) (nx : ∀ σ' G' H' Fs' η', Rel L G' η' σ' H' Fs' → ResS K L W D G' H' Fs' (g η') → D'.nx σ' H') (rt : ∀ v H, D.rt v H → D'.rt v H)
    (bk : ∀ σ H, D.bk σ H → D'.bk σ H) (ct : ∀ σ H, D.ct σ H → D'.ct σ H) : ResS K L W D' G H Fs (f η) := by
  unfold S.seq at h
  cases e : f η with
  | bad => rw [e] at h; exact h
  | exc c η1 => rw [e] at h; exact h
  | ok fl η1 =>
    rw [e] at h
    cases fl with
    | nx => exact fun σ1 G1 H1 Fs1 R1 E1 => nx σ1 G1 H1 Fs1 η1 R1 (ResS.later h E1)
    | bk => exact fun σ1 G1 H1 Fs1 R1 E1 => bk σ1 H1 (h σ1 G1 H1 Fs1 R1 E1)
    | ct => exact fun σ1 G1 H1 Fs1 R1 E1 => ct σ1 H1 (h σ1 G1 H1 Fs1 R1 E1)
    | rt k d => exact fun σ1 G1 H1 Fs1 v F R1 E1 x o => rt v H1 (h σ1 G1 H1 Fs1 v F R1 E1 x o)
def tS (K : PySem.W.Frag) (L : Lents) (W : WX) (f : SS) : TS := fun D σ H => ∃ G η Fs, Rel L G η σ H Fs ∧ ResS K L W D G H Fs (f η)
/-- a target: a frozen value is given -/
def tG (L : Lents) (g : SG) : TG := fun v σ H Q => ∃ G η Fs d η', Rel L G η σ H Fs ∧ Rep G v d ∧ g d η = .ok () η' ∧ ∀ σ' G' H' Fs', Rel L G' η' σ' H' Fs' → Ext G H Fs G' H' Fs' → Q σ' H'
theorem Rel.stored (R : Rel L G η σ H Fs) {i k : Nat} {v : V} {d : D} {F : List Addr} (x : Apart G H Fs k v d F) (s : S.stores i η = true) (o : ∀ a ∈ F, foot Fs a ∨ H a = none ∨ True) :
    ∃ Fs', Rel L G (η.set i (.val k false d)) (σ.set i (some v)) H Fs' ∧ ∀ a, foot Fs' a → a ∈ F ∨ foot Fs a := by
  unfold S.stores at s
  have nl : ∀ k d, η[i]? ≠ some (.val k true d) := fun k d z => by rw [z] at s; cases s
  have hi : i < η.length := by
    cases q : η[i]? with
    | none => rw [q] at s; cases s
    | some sl => exact (List.getElem?_eq_some_iff.mp q).1
  have R1 := R.forget nl
  have x1 : Apart G H (setF Fs i []) k v d F := ⟨x.own, x.nod, x.dis, fun a ha z => by
    rcases foot_setF z with z | ⟨j, _, z⟩
    · simp at z
    · exact x.sep a ha ⟨j, z⟩⟩
  have R2 := R1.put (i := i) x1 (by rw [List.length_set]; exact hi) (get_set_self hi)
  rw [show (η.set i .no).set i (.val k false d) = η.set i (.val k false d) from List.set_set ..] at R2
  refine ⟨_, R2, fun a z => ?_⟩
  rcases foot_setF z with z | ⟨j, hj, z⟩
  · exact .inl z
  · rw [setF_ne hj] at z; exact .inr ⟨j, z⟩
theorem Ext.feet {Fs1 Fs2 : Feet} (E : Ext G H Fs G' H' Fs1) (f : ∀ a, foot Fs2 a → foot Fs a ∨ H a = none) : Ext G H Fs G' H' Fs2 := ⟨E.g, E.h, E.n, f, E.d⟩
end

section
variable {X : Cx} {L : Lents} {W : WX} {e a b c : Expr} {es : List Expr} {pos : Pos} {st : Stmt} {rest ss ss' : List Stmt}
theorem PS.imp {t t' : TS} (h : PS X st t) (i : ∀ D σ H, t' D σ H → t D σ H) : PS X st t' := ⟨fun pins s σ H D I q => h.run pins s σ H D I (i D σ H q)⟩
theorem PSs.imp {t t' : TS} (h : PSs X ss t) (i : ∀ D σ H, t' D σ H → t D σ H) : PSs X ss t' := ⟨fun pins s σ H D I q => h.run pins s σ H D I (i D σ H q)⟩
theorem PG.imp {tg : Expr} {t t' : TG} (h : PG X tg t) (i : ∀ v σ H Q, t' v σ H Q → t v σ H Q) : PG X tg t' := ⟨fun pins s σ H v u Q I r q => h.run pins s σ H v u Q I r (i v σ H Q q)⟩
theorem js_nil : PSs X [] (tS X.K L W S.pass) := PSs.imp pss_nil fun D σ H ⟨G, η, Fs, R, q⟩ => q σ G H Fs R Ext.refl
theorem js_cons {f g : SS} (h : PS X st (tS X.K L W f)) (hr : PSs X rest (tS X.K L W g)) : PSs X (st :: rest) (tS X.K L W (S.seq f g)) :=
  PSs.imp (pss_cons h hr) fun D σ H ⟨G, η, Fs, R, q⟩ => ⟨G, η, Fs, R, q.seq (fun σ' G' H' Fs' η' R' q' => ⟨G', η', Fs', R', q'⟩) (fun _ _ z => z) (fun _ _ z => z) fun _ _ z => z⟩
theorem js_one {f : SS} (h : PS X st (tS X.K L W f)) : PSs X [st] (tS X.K L W f) := pss_one h
theorem js_pass : PS X (.Pass pos) (tS X.K L W S.pass) := PS.imp ps_pass fun D σ H ⟨G, η, Fs, R, q⟩ => q σ G H Fs R Ext.refl
theorem js_brk : PS X (.Break pos) (tS X.K L W S.brk) := PS.imp ps_break fun D σ H ⟨G, η, Fs, R, q⟩ => q σ G H Fs R Ext.refl
theorem js_cnt : PS X (.Continue pos) (tS X.K L W S.cnt) := PS.imp ps_continue fun D σ H ⟨G, η, Fs, R, q⟩ => q σ G H Fs R Ext.refl
theorem js_expr {f : SE} (h : PE X e (tE X.K L W f)) (hs : swapsWith e none pos.line X.env = pure false := by rfl) : PS X (.Expr e pos) (tS X.K L W (S.drop f)) :=
  PS.imp (ps_expr h hs) fun D σ H ⟨G, η, Fs, R, q⟩ => ⟨G, η, Fs, R, (ResS.bind q).mono fun d η1 G1 H1 Fs1 R1 E1 q1 v rv => q1 σ G1 H1 Fs1 R1 Ext.refl⟩
theorem js_ret {f : SF} (h : PE X e (tF X.K L W f)) : PS X (.Return (some e) pos) (tS X.K L W (S.ret f)) :=
  PS.imp (ps_ret h) fun D σ H ⟨G, η, Fs, R, q⟩ => ⟨G, η, Fs, R, by
    unfold S.ret at q
    cases z : f η with
    | bad => rw [z] at q; exact q
    | exc c η' => rw [z] at q; exact fun G1 H1 Fs1 R1 E1 => q σ G1 H1 Fs1 R1 E1
    | ok p η1 => rw [z] at q; exact fun G1 H1 Fs1 R1 E1 v F x o => q σ G1 H1 Fs1 v F R1 E1 x o⟩
theorem js_retN : PS X (.Return none pos) (tS X.K L W S.retN) := PS.imp ps_retN fun D σ H ⟨G, η, Fs, R, q⟩ => q σ G H Fs .non [] R Ext.refl (Apart.zero .non) fun a z => by simp at z
theorem js_if {t : ST} {f g : SS} (ht : PT X c (tT X.K L W t)) (ha : PSs X ss (tS X.K L W f)) (hb : PSs X ss' (tS X.K L W g)) : PS X (.If c ss ss' pos) (tS X.K L W (S.ifs t f g)) := by
  refine PS.imp (ps_if ht ha hb) fun D σ H ⟨G, η, Fs, R, q⟩ => ⟨G, η, Fs, R, (ResS.bind q).mono fun x η1 G1 H1 Fs1 R1 E1 q1 => ?_⟩
  cases x with
  | true => exact ⟨G1, η1, Fs1, R1, q1⟩
  | false => exact ⟨G1, η1, Fs1, R1, q1⟩
/-- x = e, x a name -/
theorem asg_use {σ : Sig} {H : Hp} {D : Ends} {i : Nat} {f : SF} (h : tS X.K L W (S.asg i f) D σ H) : tAsg (tF X.K L W f) (gName i) D σ H := by
  obtain ⟨G, η, Fs, R, q⟩ := h
  refine ⟨G, η, Fs, R, ?_⟩
  unfold S.asg at q
  cases z : f η with
  | bad => rw [z] at q; exact q
  | exc c η' => rw [z] at q; exact fun G1 H1 Fs1 R1 E1 => q σ G1 H1 Fs1 R1 E1
  | ok p η1 =>
    rw [z] at q
    intro G1 H1 Fs1 R1 E1 v F x o
    have q : ResS X.K L W D G H Fs (if S.stores i η1 = true then .ok .nx (η1.set i (.val p.1 false p.2)) else .bad) := q
    split at q
    · rename_i s
      obtain ⟨Fs2, R2, f2⟩ := R1.stored x s fun _ _ => .inr (.inr trivial)
      exact q _ G1 H1 Fs2 R2 (E1.feet fun a ha => (f2 a ha).elim (o a) (E1.f a))
    · exact q.elim
theorem js_asg {i : Nat} {x : Str} {f : SF} {pos' : Pos} (hN : X.N.Nodup) (hi : X.N[i]? = some x) (hx : Loc X.env.scope x) (h : PE X e (tF X.K L W f)) (hs : swapsWith e (some (.Name x pos')) pos.line X.env = pure false)
    (hf : X.fn x = true ∨ X.env.scope.names.lookup x = some .local) : PS X (.Assign [.Name x pos'] e pos) (tS X.K L W (S.asg i f)) :=
  PS.imp (ps_set hN hi hx h hs hf) fun D σ H q => asg_use q
/-! ### targets -/
theorem jg_name {i : Nat} {x : Str} (hN : X.N.Nodup) (hi : X.N[i]? = some x) (hx : Loc X.env.scope x) (hf : X.fn x = true ∨ X.env.scope.names.lookup x = some .local) : PG X (.Name x pos) (tG L (S.name i)) := by
  refine PG.imp (pg_name hN hi hx hf) fun v σ H Q ⟨G, η, Fs, d, η', R, r, e, q⟩ => ?_
  unfold S.name at e
  split at e <;> cases e
  rename_i s
  obtain ⟨Fs2, R2, f2⟩ := R.stored (Apart.zero r) s fun _ _ => .inr (.inr trivial)
  exact q _ G H Fs2 R2 (Ext.refl.feet fun a ha => (f2 a ha).elim (fun z => by simp at z) .inl)
def tGs (L : Lents) (gs : List SG) : TGs := fun vs σ H Q => ∃ G η Fs ds η', Rel L G η σ H Fs ∧ RepL G vs ds ∧ S.names gs ds η = .ok () η' ∧ ∀ σ' G' H' Fs', Rel L G' η' σ' H' Fs' → Ext G H Fs G' H' Fs' → Q σ' H'
theorem PGs.imp {ts : List Expr} {t t' : TGs} (h : PGs X ts t) (i : ∀ v σ H Q, t' v σ H Q → t v σ H Q) : PGs X ts t' := ⟨fun pins s σ H v u Q I r q => h.run pins s σ H v u Q I r (i v σ H Q q)⟩
theorem jgs_nil : PGs X [] (tGs L []) := PGs.imp pgs_nil fun vs σ H Q ⟨G, η, Fs, ds, η', R, r, e, q⟩ => by
  cases r with
  | nil => cases e; exact ⟨rfl, q σ G H Fs R Ext.refl⟩
  | cons _ _ => cases e
theorem jgs_cons {g : SG} {gs : List SG} (h : PG X e (tG L g)) (hr : PGs X es (tGs L gs)) (hs : (assignEach (e :: es) X.env).map (·.2) = assign e X.env :: (assignEach es X.env).map (·.2) := by rfl) : PGs X (e :: es) (tGs L (g :: gs)) := by
  refine PGs.imp (pgs_cons h hr hs) fun vs σ H Q ⟨G, η, Fs, ds, η', R, r, e, q⟩ => ?_
  cases r with
  | nil => cases e
  | @cons v vs d ds r1 r2 =>
    have e : (g d η).bind (fun _ η1 => S.names gs ds η1) = .ok () η' := e
    cases z : g d η with
    | bad => rw [z] at e; cases e
    | exc c η1 => rw [z] at e; cases e
    | ok u η1 =>
      rw [z] at e
      exact ⟨v, vs, rfl, G, η, Fs, d, η1, R, r1, z, fun σ1 G1 H1 Fs1 R1 E1 => ⟨G1, η1, Fs1, ds, η', R1, r2.mono E1.g.sub, e, fun σ2 G2 H2 Fs2 R2 E2 => q σ2 G2 H2 Fs2 R2 (E1.trans E2)⟩⟩
theorem names_len : ∀ {gs : List SG} {ds : List D} {η η' : Env}, S.names gs ds η = .ok () η' → gs.length = ds.length
  | [], [], _, _, _ => rfl
  | g :: gs, d :: ds, η, η', e => by
    have e : (g d η).bind (fun _ η1 => S.names gs ds η1) = .ok () η' := e
    cases z : g d η with
    | bad => rw [z] at e; cases e
    | exc c η1 => rw [z] at e; cases e
    | ok u η1 => rw [z] at e; rw [List.length_cons, List.length_cons, names_len e]
  | [], _ :: _, _, _, e => by cases e
  | _ :: _, [], _, _, e => by cases e
theorem jg_tup {gs : List SG} {k n : Nat} (hc : X.calm = true) (h : PGs X es (tGs L gs)) (hl : gs.length = n) (hn : (assignEach es X.env).length = n := by rfl) (hst : (assignEach es X.env).findIdx? (·.1) = none := by rfl) : PG X (.Tuple es k pos) (tG L (S.gtup gs)) := by
  refine PG.imp (pg_tup hc h hn hst) fun v σ H Q ⟨G, η, Fs, d, η', R, r, e, q⟩ => ?_
  unfold S.gtup at e
  cases d <;> first | (exact absurd e (by intro z; cases z)) | skip
  rename_i ds
  cases r with
  | tup h1 h2 => exact ⟨_, _, rfl, .of (R.sub.tp _ _ h1), by rw [h2.length, ← names_len e]; exact hl, G, η, Fs, ds, η', R, h2, e, q⟩
theorem js_asgG {tg : Expr} {f : SE} {g : SG} (h : PE X e (tE X.K L W f)) (hg : PG X tg (tG L g)) (hs : swapsWithSole [tg] e pos.line X.env = pure false := by rfl) (hw : swappedStores [tg] e X.env = pure none := by rfl)
    (h1 : (assignEach [tg] X.env).map (·.2) = [assign tg X.env] := by rfl) : PS X (.Assign [tg] e pos) (tS X.K L W (S.asgG f g)) := by
  refine PS.imp (ps_asg h hg hs hw h1) fun D σ H ⟨G, η, Fs, R, q⟩ => ⟨G, η, Fs, R, (ResS.bind q).mono fun d η1 G1 H1 Fs1 R1 E1 q1 v rv => ?_⟩
  cases z : g d η1 with
  | bad => simp only [z] at q1; exact q1.elim
  | exc c η2 => simp only [z] at q1; exact q1.elim
  | ok u η2 =>
    simp only [z] at q1
    exact ⟨G1, η1, Fs1, d, η2, R1, rv, z, fun σ2 G2 H2 Fs2 R2 E2 => q1 σ2 G2 H2 Fs2 R2 E2⟩
/-! ### while -/
theorem js_while {t : ST} {f : SS} (hp : PassesOwn (model X.prog X.w) X.A X.env X.xe) (ht : PT X c (tT X.K L W t)) (hb : PSs X ss (tS X.K L W f)) : PS X (.While c ss [] pos) (tS X.K L W (S.whl t f)) := by
  refine PS.imp (ps_while hp ht hb) fun D σ H ⟨G, η, Fs, R, q⟩ => ?_
  obtain ⟨n, hn⟩ := S.whl_ex (t := t) (body := f) (η := η) (fun z => by rw [z] at q; exact q)
  refine ⟨fun m σ H => ∃ G η Fs o, Rel L G η σ H Fs ∧ S.whileN t f m η = some o ∧ ResS X.K L W D G H Fs o, ⟨n, G, η, Fs, _, R, hn, q⟩, ?_⟩
  rintro m σ1 H1 ⟨G1, η1, Fs1, o, R1, e, q1⟩
  cases m with
  | zero => cases e
  | succ m =>
    refine ⟨G1, η1, Fs1, R1, ?_⟩
    unfold S.whileN at e
    cases z : t η1 with
    | bad => simp only [z] at e; cases e; exact q1.elim
    | exc c η2 => simp only [z] at e; cases e; exact fun G2 H2 Fs2 R2 E2 => q1 σ1 G2 H2 Fs2 R2 E2
    | ok x η2 =>
      intro G2 H2 Fs2 R2 E2
      cases x with
      | false => simp only [z] at e; cases e; exact q1 σ1 G2 H2 Fs2 R2 E2
      | true =>
        simp only [z] at e
        refine ⟨fun σ3 H3 => ∃ G η Fs o, Rel L G η σ3 H3 Fs ∧ S.whileN t f m η = some o ∧ ResS X.K L W D G H3 Fs o, fun σ' H' z => ⟨m, Nat.lt_succ_self m, z⟩, G2, η2, Fs2, R2, ?_⟩
        have q2 := q1.later E2
        cases y : f η2 with
        | bad => simp only [y] at e; cases e; exact q2.elim
        | exc c η3 => simp only [y] at e; cases e; exact q2
        | ok fl η3 =>
          cases fl with
          | nx => simp only [y] at e; exact fun σ3 G3 H3 Fs3 R3 E3 => ⟨G3, η3, Fs3, o, R3, e, q2.later E3⟩
          | ct => simp only [y] at e; exact fun σ3 G3 H3 Fs3 R3 E3 => ⟨G3, η3, Fs3, o, R3, e, q2.later E3⟩
          | bk => simp only [y] at e; cases e; exact q2
          | rt k d => simp only [y] at e; cases e; exact q2
/-! ### what is walked -/
/-- J walks the items ds, read off what is known -/
def WalksG (G : Hp) (ds : List D) (J : It) : Prop := ∀ (i : Nat) (G2 H : Hp), Le G G2 → Sub G2 H → (ds.length ≤ i → J.stop i H) ∧ (i < ds.length → J.go i H ∧ ∀ x H', J.yld i H x H' → ∃ d G', ds[i]? = some d ∧ New G2 H G' H' ∧ Rep G' x d)
/-- .. from a heap on -/
def Walks (G0 H0 : Hp) (Fs0 : Feet) (ds : List D) (J : It) : Prop := ∀ (i : Nat) (G2 H : Hp) (Fs2 : Feet), Ext G0 H0 Fs0 G2 H Fs2 → Sub G2 H → (ds.length ≤ i → J.stop i H) ∧ (i < ds.length → J.go i H ∧ ∀ x H', J.yld i H x H' → ∃ d G', ds[i]? = some d ∧ New G2 H G' H' ∧ Rep G' x d)
theorem WalksG.ext {G0 H0 : Hp} {Fs0 : Feet} {ds : List D} {J : It} (w : WalksG G0 ds J) : Walks G0 H0 Fs0 ds J := fun i G2 H Fs2 E s => w i G2 H E.g s
def tI (K : PySem.W.Frag) (L : Lents) (W : WX) (f : SI) : TI := fun σ H R => ∃ G η Fs, Rel L G η σ H Fs ∧ Res K L W σ G H Fs (fun ds _ G' H' Fs' => ∀ J, Walks G' H' Fs' ds J → R J H') (f η)
theorem PI.imp {tg it : Expr} {t t' : TI} (h : PI X tg it t) (i : ∀ σ H R, t' σ H R → t σ H R) : PI X tg it t' := ⟨fun pins s σ H R I q => h.run pins s σ H R I (i σ H R q)⟩
theorem walks_list {K : PySem.W.Frag} {G : Hp} {a : Addr} {xs : List V} {ds : List D} (h : Rd G a (.lst xs)) (r : RepL G xs ds) : WalksG G ds (Itl K a) := by
  intro i G2 H g s
  have q : SqL K H a xs := .inl (s.rd _ _ (g.sub.rd _ _ h))
  refine ⟨fun hi => ⟨xs, q, by rw [r.length]; exact hi⟩, fun hi => ?_⟩
  have hx : i < xs.length := by rw [r.length]; exact hi
  refine ⟨⟨xs, xs[i], q, by simp [hx]⟩, fun x H' ⟨e, y⟩ => ?_⟩
  subst e
  obtain ⟨d, e1, r1⟩ := r.getV (y xs q)
  exact ⟨d, G2, e1, New.refl s, r1.mono g.sub⟩
theorem walks_tup {K : PySem.W.Frag} {G : Hp} {a : Addr} {xs : List V} {ds : List D} (h : G a = some (.tup xs)) (r : RepL G xs ds) : WalksG G ds (Itt K a) := by
  intro i G2 H g s
  have q : SqT K H a xs := .of (s.tp _ _ (g a _ h))
  refine ⟨fun hi => ⟨xs, q, by rw [r.length]; exact hi⟩, fun hi => ?_⟩
  have hx : i < xs.length := by rw [r.length]; exact hi
  refine ⟨⟨xs, xs[i], q, by simp [hx]⟩, fun x H' ⟨e, y⟩ => ?_⟩
  subst e
  obtain ⟨d, e1, r1⟩ := r.getV (y xs q)
  exact ⟨d, G2, e1, New.refl s, r1.mono g.sub⟩
theorem walks_range {G : Hp} {lo : Int} {n : Nat} : WalksG G (S.rangeL lo n) (Itr lo n) := by
  intro i G2 H g s
  have hl : (S.rangeL lo n).length = n := by unfold S.rangeL; simp
  refine ⟨fun hi => by rw [hl] at hi; exact hi, fun hi => ⟨by rw [hl] at hi; exact hi, fun x H' ⟨e, y⟩ => ?_⟩⟩
  subst e; subst y
  rw [hl] at hi
  exact ⟨.int (lo + i), G2, by unfold S.rangeL; simp [hi], New.refl s, .int _⟩
end
end DV

/-! DV8: defs and their calls. -/
namespace DV
open PySem PySem.Spec PyProof.Rows L2

/-- what a def's call comes to; back: the lent parameters' slots behind it -/
inductive FOut where
  | ok (k : Nat) (d : D) (back : Env)
  | exc (c : Str) (back : Env)
  | bad
abbrev FnSem := List (Nat × D) → FOut
namespace S
def mkEnv (args : List (Nat × D)) (io : List Bool) : Env := List.zipWith (fun a l => Slot.val a.1 l a.2) args io
def back (io : List Bool) (η : Env) : Env := List.zipWith (fun l s => if l = true then s else Slot.no) io η
/-- n: how many slots -/
def run (body : SS) (n : Nat) (io : List Bool) : FnSem := fun args =>
  if args.length = io.length then match body (mkEnv args io ++ List.replicate (n - args.length) Slot.no) with
    | .ok (.rt k d) η => .ok k d (back io η)
    | .ok .nx η => .ok 0 .non (back io η)
    | .exc c η => .exc c (back io η)
    | _ => .bad
  else .bad
/-- an argument: a frozen value, or a slot that is lent -/
inductive Arg where
  | ex (f : SE)
  | lend (j : Nat)
def Arg.isLend : Arg → Bool
  | .ex _ => false
  | .lend _ => true
def preA : List Arg → Env → Out (List (Option D))
  | [], η => .ok [] η
  | .ex f :: as, η => (f η).bind fun d η1 => (preA as η1).bind fun ps η2 => .ok (some d :: ps) η2
  | .lend j :: as, η => match η[j]? with
    | some (.val _ _ _) => (preA as η).bind fun ps η2 => .ok (none :: ps) η2
    | _ => .bad
def finA : List Arg → List (Option D) → Env → Option (List (Nat × D))
  | [], _, _ => some []
  | .ex _ :: as, some d :: ps, η => (finA as ps η).map ((0, d) :: ·)
  | .lend j :: as, _ :: ps, η => match η[j]? with
    | some (.val k _ d) => (finA as ps η).map ((k, d) :: ·)
    | _ => none
  | _ :: _, _, _ => none
def putBack : List Arg → Env → Env → Option Env
  | [], _, η => some η
  | .ex _ :: as, _ :: bk, η => putBack as bk η
  | .lend j :: as, .val k _ d :: bk, η => match η[j]? with
    | some (.val _ l _) => putBack as bk (η.set j (.val k l d))
    | _ => none
  | _ :: _, _, _ => none
def call (F : FnSem) (as : List Arg) : SF := fun η => (preA as η).bind fun ps η1 => match finA as ps η1 with
  | none => .bad
  | some xs => match F xs with
    | .ok k d bk => (match putBack as bk η1 with
      | some η2 => .ok (k, d) η2
      | none => .bad)
    | .exc c bk => (match putBack as bk η1 with
      | some η2 => .exc c η2
      | none => .bad)
    | .bad => .bad
end S

def lentsAt : Nat → List Bool → List V → List (Nat × V)
  | _, [], _ => []
  | _, _, [] => []
  | n, true :: io, v :: vs => (n, v) :: lentsAt (n + 1) io vs
  | n, false :: io, _ :: vs => lentsAt (n + 1) io vs
theorem lentsAt_mem : ∀ {n : Nat} {io : List Bool} {vs : List V} {p : Nat × V}, p ∈ lentsAt n io vs ↔ ∃ i, p.1 = n + i ∧ io[i]? = some true ∧ vs[i]? = some p.2
  | n, [], vs, p => by simp [lentsAt]
  | n, b :: io, [], p => by cases b <;> simp [lentsAt]
  | n, true :: io, v :: vs, p => by
    rw [lentsAt, List.mem_cons, lentsAt_mem]
    constructor
    · rintro (e | ⟨i, h1, h2, h3⟩)
      · subst e; exact ⟨0, rfl, rfl, rfl⟩
      · exact ⟨i + 1, by omega, by simpa using h2, by simpa using h3⟩
    · rintro ⟨i, h1, h2, h3⟩
      cases i with
      | zero => left; simp at h3; obtain ⟨a, b⟩ := p; simp at h1 h3; subst h1; subst h3; rfl
      | succ i => right; exact ⟨i, by omega, by simpa using h2, by simpa using h3⟩
  | n, false :: io, v :: vs, p => by
    rw [lentsAt, lentsAt_mem]
    constructor
    · rintro ⟨i, h1, h2, h3⟩
      exact ⟨i + 1, by omega, by simpa using h2, by simpa using h3⟩
    · rintro ⟨i, h1, h2, h3⟩
      cases i with
      | zero => simp at h2
      | succ i => exact ⟨i, by omega, by simpa using h2, by simpa using h3⟩

/-- a def's promise -/
def spF (K : PySem.W.Frag) (F : FnSem) (io : List Bool) : Sp := fun vs H Q E => vs.length = io.length ∧ ∃ G args Fs, args.length = io.length ∧ Rel (io.length, lentsAt 0 io vs) G (S.mkEnv args io) (vs.map some) H Fs ∧
  match F args with
  | .ok k d bk => ∀ G' H' Fs' v F, Rel (io.length, lentsAt 0 io vs) G' bk (vs.map some) H' Fs' → Ext G H Fs G' H' Fs' → Apart G' H' Fs' k v d F → (∀ a ∈ F, foot Fs a ∨ H a = none) → Q v H'
  | .exc c bk => ∀ G' H' Fs', Rel (io.length, lentsAt 0 io vs) G' bk (vs.map some) H' Fs' → Ext G H Fs G' H' Fs' → E (.ref (He.ga K c)) none H'
  | .bad => False

section
variable {L : Lents} {G H G' H' : Hp} {η : Env} {σ : Sig} {Fs Fs' : Feet}
/-- slots of which nothing is known are added -/
theorem Rel.pad (R : Rel L G η σ H Fs) (n : Nat) : Rel (L.1 + n, L.2) G (η ++ List.replicate n .no) (σ ++ List.replicate n none) H Fs := by
  have get : ∀ i k l d, (η ++ List.replicate n Slot.no)[i]? = some (Slot.val k l d) → η[i]? = some (Slot.val k l d) := fun i k l d e => by
    by_cases hi : i < η.length
    · rw [List.getElem?_append_left hi] at e; exact e
    · rw [List.getElem?_append_right (by omega)] at e
      obtain ⟨h1, h2⟩ := List.getElem?_eq_some_iff.mp e
      simp at h2
  have getσ : ∀ i v, σ[i]? = some (some v) → (σ ++ List.replicate n none)[i]? = some (some v) := fun i v e => by
    rw [List.getElem?_append_left (List.getElem?_eq_some_iff.mp e).1]; exact e
  refine ⟨R.sub, by simp [R.len], by simp [R.wid], fun i k l d e => ?_, fun i e => ?_, R.nod, R.dis, R.sep, fun p hp => ?_⟩
  · obtain ⟨v, h1, h2, h3⟩ := R.slot i k l d (get i k l d e)
    exact ⟨v, getσ i v h1, h2, h3⟩
  · exact R.emp i fun k l d z => e k l d (by rw [List.getElem?_append_left (List.getElem?_eq_some_iff.mp z).1]; exact z)
  · obtain ⟨k, d, z1, z2⟩ := R.lnt p hp
    exact ⟨k, d, by rw [List.getElem?_append_left (List.getElem?_eq_some_iff.mp z1).1]; exact z1, getσ _ _ z2⟩
theorem back_get {io : List Bool} {η : Env} {i k : Nat} {l : Bool} {d : D} : (S.back io η)[i]? = some (Slot.val k l d) ↔ io[i]? = some true ∧ η[i]? = some (Slot.val k l d) := by
  unfold S.back
  rw [List.getElem?_zipWith]
  cases h1 : io[i]? with
  | none => simp
  | some b =>
    cases h2 : η[i]? with
    | none => simp
    | some s => cases b <;> simp
/-- at a def's end: the lent slots alone -/
theorem Rel.toBack {io : List Bool} {vs : List V} {n : Nat} (R : Rel (n, lentsAt 0 io vs) G η σ H Fs) (hv : vs.length = io.length) (hl : io.length ≤ n) :
    ∃ Fs', Rel (io.length, lentsAt 0 io vs) G (S.back io η) (vs.map some) H Fs' ∧ ∀ a, foot Fs' a → foot Fs a := by
  have hlen : (S.back io η).length = io.length := by unfold S.back; rw [List.length_zipWith, R.wid]; omega
  refine ⟨fun i => if io[i]? = some true then Fs i else [], ⟨R.sub, by rw [hlen, List.length_map, hv], hlen, fun i k l d e => ?_, fun i e => ?_, fun i => ?_, fun i a h => ?_, fun i j a h h' => ?_, fun p hp => ?_⟩, fun a ⟨i, h⟩ => ?_⟩
  · obtain ⟨h1, h2⟩ := back_get.mp e
    obtain ⟨v, z1, z2, z3⟩ := R.slot i k l d h2
    have hi : i < vs.length := by rw [hv]; exact (List.getElem?_eq_some_iff.mp h1).1
    obtain ⟨k', d', y1, y2⟩ := R.lnt (i, vs[i]) (lentsAt_mem.mpr ⟨i, by simp, h1, by simp [hi]⟩)
    rw [z1] at y2
    have ev : v = vs[i] := by injection y2 with y2; injection y2
    rw [h2] at y1
    refine ⟨v, by rw [ev]; simp [hi], by rw [if_pos h1]; exact z2, fun hl' => z3 hl'⟩
  · by_cases h1 : io[i]? = some true
    · rw [if_pos h1]
      exact R.emp i fun k l d z => e k l d (back_get.mpr ⟨h1, z⟩)
    · rw [if_neg h1]
  · by_cases h1 : io[i]? = some true
    · simp only [if_pos h1]; exact R.nod i
    · simp only [if_neg h1]; exact List.nodup_nil
  · by_cases h1 : io[i]? = some true
    · simp only [if_pos h1] at h; exact R.dis i a h
    · simp only [if_neg h1] at h; simp at h
  · by_cases h1 : io[i]? = some true
    · by_cases h2 : io[j]? = some true
      · simp only [if_pos h1] at h; simp only [if_pos h2] at h'; exact R.sep i j a h h'
      · simp only [if_neg h2] at h'; simp at h'
    · simp only [if_neg h1] at h; simp at h
  · obtain ⟨i, h1, h2, h3⟩ := lentsAt_mem.mp hp
    have e : p.1 = i := by omega
    obtain ⟨k, d, y1, y2⟩ := R.lnt p hp
    refine ⟨k, d, back_get.mpr ⟨by rw [e]; exact h2, y1⟩, ?_⟩
    rw [e, List.getElem?_map, h3]; rfl
  · by_cases h1 : io[i]? = some true
    · simp only [if_pos h1] at h; exact ⟨i, h⟩
    · simp only [if_neg h1] at h; simp at h
theorem Apart.feet {k : Nat} {v : V} {d : D} {F : List Addr} (x : Apart G H Fs k v d F) (f : ∀ a, foot Fs' a → foot Fs a) : Apart G H Fs' k v d F := ⟨x.own, x.nod, x.dis, fun a ha z => x.sep a ha (f a z)⟩
end

section
variable {P : Program} {w : World} {K : PySem.W.Frag} {mg : Str → Option Value} {base : Heap} {x qual : Str} {params : Arguments} {body : List Stmt} {scope : Scope} {f : Addr} {fd : FuncData}
/-- THE RULE for a def: its body's meaning, whatever is lent, whatever is wished of exceptions -/
theorem fn_sem {N ps : List Str} {io : List Bool} {k : Nat} {sem : SS} (F : FunD K x qual params body scope [] [] f fd) (S' : FnScope N ps scope) (hio : io.length = ps.length)
    (hbody : ∀ (cdv : Value) (A : Around) (outer : List PySem.Env) (s : Shared) (H : Hp) (E : XK) (L : Lents), Room k (A.deeper (envOfC qual scope s.heap.objs.size f cdv)) →
      PSs (cxOf (L2.CX P w) P w K mg base N qual scope f cdv A outer s H E) body (tS K L (fun cls d _ H' => E cls d H') sem)) :
    FnOk P w K mg base (L2.CX P w) (k + 1) f fd ps (spF K (S.run sem N.length io) io) := by
  refine F.ok S' (fun vs H Q E h => by rw [h.1, hio]) fun cdv A outer s H vs Q E hr h => ?_
  obtain ⟨hv, G, args, Fs, ha, R, q⟩ := h
  refine ⟨_, hbody cdv A outer s H E (io.length + (N.length - vs.length), lentsAt 0 io vs) hr, G, _, Fs, R.pad (N.length - vs.length), ?_⟩
  have hps : ps.length ≤ N.length := by have := congrArg List.length S'.pre; rw [List.length_take] at this; omega
  have en : N.length - vs.length = N.length - args.length := by rw [hv, ha]
  unfold S.run at q
  rw [if_pos ha, ← en] at q
  cases z : sem (S.mkEnv args io ++ List.replicate (N.length - vs.length) Slot.no) with
  | bad => rw [z] at q; exact q
  | exc c η' =>
    rw [z] at q
    intro σ' G' H' Fs' R' E'
    obtain ⟨Fs2, R2, f2⟩ := R'.toBack hv (Nat.le_add_right _ _)
    exact q G' H' Fs2 R2 (E'.feet fun a ha => E'.f a (f2 a ha))
  | ok fl η' =>
    rw [z] at q
    cases fl with
    | nx =>
      intro σ' G' H' Fs' R' E'
      obtain ⟨Fs2, R2, f2⟩ := R'.toBack hv (Nat.le_add_right _ _)
      exact q G' H' Fs2 .non [] R2 (E'.feet fun a ha => E'.f a (f2 a ha)) (Apart.zero .non) fun a z => by simp at z
    | bk => exact q.elim
    | ct => exact q.elim
    | rt k d =>
      intro σ' G' H' Fs' v F R' E' y o
      obtain ⟨Fs2, R2, f2⟩ := R'.toBack hv (Nat.le_add_right _ _)
      exact q G' H' Fs2 v F R2 (E'.feet fun a ha => E'.f a (f2 a ha)) (y.feet f2) o
end
end DV

/-! DV9: calls of defs. -/
namespace DV
open PySem PySem.Spec PyProof.Rows L2

section
variable {K : PySem.W.Frag} {L : Lents} {W : WX} {σ : Sig} {β : Type} {G H G' H' : Hp} {η : Env} {Fs Fs' Fl Fl' : Feet}
def tArgs (K : PySem.W.Frag) (L : Lents) (W : WX) : List S.Arg → TA
  | [] => tNil
  | .ex f :: as => tCons (tE K L W f) (tArgs K L W as)
  | .lend j :: as => tCons (tVar j) (tArgs K L W as)
inductive KnA (σ : Sig) (G : Hp) : List V → List S.Arg → List (Option D) → Prop
  | nil : KnA σ G [] [] []
  | ex {v vs f as d ps} : Rep G v d → KnA σ G vs as ps → KnA σ G (v :: vs) (.ex f :: as) (some d :: ps)
  | lend {v vs j as ps} : σ[j]? = some (some v) → KnA σ G vs as ps → KnA σ G (v :: vs) (.lend j :: as) (none :: ps)
theorem tArgs_use {P : β → Env → Hp → Hp → Feet → Prop} : ∀ {as : List S.Arg} {f : List (Option D) → Env → Out β} {Q : List V → Hp → Prop} {G H : Hp} {η : Env} {Fs : Feet} (R : Rel L G η σ H Fs) (h : Res K L W σ G H Fs P ((S.preA as η).bind f))
    (k : ∀ vs ps η1 G1 H1 Fs1, Rel L G1 η1 σ H1 Fs1 → Ext G H Fs G1 H1 Fs1 → KnA σ G1 vs as ps → Res K L W σ G1 H1 Fs1 P (f ps η1) → Q vs H1), tArgs K L W as σ H Q
  | [], f, Q, G, H, η, Fs, R, h, k => k [] [] η G H Fs R Ext.refl .nil h
  | .ex g :: as, f, Q, G, H, η, Fs, R, h, k => by
    have e : (S.preA (.ex g :: as) η).bind f = (g η).bind fun d η1 => (S.preA as η1).bind fun ps η2 => f (some d :: ps) η2 := by
      show ((g η).bind fun d η1 => (S.preA as η1).bind fun ps η2 => .ok (some d :: ps) η2).bind f = _
      cases g η with
      | bad => rfl
      | exc c η' => rfl
      | ok p η1 =>
        show ((S.preA as η1).bind fun ps η2 => .ok (some p :: ps) η2).bind f = (S.preA as η1).bind fun ps η2 => f (some p :: ps) η2
        cases S.preA as η1 <;> rfl
    rw [e] at h
    refine ⟨G, η, Fs, R, h.bind.mono fun d η1 G1 H1 Fs1 R1 E1 q1 v rv => ?_⟩
    refine tArgs_use R1 q1 fun vs ps η2 G2 H2 Fs2 R2 E2 k2 q2 => ?_
    exact k (v :: vs) (some d :: ps) η2 G2 H2 Fs2 R2 (E1.trans E2) (.ex (rv.mono E2.g.sub) k2) q2
  | .lend j :: as, f, Q, G, H, η, Fs, R, h, k => by
    cases q : η[j]? with
    | none => simp only [S.preA, q] at h; exact h.elim
    | some sl =>
      cases sl with
      | no => simp only [S.preA, q] at h; exact h.elim
      | val kk l d =>
        have e : (S.preA (.lend j :: as) η).bind f = (S.preA as η).bind fun ps η2 => f (none :: ps) η2 := by
          simp only [S.preA, q]
          cases S.preA as η <;> rfl
        rw [e] at h
        obtain ⟨v, h1, _⟩ := R.slot j kk l d q
        refine ⟨v, h1, tArgs_use R h fun vs ps η2 G2 H2 Fs2 R2 E2 k2 q2 => ?_⟩
        exact k (v :: vs) (none :: ps) η2 G2 H2 Fs2 R2 E2 (.lend h1 k2) q2

/-- one slot's content is turned by a call -/
theorem Rel.swap (R : Rel L G η σ H Fs) {j k : Nat} {l : Bool} {d : D} {v : V} (e : η[j]? = some (.val k l d)) (hv : σ[j]? = some (some v)) (E : Ext G H Fl G' H' Fl') (s : Sub G' H') (hFl : ∀ a, foot Fl a → a ∈ Fs j)
    {k' : Nat} {d' : D} {F' : List Addr} (x : Own G' H' k' v d' F') (nd : F'.Nodup) (ds : ∀ a ∈ F', G' a = none) (fo : ∀ a ∈ F', foot Fl' a) :
    Rel L G' (η.set j (.val k' l d')) σ H' (setF Fs j F') ∧ Ext G H Fs G' H' (setF Fs j F') := by
  have hj : j < η.length := (List.getElem?_eq_some_iff.mp e).1
  obtain ⟨v0, z1, z2, z3⟩ := R.slot j k l d e
  rw [hv] at z1; cases z1
  -- what another slot owns is touched by nobody
  have away : ∀ i a, i ≠ j → a ∈ Fs i → ¬ foot Fl a := fun i a hi ha z => hi (R.sep i j a ha (hFl a z))
  have there : ∀ i a, a ∈ Fs i → H a ≠ none := fun i a ha z => R.noFoot z ⟨i, ha⟩
  have clash : ∀ i a, i ≠ j → a ∈ Fs i → a ∉ F' := fun i a hi ha z => by
    rcases E.f a (fo a z) with q | q
    · exact away i a hi ha q
    · exact there i a ha q
  refine ⟨⟨s, by rw [List.length_set]; exact R.len, by rw [List.length_set]; exact R.wid, fun i k2 l2 d2 q => ?_, fun i q => ?_, fun i => ?_, fun i a ha => ?_, fun i i' a ha ha' => ?_, fun p hp => ?_⟩, ⟨E.g, fun a o h n => E.h a o h fun z => n ⟨j, hFl a z⟩, fun a h => ?_, fun a h => ?_, E.d⟩⟩
  · by_cases hi : i = j
    · subst hi; rw [get_set_self hj] at q; cases q
      exact ⟨v, hv, by rw [setF_same]; exact x, z3⟩
    · rw [get_set_ne hi] at q; rw [setF_ne hi]
      obtain ⟨v2, y1, y2, y3⟩ := R.slot i k2 l2 d2 q
      refine ⟨v2, y1, y2.mono E.g.sub k2 fun a ha => ?_, y3⟩
      obtain ⟨u, hu, _⟩ := y2.mem k2 a ha
      rw [hu, E.h a u hu (away i a hi ha)]
  · by_cases hi : i = j
    · subst hi; exact absurd (get_set_self hj) (q k' l d')
    · rw [setF_ne hi]; exact R.emp i fun k l d z => q k l d (by rw [get_set_ne hi]; exact z)
  · by_cases hi : i = j
    · subst hi; rw [setF_same]; exact nd
    · rw [setF_ne hi]; exact R.nod i
  · by_cases hi : i = j
    · subst hi; rw [setF_same] at ha; exact ds a ha
    · rw [setF_ne hi] at ha
      cases q : G' a with
      | none => rfl
      | some o =>
        rcases E.n a (by rw [q]; simp) with z | z | z
        · exact absurd (R.dis i a ha) z
        · exact absurd z (away i a hi ha)
        · obtain ⟨u, hu, m⟩ := R.mem ha; exact (z.mut hu m).elim
  · by_cases hi : i = j
    · subst hi; rw [setF_same] at ha
      by_cases hi' : i' = i
      · exact hi'.symm
      · rw [setF_ne hi'] at ha'; exact absurd ha (clash i' a hi' ha')
    · by_cases hi' : i' = j
      · subst hi'; rw [setF_same] at ha'; rw [setF_ne hi] at ha; exact absurd ha' (clash i a hi ha)
      · rw [setF_ne hi] at ha; rw [setF_ne hi'] at ha'; exact R.sep i i' a ha ha'
  · obtain ⟨k2, d2, y1, y2⟩ := R.lnt p hp
    by_cases hi : p.1 = j
    · rw [hi] at y1 y2 ⊢
      rw [e] at y1; cases y1
      exact ⟨k', d', get_set_self hj, y2⟩
    · exact ⟨k2, d2, by rw [get_set_ne hi]; exact y1, y2⟩
  · rcases E.n a h with z | z | z
    · exact .inl z
    · exact .inr (.inl ⟨j, hFl a z⟩)
    · exact .inr (.inr z)
  · rcases foot_setF h with z | ⟨i, hi, z⟩
    · rcases E.f a (fo a z) with y | y
      · exact .inl ⟨j, hFl a y⟩
      · exact .inr y
    · exact .inl ⟨i, z⟩
/-- nothing is lent -/
theorem Rel.still (R : Rel L G η σ H Fs) (E : Ext G H Fl G' H' Fl') (s : Sub G' H') (hFl : ∀ a, ¬ foot Fl a) : Rel L G' η σ H' Fs ∧ Ext G H Fs G' H' Fs := by
  have there : ∀ i a, a ∈ Fs i → H a ≠ none := fun i a ha z => R.noFoot z ⟨i, ha⟩
  refine ⟨⟨s, R.len, R.wid, fun i k l d e => ?_, R.emp, R.nod, fun i a ha => ?_, R.sep, R.lnt⟩, ⟨E.g, fun a o h n => E.h a o h (hFl a), fun a h => ?_, fun a h => .inl h, E.d⟩⟩
  · obtain ⟨v, y1, y2, y3⟩ := R.slot i k l d e
    refine ⟨v, y1, y2.mono E.g.sub k fun a ha => ?_, y3⟩
    obtain ⟨u, hu, _⟩ := y2.mem k a ha
    rw [hu, E.h a u hu (hFl a)]
  · cases q : G' a with
    | none => rfl
    | some o =>
      rcases E.n a (by rw [q]; simp) with z | z | z
      · exact absurd (R.dis i a ha) z
      · exact absurd z (hFl a)
      · obtain ⟨u, hu, m⟩ := R.mem ha; exact (z.mut hu m).elim
  · rcases E.n a h with z | z | z
    · exact .inl z
    · exact absurd z (hFl a)
    · exact .inr (.inr z)

/-! ### arguments, pointwise -/
inductive ArgsOk (σ : Sig) (η : Env) (G : Hp) : List V → List S.Arg → List (Nat × D) → Prop
  | nil : ArgsOk σ η G [] [] []
  | ex {v vs f as d xs} : Rep G v d → ArgsOk σ η G vs as xs → ArgsOk σ η G (v :: vs) (.ex f :: as) ((0, d) :: xs)
  | lend {v vs j as k l d xs} : σ[j]? = some (some v) → η[j]? = some (.val k l d) → ArgsOk σ η G vs as xs → ArgsOk σ η G (v :: vs) (.lend j :: as) ((k, d) :: xs)
theorem KnA.ok : ∀ {vs as ps xs}, KnA σ G vs as ps → S.finA as ps η = some xs → ArgsOk σ η G vs as xs
  | _, _, _, _, .nil, e => by cases e; exact .nil
  | _, _, _, xs, .ex (as := as) (ps := ps) (d := d) r t, e => by
    have e : (S.finA as ps η).map ((0, d) :: ·) = some xs := e
    cases q : S.finA as ps η with
    | none => rw [q] at e; cases e
    | some ys => rw [q] at e; cases e; exact .ex r (KnA.ok t q)
  | _, _, _, xs, .lend (as := as) (ps := ps) (j := j) r t, e => by
    cases q : η[j]? with
    | none => simp only [S.finA, q] at e; cases e
    | some sl =>
      cases sl with
      | no => simp only [S.finA, q] at e; cases e
      | val k l d =>
        simp only [S.finA, q] at e
        cases y : S.finA as ps η with
        | none => rw [y] at e; cases e
        | some ys => rw [y] at e; cases e; exact .lend r q (KnA.ok t y)
theorem ArgsOk.len : ∀ {vs as xs}, ArgsOk σ η G vs as xs → vs.length = as.length ∧ xs.length = as.length
  | _, _, _, .nil => ⟨rfl, rfl⟩
  | _, _, _, .ex _ t => by have := t.len; simp [this.1, this.2]
  | _, _, _, .lend _ _ t => by have := t.len; simp [this.1, this.2]
theorem ArgsOk.get : ∀ {vs as xs} {i : Nat} {a : S.Arg}, ArgsOk σ η G vs as xs → as[i]? = some a → ∃ v k d, vs[i]? = some v ∧ xs[i]? = some (k, d) ∧
    match a with | .ex _ => k = 0 ∧ Rep G v d | .lend j => ∃ l, σ[j]? = some (some v) ∧ η[j]? = some (.val k l d)
  | _, _, _, _, _, .nil, e => by simp at e
  | _, _, _, 0, a, .ex r t, e => by simp at e; subst e; exact ⟨_, _, _, rfl, rfl, rfl, r⟩
  | _, _, _, 0, a, .lend r q t, e => by simp at e; subst e; exact ⟨_, _, _, rfl, rfl, _, r, q⟩
  | _, _, _, i + 1, a, .ex r t, e => by simpa using ArgsOk.get (i := i) t (by simpa using e)
  | _, _, _, i + 1, a, .lend r q t, e => by simpa using ArgsOk.get (i := i) t (by simpa using e)
/-- which slot is lent, at which parameter -/
def lends : Nat → List S.Arg → List (Nat × Nat)
  | _, [] => []
  | i, .ex _ :: as => lends (i + 1) as
  | i, .lend j :: as => (i, j) :: lends (i + 1) as
theorem lends_mem : ∀ {n : Nat} {as : List S.Arg} {i j : Nat}, as[i]? = some (.lend j) → (n + i, j) ∈ lends n as
  | n, [], i, j, h => by simp at h
  | n, .ex f :: as, 0, j, h => by simp at h
  | n, .lend j' :: as, 0, j, h => by simp at h; subst h; exact List.mem_cons_self
  | n, .ex f :: as, i + 1, j, h => by
    have := lends_mem (n := n + 1) (i := i) (j := j) (as := as) (by simpa using h)
    rw [lends, show n + (i + 1) = n + 1 + i by omega]; exact this
  | n, .lend j' :: as, i + 1, j, h => by
    have := lends_mem (n := n + 1) (i := i) (j := j) (as := as) (by simpa using h)
    rw [lends, show n + (i + 1) = n + 1 + i by omega]; exact List.mem_cons_of_mem _ this
def feetOf (as : List S.Arg) (Fs : Feet) : Feet := fun i => match as[i]? with
  | some (.lend j) => Fs j
  | _ => []
theorem mkEnv_get {args : List (Nat × D)} {io : List Bool} {i k : Nat} {l : Bool} {d : D} : (S.mkEnv args io)[i]? = some (Slot.val k l d) ↔ args[i]? = some (k, d) ∧ io[i]? = some l := by
  unfold S.mkEnv
  rw [List.getElem?_zipWith]
  cases h1 : args[i]? with
  | none => simp
  | some b =>
    cases h2 : io[i]? with
    | none => simp
    | some s =>
      obtain ⟨b1, b2⟩ := b
      simp
      constructor
      · rintro ⟨a, b, c⟩; exact ⟨⟨a, c⟩, b⟩
      · rintro ⟨⟨a, b⟩, c⟩; exact ⟨a, c, b⟩
/-- what the callee finds -/
theorem callee_rel (R : Rel L G η σ H Fs) {vs : List V} {as : List S.Arg} {xs : List (Nat × D)} (x : ArgsOk σ η G vs as xs) (one : ∀ (i i' j : Nat), as[i]? = some (S.Arg.lend j) → as[i']? = some (S.Arg.lend j) → i = i') :
    Rel (as.length, lentsAt 0 (as.map S.Arg.isLend) vs) G (S.mkEnv xs (as.map S.Arg.isLend)) (vs.map some) H (feetOf as Fs) := by
  obtain ⟨l1, l2⟩ := x.len
  have hlen : (S.mkEnv xs (as.map S.Arg.isLend)).length = as.length := by unfold S.mkEnv; rw [List.length_zipWith, List.length_map]; omega
  refine ⟨R.sub, by rw [hlen, List.length_map, l1], hlen, fun i k l d e => ?_, fun i e => ?_, fun i => ?_, fun i a h => ?_, fun i i' a h h' => ?_, fun p hp => ?_⟩
  · obtain ⟨h1, h2⟩ := mkEnv_get.mp e
    rw [List.getElem?_map] at h2
    cases q : as[i]? with
    | none => rw [q] at h2; cases h2
    | some a =>
      rw [q] at h2
      obtain ⟨v, k', d', y1, y2, y3⟩ := x.get q
      rw [h1] at y2; cases y2
      refine ⟨v, by rw [List.getElem?_map, y1]; rfl, ?_, fun hl => ?_⟩
      · unfold feetOf
        rw [q]
        cases a with
        | ex f => exact y3.1 ▸ ⟨y3.2, rfl⟩
        | lend j =>
          obtain ⟨l', z1, z2⟩ := y3
          obtain ⟨v', w1, w2, _⟩ := R.slot j k l' d z2
          rw [z1] at w1; cases w1
          exact w2
      · exact lentsAt_mem.mpr ⟨i, by simp, by rw [List.getElem?_map, q]; cases h2; exact congrArg some hl, y1⟩
  · unfold feetOf
    cases q : as[i]? with
    | none => rfl
    | some a =>
      obtain ⟨v, k', d', y1, y2, y3⟩ := x.get q
      exact absurd (mkEnv_get.mpr ⟨y2, by rw [List.getElem?_map, q]; rfl⟩) (e k' a.isLend d')
  · unfold feetOf
    split
    · exact R.nod _
    · exact List.nodup_nil
  · unfold feetOf at h
    split at h
    · exact R.dis _ a h
    · simp at h
  · unfold feetOf at h h'
    split at h
    · rename_i j q
      split at h'
      · rename_i j' q'
        have ej := R.sep j j' a h h'
        subst ej
        exact one i i' j q q'
      · simp at h'
    · simp at h
  · obtain ⟨i, h1, h2, h3⟩ := lentsAt_mem.mp hp
    have e : p.1 = i := by omega
    rw [List.getElem?_map] at h2
    cases q : as[i]? with
    | none => rw [q] at h2; cases h2
    | some a =>
      obtain ⟨v, k', d', y1, y2, y3⟩ := x.get q
      refine ⟨k', d', ?_, by rw [e, List.getElem?_map, h3]; rfl⟩
      rw [e]
      exact mkEnv_get.mpr ⟨y2, by rw [List.getElem?_map, q]; rw [q] at h2; exact h2⟩
theorem putBack_none : ∀ {as : List S.Arg} {bk : Env} {η : Env}, lends 0 as = [] → as.length = bk.length → S.putBack as bk η = some η
  | [], [], η, _, _ => rfl
  | .ex f :: as, b :: bk, η, h, e => by
    have z : ∀ n m (as : List S.Arg), lends n as = [] → lends m as = [] := by
      intro n m as
      induction as generalizing n m with
      | nil => intro _; rfl
      | cons a as ih => cases a with
        | ex f => exact fun h => ih _ _ h
        | lend j => intro h; cases h
    show S.putBack as bk η = some η
    exact putBack_none (z 1 0 as h) (by simpa using e)
  | .lend j :: as, bk, η, h, _ => by cases h
  | [], _ :: _, _, _, e => by simp at e
  | _ :: _, [], _, _, e => by simp at e
theorem putBack_one : ∀ {as : List S.Arg} {bk η η2 : Env} {n i j : Nat}, lends n as = [(n + i, j)] → S.putBack as bk η = some η2 → ∃ k b d k0 l0 d0, bk[i]? = some (.val k b d) ∧ η[j]? = some (.val k0 l0 d0) ∧ η2 = η.set j (.val k l0 d) ∧ as[i]? = some (.lend j)
  | [], _, _, _, _, _, _, h, _ => by cases h
  | .ex f :: as, [], _, _, _, _, _, _, e => by cases e
  | .ex f :: as, b :: bk, η, η2, n, i, j, h, e => by
    have h : lends (n + 1) as = [(n + i, j)] := h
    cases i with
    | zero =>
      exfalso
      have ge : ∀ m (as : List S.Arg) p, p ∈ lends m as → m ≤ p.1 := by
        intro m as
        induction as generalizing m with
        | nil => intro p hp; cases hp
        | cons a as ih => cases a with
          | ex f => exact fun p hp => by have := ih (m + 1) p hp; omega
          | lend j' => intro p hp; rcases List.mem_cons.mp hp with e | hp
                       · subst e; exact Nat.le_refl _
                       · have := ih (m + 1) p hp; omega
      have := ge (n + 1) as (n + 0, j) (by rw [h]; exact List.mem_cons_self)
      simp at this
      omega
    | succ i =>
      obtain ⟨k, b', d, k0, l0, d0, z1, z2, z3, z4⟩ := putBack_one (n := n + 1) (i := i) (j := j) (as := as) (bk := bk) (by rw [h, show n + (i + 1) = n + 1 + i by omega]) e
      exact ⟨k, b', d, k0, l0, d0, by simpa using z1, z2, z3, by simpa using z4⟩
  | .lend j' :: as, bk, η, η2, n, i, j, h, e => by
    have h : (n, j') :: lends (n + 1) as = [(n + i, j)] := h
    obtain ⟨h1, h2⟩ := List.cons.inj h
    have e1 : n = n + i := congrArg Prod.fst h1
    have e2 : j' = j := congrArg Prod.snd h1
    have ei : i = 0 := by omega
    subst ei; subst e2
    cases bk with
    | nil => cases e
    | cons b bk =>
      cases b with
      | no => cases e
      | val k l d =>
        cases q : η[j']? with
        | none => simp only [S.putBack, q] at e; cases e
        | some sl =>
          cases sl with
          | no => simp only [S.putBack, q] at e; cases e
          | val k0 l0 d0 =>
            simp only [S.putBack, q] at e
            have z : ∀ n m (as : List S.Arg), lends n as = [] → lends m as = [] := by
              intro n m as
              induction as generalizing n m with
              | nil => intro _; rfl
              | cons a as ih => cases a with
                | ex f => exact fun h => ih _ _ h
                | lend j => intro h; cases h
            have no : ∀ (as : List S.Arg) (bk η η2 : Env), lends 0 as = [] → S.putBack as bk η = some η2 → η2 = η := by
              intro as
              induction as with
              | nil => intro bk η η2 _ e; cases e; rfl
              | cons a as ih => cases a with
                | lend j => intro _ _ _ h; cases h
                | ex f =>
                  intro bk η η2 h e
                  cases bk with
                  | nil => cases e
                  | cons b bk => exact ih bk η η2 (z 1 0 as h) e
            exact ⟨k, l, d, k0, l0, d0, rfl, rfl, no as bk _ η2 (z _ 0 as h2) e, rfl⟩
end

section
variable {X : Cx} {L : Lents} {W : WX} {k : Nat} {f : Addr} {fd : FuncData} {ps : List Str} {x : Str} {p pos : Pos} {e : Expr} {es : List Expr} {F : FnSem}
/-- at most one slot is lent -/
def oneLend (as : List S.Arg) : Bool := match lends 0 as with
  | [] => true
  | [_] => true
  | _ => false
theorem call_use {σ : Sig} {H : Hp} {Q : VK} {as : List S.Arg} (h1 : oneLend as = true) (h : tF X.K L W (S.call F as) σ H Q) : tArgs X.K L W as σ H fun vs H1 => spF X.K F (as.map S.Arg.isLend) vs H1 Q (WE W σ) := by
  obtain ⟨G, η, Fs, R, q⟩ := h
  refine tArgs_use R q fun vs ps η1 G1 H1 Fs1 R1 E1 k1 q1 => ?_
  cases hx : S.finA as ps η1 with
  | none => simp only [hx] at q1; exact q1.elim
  | some xs =>
    simp only [hx] at q1
    have a := k1.ok hx
    obtain ⟨l1, l2⟩ := a.len
    have one : ∀ (i i' j : Nat), as[i]? = some (S.Arg.lend j) → as[i']? = some (S.Arg.lend j) → i = i' := fun i i' j z z' => by
      have m1 := lends_mem (n := 0) z
      have m2 := lends_mem (n := 0) z'
      unfold oneLend at h1
      cases q : lends 0 as with
      | nil => rw [q] at m1; cases m1
      | cons a r =>
        cases r with
        | nil =>
          rw [q] at m1 m2
          have y1 := List.mem_singleton.mp m1
          have y2 := List.mem_singleton.mp m2
          rw [← y2] at y1
          have := congrArg Prod.fst y1
          simp at this; exact this
        | cons b r => rw [q] at h1; cases h1
    have CR := callee_rel R1 a one
    refine ⟨by rw [List.length_map]; exact l1, G1, xs, _, by rw [List.length_map]; exact l2, by rw [List.length_map]; exact CR, ?_⟩
    -- what the caller finds behind it
    have after : ∀ {bk η2 : Env} {G' H' : Hp} {Fs' : Feet}, S.putBack as bk η1 = some η2 → Rel ((as.map S.Arg.isLend).length, lentsAt 0 (as.map S.Arg.isLend) vs) G' bk (vs.map some) H' Fs' → Ext G1 H1 (feetOf as Fs1) G' H' Fs' →
        ∃ Fs2, Rel L G' η2 σ H' Fs2 ∧ Ext G1 H1 Fs1 G' H' Fs2 ∧ ∀ a, foot Fs2 a → foot Fs' a ∨ (foot Fs1 a ∧ ¬ foot (feetOf as Fs1) a) := by
      intro bk η2 G' H' Fs' pb R' E'
      cases ql : lends 0 as with
      | nil =>
        have e2 : η2 = η1 := by
          have wid := R'.wid
          rw [List.length_map] at wid
          rw [putBack_none ql wid.symm] at pb
          exact (Option.some.inj pb).symm
        subst e2
        have nf : ∀ a, ¬ foot (feetOf as Fs1) a := fun a ⟨i, hi⟩ => by
          unfold feetOf at hi
          split at hi
          · rename_i j z; have := lends_mem (n := 0) z; rw [ql] at this; cases this
          · simp at hi
        obtain ⟨r1, r2⟩ := R1.still E' R'.sub nf
        exact ⟨Fs1, r1, r2, fun a h => .inr ⟨h, nf a⟩⟩
      | cons c r =>
        have hr : r = [] := by
          unfold oneLend at h1
          cases r with
          | nil => rfl
          | cons b r => rw [ql] at h1; cases h1
        subst hr
        obtain ⟨i, j⟩ := c
        obtain ⟨k', b', d', k0, l0, d0, z1, z2, z3, z4⟩ := putBack_one (n := 0) (i := i) (j := j) (by rw [ql]; simp) pb
        subst z3
        obtain ⟨v, kk, dd, y1, y2, l', y3, y4⟩ := a.get z4
        obtain ⟨v', w1, w2, w3⟩ := R'.slot i k' b' d' z1
        rw [List.getElem?_map, y1] at w1
        have ev : v = v' := by injection w1 with w1; injection w1
        subst ev
        have hFl : ∀ a, foot (feetOf as Fs1) a → a ∈ Fs1 j := fun a ⟨i', hi'⟩ => by
          unfold feetOf at hi'
          split at hi'
          · rename_i j' z
            have m := lends_mem (n := 0) z
            rw [ql] at m
            have := List.mem_singleton.mp m
            have ej : j' = j := congrArg Prod.snd this
            rw [ej] at hi'; exact hi'
          · simp at hi'
        obtain ⟨r1, r2⟩ := R1.swap z2 y3 E' R'.sub hFl w2 (R'.nod i) (R'.dis i) fun a ha => ⟨i, ha⟩
        refine ⟨_, r1, r2, fun a h => ?_⟩
        rcases foot_setF h with z | ⟨i', hi', z⟩
        · exact .inl ⟨i, z⟩
        · exact .inr ⟨⟨i', z⟩, fun y => hi' (R1.sep i' j a z (hFl a y))⟩
    cases hF : F xs with
    | bad => simp only [hF] at q1; exact q1.elim
    | exc c bk =>
      simp only [hF] at q1
      intro G' H' Fs' R' E'
      cases pb : S.putBack as bk η1 with
      | none => simp only [pb] at q1; exact q1.elim
      | some η2 =>
        simp only [pb] at q1
        obtain ⟨Fs2, r1, r2, _⟩ := after pb R' E'
        exact q1 G' H' Fs2 r1 r2
    | ok k d bk =>
      simp only [hF] at q1
      intro G' H' Fs' v Fv R' E' y o
      cases pb : S.putBack as bk η1 with
      | none => simp only [pb] at q1; exact q1.elim
      | some η2 =>
        simp only [pb] at q1
        obtain ⟨Fs2, r1, r2, r3⟩ := after pb R' E'
        have sub : ∀ a, foot (feetOf as Fs1) a → foot Fs1 a := fun a ⟨i', hi'⟩ => by
          unfold feetOf at hi'
          split at hi'
          · exact ⟨_, hi'⟩
          · simp at hi'
        refine q1 G' H' Fs2 r1 r2 v Fv ⟨y.own, y.nod, y.dis, fun a ha z => ?_⟩ fun a ha => ?_
        · rcases r3 a z with z | ⟨z1, z2⟩
          · exact y.sep a ha z
          · rcases o a ha with w | w
            · exact z2 w
            · exact R1.noFoot w z1
        · rcases o a ha with w | w
          · exact E1.f a (sub a w)
          · exact .inr (E1.noneOf w)
theorem jf_call {as : List S.Arg} {io : List Bool} (Fk : FnOk X.prog X.w X.K X.mg X.base (L2.CX X.prog X.w) k f fd ps (spF X.K F io)) (hr : Room k X.A) (hg : Gl X x) (hm : X.mg x = some (.ref f)) (hk : PySem.W.keepIn X.K (.ref f) = true) (hb : Binds X.K fd ps []) (tk : Takes X W)
    (hio : io = as.map S.Arg.isLend) (h1 : oneLend as = true) (ha : PA X (e :: es) (tArgs X.K L W as)) (hdb : (x == ("__debug__" : Str)) = false := by decide) (he : starEach (e :: es) X.env = (false, eval e X.env) :: starEach es X.env := by rfl) (hpl : (backTo pos (starEach es X.env)).any (·.1) = false := by rfl) :
    PE X (.Call (.Name x p) (e :: es) [] pos) (tF X.K L W (S.call F as)) := by
  subst hio
  exact PE.imp (pe_callS Fk hr hg hm hk hb (fun σ => passAt tk σ) ha hdb he hpl) fun σ H Q q => call_use h1 q
theorem ja_nil : PA X [] (tArgs X.K L W []) := pa_nil
theorem ja_ex {g : SE} {as : List S.Arg} (h : PE X e (tE X.K L W g)) (hr : PA X es (tArgs X.K L W as)) (hs : starEach (e :: es) X.env = (false, eval e X.env) :: starEach es X.env := by rfl) : PA X (e :: es) (tArgs X.K L W (.ex g :: as)) := pa_cons h hr hs
theorem ja_lend {j : Nat} {as : List S.Arg} (h : PE X e (tVar j)) (hr : PA X es (tArgs X.K L W as)) (hs : starEach (e :: es) X.env = (false, eval e X.env) :: starEach es X.env := by rfl) : PA X (e :: es) (tArgs X.K L W (.lend j :: as)) := pa_cons h hr hs
/-- raise C('..') -/
theorem js_raise {x : Str} {m : Str} {j : Nat} {p2 pos2 : Pos} (hc : X.calm = true) (tk : Takes X W) (q : PySem.W.excIn X.K (He.ga X.K x) He.veBase "ValueError.__new__" = true) (gC : X.mg x = some (.ref (He.ga X.K x))) (kC : PySem.W.keepIn X.K (.ref (He.ga X.K x)) = true)
    (b1 : PySem.W.subIn X.K (.ref (He.ga X.K x)) (.type "BaseException") = some true) (b2 : PySem.W.typeIn X.K (.ref (He.ga X.K x)) = some (.type "type")) (hg : Gl X x) (hdb : (x == ("__debug__" : Str)) = false := by decide) :
    PS X (.Raise (some (.Call (.Name x p) [.Constant (.str m) j p2] [] pos)) none pos2) (tS X.K L W (S.raise x)) := by
  refine PS.imp (ps_raise hc tk (pmk_own PySem.F.excBase_ValueError q gC kC (raises_own b1 b2) hg hdb)) fun D σ H ⟨G, η, Fs, R, q⟩ => ?_
  exact q σ G H Fs R Ext.refl
end
end DV

/-! DV10: for loops, what is walked, subscripts, lists that change. -/
namespace DV
open PySem PySem.Spec PyProof.Rows L2 RZ

namespace S
def range3 (f g h : SE) : SI := fun η => (f η).bind fun d η1 => (g η1).bind fun e η2 => (h η2).bind fun c η3 => match d, e, c with
  | .int i, .int j, .int s => if s = -1 ∧ -(2 ^ 62) ≤ i ∧ i < 2 ^ 62 ∧ -(2 ^ 62) ≤ j ∧ j < 2 ^ 62 then .ok ((List.range (i - j).toNat).map fun (n : Nat) => D.int (i - n)) η3 else .bad
  | _, _, _ => .bad
def enumL (ds : List D) : List D := ds.zipIdx.map fun p => D.tup [.int (p.2 : Nat), p.1]
def enum (f : SE) : SI := fun η => (f η).bind fun d η1 => match d with
  | .lst ds => .ok (enumL ds) η1
  | _ => .bad
def zipL (xs ys : List D) : List D := List.zipWith (fun x y => D.tup [x, y]) xs ys
def zip2 (f g : SE) : SI := fun η => (f η).bind fun d η1 => (g η1).bind fun e η2 => match d, e with
  | .lst xs, .lst ys => .ok (zipL xs ys) η2
  | .tup xs, .tup ys => .ok (zipL xs ys) η2
  | _, _ => .bad
end S

section
variable {X : Cx} {L : Lents} {W : WX} {e a b c tg it : Expr} {es : List Expr} {pos : Pos} {ss : List Stmt}
theorem for_core {K : PySem.W.Frag} {D : Ends} {ds : List DV.D} {g : SG} {body : SS} {η1 : Env} {σ : Sig} {G1 H1 : Hp} {Fs1 : Feet} {J : It} (wJ : Walks G1 H1 Fs1 ds J) (R1 : Rel L G1 η1 σ H1 Fs1) (q1 : ResS K L W D G1 H1 Fs1 (S.forL g body ds η1)) :
    ∃ Wi : Nat → Nat → L2.St → Hp → Prop, (∃ m, Wi 0 m σ H1) ∧ ∀ i m σ H, Wi i m σ H → (J.stop i H ∧ D.nx σ H) ∨ (J.go i H ∧ ∃ N : L2.St → Hp → Prop, (∀ σ' H', N σ' H' → ∃ m', m' < m ∧ Wi (i + 1) m' σ' H') ∧
      ∀ x H', J.yld i H x H' → tG L g x σ H' fun σ2 H2 => tS K L W body { D with nx := N, ct := N, bk := D.nx } σ2 H2) := by
  refine ⟨fun i m σ H => m = ds.length - i ∧ i ≤ ds.length ∧ ∃ G2 η2 Fs2, Ext G1 H1 Fs1 G2 H Fs2 ∧ Rel L G2 η2 σ H Fs2 ∧ ResS K L W D G2 H Fs2 (S.forL g body (ds.drop i) η2), ⟨_, rfl, Nat.zero_le _, G1, η1, Fs1, Ext.refl, R1, by rw [List.drop_zero]; exact q1⟩, ?_⟩
  rintro i m σ2 H2 ⟨rfl, hi, G2, η2, Fs2, g2, R2, q2⟩
  obtain ⟨w1, w2⟩ := wJ i G2 H2 Fs2 g2 R2.sub
  by_cases hlt : i < ds.length
  · obtain ⟨go, y⟩ := w2 hlt
    refine .inr ⟨go, fun σ' H' => i + 1 ≤ ds.length ∧ ∃ G3 η3 Fs3, Ext G1 H1 Fs1 G3 H' Fs3 ∧ Rel L G3 η3 σ' H' Fs3 ∧ ResS K L W D G3 H' Fs3 (S.forL g body (ds.drop (i + 1)) η3), fun σ' H' p => ⟨ds.length - (i + 1), by omega, rfl, p⟩, fun x H3 yx => ?_⟩
    obtain ⟨d, G3, hd, N, rx⟩ := y x H3 yx
    have e : ds.drop i = d :: ds.drop (i + 1) := by
      have hd' := List.getElem?_eq_some_iff.mp hd
      rw [List.drop_eq_getElem_cons hlt, hd'.2]
    rw [e] at q2
    unfold S.forL at q2
    have R3 := R2.new N
    cases z : g d η2 with
    | bad => simp only [z] at q2; exact q2.elim
    | exc c η3 => simp only [z] at q2; exact q2.elim
    | ok u η3 =>
      simp only [z] at q2
      refine ⟨G3, η2, Fs2, d, η3, R3, rx, z, fun σ4 G4 H4 Fs4 R4 E4 => ⟨G4, η3, Fs4, R4, ?_⟩⟩
      have q4 := q2.later (N.ext.trans E4)
      have g4 : Ext G1 H1 Fs1 G4 H4 Fs4 := g2.trans (N.ext.trans E4)
      cases y : body η3 with
      | bad => rw [y] at q4; exact q4
      | exc c η4 => rw [y] at q4; exact q4
      | ok fl η4 =>
        rw [y] at q4
        cases fl with
        | nx => exact fun σ5 G5 H5 Fs5 R5 E5 => ⟨hlt, G5, η4, Fs5, g4.trans E5, R5, ResS.later (show ResS K L W D G4 H4 Fs4 (S.forL g body (ds.drop (i + 1)) η4) from q4) E5⟩
        | ct => exact fun σ5 G5 H5 Fs5 R5 E5 => ⟨hlt, G5, η4, Fs5, g4.trans E5, R5, ResS.later (show ResS K L W D G4 H4 Fs4 (S.forL g body (ds.drop (i + 1)) η4) from q4) E5⟩
        | bk => exact q4
        | rt k d => exact q4
  · have ei : i = ds.length := by omega
    subst ei
    rw [List.drop_length] at q2
    exact .inl ⟨w1 (Nat.le_refl _), q2 σ2 G2 H2 Fs2 R2 Ext.refl⟩
theorem js_for {f : SI} {g : SG} {body : SS} (hp : PassesOwn (model X.prog X.w) X.A X.env X.xe) (hc : X.calm = true) (hi : PI X tg it (tI X.K L W f)) (hg : PG X tg (tG L g)) (hb : PSs X ss (tS X.K L W body)) (hs : ∀ x, foldedSetIterable it X.env x = pure x) :
    PS X (.For tg it ss [] pos) (tS X.K L W (S.fors f g body)) := by
  refine PS.imp (ps_for hp hc hi hg hb hs) fun D σ H ⟨G, η, Fs, R, q⟩ => ⟨G, η, Fs, R, (ResS.bind q).mono fun ds η1 G1 H1 Fs1 R1 E1 q1 J wJ => for_core wJ R1 q1⟩
/-! ### what is walked -/
theorem ji_lst {f : SE} (h : PE X e (tE X.K L W f)) : PI X tg e (tI X.K L W (fun η => (f η).bind fun d η1 => match d with | .lst ds => .ok ds η1 | _ => .bad)) := by
  refine PI.imp (pi_list h) fun σ H Rr ⟨G, η, Fs, R, q⟩ => ⟨G, η, Fs, R, q.bind.mono fun d η1 G1 H1 Fs1 R1 E1 q1 v rv => ?_⟩
  cases d <;> first | exact (show False from q1).elim | skip
  cases rv with
  | lst h1 h2 => exact ⟨_, rfl, ⟨_, .inl (R1.sub.rd _ _ h1)⟩, q1 G1 H1 Fs1 R1 Ext.refl _ (walks_list h1 h2).ext⟩
theorem ji_tup {f : SE} (h : PE X e (tE X.K L W f)) : PI X tg e (tI X.K L W (fun η => (f η).bind fun d η1 => match d with | .tup ds => .ok ds η1 | _ => .bad)) := by
  refine PI.imp (pi_tup h) fun σ H Rr ⟨G, η, Fs, R, q⟩ => ⟨G, η, Fs, R, q.bind.mono fun d η1 G1 H1 Fs1 R1 E1 q1 v rv => ?_⟩
  cases d <;> first | exact (show False from q1).elim | skip
  cases rv with
  | tup h1 h2 => exact ⟨_, rfl, ⟨_, .of (R1.sub.tp _ _ h1)⟩, q1 G1 H1 Fs1 R1 Ext.refl _ (walks_tup h1 h2).ext⟩
/-- a list or a tuple -/
theorem ji_items {f : SE} (h : PE X e (tE X.K L W f)) : PI X tg e (tI X.K L W (S.items f)) := by
  refine ⟨fun pins s σ H Rr I hh => ?_⟩
  obtain ⟨G, η, Fs, R, q⟩ := hh
  have q' := q
  unfold S.items at q
  refine thn (h.run pins s σ H (fun v H1 => ∃ G1 η1 Fs1 d, Rel L G1 η1 σ H1 Fs1 ∧ Rep G1 v d ∧ Res X.K L W σ G1 H1 Fs1 (fun ds _ G' H' Fs' => ∀ J, Walks G' H' Fs' ds J → Rr J H') (lift (S.seqOf d) η1)) I ⟨G, η, Fs, R, q.bind.mono fun d η1 G1 H1 Fs1 R1 E1 q1 v rv => ⟨G1, η1, Fs1, d, R1, rv, q1⟩⟩) fun v s1 ⟨x, H1, I1, r1, G1, η1, Fs1, d, R1, rv, q1⟩ => ?_
  obtain ⟨ds, e1, q2⟩ := q1.lift
  cases d <;> simp only [S.seqOf] at e1 <;> try cases e1
  · cases rv with
    | tup h1 h2 =>
      have hq := SqT.of (K := X.K) (R1.sub.tp _ _ h1)
      cases r1
      obtain ⟨its, rv', p, hz⟩ := I1.tuple hq
      refine wpAny_pyIter_tuple (show s1.heap.IsTuple _ its.toArray from p) ?_
      refine ⟨s1.heap.objs.size, [s1.heap.objs.size], _, _, H1, rfl, I1.kept (t' := s1.toks) fun b o e => Heap.get?_push_of_some _ e, turn_tuple _ _, ⟨_, Heap.get?_push_size _ rfl, rfl, rfl⟩, fun b hb => ?_, q2 G1 H1 Fs1 R1 Ext.refl _ (walks_tup h1 h2).ext⟩
      have e : b = s1.heap.objs.size := by simpa using hb
      subst e
      exact I1.fpOk (Nat.le_refl _) (I1.hok.fresh (Nat.le_refl _))
  · cases rv with
    | lst h1 h2 =>
      have hq : SqL X.K H1 _ _ := .inl (R1.sub.rd _ _ h1)
      cases r1
      obtain ⟨its, rv', p, hz⟩ := I1.list hq
      refine wpAny_pyIter_list p.isList ?_
      refine ⟨s1.heap.objs.size, [s1.heap.objs.size], _, _, H1, rfl, I1.kept (t' := s1.toks) fun b o e => Heap.get?_push_of_some _ e, turn_list _ _, ⟨_, Heap.get?_push_size _ rfl, rfl, rfl⟩, fun b hb => ?_, q2 G1 H1 Fs1 R1 Ext.refl _ (walks_list h1 h2).ext⟩
      have e : b = s1.heap.objs.size := by simpa using hb
      subst e
      exact I1.fpOk (Nat.le_refl _) (I1.hok.fresh (Nat.le_refl _))
theorem ji_range1 {f : SE} {p : Pos} (hg : Gl X "range") (hm : X.mg "range" = none) (h : PE X a (tE X.K L W f)) (hs0 : starEach (a :: []) X.env = (false, eval a X.env) :: starEach [] X.env := by rfl) (hs : starEach [a] X.env = [(false, eval a X.env)] := by rfl) :
    PI X tg (.Call (.Name "range" p) [a] [] pos) (tI X.K L W (S.range1 f)) := by
  refine PI.imp (pi_range1 hg hm (pa_cons h pa_nil hs0) hs) fun σ H Rr ⟨G, η, Fs, R, q⟩ => ⟨G, η, Fs, R, q.bind.mono fun d η1 G1 H1 Fs1 R1 E1 q1 v rv => ?_⟩
  cases d <;> first | exact (show False from q1).elim | skip
  rename_i j
  cases rv
  have q1 : Res X.K L W σ G1 H1 Fs1 _ (if -(2 ^ 62) ≤ j ∧ j < 2 ^ 62 then .ok (S.rangeL 0 j.toNat) η1 else .bad) := q1
  split at q1
  · rename_i hj
    exact ⟨j, rfl, hj.1, hj.2, q1 G1 H1 Fs1 R1 Ext.refl _ walks_range.ext⟩
  · exact q1.elim
theorem ji_range2 {f g : SE} {p : Pos} (hg : Gl X "range") (hm : X.mg "range" = none) (h : PE X a (tE X.K L W f)) (h' : PE X b (tE X.K L W g)) (hs0 : starEach (a :: [b]) X.env = (false, eval a X.env) :: starEach [b] X.env := by rfl) (hs1 : starEach (b :: []) X.env = (false, eval b X.env) :: starEach [] X.env := by rfl)
    (hs : starEach [a, b] X.env = [(false, eval a X.env), (false, eval b X.env)] := by rfl) (hs2 : starEach [b] X.env = [(false, eval b X.env)] := by rfl) :
    PI X tg (.Call (.Name "range" p) [a, b] [] pos) (tI X.K L W (S.range2 f g)) := by
  refine PI.imp (pi_range2 hg hm (pa_cons h (pa_cons h' pa_nil hs1) hs0) hs hs2) fun σ H Rr ⟨G, η, Fs, R, q⟩ => ⟨G, η, Fs, R, q.bind.mono fun d η1 G1 H1 Fs1 R1 E1 q1 v rv => ⟨G1, η1, Fs1, R1, q1.bind.mono fun d2 η2 G2 H2 Fs2 R2 E2 q2 v2 rv2 => ?_⟩⟩
  cases d <;> first | exact (show False from q2).elim | skip
  rename_i i
  cases d2 <;> first | exact (show False from q2).elim | skip
  rename_i j
  cases rv
  cases rv2
  have q2 : Res X.K L W σ G2 H2 Fs2 _ (if -(2 ^ 62) ≤ i ∧ i < 2 ^ 62 ∧ -(2 ^ 62) ≤ j ∧ j < 2 ^ 62 then .ok (S.rangeL i (j - i).toNat) η2 else .bad) := q2
  split at q2
  · rename_i hj
    exact ⟨i, j, rfl, hj, q2 G2 H2 Fs2 R2 Ext.refl _ walks_range.ext⟩
  · exact q2.elim
theorem ji_range3 {f g h : SE} {p : Pos} (hg : Gl X "range") (hm : X.mg "range" = none) (ha : PE X a (tE X.K L W f)) (hb : PE X b (tE X.K L W g)) (hc : PE X c (tE X.K L W h)) (hs0 : starEach (a :: [b, c]) X.env = (false, eval a X.env) :: starEach [b, c] X.env := by rfl) (hs1 : starEach (b :: [c]) X.env = (false, eval b X.env) :: starEach [c] X.env := by rfl)
    (hs2 : starEach (c :: []) X.env = (false, eval c X.env) :: starEach [] X.env := by rfl) (hpl : (backTo pos (starEach [b, c] X.env)).any (·.1) = false := by rfl) :
    PI X tg (.Call (.Name "range" p) [a, b, c] [] pos) (tI X.K L W (S.range3 f g h)) := by
  refine PI.imp (pi_range3 hg hm (pa_cons ha (pa_cons hb (pa_cons hc pa_nil hs2) hs1) hs0) hs0 hpl) fun σ H Rr ⟨G, η, Fs, R, q⟩ => ⟨G, η, Fs, R, q.bind.mono fun d η1 G1 H1 Fs1 R1 E1 q1 v rv =>
    ⟨G1, η1, Fs1, R1, q1.bind.mono fun d2 η2 G2 H2 Fs2 R2 E2 q2 v2 rv2 => ⟨G2, η2, Fs2, R2, q2.bind.mono fun d3 η3 G3 H3 Fs3 R3 E3 q3 v3 rv3 => ?_⟩⟩⟩
  cases d <;> first | exact (show False from q3).elim | skip
  rename_i i
  cases d2 <;> first | exact (show False from q3).elim | skip
  rename_i j
  cases d3 <;> first | exact (show False from q3).elim | skip
  rename_i s
  cases rv
  cases rv2
  cases rv3
  have q3 : Res X.K L W σ G3 H3 Fs3 _ (if s = -1 ∧ -(2 ^ 62) ≤ i ∧ i < 2 ^ 62 ∧ -(2 ^ 62) ≤ j ∧ j < 2 ^ 62 then .ok ((List.range (i - j).toNat).map fun (n : Nat) => D.int (i - n)) η3 else .bad) := q3
  split at q3
  · rename_i hj
    obtain ⟨es, h1, h2, h3, h4⟩ := hj
    have q4 := q3 G3 H3 Fs3 R3 Ext.refl
    subst es
    refine ⟨i, j, -1, (i - j).toNat, rfl, RgC.neg h1 h2 h3 h4, q4 _ ?_⟩
    refine WalksG.ext ?_
    intro n G4 H4 g4 s4
    rw [List.length_map, List.length_range]
    refine ⟨fun hn => hn, fun hn => ?_⟩
    refine ⟨hn, fun x H' ⟨e, y⟩ => ?_⟩
    subst e; subst y
    exact ⟨.int (i - n), G4, by simp [hn], New.refl s4, by rw [show i + (n : Int) * -1 = i - n by omega]; exact .int _⟩
  · exact q3.elim
theorem zip_walks {K : PySem.W.Frag} {G : Hp} {p q : Addr} {xs ys : List V} {ds es : List D} (h1 : Rd G p (.lst xs)) (r1 : RepL G xs ds) (h2 : Rd G q (.lst ys)) (r2 : RepL G ys es) : WalksG G (S.zipL ds es) (Itz K p q) := by
  intro i G2 H g s
  have q1 : SqL K H p xs := .inl (s.rd _ _ (g.sub.rd _ _ h1))
  have q2 : SqL K H q ys := .inl (s.rd _ _ (g.sub.rd _ _ h2))
  have hl : (S.zipL ds es).length = min ds.length es.length := by unfold S.zipL; rw [List.length_zipWith]
  have l1 := r1.length
  have l2 := r2.length
  refine ⟨fun hi => ⟨xs, ys, q1, q2, by rw [hl] at hi; omega⟩, fun hi => ?_⟩
  rw [hl] at hi
  have hx : i < xs.length := by omega
  have hy : i < ys.length := by omega
  refine ⟨⟨xs, ys, xs[i], ys[i], q1, q2, by simp [hx], by simp [hy]⟩, fun v H' ⟨T, x, y, ev, hT, eH, z1, z2⟩ => ?_⟩
  subst ev; subst eH
  obtain ⟨d, e1, rd⟩ := r1.getV (z1 xs q1)
  obtain ⟨e, e2, re⟩ := r2.getV (z2 ys q2)
  have N := New.frozen (o := .tup [x, y]) s hT
  refine ⟨.tup [d, e], _, ?_, N, .tup upd_same (.cons (rd.mono (g.sub.trans N.g.sub)) (.cons (re.mono (g.sub.trans N.g.sub)) .nil))⟩
  unfold S.zipL; rw [List.getElem?_zipWith, e1, e2]
theorem zipT_walks {K : PySem.W.Frag} {G : Hp} {p q : Addr} {xs ys : List V} {ds es : List D} (h1 : G p = some (.tup xs)) (r1 : RepL G xs ds) (h2 : G q = some (.tup ys)) (r2 : RepL G ys es) : WalksG G (S.zipL ds es) (ItzT K p q) := by
  intro i G2 H g s
  have q1 : SqT K H p xs := .of (s.tp _ _ (g _ _ h1))
  have q2 : SqT K H q ys := .of (s.tp _ _ (g _ _ h2))
  have hl : (S.zipL ds es).length = min ds.length es.length := by unfold S.zipL; rw [List.length_zipWith]
  have l1 := r1.length
  have l2 := r2.length
  refine ⟨fun hi => ⟨xs, ys, q1, q2, by rw [hl] at hi; omega⟩, fun hi => ?_⟩
  rw [hl] at hi
  have hx : i < xs.length := by omega
  have hy : i < ys.length := by omega
  refine ⟨⟨xs, ys, xs[i], ys[i], q1, q2, by simp [hx], by simp [hy]⟩, fun v H' ⟨T, x, y, ev, hT, eH, z1, z2⟩ => ?_⟩
  subst ev; subst eH
  obtain ⟨d, e1, rd⟩ := r1.getV (z1 xs q1)
  obtain ⟨e, e2, re⟩ := r2.getV (z2 ys q2)
  have N := New.frozen (o := .tup [x, y]) s hT
  refine ⟨.tup [d, e], _, ?_, N, .tup upd_same (.cons (rd.mono (g.sub.trans N.g.sub)) (.cons (re.mono (g.sub.trans N.g.sub)) .nil))⟩
  unfold S.zipL; rw [List.getElem?_zipWith, e1, e2]
theorem ji_zip {f g : SE} {p tpos : Pos} {elts : List Expr} {kk : Nat} (hg : Gl X "zip") (hm : X.mg "zip" = none) (h : PE X a (tE X.K L W f)) (h' : PE X b (tE X.K L W g)) (hs0 : starEach (a :: [b]) X.env = (false, eval a X.env) :: starEach [b] X.env := by rfl) (hs1 : starEach (b :: []) X.env = (false, eval b X.env) :: starEach [] X.env := by rfl)
    (hpl : (backTo pos (starEach [b] X.env)).any (·.1) = false := by rfl) : PI X (.Tuple elts kk tpos) (.Call (.Name "zip" p) [a, b] [] pos) (tI X.K L W (S.zip2 f g)) := by
  refine PI.imp (pi_zipA hg hm (pa_cons h (pa_cons h' pa_nil hs1) hs0) hs0 hpl) fun σ H Rr ⟨G, η, Fs, R, q⟩ => ⟨G, η, Fs, R, q.bind.mono fun d η1 G1 H1 Fs1 R1 E1 q1 v rv => ⟨G1, η1, Fs1, R1, q1.bind.mono fun d2 η2 G2 H2 Fs2 R2 E2 q2 v2 rv2 => ?_⟩⟩
  cases d <;> first | (cases d2 <;> exact (show False from q2).elim) | skip
  · cases d2 <;> first | exact (show False from q2).elim | skip
    cases rv with
    | tup h1 r1 =>
      cases rv2 with
      | tup h2 r2 => exact ⟨_, _, _, _, rfl, .inr ⟨.of (R2.sub.tp _ _ (E2.g _ _ h1)), .of (R2.sub.tp _ _ h2), q2 G2 H2 Fs2 R2 Ext.refl _ (zipT_walks (E2.g _ _ h1) (r1.mono E2.g.sub) h2 r2).ext⟩⟩
  · cases d2 <;> first | exact (show False from q2).elim | skip
    cases rv with
    | lst h1 r1 =>
      cases rv2 with
      | lst h2 r2 => exact ⟨_, _, _, _, rfl, .inl ⟨.inl (R2.sub.rd _ _ (E2.g.sub.rd _ _ h1)), .inl (R2.sub.rd _ _ h2), q2 G2 H2 Fs2 R2 Ext.refl _ (zip_walks (E2.g.sub.rd _ _ h1) (r1.mono E2.g.sub) h2 r2).ext⟩⟩
theorem ji_enum {f : SE} {p tpos : Pos} {elts : List Expr} {kk : Nat} (hg : Gl X "enumerate") (hm : X.mg "enumerate" = none) (h : PE X a (tE X.K L W f)) (hs0 : starEach (a :: []) X.env = (false, eval a X.env) :: starEach [] X.env := by rfl) (hs : starEach [a] X.env = [(false, eval a X.env)] := by rfl) :
    PI X (.Tuple elts kk tpos) (.Call (.Name "enumerate" p) [a] [] pos) (tI X.K L W (S.enum f)) := by
  refine PI.imp (pi_enum hg hm (pa_cons h pa_nil hs0) hs) fun σ H Rr ⟨G, η, Fs, R, q⟩ => ⟨G, η, Fs, R, q.bind.mono fun d η1 G1 H1 Fs1 R1 E1 q1 v rv => ?_⟩
  cases d <;> first | exact (show False from q1).elim | skip
  rename_i ds
  cases rv with
  | lst h1 r1 =>
    refine ⟨_, _, rfl, .inl (R1.sub.rd _ _ h1), q1 G1 H1 Fs1 R1 Ext.refl _ ?_⟩
    refine WalksG.ext ?_
    intro i G2 H2 g s
    have q1 : SqL X.K H2 _ _ := .inl (s.rd _ _ (g.sub.rd _ _ h1))
    have hl : (S.enumL ds).length = ds.length := by unfold S.enumL; simp
    refine ⟨fun hi => ⟨_, q1, by rw [r1.length, ← hl]; exact hi⟩, fun hi => ?_⟩
    rw [hl] at hi
    refine ⟨⟨_, _, q1, List.getElem?_eq_getElem (by rw [r1.length]; exact hi)⟩, fun v H' ⟨T, x, ev, hT, eH, z1⟩ => ?_⟩
    subst ev; subst eH
    obtain ⟨d, e1, rd⟩ := r1.getV (z1 _ q1)
    have N := New.frozen (o := .tup [.int (i : Nat), x]) s hT
    refine ⟨.tup [.int (i : Nat), d], _, ?_, N, .tup upd_same (.cons (.int _) (.cons (rd.mono (g.sub.trans N.g.sub)) .nil))⟩
    unfold S.enumL
    rw [List.getElem?_map, List.getElem?_zipIdx, e1]
    simp
end
end DV

/-! DV11: subscripts, slices, stores in a list, methods of lists. -/
namespace DV
open PySem PySem.Spec PyProof.Rows L2 RZ

def ixD : D → D → Option (Nat × D)
  | .lst ds, .int i => (atI ds i).map (0, ·)
  | .tup ds, .int i => (atI ds i).map (0, ·)
  | .str x, .int i => if x.length ≤ sizeLine then (atI x.cps.toList i).map fun c => (0, D.str ⟨#[c]⟩) else none
  | _, _ => none
theorem RepL.at {G : Hp} {vs : List V} {ds : List D} {i : Int} {d : D} (r : RepL G vs ds) (h : atI ds i = some d) : ∃ v, atI vs i = some v ∧ Rep G v d := by
  unfold atI at h ⊢
  rw [r.length]
  cases e : ixN ds.length i with
  | none => rw [e] at h; cases h
  | some j =>
    rw [e] at h
    obtain ⟨v, h1, h2⟩ := r.get (show ds[j]? = some d from h)
    exact ⟨v, h1, h2⟩
theorem sz_ix {K : PySem.W.Frag} : Op2 (rIx K) ixD := by
  intro G H v w dx dy k d Q s bx by' h fin
  cases dx <;> cases dy <;> simp only [ixD] at h <;> try cases h
  · split at h
    · rename_i x i hz
      cases e : atI x.cps.toList i with
      | none => rw [e] at h; cases h
      | some c => rw [e] at h; cases h; exact .inr (.inr ⟨x, i, c, bx.str, by'.int, hz, e, fin.same s (.str _)⟩)
    · cases h
  · rename_i ds i
    cases e : atI ds i with
    | none => rw [e] at h; cases h
    | some c =>
      rw [e] at h; cases h
      obtain ⟨a, xs, rfl, h1, r1⟩ := bx.tup s
      obtain ⟨v, h2, r2⟩ := r1.at e
      exact .inr (.inl ⟨a, xs, i, v, rfl, by'.int, .of (s.tp _ _ h1), h2, fin.same s r2⟩)
  · rename_i ds i
    cases e : atI ds i with
    | none => rw [e] at h; cases h
    | some c =>
      rw [e] at h; cases h
      obtain ⟨a, xs, rfl, h1, r1⟩ := bx.lst s
      obtain ⟨v, h2, r2⟩ := r1.at e
      exact .inl ⟨a, xs, i, v, rfl, by'.int, .inl h1, h2, fin.same s r2⟩
section
variable {X : Cx} {L : Lents} {W : WX} {e a b c tg it : Expr} {es : List Expr} {pos : Pos} {ss : List Stmt}
/-- an operation of two operands, whatever its judgement -/
theorem bin_use {σ : Sig} {H : Hp} {Q : VK} {r : R2} {g : D → D → Option (Nat × D)} {oa ob : Opd} (hs : Op2 r g) (h : tF X.K L W (S.bin g oa ob) σ H Q) : tOp r (tO X.K L W oa) (tO X.K L W ob) σ H Q := by
  obtain ⟨G, η, Fs, R, q⟩ := h
  refine tO_use R q fun v p η1 G1 H1 Fs1 R1 E1 k1 q1 => ?_
  refine tO_use R1 q1 fun w p2 η2 G2 H2 Fs2 R2 E2 k2 q2 => ?_
  obtain ⟨⟨k, d⟩, e, q3⟩ := q2.lift
  cases hx : oa.fin p η2 with
  | none => rw [hx] at e; cases e
  | some x =>
    rw [hx] at e
    cases hy : ob.fin p2 η2 with
    | none => rw [show (some x).bind _ = (ob.fin p2 η2).bind _ from rfl, hy] at e; cases e
    | some y =>
      rw [show (some x).bind _ = (ob.fin p2 η2).bind _ from rfl, hy] at e
      refine hs G2 H2 v w x y k d Q R2.sub ((k1.mono E2.g.sub).bor R2 hx) (k2.bor R2 hy) e (fin_tF (P := fun _ _ _ _ _ => True) R2 fun G' H' Fs' R' E' u F x o => ?_)
      exact q3 G' H' Fs' R' E' u F x fun a ha => .inr ((E1.trans E2).noneOf (o a ha))
/-- a[b] -/
theorem jf_ix {oa ob : Opd} (ha : PE X a (tO X.K L W oa)) (hb : PE X b (tO X.K L W ob)) (hs : PlainIx b) : PE X (.Subscript a b pos) (tF X.K L W (S.bin ixD oa ob)) :=
  PE.imp (pe_ix ix_seq ha hb hs) fun σ H Q h => bin_use sz_ix h

/-! ### slices -/
def cutD (ds : List D) (lo hi : Option Int) : List D := (ds.drop (HT.sIx ds.length 0 lo)).take (HT.sIx ds.length ds.length hi - HT.sIx ds.length 0 lo)
def slD (lo hi : Option Int) : D → Option (Nat × D)
  | .lst ds => some (1, .lst (cutD ds lo hi))
  | .tup ds => some (0, .tup (cutD ds lo hi))
  | _ => none
def S.part (f : Option SE) : Env → Out (Option Int) := fun η => match f with
  | none => .ok none η
  | some g => (g η).bind fun d η1 => match d with
    | .int i => .ok (some i) η1
    | _ => .bad
def S.slc (oa : Opd) (lo hi : Option SE) : SF := fun η => (oa.pre η).bind fun p η1 => (S.part lo η1).bind fun l η2 => (S.part hi η2).bind fun u η3 => lift ((oa.fin p η3).bind (slD l u)) η3
def tP (K : PySem.W.Frag) (L : Lents) (W : WX) : Option SE → TO
  | none => tNoPart
  | some f => tPart (tE K L W f)
theorem jp_none {L : Lents} {W : WX} : PO X none (tP X.K L W none) := po_none
theorem jp_some {f : SE} (h : PE X e (tE X.K L W f)) : PO X (some e) (tP X.K L W (some f)) := po_some h
theorem tP_use {β : Type} {σ : Sig} {P : β → Env → Hp → Hp → Feet → Prop} {o : Option SE} {f : Option Int → Env → Out β} {Q : Option Int → Hp → Prop} {G H : Hp} {η : Env} {Fs : Feet} (R : Rel L G η σ H Fs) (h : Res X.K L W σ G H Fs P ((S.part o η).bind f))
    (k : ∀ i η1 G1 H1 Fs1, Rel L G1 η1 σ H1 Fs1 → Ext G H Fs G1 H1 Fs1 → Res X.K L W σ G1 H1 Fs1 P (f i η1) → Q i H1) : tP X.K L W o σ H Q := by
  cases o with
  | none => exact k none η G H Fs R Ext.refl h
  | some g =>
    have h1 := h.bind
    unfold S.part at h1
    refine ⟨G, η, Fs, R, h1.bind.mono fun d η1 G1 H1 Fs1 R1 E1 q v rv => ?_⟩
    cases d <;> first | exact (show False from q).elim | skip
    rename_i i
    cases rv
    exact ⟨i, rfl, k (some i) η1 G1 H1 Fs1 R1 E1 (q G1 H1 Fs1 R1 Ext.refl)⟩
theorem cutD_rep {G : Hp} {vs : List V} {ds : List D} {lo hi : Option Int} (r : RepL G vs ds) : RepL G (cutV vs lo hi) (cutD ds lo hi) := by
  unfold cutV cutD
  rw [r.length]
  exact (r.drop _).take _
def rSlB (K : PySem.W.Frag) : V → Option Int → Option Int → Hp → VK → Prop := fun x lo hi H Q => L2.rSlL K x lo hi H Q ∨ rSlA K x lo hi H Q
theorem cutD_all {ds : List D} {lo hi : Option Int} (h : HT.sIx ds.length 0 lo = 0 ∧ HT.sIx ds.length ds.length hi = ds.length) : cutD ds lo hi = ds := by
  unfold cutD; rw [h.1, h.2]; simp
theorem jf_slc {oa : Opd} {lo hi : Option Expr} {l u : Option SE} {p2 : Pos} (ha : PE X a (tO X.K L W oa)) (hl : PO X lo (tP X.K L W l)) (hu : PO X hi (tP X.K L W u)) :
    PE X (.Subscript a (.Slice lo hi none p2) pos) (tF X.K L W (S.slc oa l u)) := by
  refine PE.imp (pe_slice (SlR.or sl_list sl_tupA) ha hl hu) fun σ H Q ⟨G, η, Fs, R, q⟩ => ?_
  refine tO_use R q fun v p η1 G1 H1 Fs1 R1 E1 k1 q1 => ?_
  refine tP_use R1 q1 fun i η2 G2 H2 Fs2 R2 E2 q2 => ?_
  refine tP_use R2 q2 fun j η3 G3 H3 Fs3 R3 E3 q3 => ?_
  obtain ⟨⟨k, d⟩, e, q4⟩ := q3.lift
  cases hx : oa.fin p η3 with
  | none => rw [hx] at e; cases e
  | some x =>
    rw [hx] at e
    have fin : Fin2 G3 H3 k d Q := fin_tF (P := fun _ _ _ _ _ => True) R3 fun G' H' Fs' R' E' w F y o => q4 G' H' Fs' R' E' w F y fun a ha => .inr ((E1.trans (E2.trans E3)).noneOf (o a ha))
    have bo := ((k1.mono (E2.trans E3).g.sub).bor R3 hx)
    cases x <;> simp only [Option.bind_some, slD] at e <;> cases e
    · obtain ⟨a, xs, rfl, h1, r1⟩ := bo.tup R3.sub
      refine .inr ⟨a, xs, rfl, .of (R3.sub.tp _ _ h1), fun hw => ?_, fun hw p hp => fin.tupN R3.sub hp (cutD_rep r1)⟩
      rw [r1.length] at hw
      rw [cutD_all hw] at fin
      exact fin.same R3.sub (.tup h1 r1)
    · obtain ⟨a, xs, rfl, h1, r1⟩ := bo.lst R3.sub
      exact .inl ⟨a, xs, rfl, .inl h1, fun p hp => fin.lstN R3.sub hp (cutD_rep r1)⟩
end

/-! ### a slot's object is written -/
section
variable {L : Lents} {σ : Sig} {G H : Hp} {η : Env} {Fs : Feet}
theorem Sub.upd_out {G H : Hp} {a : Addr} {o : HO} (s : Sub G H) (h : G a = none) : Sub G (upd H a o) where
  rd := fun b u r => by
    by_cases e : b = a
    · subst e
      rcases r with z | ⟨x, z⟩
      · rw [h] at z; cases z
      · rw [h] at z; cases z
    · rcases s.rd b u r with z | ⟨x, z⟩
      · exact .inl (by rw [upd_ne e]; exact z)
      · exact .inr ⟨x, by rw [upd_ne e]; exact z⟩
  tp := fun b xs r => by
    by_cases e : b = a
    · subst e; rw [h] at r; cases r
    · rw [upd_ne e]; exact s.tp b xs r
  fz := fun b x u r => by
    by_cases e : b = a
    · subst e; rw [h] at r; cases r
    · rw [upd_ne e]; exact s.fz b x u r
theorem Ext.upd1 {G H : Hp} {Fs : Feet} {a : Addr} {o : HO} (h : foot Fs a) : Ext G H Fs G (upd H a o) Fs := by
  refine ⟨Le.refl G, fun b u e n => ?_, fun b z => .inl z, fun b z => .inl z, fun b e => ?_⟩
  · rw [upd_ne fun z => n (by rw [z]; exact h)]; exact e
  · by_cases z : b = a
    · subst z; rw [upd_same]; simp
    · rw [upd_ne z]; exact e
/-- the list of a slot that is owned 1 deep is written -/
theorem Rel.write1 (R : Rel L G η σ H Fs) {j : Nat} {l : Bool} {ds : List D} (e : η[j]? = some (.val 1 l (.lst ds))) :
    ∃ a vs, σ[j]? = some (some (.ref a)) ∧ H a = some (.lst vs) ∧ RepL G vs ds ∧ ∀ vs' ds', RepL G vs' ds' →
      Rel L G (η.set j (.val 1 l (.lst ds'))) σ (upd H a (.lst vs')) Fs ∧ Ext G H Fs G (upd H a (.lst vs')) Fs := by
  obtain ⟨v, h1, ⟨a, vs, F, e1, e2, e3, e4⟩, h3⟩ := R.slot j 1 l (.lst ds) e
  subst e1
  obtain ⟨r, e5⟩ := e4.to0
  subst e5
  refine ⟨a, vs, h1, e2, r, fun vs' ds' r' => ?_⟩
  have dis : G a = none := R.dis j a (by rw [e3]; exact List.mem_cons_self)
  have fl : foot (fun i => if i = j then [a] else []) a := ⟨j, by show a ∈ (if j = j then [a] else []); rw [if_pos rfl]; exact List.mem_cons_self⟩
  have E := Ext.upd1 (G := G) (H := H) (o := .lst vs') fl
  obtain ⟨r1, r2⟩ := R.swap e h1 E (R.sub.upd_out dis) (fun b ⟨i, hb⟩ => by
    have hb : b ∈ (if i = j then [a] else []) := hb
    by_cases hi : i = j
    · subst hi; rw [if_pos rfl] at hb; rw [e3]; exact hb
    · rw [if_neg hi] at hb; simp at hb) (k' := 1) (d' := .lst ds') (F' := [a]) ⟨a, vs', [], rfl, upd_same, rfl, OwnL.of0 r'⟩ (by simp) (fun b hb => by
      have z : b = a := by simpa using hb
      subst z; exact dis) fun b hb => by
      have z : b = a := by simpa using hb
      subst z; exact fl
  have ef : setF Fs j [a] = Fs := by
    funext i
    by_cases hi : i = j
    · subst hi; rw [setF_same, e3]
    · rw [setF_ne hi]
  rw [ef] at r1 r2
  exact ⟨r1, r2⟩
end
namespace S
/-- x[i] = e: e, x, i in turn -/
def setIx (j : Nat) (f g : SE) : SS := fun η => (f η).bind fun d η1 => match η1[j]? with
  | some (.val _ _ _) => (g η1).bind fun y η2 => match y, η2[j]? with
    | .int i, some (.val 1 l (.lst ds)) => (match ixN ds.length i with
      | some m => .ok .nx (η2.set j (.val 1 l (.lst (ds.set m d))))
      | none => .bad)
    | _, _ => .bad
  | _ => .bad
/-- a method of a list that a slot owns -/
def lm (j : Nat) (g : List D → List D → Option (D × List D)) (r : Env → Out (List D)) : SE := fun η => match η[j]? with
  | some (.val _ _ (.lst _)) => (r η).bind fun as η1 => match η1[j]? with
    | some (.val 1 l (.lst ds)) => (match g ds as with
      | some (d, ds') => .ok d (η1.set j (.val 1 l (.lst ds')))
      | none => .bad)
    | _ => .bad
  | _ => .bad
end S
section
variable {X : Cx} {L : Lents} {W : WX} {e a b c tg it : Expr} {es : List Expr} {pos : Pos} {ss : List Stmt}
theorem js_setIx {o i : Expr} {j : Nat} {f g : SE} {p : Pos} (he : PE X e (tE X.K L W f)) (ho : PE X o (tVar j)) (hi : PE X i (tE X.K L W g))
    (hst : ∀ v, assign (.Subscript o i p) X.env v = (do
      let ov ← holding [v] (eval o X.env)
      let iv ← holding [v, ov] (eval i X.env)
      standAt p
      holding [v, ov, iv] (setItem ov iv v)
      release [v, ov, iv] []) := by intro _; rfl)
    (hs : swapsWithSole [.Subscript o i p] e pos.line X.env = pure false := by rfl) (hw : swappedStores [.Subscript o i p] e X.env = pure none := by rfl) (h1 : (assignEach [.Subscript o i p] X.env).map (·.2) = [assign (.Subscript o i p) X.env] := by rfl) :
    PS X (.Assign [.Subscript o i p] e pos) (tS X.K L W (S.setIx j f g)) := by
  refine PS.imp (ps_asg he (pg_sub ho hi set_list hst) hs hw h1) fun D σ H ⟨G, η, Fs, R, q⟩ => ⟨G, η, Fs, R, (ResS.bind q).mono fun d η1 G1 H1 Fs1 R1 E1 q1 v rv => ?_⟩
  cases z : η1[j]? with
  | none => simp only [z] at q1; exact q1.elim
  | some sl =>
    cases sl with
    | no => simp only [z] at q1; exact q1.elim
    | val k l d0 =>
      simp only [z] at q1
      obtain ⟨x, hx, _⟩ := R1.slot j k l d0 z
      refine ⟨x, hx, G1, η1, Fs1, R1, (ResS.bind q1).mono fun y η2 G2 H2 Fs2 R2 E2 q2 w rw' => ?_⟩
      cases y <;> first | exact (show False from q2).elim | skip
      rename_i i
      cases rw'
      cases z2 : η2[j]? with
      | none => simp only [z2] at q2; exact q2.elim
      | some sl2 =>
        rw [z2] at q2
        split at q2
        · rename_i i0 l2 ds y1 y2
          cases y1
          obtain ⟨m, hm, q3⟩ : ∃ m, ixN ds.length i = some m ∧ ResS X.K L W D G2 H2 Fs2 (.ok .nx (η2.set j (.val 1 l2 (.lst (ds.set m d))))) := by
            cases hm : ixN ds.length i with
            | none => rw [hm] at q2; exact q2.elim
            | some m => rw [hm] at q2; exact ⟨m, rfl, q2⟩
          obtain ⟨a, vs, s1, s2, s3, s4⟩ := R2.write1 (z2.trans y2)
          rw [hx] at s1; cases s1
          obtain ⟨r1, r2⟩ := s4 (vs.set m v) (ds.set m d) (RepL.set (rv.mono E2.g.sub) m s3)
          exact ⟨a, vs, i, m, rfl, rfl, s2, by rw [s3.length]; exact hm, q3 σ G2 _ Fs2 r1 r2⟩
        · exact q2.elim
/-- what the rule of a method asks is given by its meaning -/
def MethD (r : V → List V → Hp → VK → Prop) (g : List D → List D → Option (D × List D)) : Prop :=
  ∀ (G H : Hp) (a : Addr) (vs : List V) (ds : List D) (ws : List V) (as : List D) (d : D) (ds' : List D) (Q : VK), H a = some (.lst vs) → RepL G vs ds → Sub G H → RepL G ws as → g ds as = some (d, ds') →
    (∀ u vs', Rep G u d → RepL G vs' ds' → Q u (upd H a (.lst vs'))) → r (.ref a) ws H Q
theorem lm_use {σ : Sig} {H : Hp} {Q : VK} {r : V → List V → Hp → VK → Prop} {j : Nat} {g : List D → List D → Option (D × List D)} {row : Env → Out (List D)} (hm : MethD r g) (h : tE X.K L W (S.lm j g row) σ H Q) :
    tVar j σ H fun x H1 => tyV X.K "list" x H1 ∧ tL X.K L W row σ H1 fun xs H2 => r x xs H2 Q := by
  obtain ⟨G, η, Fs, R, q⟩ := h
  unfold S.lm at q
  cases z : η[j]? with
  | none => simp only [z] at q; exact q.elim
  | some sl =>
    rw [z] at q
    split at q
    · rename_i k l ds0 y0
      obtain ⟨x, hx, r0⟩ := R.rep (z.trans y0)
      refine ⟨x, hx, ?_, G, η, Fs, R, q.bind.mono fun as η1 G1 H1 Fs1 R1 E1 q1 ws rws => ?_⟩
      · cases r0 with
        | lst h1 h2 => exact .inl ⟨rfl, _, .inl h1⟩
      · cases z1 : η1[j]? with
        | none => simp only [z1] at q1; exact q1.elim
        | some sl1 =>
          rw [z1] at q1
          split at q1
          · rename_i l1 ds y3
            cases hg : g ds as with
            | none => rw [hg] at q1; exact q1.elim
            | some p =>
              rw [hg] at q1
              obtain ⟨a, vs, s1, s2, s3, s4⟩ := R1.write1 (z1.trans y3)
              rw [hx] at s1; cases s1
              refine hm G1 H1 a vs ds ws as p.1 p.2 Q s2 s3 R1.sub rws hg fun u vs' ru rvs => ?_
              obtain ⟨r1, r2⟩ := s4 vs' p.2 rvs
              exact q1 G1 _ Fs1 r1 r2 u ru
          · exact q1.elim
    · exact q.elim
theorem tL_nil {σ : Sig} {H : Hp} {Q : List V → Hp → Prop} (h : tL X.K L W S.nil σ H Q) : Q [] H := by
  obtain ⟨G, η, Fs, R, q⟩ := h
  exact q G H Fs R Ext.refl [] .nil
theorem je_lm0 {o : Expr} {j : Nat} {name : Str} {id : String} {apos cpos : Pos} {r : V → List V → Hp → VK → Prop} {g : List D → List D → Option (D × List D)} (hd : MethD r g) (slot : PySem.Slot "list" name id) (hty : typeOf (.builtin id) = pure (.type "method_descriptor")) (hm : MtR X id r) (ho : PE X o (tVar j))
    (hbase : attributeBase o name X.env (eval o X.env) = eval o X.env := by rfl) (hline : (apos.endLine == cpos.line) = true := by rfl) : PE X (.Call (.Attribute o name apos) [] [] cpos) (tE X.K L W (S.lm j g S.nil)) :=
  PE.imp (pe_bm0 PySem.F.plainAttrs_list slot hty hm ho hbase hline) fun σ H Q h => by
    obtain ⟨x, h1, h2, h3⟩ := lm_use hd h
    exact ⟨x, h1, h2, tL_nil h3⟩
theorem je_lm {o : Expr} {j : Nat} {name : Str} {id : String} {apos cpos : Pos} {r : V → List V → Hp → VK → Prop} {g : List D → List D → Option (D × List D)} {row : Env → Out (List D)} (hd : MethD r g) (slot : PySem.Slot "list" name id) (hty : typeOf (.builtin id) = pure (.type "method_descriptor")) (hm : MtR X id r) (ho : PE X o (tVar j)) (ha : PA X (e :: es) (tL X.K L W row))
    (hbase : attributeBase o name X.env (eval o X.env) = eval o X.env := by rfl)
    (hfew : ((backTo cpos (starEach (e :: es) X.env)).all (fun x => !x.1) && (backToKw cpos (keywordEach [] X.env)).all (fun x => x.1.isSome)
      && decide ((e :: es).length + ([] : List Keyword).length + (if ([] : List Keyword).isEmpty then 0 else 1) < 30)) = true := by rfl)
    (hline : (apos.endLine == cpos.line) = true := by rfl) (hs : starEach (e :: es) X.env = (false, eval e X.env) :: starEach es X.env := by rfl) (hplain : (backTo cpos (starEach es X.env)).any (·.1) = false := by rfl) :
    PE X (.Call (.Attribute o name apos) (e :: es) [] cpos) (tE X.K L W (S.lm j g row)) :=
  PE.imp (pe_bm PySem.F.plainAttrs_list slot hty hm ho ha hbase hfew hline hs hplain) fun σ H Q h => lm_use hd h
/-! ### the methods -/
def appendD : List D → List D → Option (D × List D)
  | ds, [d] => if ds.length < sizeLine then some (.non, ds ++ [d]) else none
  | _, _ => none
def popD : List D → List D → Option (D × List D)
  | ds, [] => ds[ds.length - 1]?.map fun d => (d, ds.dropLast)
  | _, _ => none
def popAtD : List D → List D → Option (D × List D)
  | ds, [.int i] => if -(2 ^ 63) ≤ i ∧ i < 2 ^ 63 then (seqIndex? i ds.length).bind fun k => ds[k]?.map fun d => (d, ds.eraseIdx k) else none
  | _, _ => none
def insertD : List D → List D → Option (D × List D)
  | ds, [.int i, d] => if ds.length < sizeLine ∧ 0 ≤ i ∧ i < 2 ^ 63 then some (.non, ds.take i.toNat ++ [d] ++ ds.drop i.toNat) else none
  | _, _ => none
def extendD : List D → List D → Option (D × List D)
  | ds, [.lst es] => if ds.length + es.length ≤ sizeLine then some (.non, ds ++ es) else none
  | _, _ => none
def reverseD : List D → List D → Option (D × List D)
  | ds, [] => some (.non, ds.reverse)
  | _, _ => none
def clearD : List D → List D → Option (D × List D)
  | _, [] => some (.non, [])
  | _, _ => none
theorem RepL.dropLast {G : Hp} : ∀ {vs : List V} {ds : List D}, RepL G vs ds → RepL G vs.dropLast ds.dropLast
  | _, _, .nil => .nil
  | _, _, .cons r .nil => .nil
  | _, _, .cons r (.cons r2 t) => .cons r (RepL.dropLast (.cons r2 t))
theorem RepL.eraseIdx {G : Hp} : ∀ {vs : List V} {ds : List D} (k : Nat), RepL G vs ds → RepL G (vs.eraseIdx k) (ds.eraseIdx k)
  | _, _, _, .nil => .nil
  | _, _, 0, .cons _ t => t
  | _, _, k + 1, .cons r t => .cons r (RepL.eraseIdx k t)
theorem md_append : MethD rAppend appendD := by
  intro G H a vs ds ws as d ds' Q hH r s rw' h q
  unfold appendD at h
  split at h <;> try cases h
  split at h <;> cases h
  rename_i hz
  cases rw' with
  | cons r1 r2 => cases r2; exact ⟨a, vs, _, rfl, rfl, hH, by rw [r.length]; exact hz, q .non _ .non (r.append (.cons r1 .nil))⟩
theorem md_pop : MethD rPop popD := by
  intro G H a vs ds ws as d ds' Q hH r s rw' h q
  unfold popD at h
  split at h <;> try cases h
  cases e : ds[ds.length - 1]? with
  | none => rw [e] at h; cases h
  | some y =>
    rw [e] at h; cases h
    obtain ⟨v, h1, h2⟩ := r.get e
    cases rw'
    exact ⟨a, vs, v, rfl, rfl, hH, by rw [r.length]; exact h1, q v _ h2 r.dropLast⟩
theorem md_popAt : MethD rPopAt popAtD := by
  intro G H a vs ds ws as d ds' Q hH r s rw' h q
  unfold popAtD at h
  split at h <;> try cases h
  rename_i i
  split at h <;> try cases h
  rename_i hi
  cases e : seqIndex? i ds.length with
  | none => rw [e] at h; cases h
  | some k =>
    rw [e] at h
    have h : (ds[k]?.map fun d => (d, ds.eraseIdx k)) = some (d, ds') := h
    cases e2 : ds[k]? with
    | none => rw [e2] at h; cases h
    | some y =>
      rw [e2] at h; cases h
      obtain ⟨v, h1, h2⟩ := r.get e2
      cases rw' with
      | cons r1 r2 => cases r2; cases r1; exact ⟨a, vs, i, k, v, rfl, rfl, hH, hi.1, hi.2, by rw [r.length]; exact e, h1, q v _ h2 (r.eraseIdx k)⟩
theorem md_insert : MethD (fun x vs H Q => ∃ (l : Addr) (xs : List V) (i : Int) (y : V), x = .ref l ∧ vs = [.int i, y] ∧ H l = some (.lst xs) ∧ xs.length < sizeLine ∧ 0 ≤ i ∧ i < 2 ^ 63 ∧
    Q .non (upd H l (.lst (xs.take i.toNat ++ [y] ++ xs.drop i.toNat)))) insertD := by
  intro G H a vs ds ws as d ds' Q hH r s rw' h q
  unfold insertD at h
  split at h <;> try cases h
  split at h <;> cases h
  rename_i i d hz
  cases rw' with
  | cons r1 r2 => cases r2 with
    | cons r2 r3 => cases r3; cases r1; exact ⟨a, vs, i, _, rfl, rfl, hH, by rw [r.length]; exact hz.1, hz.2.1, hz.2.2, q .non _ .non (((r.take _).append (.cons r2 .nil)).append (r.drop _))⟩
theorem md_reverse : MethD rReverse reverseD := by
  intro G H a vs ds ws as d ds' Q hH r s rw' h q
  unfold reverseD at h
  split at h <;> cases h
  cases rw'
  exact ⟨a, vs, rfl, rfl, hH, q .non _ .non r.reverse⟩
theorem md_clear : MethD rClear clearD := by
  intro G H a vs ds ws as d ds' Q hH r s rw' h q
  unfold clearD at h
  split at h <;> cases h
  cases rw'
  exact ⟨a, vs, rfl, rfl, hH, q .non _ .non .nil⟩
/-- extend, the source a list whether it is locked or not -/
def rExtend2 : V → List V → Hp → VK → Prop := fun x vs H Q => ∃ l b xs zs, x = .ref l ∧ vs = [.ref b] ∧ H l = some (.lst xs) ∧ Rd H b (.lst zs) ∧ xs.length + zs.length ≤ sizeLine ∧ Q .non (upd H l (.lst (xs ++ zs)))
theorem mt_extend2 : MtR X "list.extend" rExtend2 := by
  intro pins s σ H x vs v us Q I rx rv h
  obtain ⟨l, b, xs, zs, rfl, rfl, hH, hB, hz, q⟩ := h
  cases rx
  obtain ⟨u, rfl, ru⟩ := rv.one
  cases ru
  obtain ⟨z, its, n, r, hl, e⟩ := I.lstM hH
  obtain ⟨z2, its2, n2, r2, hl2, e2⟩ := rdLst I hB
  have hsz : its.toArray.size + its2.toArray.size ≤ sizeLine := by rw [List.size_toArray, List.size_toArray]; omega
  have hlong : ¬ (!its.toArray.isEmpty && Builtin.List.listTooLong (its.toArray.size + its2.toArray.size)) = true := by
    rw [notLongL hsz, Bool.and_false]
    exact Bool.false_ne_true
  refine call_meets F.slot_list_extend ⟨_, e, rfl⟩ F.entry_list_extend (F.args_list_extend_2 _ _)
    (AutoSeq1.list_extend_list_list_0 l its.toArray n b its2.toArray n2 hlong (by rw [List.size_toArray]; omega) (by omega)) ⟨e, e2, ?_⟩
  refine ⟨.non, _, I.lset (its' := its ++ its2) hH e (by simp) (r.append r2) ?_, rfl, q⟩
  rw [List.length_append]
  omega
theorem md_extend : MethD rExtend2 extendD := by
  intro G H a vs ds ws as d ds' Q hH r s rw' h q
  unfold extendD at h
  split at h <;> try cases h
  split at h <;> cases h
  rename_i es hz
  cases rw' with
  | cons r1 r2 =>
    cases r2
    cases r1 with
    | lst h1 h2 => exact ⟨a, _, vs, _, rfl, rfl, hH, s.rd _ _ h1, by rw [r.length, h2.length]; exact hz, q .non _ .non (r.append h2)⟩
end
end DV

/-! DV12: comprehensions. -/
namespace DV
open PySem PySem.Spec PyProof.Rows L2 RZ

namespace S
def hide (η : Env) : List Nat → Env
  | [] => η
  | v :: vs => (hide η vs).set v .no
def mix (η0 η1 : Env) : List Nat → Env
  | [] => η1
  | v :: vs => (mix η0 η1 vs).set v (η0[v]?.getD .no)
def still1 : Slot → Bool
  | .no => true
  | .val 0 false _ => true
  | _ => false
def still (vs : List Nat) (η : Env) : Bool := vs.all fun i => still1 (η[i]?.getD .no)
def compL (g : SG) (tt : ST) (f : SF) (k : Nat) (vs : List Nat) : List D → List D → Env → Out (List D)
  | [], acc, η => .ok acc η
  | d :: ds, acc, η => match g d (hide η vs) with
    | .ok _ η1 => (match tt η1 with
      | .ok true η2 => (match f η2 with
        | .ok p η3 => if p.1 = k ∧ acc.length < sizeLine then compL g tt f k vs ds (acc ++ [p.2]) η3 else .bad
        | _ => .bad)
      | .ok false η2 => compL g tt f k vs ds acc η2
      | _ => .bad)
    | _ => .bad
def comp (k : Nat) (vs : List Nat) (it : SI) (g : SG) (tt : ST) (f : SF) : SF := fun η => (it η).bind fun ds η1 => if still vs η1 = true then (match compL g tt f k vs ds [] η1 with
  | .ok es η2 => .ok (k + 1, .lst es) (mix η1 η2 vs)
  | _ => .bad) else .bad
end S

section
variable {L : Lents} {G H G' H' G1 H1 : Hp} {η η1 η2 : Env} {σ σ' : Sig} {Fs Fs' Fs1 : Feet} {vs : List Nat}
theorem hide_len : ∀ vs : List Nat, (S.hide η vs).length = η.length
  | [] => rfl
  | v :: vs => by unfold S.hide; rw [List.length_set, hide_len vs]
theorem mix_len : ∀ vs : List Nat, (S.mix η1 η2 vs).length = η2.length
  | [] => rfl
  | v :: vs => by unfold S.mix; rw [List.length_set, mix_len vs]
theorem hide_in : ∀ {vs : List Nat} {i : Nat}, i ∈ vs → i < η.length → (S.hide η vs)[i]? = some .no
  | [], _, h, _ => by simp at h
  | v :: vs, i, h, hl => by
    unfold S.hide
    by_cases e : i = v
    · subst e; exact get_set_self (by rw [hide_len]; exact hl)
    · rw [get_set_ne e]; exact hide_in ((List.mem_cons.mp h).resolve_left e) hl
theorem hide_out : ∀ {vs : List Nat} {i : Nat}, i ∉ vs → (S.hide η vs)[i]? = η[i]?
  | [], _, _ => rfl
  | v :: vs, i, h => by
    unfold S.hide
    rw [get_set_ne fun e => h (by rw [e]; exact List.mem_cons_self)]
    exact hide_out fun z => h (List.mem_cons_of_mem _ z)
theorem mix_in : ∀ {vs : List Nat} {i : Nat}, i ∈ vs → i < η2.length → (S.mix η1 η2 vs)[i]? = some (η1[i]?.getD .no)
  | [], _, h, _ => by simp at h
  | v :: vs, i, h, hl => by
    unfold S.mix
    by_cases e : i = v
    · subst e; exact get_set_self (by rw [mix_len]; exact hl)
    · rw [get_set_ne e]; exact mix_in ((List.mem_cons.mp h).resolve_left e) hl
theorem mix_out : ∀ {vs : List Nat} {i : Nat}, i ∉ vs → (S.mix η1 η2 vs)[i]? = η2[i]?
  | [], _, _ => rfl
  | v :: vs, i, h => by
    unfold S.mix
    rw [get_set_ne fun e => h (by rw [e]; exact List.mem_cons_self)]
    exact mix_out fun z => h (List.mem_cons_of_mem _ z)
theorem wipe_out : ∀ {vs : List Nat} {i : Nat}, i ∉ vs → (wipe σ vs)[i]? = σ[i]?
  | [], _, _ => rfl
  | v :: vs, i, h => by
    unfold wipe
    rw [get_set_ne fun e => h (by rw [e]; exact List.mem_cons_self)]
    exact wipe_out fun z => h (List.mem_cons_of_mem _ z)
theorem wipe_in : ∀ {vs : List Nat} {i : Nat}, i ∈ vs → i < σ.length → (wipe σ vs)[i]? = some none
  | [], _, h, _ => by simp at h
  | v :: vs, i, h, hl => by
    unfold wipe
    by_cases e : i = v
    · subst e; exact get_set_self (by rw [wipe_length]; exact hl)
    · rw [get_set_ne e]; exact wipe_in ((List.mem_cons.mp h).resolve_left e) hl
theorem wipe_ext (hl : σ.length = σ'.length) (h : ∀ i, i ∉ vs → σ[i]? = σ'[i]?) : wipe σ vs = wipe σ' vs := by
  apply List.ext_getElem?
  intro i
  by_cases hi : i ∈ vs
  · by_cases h2 : i < σ.length
    · rw [wipe_in hi h2, wipe_in hi (by omega)]
    · rw [List.getElem?_eq_none (by rw [wipe_length]; omega), List.getElem?_eq_none (by rw [wipe_length]; omega)]
  · rw [wipe_out hi, wipe_out hi]; exact h i hi
theorem wipe_wipe : wipe (wipe σ vs) vs = wipe σ vs := wipe_ext (wipe_length σ vs) fun i hi => wipe_out hi
/-- the block's names are forgotten -/
theorem Rel.hide (R : Rel L G η σ H Fs) (hL : ∀ p ∈ L.2, p.1 ∉ vs) : ∃ Fs', Rel L G (S.hide η vs) (wipe σ vs) H Fs' ∧ ∀ a, foot Fs' a → foot Fs a := by
  have lenσ : σ.length = η.length := R.len.symm
  refine ⟨fun i => if i ∈ vs then [] else Fs i, ⟨R.sub, by rw [hide_len, wipe_length]; exact R.len, by rw [hide_len]; exact R.wid, fun i k l d e => ?_, fun i e => ?_, fun i => ?_, fun i a h => ?_, fun i j a h h' => ?_, fun p hp => ?_⟩, fun a ⟨i, h⟩ => ?_⟩
  · by_cases hi : i ∈ vs
    · have hl : i < η.length := by
        have := (List.getElem?_eq_some_iff.mp e).1
        rw [hide_len] at this; exact this
      rw [hide_in hi hl] at e; cases e
    · rw [hide_out hi] at e
      simp only [if_neg hi]
      rw [wipe_out hi]
      exact R.slot i k l d e
  · by_cases hi : i ∈ vs
    · simp only [if_pos hi]
    · simp only [if_neg hi]
      exact R.emp i fun k l d z => e k l d (by rw [hide_out hi]; exact z)
  · by_cases hi : i ∈ vs
    · simp only [if_pos hi]; exact List.nodup_nil
    · simp only [if_neg hi]; exact R.nod i
  · by_cases hi : i ∈ vs
    · simp only [if_pos hi] at h; simp at h
    · simp only [if_neg hi] at h; exact R.dis i a h
  · by_cases hi : i ∈ vs
    · simp only [if_pos hi] at h; simp at h
    · by_cases hj : j ∈ vs
      · simp only [if_pos hj] at h'; simp at h'
      · simp only [if_neg hi] at h; simp only [if_neg hj] at h'; exact R.sep i j a h h'
  · obtain ⟨k, d, z1, z2⟩ := R.lnt p hp
    exact ⟨k, d, by rw [hide_out (hL p hp)]; exact z1, by rw [wipe_out (hL p hp)]; exact z2⟩
  · by_cases hi : i ∈ vs
    · simp only [if_pos hi] at h; simp at h
    · simp only [if_neg hi] at h; exact ⟨i, h⟩
theorem still_get (h : S.still vs η = true) {i : Nat} (hi : i ∈ vs) {k : Nat} {l : Bool} {d : D} (e : η[i]? = some (.val k l d)) : k = 0 ∧ l = false := by
  have z := List.all_eq_true.mp h i hi
  rw [e] at z
  cases k with
  | succ k => cases z
  | zero => cases l with
    | true => cases z
    | false => exact ⟨rfl, rfl⟩
theorem still_lents (R : Rel L G η σ H Fs) (h : S.still vs η = true) : ∀ p ∈ L.2, p.1 ∉ vs := fun p hp hi => by
  obtain ⟨k, d, z1, _⟩ := R.lnt p hp
  cases (still_get h hi z1).2
/-- what the block's names held before comes back -/
theorem Rel.unhide (R1 : Rel L G1 η1 σ H1 Fs1) (h : S.still vs η1 = true) (g : Le G1 G) (R : Rel L G (S.hide η2 vs) (wipe σ vs) H Fs) : Rel L G (S.mix η1 η2 vs) σ H Fs := by
  have hl : η2.length = η1.length := by rw [R1.wid, ← R.wid, hide_len]
  refine ⟨R.sub, by rw [mix_len, hl]; exact R1.len, by rw [mix_len, hl]; exact R1.wid, fun i k l d e => ?_, fun i e => ?_, R.nod, R.dis, R.sep, fun p hp => ?_⟩
  · by_cases hi : i ∈ vs
    · have hi2 : i < η2.length := by
        have := (List.getElem?_eq_some_iff.mp e).1
        rw [mix_len] at this; exact this
      rw [mix_in hi hi2] at e
      cases z : η1[i]? with
      | none => rw [z] at e; cases e
      | some s =>
        rw [z] at e
        have e : s = .val k l d := by injection e
        subst e
        obtain ⟨rfl, rfl⟩ := still_get h hi z
        obtain ⟨v, y1, y2, _⟩ := R1.slot i 0 false d z
        have em : Fs i = [] := R.emp i fun k l d q => by rw [hide_in hi hi2] at q; cases q
        exact ⟨v, y1, ⟨y2.1.mono g.sub, em⟩, fun z => by cases z⟩
    · rw [mix_out hi] at e
      obtain ⟨v, y1, y2, y3⟩ := R.slot i k l d (by rw [hide_out hi]; exact e)
      rw [wipe_out hi] at y1
      exact ⟨v, y1, y2, y3⟩
  · by_cases hi : i ∈ vs
    · exact R.emp i fun k l d q => by
        have hi2 : i < η2.length := by
          have := (List.getElem?_eq_some_iff.mp q).1
          rw [hide_len] at this; exact this
        rw [hide_in hi hi2] at q; cases q
    · exact R.emp i fun k l d q => e k l d (by rw [mix_out hi]; rw [hide_out hi] at q; exact q)
  · have hi := still_lents R1 h p hp
    obtain ⟨k, d, z1, z2⟩ := R.lnt p hp
    rw [hide_out hi] at z1
    rw [wipe_out hi] at z2
    exact ⟨k, d, by rw [mix_out hi]; exact z1, z2⟩
/-- a new object that nobody of the environment owns is written -/
theorem Ext.updN (E : Ext G1 H1 Fs1 G H Fs) {D : Addr} {o : HO} (h1 : H1 D = none) : Ext G1 H1 Fs1 G (upd H D o) Fs where
  g := E.g
  h := fun a u e n => by
    rw [upd_ne fun z => by rw [z, h1] at e; cases e]
    exact E.h a u e n
  n := E.n
  f := E.f
  d := fun a e => by
    by_cases z : a = D
    · subst z; exact absurd h1 e
    · rw [upd_ne z]; exact E.d a e
theorem Rel.updN (R : Rel L G η σ H Fs) {D : Addr} {o : HO} (h : G D = none) (nf : ¬ foot Fs D) : Rel L G η σ (upd H D o) Fs where
  sub := R.sub.upd_out h
  len := R.len
  wid := R.wid
  slot := fun i k l d e => by
    obtain ⟨v, y1, y2, y3⟩ := R.slot i k l d e
    exact ⟨v, y1, y2.mono (Sub.refl G) k fun a ha => upd_ne fun z => nf ⟨i, by rw [← z]; exact ha⟩, y3⟩
  emp := R.emp
  nod := R.nod
  dis := R.dis
  sep := R.sep
  lnt := R.lnt
/-- one more item -/
theorem Apart.push {k : Nat} {D : Addr} {F : List Addr} {y : V} {d : DV.D} {F' : List Addr} {acc : List DV.D} (x : Apart G H Fs (k + 1) (.ref D) (.lst acc) F) (y' : Apart G H Fs k y d F') (df : ∀ a ∈ F', a ∉ F) :
    ∃ vs, H D = some (.lst vs) ∧ vs.length = acc.length ∧ G D = none ∧ ¬ foot Fs D ∧ Apart G (upd H D (.lst (vs ++ [y]))) Fs (k + 1) (.ref D) (.lst (acc ++ [d])) (F ++ F') := by
  obtain ⟨a, vs, Fl, e1, e2, e3, e4⟩ := x.own
  cases e1
  have hD : D ∈ F := by rw [e3]; exact List.mem_cons_self
  have nd := x.nod
  rw [e3] at nd
  have hDl : D ∉ Fl := (List.nodup_cons.mp nd).1
  refine ⟨vs, e2, e4.length, x.dis D hD, x.sep D hD, ⟨D, vs ++ [y], Fl ++ F', rfl, upd_same, by rw [e3]; rfl, ?_⟩, ?_, fun a ha => ?_, fun a ha => ?_⟩
  · refine OwnL.append (e4.impF fun v d F2 r z => r.mono (Sub.refl G) k fun b hb => upd_ne fun q => hDl (by rw [← q]; exact z b hb)) ?_
    have := OwnL.cons (R := Own G (upd H D (.lst (vs ++ [y]))) k) (y'.own.mono (Sub.refl G) k fun b hb => upd_ne fun q => df b hb (by rw [q]; exact hD)) OwnL.nil
    rw [List.append_nil] at this; exact this
  · rw [List.nodup_append]
    exact ⟨x.nod, y'.nod, fun a ha b hb q => df b hb (by rw [← q]; exact ha)⟩
  · exact (List.mem_append.mp ha).elim (x.dis a) (y'.dis a)
  · exact (List.mem_append.mp ha).elim (x.sep a) (y'.sep a)
end

section
variable {X : Cx} {L : Lents} {W : WX} {e a b c tg it : Expr} {es : List Expr} {pos : Pos} {ss : List Stmt} {vs : List Nat}
/-! ### the block's targets -/
def tGv (L : Lents) (vs : List Nat) (g : SG) : TG := fun v σ H Q => ∃ G η Fs d η', Rel L G η σ H Fs ∧ Rep G v d ∧ g d η = .ok () η' ∧ ∀ σ' G' H' Fs', Rel L G' η' σ' H' Fs' → Ext G H Fs G' H' Fs' → wipe σ' vs = wipe σ vs → Q σ' H'
def tGsv (L : Lents) (ws : List Nat) (gs : List SG) : TGs := fun vs σ H Q => ∃ G η Fs ds η', Rel L G η σ H Fs ∧ RepL G vs ds ∧ S.names gs ds η = .ok () η' ∧ ∀ σ' G' H' Fs', Rel L G' η' σ' H' Fs' → Ext G H Fs G' H' Fs' → wipe σ' ws = wipe σ ws → Q σ' H'
theorem jgv_name {i : Nat} {x : Str} (hN : X.N.Nodup) (hi : X.N[i]? = some x) (hx : Loc X.env.scope x) (hf : X.fn x = true ∨ X.env.scope.names.lookup x = some .local) (hv : i ∈ vs) : PG X (.Name x pos) (tGv L vs (S.name i)) := by
  refine PG.imp (pg_name hN hi hx hf) fun v σ H Q ⟨G, η, Fs, d, η', R, r, e, q⟩ => ?_
  unfold S.name at e
  split at e <;> cases e
  rename_i s
  obtain ⟨Fs2, R2, f2⟩ := R.stored (Apart.zero r) s fun _ _ => .inr (.inr trivial)
  exact q _ G H Fs2 R2 (Ext.refl.feet fun a ha => (f2 a ha).elim (fun z => by simp at z) .inl) (wipe_ext (by rw [List.length_set]) fun j hj => get_set_ne fun z => hj (by rw [z]; exact hv))
theorem jgsv_nil : PGs X [] (tGsv L vs []) := PGs.imp pgs_nil fun ws σ H Q ⟨G, η, Fs, ds, η', R, r, e, q⟩ => by
  cases r with
  | nil => cases e; exact ⟨rfl, q σ G H Fs R Ext.refl rfl⟩
  | cons _ _ => cases e
theorem jgsv_cons {g : SG} {gs : List SG} (h : PG X e (tGv L vs g)) (hr : PGs X es (tGsv L vs gs)) (hs : (assignEach (e :: es) X.env).map (·.2) = assign e X.env :: (assignEach es X.env).map (·.2) := by rfl) : PGs X (e :: es) (tGsv L vs (g :: gs)) := by
  refine PGs.imp (pgs_cons h hr hs) fun ws σ H Q ⟨G, η, Fs, ds, η', R, r, e, q⟩ => ?_
  cases r with
  | nil => cases e
  | @cons v vs d ds r1 r2 =>
    have e : (g d η).bind (fun _ η1 => S.names gs ds η1) = .ok () η' := e
    cases z : g d η with
    | bad => rw [z] at e; cases e
    | exc c η1 => rw [z] at e; cases e
    | ok u η1 =>
      rw [z] at e
      exact ⟨v, vs, rfl, G, η, Fs, d, η1, R, r1, z, fun σ1 G1 H1 Fs1 R1 E1 w1 => ⟨G1, η1, Fs1, ds, η', R1, r2.mono E1.g.sub, e, fun σ2 G2 H2 Fs2 R2 E2 w2 => q σ2 G2 H2 Fs2 R2 (E1.trans E2) (w2.trans w1)⟩⟩
theorem jgv_tup {gs : List SG} {k n : Nat} (hc : X.calm = true) (h : PGs X es (tGsv L vs gs)) (hl : gs.length = n) (hn : (assignEach es X.env).length = n := by rfl) (hst : (assignEach es X.env).findIdx? (·.1) = none := by rfl) : PG X (.Tuple es k pos) (tGv L vs (S.gtup gs)) := by
  refine PG.imp (pg_tup hc h hn hst) fun v σ H Q ⟨G, η, Fs, d, η', R, r, e, q⟩ => ?_
  unfold S.gtup at e
  cases d <;> first | (exact absurd e (by intro z; cases z)) | skip
  rename_i ds
  cases r with
  | tup h1 h2 => exact ⟨_, _, rfl, .of (R.sub.tp _ _ h1), by rw [h2.length, ← names_len e]; exact hl, G, η, Fs, ds, η', R, h2, e, q⟩
theorem jts_nil : PTs X [] (tT X.K L W (S.ct true)) := ⟨fun pins s σ H Q I h => pts_nil.run pins s σ H Q I (by
  obtain ⟨G, η, Fs, R, q⟩ := h
  exact q G H Fs R Ext.refl)⟩
theorem jts_one {t : ST} (h : PT X c (tT X.K L W t)) : PTs X [c] (tT X.K L W t) := pts_one h
/-- nothing is let out of a block -/
abbrev WN : WX := fun _ _ _ _ => False

/-- the turns of a comprehension, what is walked being known -/
theorem lc_turns {K : PySem.W.Frag} {σ : Sig} {G1 H1 : Hp} {Fs1 : Feet} {η1 η0 : Env} {Q : VK} {k : Nat} {g : SG} {tt : ST} {f : SF} {ds es0 : List DV.D} {J : It} {D : Addr} (wJ : Walks G1 H1 Fs1 ds J) (R1 : Rel L G1 η1 σ H1 Fs1) (hst : S.still vs η1 = true) (hD : H1 D = none)
    (z : S.compL g tt f k vs ds [] η1 = .ok es0 η0) (q1 : ∀ G' H' Fs', Rel L G' (S.mix η1 η0 vs) σ H' Fs' → Ext G1 H1 Fs1 G' H' Fs' → ∀ v F, Apart G' H' Fs' (k + 1) v (.lst es0) F → (∀ a ∈ F, foot Fs1 a ∨ H1 a = none) → Q v H') :
    ∃ Wi : Nat → Nat → Hp → Prop, (∃ m, Wi 0 m (upd H1 D (.lst []))) ∧ ∀ i m H, Wi i m H → (J.stop i H ∧ Q (.ref D) H) ∨ (J.go i H ∧ ∃ Nx : Hp → Prop, (∀ H', Nx H' → ∃ m', m' < m ∧ Wi (i + 1) m' H') ∧ ∀ x H', J.yld i H x H' → tGv L vs g x (wipe σ vs) H' fun σ2 H2 => wipe σ2 vs = wipe σ vs ∧ tT K L WN tt σ2 H2 fun b H3 =>
      if b = true then tF K L WN f σ2 H3 fun y H4 => ∃ acc, H4 D = some (.lst acc) ∧ acc.length < sizeLine ∧ Nx (upd H4 D (.lst (acc ++ [y]))) else Nx H3) := by
  have hL := still_lents R1 hst
  have nD1 : G1 D = none := R1.sub.free hD
  obtain ⟨Fs2, R2, f2⟩ := R1.hide hL
  have nf : ¬ foot Fs1 D := R1.noFoot hD
  refine ⟨fun i m H => m = ds.length - i ∧ i ≤ ds.length ∧ ∃ G2 η2 Fs2 acc F, Rel L G2 (S.hide η2 vs) (wipe σ vs) H Fs2 ∧ Ext G1 H1 Fs1 G2 H Fs2 ∧ Apart G2 H Fs2 (k + 1) (.ref D) (.lst acc) F ∧ (∀ a ∈ F, foot Fs1 a ∨ H1 a = none) ∧ S.compL g tt f k vs (ds.drop i) acc η2 = .ok es0 η0,
    ⟨_, rfl, Nat.zero_le _, G1, η1, Fs2, [], [D], R2.updN nD1 fun z => nf (f2 D z), (Ext.refl.feet fun a ha => .inl (f2 a ha)).updN hD, ⟨⟨D, [], [], rfl, upd_same, rfl, .nil⟩, by simp, fun a ha => ?_, fun a ha => ?_⟩, fun a ha => ?_, by rw [List.drop_zero]; exact z⟩, ?_⟩
  · have e : a = D := by simpa using ha
    subst e; exact nD1
  · have e : a = D := by simpa using ha
    subst e; exact fun z => nf (f2 a z)
  · have e : a = D := by simpa using ha
    subst e; exact .inr hD
  · rintro i m H ⟨rfl, hi, G2, η2, Fs2, acc, F, R2, E2, x2, fr, e2⟩
    obtain ⟨w1, w2⟩ := wJ i G2 H Fs2 E2 R2.sub
    by_cases hlt : i < ds.length
    · obtain ⟨go, y⟩ := w2 hlt
      refine .inr ⟨go, fun H' => i + 1 ≤ ds.length ∧ ∃ G2 η2 Fs2 acc F, Rel L G2 (S.hide η2 vs) (wipe σ vs) H' Fs2 ∧ Ext G1 H1 Fs1 G2 H' Fs2 ∧ Apart G2 H' Fs2 (k + 1) (.ref D) (.lst acc) F ∧ (∀ a ∈ F, foot Fs1 a ∨ H1 a = none) ∧ S.compL g tt f k vs (ds.drop (i + 1)) acc η2 = .ok es0 η0,
        fun H' p => ⟨ds.length - (i + 1), by omega, rfl, p⟩, fun x H3 yx => ?_⟩
      obtain ⟨d, G3, hd, N, rx⟩ := y x H3 yx
      have ed : ds.drop i = d :: ds.drop (i + 1) := by
        have hd' := List.getElem?_eq_some_iff.mp hd
        rw [List.drop_eq_getElem_cons hlt, hd'.2]
      rw [ed] at e2
      unfold S.compL at e2
      have R3 := R2.new N
      have E3 := E2.trans (N.ext (Fs := Fs2))
      have x3 := x2.ext (N.ext (Fs := Fs2))
      cases zg : g d (S.hide η2 vs) with
      | bad => simp only [zg] at e2; cases e2
      | exc c η3 => simp only [zg] at e2; cases e2
      | ok u η3 =>
        simp only [zg] at e2
        refine ⟨G3, S.hide η2 vs, Fs2, d, η3, R3, rx, zg, fun σ4 G4 H4 Fs4 R4 E4 hw => ⟨by rw [hw, wipe_wipe], G4, η3, Fs4, R4, ?_⟩⟩
        have hw4 : wipe σ4 vs = wipe σ vs := by rw [hw, wipe_wipe]
        have x4 := x3.ext E4
        cases zt : tt η3 with
        | bad => simp only [zt] at e2; cases e2
        | exc c η4 => simp only [zt] at e2; cases e2
        | ok b η4 =>
          simp only [zt] at e2
          intro G5 H5 Fs5 R5 E5
          have E05 := (E3.trans E4).trans E5
          have x5 := x4.ext E5
          cases b with
          | false =>
            simp only at e2
            obtain ⟨Fs6, R6, f6⟩ := R5.hide (vs := vs) hL
            rw [hw4] at R6
            exact ⟨hlt, G5, η4, Fs6, acc, F, R6, E05.feet fun a ha => E05.f a (f6 a ha), x5.feet f6, fr, e2⟩
          | true =>
            simp only at e2
            refine ⟨G5, η4, Fs5, R5, ?_⟩
            cases zf : f η4 with
            | bad => simp only [zf] at e2; cases e2
            | exc c η5 => simp only [zf] at e2; cases e2
            | ok p η5 =>
              simp only [zf] at e2
              split at e2
              · rename_i hp
                obtain ⟨hp1, hp2⟩ := hp
                intro G6 H6 Fs6 R6 E6 v Fv xv ov
                rw [hp1] at xv
                have x6 := x5.ext E6
                have dj : ∀ a ∈ Fv, a ∉ F := fun a ha hF => by
                  rcases ov a ha with z | z
                  · exact x5.sep a hF z
                  · exact x5.there a hF z
                obtain ⟨ws, s1, s2, s3, s4, s5⟩ := x6.push xv dj
                have E06 := E05.trans E6
                obtain ⟨Fs7, R7, f7⟩ := R6.hide (vs := vs) hL
                rw [hw4] at R7
                refine ⟨ws, s1, by rw [s2]; exact hp2, hlt, G6, η5, Fs7, acc ++ [p.2], F ++ Fv, R7.updN s3 fun z => s4 (f7 D z), (E06.feet fun a ha => E06.f a (f7 a ha)).updN hD, s5.feet f7, fun a ha => ?_, e2⟩
                rcases List.mem_append.mp ha with z | z
                · exact fr a z
                · rcases ov a z with y | y
                  · exact E05.f a y
                  · exact .inr (E05.noneOf y)
              · cases e2
    · have ei : i = ds.length := by omega
      subst ei
      rw [List.drop_length] at e2
      cases e2
      have R9 := Rel.unhide R1 hst E2.g R2
      exact .inl ⟨w1 (Nat.le_refl _), q1 G2 H Fs2 R9 E2 (.ref D) F x2 fr⟩
theorem lc_use {σ : Sig} {H : Hp} {Q : VK} {k : Nat} {itf : SI} {g : SG} {tt : ST} {f : SF} (h : tF X.K L W (S.comp k vs itf g tt f) σ H Q) :
    tLc (tI X.K L W itf) (tGv L vs g) (tT X.K L WN tt) (tF X.K L WN f) vs σ H Q := by
  obtain ⟨G, η, Fs, R, q⟩ := h
  refine ⟨G, η, Fs, R, q.bind.mono fun ds η1 G1 H1 Fs1 R1 E1 q1 J wJ D hD => ?_⟩
  split at q1
  · rename_i hst
    cases z : S.compL g tt f k vs ds [] η1 with
    | bad => simp only [z] at q1; exact q1.elim
    | exc c η2 => simp only [z] at q1; exact q1.elim
    | ok es0 η0 =>
      simp only [z] at q1
      exact lc_turns wJ R1 hst hD z fun G' H' Fs' R' E' v F x fr => q1 G' H' Fs' R' E' v F x fun a ha => (fr a ha).elim (E1.f a) fun z => .inr (E1.noneOf z)
  · exact q1.elim
theorem jf_lc {elt : Expr} {ifs : List Expr} {scope : Scope} {own : List (Str × Nat)} {k : Nat} {itf : SI} {g : SG} {tt : ST} {f : SF} (hc : X.calm = true) (hN : X.N.Nodup) (hi : PI X tg it (tI X.K L W itf)) (ok : BlkOk X.N X.env.scope scope own) (hv : own.map (·.2) = vs)
    (hg : ∀ (s : Shared) (H : Hp) (C : Addr) (cl : List (Str × Addr)) (fp : List Addr), PG (X.blk s H scope (compEnvC scope cl C X.env) fp) tg (tGv L vs g)) (ht : ∀ (s : Shared) (H : Hp) (C : Addr) (cl : List (Str × Addr)) (fp : List Addr), PTs (X.blk s H scope (compEnvC scope cl C X.env) fp) ifs (tT X.K L WN tt))
    (he : ∀ (s : Shared) (H : Hp) (C : Addr) (cl : List (Str × Addr)) (fp : List Addr), PE (X.blk s H scope (compEnvC scope cl C X.env) fp) elt (tF X.K L WN f)) (hs : ∀ x, foldedSetIterable it X.env x = pure x := by intro _; rfl) :
    PE X (.ListComp elt [⟨tg, it, ifs, 0⟩] scope pos) (tF X.K L W (S.comp k vs itf g tt f)) := by
  subst hv
  exact PE.imp (pe_lc hc hN hi ok hg ht he hs) fun σ H Q h => lc_use h
theorem js_setLc {i : Nat} {y : Str} {py spos : Pos} {elt : Expr} {ifs : List Expr} {scope : Scope} {own : List (Str × Nat)} {k : Nat} {itf : SI} {g : SG} {tt : ST} {f : SF} (hc : X.calm = true) (hN : X.N.Nodup) (hy : X.N[i]? = some y) (hyl : X.env.scope.names.lookup y = some .local)
    (hsw : swapsWith (.ListComp elt [⟨tg, it, ifs, 0⟩] scope pos) (some (.Name y py)) spos.line X.env = pure true) (hi : PI X tg it (tI X.K L W itf)) (ok : BlkOk X.N X.env.scope scope own) (hv : own.map (·.2) = vs)
    (hg : ∀ (s : Shared) (H : Hp) (C : Addr) (cl : List (Str × Addr)) (fp : List Addr), PG (X.blk s H scope (compEnvC scope cl C X.env) fp) tg (tGv L vs g)) (ht : ∀ (s : Shared) (H : Hp) (C : Addr) (cl : List (Str × Addr)) (fp : List Addr), PTs (X.blk s H scope (compEnvC scope cl C X.env) fp) ifs (tT X.K L WN tt))
    (he : ∀ (s : Shared) (H : Hp) (C : Addr) (cl : List (Str × Addr)) (fp : List Addr), PE (X.blk s H scope (compEnvC scope cl C X.env) fp) elt (tF X.K L WN f)) (hs : ∀ x, foldedSetIterable it X.env x = pure x := by intro _; rfl) :
    PS X (.Assign [.Name y py] (.ListComp elt [⟨tg, it, ifs, 0⟩] scope pos) spos) (tS X.K L W (S.asg i (S.comp k vs itf g tt f))) := by
  subst hv
  refine PS.imp (ps_setLc hc hN hy hyl hsw hi ok hg ht he hs) fun D σ H q => ?_
  exact lc_use (asg_use q)
end
end DV

/-! DV13: built-ins, parallel stores, chains of comparisons. -/
namespace DV
open PySem PySem.Spec PyProof.Rows L2 RZ

/-! ### meanings -/
def lenD : List D → Option D
  | [.lst ds] => some (.int ds.length)
  | [.tup ds] => some (.int ds.length)
  | [.str x] => if x.length ≤ sizeLine then some (.int x.length) else none
  | _ => none
def absD : List D → Option D
  | [.int i] => some (.int (if i < 0 then -i else i))
  | _ => none
def maxI : List Int → Int
  | [] => 0
  | [i] => i
  | i :: is => let m := maxI is; if m > i then m else i
def minI : List Int → Int
  | [] => 0
  | [i] => i
  | i :: is => let m := minI is; if m < i then m else i
def maxD : List D → Option D
  | [.int i, .int j] => some (.int (if j > i then j else i))
  | [.lst ds] => match intsOf ds with
    | some (n :: ns) => some (.int (maxI (n :: ns)))
    | _ => none
  | _ => none
def minD : List D → Option D
  | [.int i, .int j] => some (.int (if j < i then j else i))
  | [.lst ds] => match intsOf ds with
    | some (n :: ns) => some (.int (minI (n :: ns)))
    | _ => none
  | _ => none
def sumD : List D → Option D
  | [.lst ds] => (intsOf ds).map fun ns => .int ns.sum
  | _ => none
def blsOf : List D → Option (List Bool)
  | [] => some []
  | .bl b :: ds => (blsOf ds).map (b :: ·)
  | _ :: _ => none
def allD : List D → Option D
  | [.lst ds] => (blsOf ds).map fun bs => .bl (bs.all id)
  | _ => none
def anyD : List D → Option D
  | [.lst ds] => (blsOf ds).map fun bs => .bl (bs.any id)
  | _ => none
def intD : List D → Option D
  | [.int i] => some (.int i)
  | [.bl b] => some (.int (if b then 1 else 0))
  | _ => none
def listD : List D → Option (Nat × D)
  | [.lst ds] => some (1, .lst ds)
  | [.tup ds] => some (1, .lst ds)
  | _ => none
def tupleD : List D → Option (Nat × D)
  | [.lst ds] => some (0, .tup ds)
  | [.tup ds] => some (0, .tup ds)
  | _ => none
def sortedI : List D → Option (Nat × D)
  | [.lst ds] => (intsOf ds).map fun ns => (1, .lst ((ns.mergeSort (fun a b => decide (a ≤ b))).map .int))
  | _ => none
theorem maxI_mem : ∀ {n : Int} {ns : List Int}, maxI (n :: ns) ∈ n :: ns
  | n, [] => by simp [maxI]
  | n, m :: ns => by
    have ih := maxI_mem (n := m) (ns := ns)
    show (if maxI (m :: ns) > n then maxI (m :: ns) else n) ∈ n :: m :: ns
    split
    · exact List.mem_cons_of_mem _ ih
    · exact List.mem_cons_self
theorem le_maxI : ∀ {n : Int} {ns : List Int} {y : Int}, y ∈ n :: ns → y ≤ maxI (n :: ns)
  | n, [], y, h => by simp at h; subst h; simp [maxI]
  | n, m :: ns, y, h => by
    show y ≤ (if maxI (m :: ns) > n then maxI (m :: ns) else n)
    rcases List.mem_cons.mp h with e | h
    · subst e; split <;> omega
    · have ih := le_maxI h; split <;> omega
theorem minI_mem : ∀ {n : Int} {ns : List Int}, minI (n :: ns) ∈ n :: ns
  | n, [] => by simp [minI]
  | n, m :: ns => by
    have ih := minI_mem (n := m) (ns := ns)
    show (if minI (m :: ns) < n then minI (m :: ns) else n) ∈ n :: m :: ns
    split
    · exact List.mem_cons_of_mem _ ih
    · exact List.mem_cons_self
theorem minI_le : ∀ {n : Int} {ns : List Int} {y : Int}, y ∈ n :: ns → minI (n :: ns) ≤ y
  | n, [], y, h => by simp at h; subst h; simp [minI]
  | n, m :: ns, y, h => by
    show (if minI (m :: ns) < n then minI (m :: ns) else n) ≤ y
    rcases List.mem_cons.mp h with e | h
    · subst e; split <;> omega
    · have ih := minI_le h; split <;> omega
theorem blsOf_rep {H : Hp} : ∀ {vs : List V} {ds : List D} {bs : List Bool}, RepL H vs ds → blsOf ds = some bs → vs = bs.map V.bl
  | _, _, _, .nil, e => by cases e; rfl
  | _, _, bs, .cons (d := d) (ds := ds) r t, e => by
    cases d <;> simp only [blsOf] at e <;> try cases e
    rename_i i
    cases q : blsOf ds with
    | none => rw [q] at e; cases e
    | some ms =>
      rw [q] at e; cases e
      cases r
      rw [blsOf_rep t q]; rfl

section
variable {K : PySem.W.Frag}
theorem cd_len : CallD (fun xs H Q => ∃ x n, xs = [x] ∧ LenV K x H n ∧ Q (.int n) H) lenD := by
  intro H vs ds d Q r h q
  unfold lenD at h
  split at h <;> try cases h
  · cases r with
    | cons r1 r2 =>
      cases r2; cases r1 with
      | lst h1 h2 => exact ⟨_, _, rfl, .inl ⟨_, .inl h1, rfl⟩, by rw [h2.length]; exact q _ fun _ => .int _⟩
  · cases r with
    | cons r1 r2 =>
      cases r2; cases r1 with
      | tup h1 h2 => exact ⟨_, _, rfl, .inr ⟨_, .of h1, rfl⟩, by rw [h2.length]; exact q _ fun _ => .int _⟩
  · split at h <;> cases h
    rename_i hz
    cases r with
    | cons r1 r2 => cases r2; cases r1; exact ⟨_, _, rfl, ⟨hz, rfl⟩, q _ fun _ => .int _⟩
theorem cd_abs : CallD (fun xs H Q => ∃ i, xs = [.int i] ∧ Q (.int (if i < 0 then -i else i)) H) absD := by
  intro H vs ds d Q r h q
  unfold absD at h
  split at h <;> cases h
  cases r with
  | cons r1 r2 => cases r2; cases r1; exact ⟨_, rfl, q _ fun _ => .int _⟩
theorem cd_max : CallD (fun xs H Q => (∃ i j, xs = [.int i, .int j] ∧ Q (.int (if j > i then j else i)) H) ∨ rMax K xs H Q) maxD := by
  intro H vs ds d Q r h q
  unfold maxD at h
  split at h <;> try cases h
  · cases r with
    | cons r1 r2 => cases r2 with
      | cons r2 r3 => cases r3; cases r1; cases r2; exact .inl ⟨_, _, rfl, q _ fun _ => .int _⟩
  · split at h <;> cases h
    rename_i n ns hn
    cases r with
    | cons r1 r2 =>
      cases r2; cases r1 with
      | lst h1 h2 =>
        refine .inr ⟨_, n :: ns, rfl, .inl (by rw [← intsOf_rep h2 hn]; exact h1), by simp, fun m hm hy => ?_⟩
        have e : m = maxI (n :: ns) := by
          have a := le_maxI hm
          have b := hy _ maxI_mem
          omega
        rw [e]; exact q _ fun _ => .int _
theorem cd_min : CallD (fun xs H Q => (∃ i j, xs = [.int i, .int j] ∧ Q (.int (if j < i then j else i)) H) ∨ rMin K xs H Q) minD := by
  intro H vs ds d Q r h q
  unfold minD at h
  split at h <;> try cases h
  · cases r with
    | cons r1 r2 => cases r2 with
      | cons r2 r3 => cases r3; cases r1; cases r2; exact .inl ⟨_, _, rfl, q _ fun _ => .int _⟩
  · split at h <;> cases h
    rename_i n ns hn
    cases r with
    | cons r1 r2 =>
      cases r2; cases r1 with
      | lst h1 h2 =>
        refine .inr ⟨_, n :: ns, rfl, .inl (by rw [← intsOf_rep h2 hn]; exact h1), by simp, fun m hm hy => ?_⟩
        have e : m = minI (n :: ns) := by
          have a := minI_le hm
          have b := hy _ minI_mem
          omega
        rw [e]; exact q _ fun _ => .int _
theorem cd_sum : CallD (rSum K) sumD := by
  intro H vs ds d Q r h q
  unfold sumD at h
  split at h <;> try cases h
  rename_i ds0
  cases hn : intsOf ds0 with
  | none => rw [hn] at h; cases h
  | some ns =>
    rw [hn] at h; cases h
    cases r with
    | cons r1 r2 =>
      cases r2; cases r1 with
      | lst h1 h2 => exact ⟨_, ns, rfl, .inl (by rw [← intsOf_rep h2 hn]; exact h1), q _ fun _ => .int _⟩
theorem cd_all : CallD (rAll K) allD := by
  intro H vs ds d Q r h q
  unfold allD at h
  split at h <;> try cases h
  rename_i ds0
  cases hn : blsOf ds0 with
  | none => rw [hn] at h; cases h
  | some ns =>
    rw [hn] at h; cases h
    cases r with
    | cons r1 r2 =>
      cases r2; cases r1 with
      | lst h1 h2 => exact ⟨_, ns, rfl, .inl (by rw [← blsOf_rep h2 hn]; exact h1), q _ fun _ => .bl _⟩
theorem cd_any : CallD (rAny K) anyD := by
  intro H vs ds d Q r h q
  unfold anyD at h
  split at h <;> try cases h
  rename_i ds0
  cases hn : blsOf ds0 with
  | none => rw [hn] at h; cases h
  | some ns =>
    rw [hn] at h; cases h
    cases r with
    | cons r1 r2 =>
      cases r2; cases r1 with
      | lst h1 h2 => exact ⟨_, ns, rfl, .inl (by rw [← blsOf_rep h2 hn]; exact h1), q _ fun _ => .bl _⟩
theorem cd_int : CallD (fun xs H Q => (∃ i, xs = [.int i] ∧ Q (.int i) H) ∨ ∃ k, xs = [.bl k] ∧ Q (.int (if k then 1 else 0)) H) intD := by
  intro H vs ds d Q r h q
  unfold intD at h
  split at h <;> cases h
  · cases r with
    | cons r1 r2 => cases r2; cases r1; exact .inl ⟨_, rfl, q _ fun _ => .int _⟩
  · cases r with
    | cons r1 r2 => cases r2; cases r1; exact .inr ⟨_, rfl, q _ fun _ => .int _⟩
theorem BorL.one {G H : Hp} {vs : List V} {d : D} (h : BorL G H vs [d]) : ∃ v, vs = [v] ∧ Bor G H v d := by
  cases h with
  | cons b t => cases t; exact ⟨_, rfl, b⟩
theorem cf_list : CallF (fun xs H Q => ∃ p ys, xs = [.ref p] ∧ (SqL K H p ys ∨ SqT K H p ys) ∧ ∀ l, H l = none → Q (.ref l) (upd H l (.lst ys))) listD := by
  intro G H vs ds k d Q s r h fin
  unfold listD at h
  split at h <;> cases h
  · obtain ⟨v, rfl, b⟩ := r.one
    obtain ⟨a, ys, rfl, h1, r1⟩ := b.lst s
    exact ⟨a, ys, rfl, .inl (.inl h1), fun l hl => fin.lstN s hl r1⟩
  · obtain ⟨v, rfl, b⟩ := r.one
    obtain ⟨a, ys, rfl, h1, r1⟩ := b.tup s
    exact ⟨a, ys, rfl, .inr (.of (s.tp _ _ h1)), fun l hl => fin.lstN s hl r1⟩
theorem cf_tuple : CallF (fun xs H Q => ∃ p ys, xs = [.ref p] ∧ ((SqL K H p ys ∧ ∀ l, H l = none → Q (.ref l) (upd H l (.tup ys))) ∨ (SqT K H p ys ∧ Q (.ref p) H))) tupleD := by
  intro G H vs ds k d Q s r h fin
  unfold tupleD at h
  split at h <;> cases h
  · obtain ⟨v, rfl, b⟩ := r.one
    obtain ⟨a, ys, rfl, h1, r1⟩ := b.lst s
    exact ⟨a, ys, rfl, .inl ⟨.inl h1, fun l hl => fin.tupN s hl r1⟩⟩
  · obtain ⟨v, rfl, b⟩ := r.one
    obtain ⟨a, ys, rfl, h1, r1⟩ := b.tup s
    exact ⟨a, ys, rfl, .inr ⟨.of (s.tp _ _ h1), fin.same s (.tup h1 r1)⟩⟩
theorem RepL.ints {G : Hp} : ∀ (ns : List Int), RepL G (ns.map V.int) (ns.map D.int)
  | [] => .nil
  | n :: ns => .cons (.int n) (RepL.ints ns)
theorem cf_sortedI : CallF (rSortedI K) sortedI := by
  intro G H vs ds k d Q s r h fin
  unfold sortedI at h
  split at h <;> try cases h
  rename_i ds0
  cases hn : intsOf ds0 with
  | none => rw [hn] at h; cases h
  | some ns =>
    rw [hn] at h; cases h
    obtain ⟨v, rfl, b⟩ := r.one
    obtain ⟨a, ys, rfl, h1, r1⟩ := b.lst s
    refine ⟨a, ns, rfl, .inl (by rw [← intsOf_rep r1 hn]; exact h1), fun ns' p hp hs hl => ?_⟩
    have e : ns' = ns.mergeSort (fun a b => decide (a ≤ b)) := by
      refine List.Perm.eq_of_pairwise (le := fun a b => a ≤ b) (fun a b _ _ h1 h2 => by omega) hs ?_ (hp.trans (List.mergeSort_perm ns _).symm)
      have := List.pairwise_mergeSort (le := fun a b : Int => decide (a ≤ b)) (fun a b c h1 h2 => by simp at *; omega) (fun a b => by simp; omega) ns
      exact this.imp fun h => by simpa using h
    rw [e]
    exact fin.lstN s hl (RepL.ints _)
end

/-! ### isinstance -/
def tyD : D → String
  | .non => "NoneType"
  | .bl _ => "bool"
  | .int _ => "int"
  | .str _ => "str"
  | .tup _ => "tuple"
  | .lst _ => "list"
  | .dK _ => "dict"
  | .dT _ => "dict"
def isiD (T : String) : D → Option Bool
  | .dT _ => none
  | d => kitB (tyD d) T
def S.isi (T : String) (o : Opd) : SE := fun η => (o.pre η).bind fun p η1 => lift ((o.deep p η1).bind fun d => (isiD T d).map D.bl) η1
theorem Rep.ty {K : PySem.W.Frag} {H : Hp} {v : V} {d : D} {T : String} {b : Bool} (r : Rep H v d) (h : isiD T d = some b) : TyX K H v (.type (tyD d)) ∧ kitB (tyD d) T = some b := by
  cases r with
  | non => exact ⟨.base .non, h⟩
  | bl b => exact ⟨.base (.bl b), h⟩
  | int i => exact ⟨.base (.int i), h⟩
  | str x => exact ⟨.base (.str x), h⟩
  | tup h1 h2 => exact ⟨.base (.tup h1), h⟩
  | lst h1 h2 =>
    rcases h1 with h1 | ⟨o, h1⟩
    · exact ⟨.base (.lst h1), h⟩
    · exact ⟨.base (.frz h1), h⟩
  | dK h1 h2 h3 =>
    rcases h1 with h1 | ⟨o, h1⟩
    · exact ⟨.base (.dK h1), h⟩
    · exact ⟨.fDict h1, h⟩
  | dT h1 h2 h3 => cases h
section
variable {X : Cx} {L : Lents} {W : WX} {e a b c tg it : Expr} {es : List Expr} {pos : Pos} {ss : List Stmt}
theorem je_isi {o : Opd} {T : String} {N : Str} {p pT : Pos} (ha : PE X a (tO X.K L W o)) (hg : Gl X "isinstance") (hm : X.mg "isinstance" = none) (hgT : Gl X N) (hmT : X.mg N = none) (hvT : bootBuiltins N = some (.type T)) (hnT : N ≠ "__name__" := by decide) (hdT : (N == ("__debug__" : Str)) = false := by decide)
    (he : starEach (a :: [.Name N pT]) X.env = (false, eval a X.env) :: starEach [.Name N pT] X.env := by rfl) (he2 : starEach (.Name N pT :: []) X.env = (false, eval (.Name N pT) X.env) :: starEach [] X.env := by rfl) (hpl : (backTo pos (starEach [.Name N pT] X.env)).any (·.1) = false := by rfl) :
    PE X (.Call (.Name "isinstance" p) [a, .Name N pT] [] pos) (tE X.K L W (S.isi T o)) := by
  refine PE.imp (pe_callB (call_isi (X := X)) hg hm (by decide +kernel) (pa_cons ha (pa_cons (pe_bltn (v := .ty T) hgT hmT hvT rfl hnT hdT) pa_nil he2) he) (by decide) (by decide) he hpl) fun σ H Q ⟨G, η, Fs, R, q⟩ => ?_
  refine tO_use R q fun v p η1 G1 H1 Fs1 R1 E1 k1 q1 => ?_
  obtain ⟨d, e, q3⟩ := q1.lift
  cases hx : o.deep p η1 with
  | none => rw [hx] at e; cases e
  | some x =>
    rw [hx] at e
    have e : (isiD T x).map D.bl = some d := e
    cases hb : isiD T x with
    | none => rw [hb] at e; cases e
    | some b =>
      rw [hb] at e; cases e
      obtain ⟨t1, t2⟩ := (k1.rep R1 hx).ty (K := X.K) hb
      exact ⟨v, .ty T, _, _, b, rfl, .ty T, t1, kit_ty t2, q3 G1 H1 Fs1 R1 Ext.refl _ (.bl b)⟩

/-! ### a, b = x, y: both local names -/
theorem js_par2 {i j : Nat} {x y : Str} {r : Env → Out (List D)} {px py pt : Pos} {kt k2 pt2} (hc : X.calm = true) (hN : X.N.Nodup) (hi : X.N[i]? = some x) (hj : X.N[j]? = some y) (hij : i ≠ j)
    (hx : X.env.scope.names.lookup x = some .local) (hy : X.env.scope.names.lookup y = some .local) (ha : PA X [a, b] (tL X.K L W r))
    (hw : swappedStores [.Tuple [.Name x px, .Name y py] kt pt] (.Tuple [a, b] k2 pt2) X.env = pure (some [x, y]))
    (hs : swapsWithSole [.Tuple [.Name x px, .Name y py] kt pt] (.Tuple [a, b] k2 pt2) pos.line X.env = pure false := by rfl) :
    PS X (.Assign [.Tuple [.Name x px, .Name y py] kt pt] (.Tuple [a, b] k2 pt2) pos) (tS X.K L W (S.par [i, j] r)) := by
  refine PS.imp (ps_par hc hN hi hj hij hx hy ha hw hs) fun D σ H ⟨G, η, Fs, R, q⟩ => ⟨G, η, Fs, R, (ResS.bind q).mono fun ds η1 G1 H1 Fs1 R1 E1 q1 vs rv => ?_⟩
  cases rv with
  | nil => exact (show False from q1).elim
  | @cons v1 vs1 d1 ds1 r1 t =>
    cases z : S.name i d1 η1 with
    | bad => simp only [List.map, S.names, z] at q1; exact (show False from q1).elim
    | exc c η2 => simp only [List.map, S.names, z] at q1; exact (show False from q1).elim
    | ok u η2 =>
      cases t with
      | nil => simp only [List.map, S.names, z] at q1; exact (show False from q1).elim
      | @cons v2 vs2 d2 ds2 r2 t2 =>
        simp only [List.map, S.names, z, bind_ok] at q1
        cases z2 : S.name j d2 η2 with
        | bad => simp only [z2] at q1; exact (show False from q1).elim
        | exc c η3 => simp only [z2] at q1; exact (show False from q1).elim
        | ok u2 η3 =>
          simp only [z2, bind_ok] at q1
          cases t2 with
          | cons _ _ => exact (show False from q1).elim
          | nil =>
            have q1 : ResS X.K L W D G1 H1 Fs1 (.ok .nx η3) := q1
            unfold S.name at z z2
            split at z <;> cases z
            rename_i s1
            split at z2 <;> cases z2
            rename_i s2 _
            obtain ⟨Fs2, R2, f2⟩ := R1.stored (Apart.zero r1) s1 fun _ _ => .inr (.inr trivial)
            obtain ⟨Fs3, R3, f3⟩ := R2.stored (Apart.zero r2) s2 fun _ _ => .inr (.inr trivial)
            exact ⟨_, _, rfl, q1 _ G1 H1 Fs3 R3 (Ext.refl.feet fun a ha => (f3 a ha).elim (fun z => by simp at z) fun z => (f2 a z).elim (fun z => by simp at z) .inl)⟩

/-! ### a op b op' c, b a whole number -/
def S.chainB (g g' : D → D → Option Bool) (x : D) (y : D) (c : SE) : SE := fun η => match y with
  | .int j => (match g x (.int j) with
    | some true => (c η).bind fun z η3 => lift ((g' (.int j) z).map D.bl) η3
    | some false => .ok (.bl false) η
    | none => .bad)
  | _ => .bad
def S.chain (g g' : D → D → Option Bool) (a b c : SE) : SE := fun η => (a η).bind fun x η1 => (b η1).bind fun y η2 => S.chainB g g' x y c η2
theorem chain_use {σ : Sig} {H : Hp} {Q : VK} {r r' : R2} {g g' : D → D → Option Bool} {fa fb fc : SE} (hs : Cmp2 r g) (hs' : Cmp2 r' g') (h : tE X.K L W (S.chain g g' fa fb fc) σ H Q) :
    tChain r r' (tE X.K L W fa) (tE X.K L W fb) (tE X.K L W fc) σ H Q := by
  obtain ⟨G, η, Fs, R, q⟩ := h
  refine ⟨G, η, Fs, R, q.bind.mono fun x η1 G1 H1 Fs1 R1 E1 q1 v rv => ⟨G1, η1, Fs1, R1, q1.bind.mono fun y η2 G2 H2 Fs2 R2 E2 q2 w rw' => ?_⟩⟩
  unfold S.chainB at q2
  split at q2
  · rename_i j
    cases rw'
    cases hg : g x (.int j) with
    | none => rw [hg] at q2; exact q2.elim
    | some k =>
      rw [hg] at q2
      refine hs H2 v (.int j) x (.int j) k _ (rv.mono (E2.g.sub.trans R2.sub)) (.int j) hg ⟨k, rfl, ?_⟩
      cases k with
      | false => exact q2 G2 H2 Fs2 R2 Ext.refl _ (.bl false)
      | true =>
        refine ⟨G2, η2, Fs2, R2, (Res.bind q2).mono fun z η3 G3 H3 Fs3 R3 E3 q3 u ru => ?_⟩
        obtain ⟨d, e, q4⟩ := q3.lift
        cases hg' : g' (.int j) z with
        | none => rw [hg'] at e; cases e
        | some k' =>
          rw [hg'] at e; cases e
          exact hs' H3 (.int j) u (.int j) z k' Q (.int j) (ru.mono R3.sub) hg' (q4 G3 H3 Fs3 R3 Ext.refl _ (.bl k'))
  · exact q2.elim
theorem je_chain {op op' : CmpOp} {r r' : R2} {g g' : D → D → Option Bool} {fa fb fc : SE} (ho : OpR X (compareOp op) r) (ho' : OpR X (compareOp op') r') (hs : Cmp2 r g) (hs' : Cmp2 r' g') (ha : PE X a (tE X.K L W fa)) (hb : PE X b (tE X.K L W fb)) (hc : PE X c (tE X.K L W fc))
    (hm : lastMarks [op, op'] [b, c] = false := by with_unfolding_all rfl) : PE X (.Compare a [op, op'] [b, c] pos) (tE X.K L W (S.chain g g' fa fb fc)) :=
  PE.imp (pe_chain ho ho' ha hb hc hm) fun σ H Q h => chain_use hs hs' h
theorem jt_chain {op op' : CmpOp} {r r' : R2} {g g' : D → D → Option Bool} {fa fb fc : SE} (ho : OpR X (compareOp op) r) (ho' : OpR X (compareOp op') r') (hs : Cmp2 r g) (hs' : Cmp2 r' g') (ha : PE X a (tE X.K L W fa)) (hb : PE X b (tE X.K L W fb)) (hc : PE X c (tE X.K L W fc))
    (hm : lastMarks [op, op'] [b, c] = false := by with_unfolding_all rfl) : PT X (.Compare a [op, op'] [b, c] pos) (tT X.K L W (S.tst (S.chain g g' fa fb fc))) :=
  PT.imp (pt_chain ho ho' ha hb hc hm) fun σ H Q h => chain_use hs hs' (tst_use h)
end
end DV

/-! DV14: the head, defs by name, a law's end. -/
namespace DV
open PySem PySem.Spec PyProof.Rows L2 RZ

/-! ### the head's Hook, the lists left out -/
def noL (g : Addr → Option Obj) : Addr → Option Obj := fun a => match g a with
  | some o => (match o.cls with
    | .type c => if c = "list" then none else some o
    | _ => some o)
  | none => none
theorem noL_get {g : Addr → Option Obj} {a : Addr} {o : Obj} (h : noL g a = some o) : g a = some o ∧ o.cls ≠ .type "list" := by
  unfold noL at h
  cases e : g a with
  | none => rw [e] at h; cases h
  | some u =>
    rw [e] at h
    obtain ⟨cls, dd, dt, sl⟩ := u
    cases cls with
    | type c =>
      have h : (if c = "list" then none else some (⟨.type c, dd, dt, sl⟩ : Obj)) = some o := h
      split at h
      · cases h
      · rename_i hc
        cases h
        exact ⟨rfl, fun z => hc (Value.type.inj z)⟩
    | _ => cases h; exact ⟨rfl, fun z => by cases z⟩
def obsN (n : Nat) (fa : List He.Fa) (fn : List He.DefD) (g : Addr → Option Obj) : He.AlD := He.obsD fa fn (He.frG (noL g) (He.asD g n))
def hookN (n : Nat) (fa : List He.Fa) (fn : List He.DefD) : PySem.W.Hook where
  α := He.AlD
  obs := fun s => obsN n fa fn s.heap.get?
  val := fun _ => He.valD fn
  says := fun _ h => ∃ K : PySem.W.Frag, (K.In h ∧ ∀ a o, K.lookup a = some o → o.cls ≠ .type "list") ∧ He.SaysD fa fn K
  of := fun _ _ e => ⟨_, ⟨fun a o q => (noL_get (He.frG_at _ q)).1, fun a o q => (noL_get (He.frG_at _ q)).2⟩, e⟩
  keeps := fun _ _ _ ⟨K, ⟨hK, hl⟩, c⟩ k => ⟨K, ⟨PySem.W.Frag.In.keeps hK k, hl⟩, c⟩
theorem obsN_eq {n : Nat} {fa : List He.Fa} {fn : List He.DefD} {g : Addr → Option Obj} {s : Shared} (h : ∀ a, g a = s.heap.get? a) : obsN n fa fn g = (hookN n fa fn).obs s := by
  have e : g = s.heap.get? := funext h
  rw [e] <;> rfl

/-! ### a def by its name -/
def Has (P : Program) (w : World) (K : PySem.W.Frag) (mg : Str → Option Value) (base : Heap) (x : Str) (ps : List Str) (k : Nat) (F : FnSem) (io : List Bool) : Prop :=
  ∃ fd, mg x = some (.ref (He.ga K x)) ∧ PySem.W.keepIn K (.ref (He.ga K x)) = true ∧ Binds K fd ps [] ∧ FnOk P w K mg base (L2.CX P w) k (He.ga K x) fd ps (spF K F io)
section
variable {P : Program} {w : World} {K : PySem.W.Frag} {mg : Str → Option Value} {base : Heap} {x qual : Str} {params : Arguments} {body : List Stmt} {scope : Scope} {fd : FuncData}
theorem has_of {N ps : List Str} {io : List Bool} {k : Nat} {sem : SS} (F : FunD K x qual params body scope [] [] (He.ga K x) fd) (S' : FnScope N ps scope) (hio : io.length = ps.length) (g : mg x = some (.ref (He.ga K x)))
    (hb : ∀ (kV doc pm : Value) (an : Option Addr) (cdv ct : Value) (us : List Value), us.length = ps.length → bindArgs (PySem.W.fnOf x qual params body scope .none kV doc pm an cdv ct) ⟨us, []⟩ = pure (ps.zip us))
    (hbody : ∀ (cdv : Value) (A : Around) (outer : List PySem.Env) (s : Shared) (H : Hp) (E : XK) (L : Lents), Room k (A.deeper (envOfC qual scope s.heap.objs.size (He.ga K x) cdv)) →
      PSs (cxOf (L2.CX P w) P w K mg base N qual scope (He.ga K x) cdv A outer s H E) body (tS K L (fun cls d _ H' => E cls d H') sem)) :
    Has P w K mg base x ps (k + 1) (S.run sem N.length io) io := ⟨fd, g, F.kp, F.bindsN hb, fn_sem F S' hio hbody⟩
end
theorem takes_blk {X : Cx} {s : Shared} {H : Hp} {scope : Scope} {cenv : PySem.Env} {fp : List Addr} : Takes (X.blk s H scope cenv fp) WN := fun u s' ⟨a, B, sI, pins, σ, H, cls, d, e, I, nb, up, sky, na, os, ag, w⟩ => w
section
variable {X : Cx} {L : Lents} {W : WX} {k : Nat} {ps : List Str} {x : Str} {p pos : Pos} {e : Expr} {es : List Expr} {F : FnSem}
theorem jf_callH {as : List S.Arg} {io : List Bool} (h : Has X.prog X.w X.K X.mg X.base x ps k F io) (hr : Room k X.A) (hg : Gl X x) (tk : Takes X W) (hio : io = as.map S.Arg.isLend) (h1 : oneLend as = true) (ha : PA X (e :: es) (tArgs X.K L W as))
    (hdb : (x == ("__debug__" : Str)) = false := by decide) (he : starEach (e :: es) X.env = (false, eval e X.env) :: starEach es X.env := by rfl) (hpl : (backTo pos (starEach es X.env)).any (·.1) = false := by rfl) :
    PE X (.Call (.Name x p) (e :: es) [] pos) (tF X.K L W (S.call F as)) := by
  obtain ⟨fd, g, kp, b, Fk⟩ := h
  exact jf_call Fk hr hg g kp b tk hio h1 ha hdb he hpl
end

/-! ### a law's end -/
theorem law_sp {K : PySem.W.Frag} {H : Hp} {a : Addr} {ns : List Int} {F : FnSem} (nl : ∀ a o, K.lookup a = some o → o.cls ≠ .type "list") (hS : SqL K H a (ns.map V.int)) (hF : ∃ k bk, F [(0, .lst (ns.map .int))] = .ok k (.bl true) bk) :
    spF K F [false] [.ref a] H (fun v _ => v = .bl true) fun _ _ _ => False := by
  obtain ⟨k, bk, hF⟩ := hF
  have hR : Rd H a (.lst (ns.map V.int)) := by
    rcases hS with h | ⟨o, its, n, e, hc, _⟩
    · exact h
    · exact absurd hc (nl a o e)
  refine ⟨rfl, H, [(0, .lst (ns.map .int))], fun _ => [], rfl, ⟨Sub.refl H, rfl, rfl, fun i k l d e => ?_, fun _ _ => rfl, fun _ => List.nodup_nil, fun i a h => by simp at h, fun i j a h => by simp at h, fun p hp => by cases hp⟩, ?_⟩
  · match i, e with
    | 0, e => cases e; exact ⟨.ref a, rfl, ⟨.lst hR (RepL.ints ns), rfl⟩, fun z => by cases z⟩
    | i + 1, e => cases e
  · rw [hF]
    intro G' H' Fs' v Fv R E x o
    have : Rep H' v (.bl true) := x.own.rep R.sub k fun _ _ => rfl
    cases this; rfl
theorem law_end {l : PySem.W.OpenLaw} {n k : Nat} {q : Program} {loose : List Str} {XP : (Str → Option Value) → Heap → Prop} {YP : World → Heap → Prop} {d : DefRec} {x : Str} {F : FnSem}
    (hn : l.most = some n) (hn2 : n ≤ sizeLine) (hdf : d.params.defaults = []) (hr : Room k callerA)
    (hF : ∀ (w : World) (mg : Str → Option Value) (fa : Addr) (h : Heap), YP w h → h.Ns mainGlobals mg → mg d.name = some (.ref fa) →
      ∃ (K : PySem.W.Frag) (fd : FuncData), K.In h ∧ (∀ a o, K.lookup a = some o → o.cls ≠ .type "list") ∧ (∀ (s : Shared) (u : Value), BindsTo s fd ⟨[u], []⟩ [(x, u)]) ∧
        ∀ base : Heap, K.In base → base.Ns mainGlobals mg → FnOk l.prog w K mg base (L2.CX l.prog w) k fa fd [x] (spF K F [false]))
    (hM : ∀ ns : List Int, ns.length ≤ n → ∃ k bk, F [(0, .lst (ns.map .int))] = .ok k (.bl true) bk) :
    PySem.W.WalkO q loose XP YP l.row.toRowW d [] (fun f vs => PySem.call f vs) := by
  refine Att.attach_call hn hdf fun w s₀ s₁ mg mb fa o pm cd doc a vs ns G Y ho hd hcd hmg hobj hints hlen hg => ?_
  obtain ⟨K, fd, KX, nl, hb, hFk⟩ := hF w mg fa _ Y G.T.g hmg
  refine law_call KX G.T.g G.T.b G.T.builtins G.T.nolimit hg hobj hints (Nat.le_trans hlen hn2) hr hFk hb (fun H hO hS => law_sp nl hS (hM ns hlen)) fun H e s' z => ?_
  obtain ⟨_, _, _, _, _, _, _, _, _, _, _, _, _, f⟩ := z
end DV

/-! DV15: how meanings are worked out. -/
namespace DV
open PySem PySem.Spec PyProof.Rows L2 RZ
/-- what may be stored anew -/
def Slot.free : Slot → Bool
  | .val _ true _ => false
  | _ => true
@[simp] theorem free_no : Slot.free .no = true := rfl
@[simp] theorem free_val {k : Nat} {d : D} : Slot.free (.val k false d) = true := rfl
@[simp] theorem free_lent {k : Nat} {d : D} : Slot.free (.val k true d) = false := rfl
section
variable {η : Env} {f g h : SE} {F F' : SF} {t u : ST} {b c : SS} {o p : Opd} {i j : Nat} {d : D}
@[simp] theorem v_up : S.up f η = (f η).bind fun d η' => .ok (0, d) η' := rfl
@[simp] theorem v_fz : S.fz F η = (F η).bind fun p η' => .ok p.2 η' := rfl
@[simp] theorem v_c : S.c d η = .ok d η := rfl
@[simp] theorem v_ct {x : Bool} : S.ct x η = .ok x η := rfl
@[simp] theorem v_var : S.var i η = match η[i]? with
  | some (.val 0 _ d) => .ok d η
  | some (.val (_ + 1) false d) => .ok d (η.set i (.val 0 false d))
  | _ => .bad := rfl
@[simp] theorem v_mov : S.mov i η = match η[i]? with
  | some (.val k false d) => .ok (k, d) (η.set i .no)
  | _ => .bad := rfl
@[simp] theorem v_bin {g : D → D → Option (Nat × D)} : S.bin g o p η = (o.pre η).bind fun x η1 => (p.pre η1).bind fun y η2 => lift ((o.fin x η2).bind fun x => (p.fin y η2).bind fun y => g x y) η2 := rfl
@[simp] theorem v_un {g : D → Option (Nat × D)} : S.un g o η = (o.pre η).bind fun p η1 => lift ((o.fin p η1).bind g) η1 := rfl
@[simp] theorem v_cmp {g : D → D → Option Bool} : S.cmp g o p η = (o.pre η).bind fun x η1 => (p.pre η1).bind fun y η2 => lift ((o.deep x η2).bind fun x => (p.deep y η2).bind fun y => (g x y).map D.bl) η2 := rfl
@[simp] theorem v_tst : S.tst f η = (f η).bind fun d η' => lift (S.truth d) η' := rfl
@[simp] theorem v_truth {x : Bool} : S.truth (.bl x) = some x := rfl
@[simp] theorem v_band : S.band f g η = (f η).bind fun d η1 => match d with
  | .bl true => g η1
  | .bl false => .ok (.bl false) η1
  | _ => .bad := rfl
@[simp] theorem v_bor : S.bor f g η = (f η).bind fun d η1 => match d with
  | .bl false => g η1
  | .bl true => .ok (.bl true) η1
  | _ => .bad := rfl
@[simp] theorem v_bnot : S.bnot f η = (f η).bind fun d η1 => match d with
  | .bl b => .ok (.bl (!b)) η1
  | _ => .bad := rfl
@[simp] theorem v_tand : S.tand t u η = (t η).bind fun x η1 => if x = true then u η1 else .ok false η1 := rfl
@[simp] theorem v_tor : S.tor t u η = (t η).bind fun x η1 => if x = true then .ok true η1 else u η1 := rfl
@[simp] theorem v_tnot : S.tnot t η = (t η).bind fun x η1 => .ok (!x) η1 := rfl
@[simp] theorem v_ite : S.ite t F F' η = (t η).bind fun x η1 => if x = true then F η1 else F' η1 := rfl
@[simp] theorem v_nil : S.nil η = .ok [] η := rfl
@[simp] theorem v_cons {r : Env → Out (List D)} : S.cons f r η = (f η).bind fun d η1 => (r η1).bind fun ds η2 => .ok (d :: ds) η2 := rfl
@[simp] theorem v_tup {r : Env → Out (List D)} : S.tup r η = (r η).bind fun ds η1 => lift (if ds.length ≤ sizeLine then some (.tup ds) else none) η1 := rfl
@[simp] theorem v_lst {r : Env → Out (List D)} : S.lst r η = (r η).bind fun ds η1 => lift (if ds.length ≤ sizeLine then some (1, .lst ds) else none) η1 := rfl
@[simp] theorem v_preL0 : S.preL [] η = .ok [] η := rfl
@[simp] theorem v_preL1 {os : List Opd} : S.preL (o :: os) η = (o.pre η).bind fun p η1 => (S.preL os η1).bind fun ps η2 => .ok (p :: ps) η2 := rfl
@[simp] theorem v_finL0 {ps : List (Option D)} : S.finL [] ps η = some [] := rfl
@[simp] theorem v_finL1 {os : List Opd} {x : Option D} {ps : List (Option D)} : S.finL (o :: os) (x :: ps) η = (o.fin x η).bind fun d => (S.finL os ps η).bind fun ds => some (d :: ds) := rfl
@[simp] theorem v_deepL0 {ps : List (Option D)} : S.deepL [] ps η = some [] := rfl
@[simp] theorem v_deepL1 {os : List Opd} {x : Option D} {ps : List (Option D)} : S.deepL (o :: os) (x :: ps) η = (o.deep x η).bind fun d => (S.deepL os ps η).bind fun ds => some (d :: ds) := rfl
@[simp] theorem v_fn {g : List D → Option (Nat × D)} {os : List Opd} : S.fn g os η = (S.preL os η).bind fun ps η1 => lift ((S.finL os ps η1).bind g) η1 := rfl
@[simp] theorem v_fnd {g : List D → Option D} {os : List Opd} : S.fnd g os η = (S.preL os η).bind fun ps η1 => lift ((S.deepL os ps η1).bind g) η1 := rfl
@[simp] theorem v_preE : (Opd.ex f).pre η = (f η).bind fun d η' => .ok (some d) η' := rfl
@[simp] theorem v_preN : (Opd.nm i).pre η = match η[i]? with
  | some (.val _ _ _) => .ok none η
  | _ => .bad := rfl
@[simp] theorem v_finE {x : Option D} : (Opd.ex f).fin x η = x := rfl
@[simp] theorem v_finN {x : Option D} : (Opd.nm i).fin x η = slot1 η[i]? := rfl
@[simp] theorem v_deepE {x : Option D} : (Opd.ex f).deep x η = x := rfl
@[simp] theorem v_deepN {x : Option D} : (Opd.nm i).deep x η = slotA η[i]? := rfl
@[simp] theorem v_slot10 {l : Bool} : slot1 (some (.val 0 l d)) = some d := rfl
@[simp] theorem v_slot11 {l : Bool} : slot1 (some (.val 1 l d)) = some d := rfl
@[simp] theorem v_slotA {k : Nat} {l : Bool} : slotA (some (.val k l d)) = some d := rfl
@[simp] theorem v_pass : S.pass η = .ok .nx η := rfl
@[simp] theorem v_brk : S.brk η = .ok .bk η := rfl
@[simp] theorem v_cnt : S.cnt η = .ok .ct η := rfl
@[simp] theorem v_thn {b : SS} : S.flowThen .nx b η = b η := rfl
@[simp] theorem v_thb {b : SS} : S.flowThen .bk b η = .ok .bk η := rfl
@[simp] theorem v_thc {b : SS} : S.flowThen .ct b η = .ok .ct η := rfl
@[simp] theorem v_thr {b : SS} {k : Nat} : S.flowThen (.rt k d) b η = .ok (.rt k d) η := rfl
@[simp] theorem v_seq : S.seq b c η = (b η).bind fun fl η1 => S.flowThen fl c η1 := rfl
@[simp] theorem v_asg : S.asg i F η = (F η).bind fun p η1 => if S.stores i η1 = true then .ok .nx (η1.set i (.val p.1 false p.2)) else .bad := rfl
@[simp] theorem v_stores : S.stores i η = match η[i]? with
  | some s => s.free
  | none => false := by
  unfold S.stores
  cases η[i]? with
  | none => rfl
  | some s => cases s with
    | no => rfl
    | val k l d => cases l <;> rfl
@[simp] theorem v_drop : S.drop f η = (f η).bind fun _ η1 => .ok .nx η1 := rfl
@[simp] theorem v_ret : S.ret F η = (F η).bind fun p η1 => .ok (.rt p.1 p.2) η1 := rfl
@[simp] theorem v_retN : S.retN η = .ok (.rt 0 .non) η := rfl
@[simp] theorem v_ifs : S.ifs t b c η = (t η).bind fun x η1 => if x = true then b η1 else c η1 := rfl
@[simp] theorem v_raise {x : Str} : S.raise x η = .exc x η := rfl
@[simp] theorem v_name : S.name i d η = if S.stores i η = true then .ok () (η.set i (.val 0 false d)) else .bad := rfl
@[simp] theorem v_names0 : S.names [] [] η = .ok () η := rfl
@[simp] theorem v_names1 {g : SG} {gs : List SG} {ds : List D} : S.names (g :: gs) (d :: ds) η = (g d η).bind fun _ η1 => S.names gs ds η1 := rfl
@[simp] theorem v_gtup {gs : List SG} {ds : List D} : S.gtup gs (.tup ds) η = S.names gs ds η := rfl
@[simp] theorem v_asgG {g : SG} : S.asgG f g η = (f η).bind fun d η1 => match g d η1 with
  | .ok _ η2 => .ok .nx η2
  | _ => .bad := rfl
@[simp] theorem v_par {is : List Nat} {r : Env → Out (List D)} : S.par is r η = (r η).bind fun ds η1 => match S.names (is.map S.name) ds η1 with
  | .ok _ η2 => .ok .nx η2
  | _ => .bad := rfl
@[simp] theorem v_fors {it : SI} {g : SG} : S.fors it g b η = (it η).bind fun ds η1 => S.forL g b ds η1 := rfl
@[simp] theorem v_items : S.items f η = (f η).bind fun d η1 => lift (S.seqOf d) η1 := rfl
@[simp] theorem v_seqL {ds : List D} : S.seqOf (.lst ds) = some ds := rfl
@[simp] theorem v_seqT {ds : List D} : S.seqOf (.tup ds) = some ds := rfl
@[simp] theorem v_isi {T : String} : S.isi T o η = (o.pre η).bind fun p η1 => lift ((o.deep p η1).bind fun d => (isiD T d).map D.bl) η1 := rfl
@[simp] theorem v_slc {lo hi : Option SE} : S.slc o lo hi η = (o.pre η).bind fun p η1 => (S.part lo η1).bind fun l η2 => (S.part hi η2).bind fun u η3 => lift ((o.fin p η3).bind (slD l u)) η3 := rfl
@[simp] theorem v_part0 : S.part none η = .ok none η := rfl
@[simp] theorem v_part1 : S.part (some f) η = (f η).bind fun d η1 => match d with
    | .int i => .ok (some i) η1
    | _ => .bad := rfl
@[simp] theorem v_slL {l u : Option Int} {ds : List D} : slD l u (.lst ds) = some (1, .lst (cutD ds l u)) := rfl
@[simp] theorem v_slT {l u : Option Int} {ds : List D} : slD l u (.tup ds) = some (0, .tup (cutD ds l u)) := rfl
@[simp] theorem v_setIx : S.setIx j f g η = (f η).bind fun d η1 => match η1[j]? with
  | some (.val _ _ _) => (g η1).bind fun y η2 => (match y, η2[j]? with
    | .int i, some (.val 1 l (.lst ds)) => (match ixN ds.length i with
      | some m => .ok .nx (η2.set j (.val 1 l (.lst (ds.set m d))))
      | none => .bad)
    | _, _ => .bad)
  | _ => .bad := rfl
@[simp] theorem v_lm {g : List D → List D → Option (D × List D)} {r : Env → Out (List D)} : S.lm j g r η = match η[j]? with
  | some (.val _ _ (.lst _)) => (r η).bind fun as η1 => (match η1[j]? with
    | some (.val 1 l (.lst ds)) => (match g ds as with
      | some (d, ds') => .ok d (η1.set j (.val 1 l (.lst ds')))
      | none => .bad)
    | _ => .bad)
  | _ => .bad := rfl
@[simp] theorem v_chain {g1 g2 : D → D → Option Bool} : S.chain g1 g2 f g h η = (f η).bind fun x η1 => (g η1).bind fun y η2 => S.chainB g1 g2 x y h η2 := rfl
@[simp] theorem v_chainB {g1 g2 : D → D → Option Bool} {n : Int} : S.chainB g1 g2 d (.int n) h η = match g1 d (.int n) with
    | some true => (h η).bind fun z η3 => lift ((g2 (.int n) z).map D.bl) η3
    | some false => .ok (.bl false) η
    | none => .bad := rfl
@[simp] theorem v_range1 : S.range1 f η = (f η).bind fun d η1 => match d with
  | .int j => if -(2 ^ 62) ≤ j ∧ j < 2 ^ 62 then .ok (S.rangeL 0 j.toNat) η1 else .bad
  | _ => .bad := rfl
@[simp] theorem v_preA0 : S.preA [] η = .ok [] η := rfl
@[simp] theorem v_preAE {as : List S.Arg} : S.preA (.ex f :: as) η = (f η).bind fun d η1 => (S.preA as η1).bind fun ps η2 => .ok (some d :: ps) η2 := rfl
@[simp] theorem v_preAL {as : List S.Arg} : S.preA (.lend j :: as) η = match η[j]? with
    | some (.val _ _ _) => (S.preA as η).bind fun ps η2 => .ok (none :: ps) η2
    | _ => .bad := rfl
@[simp] theorem v_finA0 {ps : List (Option D)} : S.finA [] ps η = some [] := by cases ps <;> rfl
@[simp] theorem v_finAE {as : List S.Arg} {ps : List (Option D)} : S.finA (.ex f :: as) (some d :: ps) η = (S.finA as ps η).map ((0, d) :: ·) := rfl
@[simp] theorem v_finAL {as : List S.Arg} {x : Option D} {ps : List (Option D)} : S.finA (.lend j :: as) (x :: ps) η = match η[j]? with
    | some (.val k _ d) => (S.finA as ps η).map ((k, d) :: ·)
    | _ => none := by cases x <;> rfl
@[simp] theorem v_put0 {bk : Env} : S.putBack [] bk η = some η := rfl
@[simp] theorem v_putE {as : List S.Arg} {s : Slot} {bk : Env} : S.putBack (.ex f :: as) (s :: bk) η = S.putBack as bk η := rfl
@[simp] theorem v_putL {as : List S.Arg} {k : Nat} {l : Bool} {bk : Env} : S.putBack (.lend j :: as) (.val k l d :: bk) η = match η[j]? with
    | some (.val _ l _) => S.putBack as bk (η.set j (.val k l d))
    | _ => none := rfl
@[simp] theorem v_call {G : FnSem} {as : List S.Arg} : S.call G as η = (S.preA as η).bind fun ps η1 => match S.finA as ps η1 with
  | none => .bad
  | some xs => match G xs with
    | .ok k d bk => (match S.putBack as bk η1 with
      | some η2 => .ok (k, d) η2
      | none => .bad)
    | .exc c bk => (match S.putBack as bk η1 with
      | some η2 => .exc c η2
      | none => .bad)
    | .bad => .bad := rfl
theorem v_run {body : SS} {n : Nat} {io : List Bool} {args : List (Nat × D)} : S.run body n io args = if args.length = io.length then match body (S.mkEnv args io ++ List.replicate (n - args.length) Slot.no) with
    | .ok (.rt k d) η => .ok k d (S.back io η)
    | .ok .nx η => .ok 0 .non (S.back io η)
    | .exc c η => .exc c (S.back io η)
    | _ => .bad
  else .bad := rfl
@[simp] theorem v_mk0 : S.mkEnv [] [] = [] := rfl
@[simp] theorem v_mk1 {a : Nat × D} {l : Bool} {as : List (Nat × D)} {ls : List Bool} : S.mkEnv (a :: as) (l :: ls) = .val a.1 l a.2 :: S.mkEnv as ls := rfl
@[simp] theorem v_bk0 : S.back [] η = [] := by unfold S.back; simp
@[simp] theorem v_bkT {s : Slot} {ls : List Bool} : S.back (true :: ls) (s :: η) = s :: S.back ls η := rfl
@[simp] theorem v_bkF {s : Slot} {ls : List Bool} : S.back (false :: ls) (s :: η) = .no :: S.back ls η := rfl
/-! ### operations on known shapes -/
@[simp] theorem v_addI {a b : Int} : addD (.int a) (.int b) = some (0, .int (a + b)) := rfl
@[simp] theorem v_subI {a b : Int} : subD (.int a) (.int b) = some (0, .int (a - b)) := rfl
@[simp] theorem v_negI {a : Int} : negD (.int a) = some (0, .int (-a)) := rfl
@[simp] theorem v_mulL {a b : Int} (h : a.natAbs < 2 ^ 64) : mulD (.int a) (.int b) = some (0, .int (a * b)) := if_pos (.inl h)
@[simp] theorem v_mulR {a b : Int} (h : b.natAbs < 2 ^ 64) : mulD (.int a) (.int b) = some (0, .int (a * b)) := if_pos (.inr (.inl h))
theorem v_mulW {a b : Int} (h : a.natAbs.log2 + b.natAbs.log2 < 1000000) : mulD (.int a) (.int b) = some (0, .int (a * b)) := if_pos (.inr (.inr h))
theorem v_mulI {a b : Int} (h : a.natAbs < 2 ^ 64 ∨ b.natAbs < 2 ^ 64) : mulD (.int a) (.int b) = some (0, .int (a * b)) := by
  exact if_pos (h.elim .inl fun h => .inr (.inl h))
@[simp] theorem v_fdivI {a b : Int} (h : 0 < b ∧ b.natAbs.log2 < 9000) : fdivD (.int a) (.int b) = some (0, .int (a / b)) := by
  exact (if_pos h.1).trans (if_pos h.2)
theorem log2_lt {b : Int} {n : Nat} (h : b.natAbs < 2 ^ n) (hn : n ≤ 9000) (h0 : n ≠ 0) : b.natAbs.log2 < 9000 := by
  by_cases z : b.natAbs = 0
  · rw [z]; decide
  · exact Nat.lt_of_lt_of_le ((Nat.log2_lt z).mpr h) hn
@[simp] theorem v_fdivS {a b : Int} (h : 0 < b ∧ b < 18446744073709551616) : fdivD (.int a) (.int b) = some (0, .int (a / b)) :=
  v_fdivI ⟨h.1, log2_lt (n := 64) (by omega) (by decide) (by decide)⟩
@[simp] theorem v_modI {a b : Int} (h : 0 < b) : modD (.int a) (.int b) = some (0, .int (a % b)) := by
  exact if_pos h
@[simp] theorem v_powI {a b : Int} (h : 0 ≤ b ∧ b ≤ 1000000 ∧ a.natAbs < 2 ^ 64) : powD (.int a) (.int b) = some (0, .int (a ^ b.toNat)) := by
  exact if_pos h
@[simp] theorem v_ltI {a b : Int} : ltD (.int a) (.int b) = some (decide (a < b)) := rfl
@[simp] theorem v_leI {a b : Int} : leD (.int a) (.int b) = some (decide (a ≤ b)) := rfl
@[simp] theorem v_gtI {a b : Int} : gtD (.int a) (.int b) = some (decide (b < a)) := rfl
@[simp] theorem v_geI {a b : Int} : geD (.int a) (.int b) = some (decide (b ≤ a)) := rfl
@[simp] theorem v_lenL {ds : List D} : lenD [.lst ds] = some (.int ds.length) := rfl
@[simp] theorem v_lenT {ds : List D} : lenD [.tup ds] = some (.int ds.length) := rfl
@[simp] theorem v_absI {a : Int} : absD [.int a] = some (.int a.natAbs) := by
  show some (D.int (if a < 0 then -a else a)) = _
  congr 2; split <;> omega
@[simp] theorem v_max2 {a b : Int} : maxD [.int a, .int b] = some (.int (max a b)) := by
  show some (D.int (if b > a then b else a)) = _
  congr 2; split <;> omega
@[simp] theorem v_min2 {a b : Int} : minD [.int a, .int b] = some (.int (min a b)) := by
  show some (D.int (if b < a then b else a)) = _
  congr 2; split <;> omega
@[simp] theorem v_intI {a : Int} : intD [.int a] = some (.int a) := rfl
@[simp] theorem v_intB {b : Bool} : intD [.bl b] = some (.int (if b then 1 else 0)) := rfl
@[simp] theorem v_listL {ds : List D} : listD [.lst ds] = some (1, .lst ds) := rfl
@[simp] theorem v_listT {ds : List D} : listD [.tup ds] = some (1, .lst ds) := rfl
@[simp] theorem v_tupL {ds : List D} : tupleD [.lst ds] = some (0, .tup ds) := rfl
@[simp] theorem v_tupT {ds : List D} : tupleD [.tup ds] = some (0, .tup ds) := rfl
@[simp] theorem v_ixL {ds : List D} {i : Int} : ixD (.lst ds) (.int i) = (atI ds i).map (0, ·) := rfl
@[simp] theorem v_ixT {ds : List D} {i : Int} : ixD (.tup ds) (.int i) = (atI ds i).map (0, ·) := rfl
theorem at_nat {α : Type} {ds : List α} {i : Int} (h : 0 ≤ i) : atI ds i = ds[i.toNat]? := by
  unfold atI ixN
  rw [if_pos h]
  by_cases h2 : i < ds.length
  · rw [if_pos h2]; rfl
  · rw [if_neg h2]; exact (List.getElem?_eq_none (by omega)).symm
theorem at_neg {α : Type} {ds : List α} {i : Int} (h : i < 0) (h2 : -(ds.length : Int) ≤ i) : atI ds i = ds[(i + ds.length).toNat]? := by
  unfold atI ixN
  rw [if_neg (by omega), if_pos h2]; rfl
@[simp] theorem at0 {α : Type} {a : α} {ds : List α} : atI (a :: ds) 0 = some a := by rw [at_nat (by decide)]; rfl
@[simp] theorem at1 {α : Type} {a b : α} {ds : List α} : atI (a :: b :: ds) 1 = some b := by rw [at_nat (by decide)]; rfl
@[simp] theorem at2 {α : Type} {a b c : α} {ds : List α} : atI (a :: b :: c :: ds) 2 = some c := by rw [at_nat (by decide)]; rfl
@[simp] theorem at3 {α : Type} {a b c d : α} {ds : List α} : atI (a :: b :: c :: d :: ds) 3 = some d := by rw [at_nat (by decide)]; rfl
@[simp] theorem at4 {α : Type} {a b c d e : α} {ds : List α} : atI (a :: b :: c :: d :: e :: ds) 4 = some e := by rw [at_nat (by decide)]; rfl
@[simp] theorem ixN0 {n : Nat} : ixN (n + 1) 0 = some 0 := by
  unfold ixN; rw [if_pos (by decide), if_pos (by omega)]; rfl
@[simp] theorem ixN1 {n : Nat} : ixN (n + 1 + 1) 1 = some 1 := by
  unfold ixN; rw [if_pos (by decide), if_pos (by omega)]; rfl
end
end DV

/-! DV16: loops and comprehensions worked out. -/
namespace DV
open PySem PySem.Spec PyProof.Rows L2 RZ

/-! ### for -/
/-- one turn -/
def S.turn (g : SG) (body : SS) (d : D) : SS := fun η => match g d η with
  | .ok _ η1 => body η1
  | _ => .bad
section
variable {g : SG} {body : SS} {d : D} {ds : List D} {η η' : Env}
@[simp] theorem v_turn : S.turn g body d η = match g d η with
  | .ok _ η1 => body η1
  | _ => .bad := rfl
theorem forL_nil : S.forL g body [] η = .ok .nx η := rfl
theorem forL_cons : S.forL g body (d :: ds) η = (S.turn g body d η).bind fun fl η2 => match fl with
      | .nx => S.forL g body ds η2
      | .ct => S.forL g body ds η2
      | .bk => .ok .nx η2
      | .rt k d => .ok (.rt k d) η2 := by
  rw [S.forL]
  unfold S.turn
  cases g d η <;> rfl
/-- every turn goes on: I i before turn i -/
theorem forL_run (I : Nat → Env → Prop) (h : ∀ i (hi : i < ds.length) η, I i η → ∃ η', (S.turn g body ds[i] η = .ok .nx η' ∨ S.turn g body ds[i] η = .ok .ct η') ∧ I (i + 1) η') :
    ∀ n i η, i + n = ds.length → I i η → ∃ η', S.forL g body (ds.drop i) η = .ok .nx η' ∧ I ds.length η'
  | 0, i, η, e, hI => by
    have e : i = ds.length := by omega
    subst e
    rw [List.drop_length]
    exact ⟨η, rfl, hI⟩
  | n + 1, i, η, e, hI => by
    have hi : i < ds.length := by omega
    obtain ⟨η1, h1, h2⟩ := h i hi η hI
    obtain ⟨η2, h3, h4⟩ := forL_run I h n (i + 1) η1 (by omega) h2
    refine ⟨η2, ?_, h4⟩
    rw [List.drop_eq_getElem_cons hi, forL_cons]
    rcases h1 with h1 | h1 <;> rw [h1] <;> exact h3
theorem forL_all (I : Nat → Env → Prop) (h0 : I 0 η) (h : ∀ i (hi : i < ds.length) η, I i η → ∃ η', (S.turn g body ds[i] η = .ok .nx η' ∨ S.turn g body ds[i] η = .ok .ct η') ∧ I (i + 1) η') :
    ∃ η', S.forL g body ds η = .ok .nx η' ∧ I ds.length η' := by
  have := forL_run I h ds.length 0 η (by omega) h0
  rw [List.drop_zero] at this; exact this
/-- every turn goes on, what holds does not know which turn it is -/
theorem forL_same (I : Env → Prop) (h0 : I η) (h : ∀ d ∈ ds, ∀ η, I η → ∃ η', (S.turn g body d η = .ok .nx η' ∨ S.turn g body d η = .ok .ct η') ∧ I η') : ∃ η', S.forL g body ds η = .ok .nx η' ∧ I η' :=
  forL_all (fun _ => I) h0 fun i hi η hI => h _ (List.getElem_mem hi) η hI
/-- the first turn that returns -/
theorem forL_ret (I : Nat → Env → Prop) {n k : Nat} {r : D} (hn : n < ds.length) (h0 : I 0 η) (h : ∀ i (hi : i < n) η, I i η → ∃ η', (S.turn g body (ds[i]'(by omega)) η = .ok .nx η' ∨ S.turn g body (ds[i]'(by omega)) η = .ok .ct η') ∧ I (i + 1) η')
    {Q : Env → Prop} (hr : ∀ η, I n η → ∃ η', S.turn g body ds[n] η = .ok (.rt k r) η' ∧ Q η') : ∃ η', S.forL g body ds η = .ok (.rt k r) η' ∧ Q η' := by
  have key : ∀ m i η, i + m = n → I i η → ∃ η', S.forL g body (ds.drop i) η = .ok (.rt k r) η' ∧ Q η' := by
    intro m
    induction m with
    | zero =>
      intro i η e hI
      have e : i = n := by omega
      subst e
      obtain ⟨η1, h1, hq⟩ := hr η hI
      rw [List.drop_eq_getElem_cons hn, forL_cons, h1]
      exact ⟨η1, rfl, hq⟩
    | succ m ih =>
      intro i η e hI
      obtain ⟨η1, h1, h2⟩ := h i (by omega) η hI
      obtain ⟨η2, h3, hq⟩ := ih (i + 1) η1 (by omega) h2
      refine ⟨η2, ?_, hq⟩
      rw [List.drop_eq_getElem_cons (show i < ds.length by omega), forL_cons]
      rcases h1 with h1 | h1 <;> rw [h1] <;> exact h3
  have := key n 0 η (by omega) h0
  rw [List.drop_zero] at this; exact this

theorem find_range {p : Nat → Bool} {M n : Nat} (h : (List.range M).find? p = some n) : n < M ∧ p n = true ∧ ∀ i, i < n → p i = false := by
  obtain ⟨h1, h2, h3⟩ := List.find?_range_eq_some.mp h
  exact ⟨List.mem_range.mp h2, h1, fun i hi => by simpa using h3 i hi⟩
theorem find_none {p : Nat → Bool} {M : Nat} (h : (List.range M).find? p = none) : ∀ i, i < M → p i = false := fun i hi => by
  have := List.find?_eq_none.mp h i (List.mem_range.mpr hi)
  simpa using this
/-- a loop that returns at the first turn of which p speaks -/
theorem forL_search (I : Env → Prop) (p : Nat → Bool) (r : Nat → Nat × D) (h0 : I η) (h : ∀ i (hi : i < ds.length) η, I η → ∃ η', I η' ∧ S.turn g body ds[i] η = if p i = true then .ok (.rt (r i).1 (r i).2) η' else .ok .nx η') :
    ∃ η', I η' ∧ S.forL g body ds η = match (List.range ds.length).find? p with
      | some n => .ok (.rt (r n).1 (r n).2) η'
      | none => .ok .nx η' := by
  cases hf : (List.range ds.length).find? p with
  | some n =>
    obtain ⟨h1, h2, h3⟩ := find_range hf
    obtain ⟨η', e1, e2⟩ := forL_ret (g := g) (body := body) (fun _ => I) (n := n) (k := (r n).1) (r := (r n).2) h1 h0 (fun i hi η hI => by
      obtain ⟨η', z1, z2⟩ := h i (by omega) η hI
      rw [h3 i hi] at z2
      exact ⟨η', .inl z2, z1⟩) (Q := I) fun η hI => by
      obtain ⟨η', z1, z2⟩ := h n h1 η hI
      rw [if_pos h2] at z2
      exact ⟨η', z2, z1⟩
    exact ⟨η', e2, e1⟩
  | none =>
    have h3 := find_none hf
    obtain ⟨η', e1, e2⟩ := forL_all (g := g) (body := body) (fun _ => I) h0 fun i hi η hI => by
      obtain ⟨η', z1, z2⟩ := h i hi η hI
      rw [h3 i hi] at z2
      exact ⟨η', .inl z2, z1⟩
    exact ⟨η', e2, e1⟩

/-! ### while -/
variable {t : ST} {c : SS} {α : Type}
theorem whileN_run (E : α → Env) (I Q : α → Prop) (m : α → Nat)
    (h : ∀ x, I x → (∃ x', t (E x) = .ok false (E x') ∧ Q x') ∨ ∃ η1 x', t (E x) = .ok true η1 ∧ (c η1 = .ok .nx (E x') ∨ c η1 = .ok .ct (E x')) ∧ I x' ∧ m x' < m x) :
    ∀ n x, m x ≤ n → I x → ∃ k x', S.whileN t c k (E x) = some (.ok .nx (E x')) ∧ Q x' := by
  intro n
  induction n with
  | zero =>
    intro x hx hI
    rcases h x hI with ⟨x', h1, h2⟩ | ⟨η1, x', h1, h2, h3, h4⟩
    · exact ⟨1, x', by simp [S.whileN, h1], h2⟩
    · omega
  | succ n ih =>
    intro x hx hI
    rcases h x hI with ⟨x', h1, h2⟩ | ⟨η1, x', h1, h2, h3, h4⟩
    · exact ⟨1, x', by simp [S.whileN, h1], h2⟩
    · obtain ⟨k, x2, h5, h6⟩ := ih x' (by omega) h3
      refine ⟨k + 1, x2, ?_, h6⟩
      rcases h2 with h2 | h2 <;> simp [S.whileN, h1, h2, h5]
/-- E x: the environment by its data; m goes down -/
theorem whl_run (E : α → Env) (I Q : α → Prop) (m : α → Nat) {x : α} (hI : I x)
    (h : ∀ x, I x → (∃ x', t (E x) = .ok false (E x') ∧ Q x') ∨ ∃ η1 x', t (E x) = .ok true η1 ∧ (c η1 = .ok .nx (E x') ∨ c η1 = .ok .ct (E x')) ∧ I x' ∧ m x' < m x) :
    ∃ x', S.whl t c (E x) = .ok .nx (E x') ∧ Q x' := by
  obtain ⟨k, x', h1, h2⟩ := whileN_run E I Q m h (m x) x (Nat.le_refl _) hI
  exact ⟨x', S.whl_of h1, h2⟩
end

/-! ### comprehensions -/
def S.step (g : SG) (tt : ST) (f : SF) (d : D) : Env → Out (Option (Nat × D)) := fun η => (g d η).bind fun _ η1 => (tt η1).bind fun b η2 => if b = true then (f η2).bind fun p η3 => .ok (some p) η3 else .ok none η2
section
variable {g : SG} {tt : ST} {f : SF} {k : Nat} {vs : List Nat} {d : D} {ds acc : List D} {η η' : Env} {it : SI}
@[simp] theorem v_step : S.step g tt f d η = (g d η).bind fun _ η1 => (tt η1).bind fun b η2 => if b = true then (f η2).bind fun p η3 => .ok (some p) η3 else .ok none η2 := rfl
theorem compL_cons : S.compL g tt f k vs (d :: ds) acc η = match S.step g tt f d (S.hide η vs) with
  | .ok (some p) η3 => if p.1 = k ∧ acc.length < sizeLine then S.compL g tt f k vs ds (acc ++ [p.2]) η3 else .bad
  | .ok none η2 => S.compL g tt f k vs ds acc η2
  | _ => .bad := by
  rw [S.compL]
  unfold S.step
  cases g d (S.hide η vs) with
  | bad => rfl
  | exc c η1 => rfl
  | ok u η1 =>
    simp only [bind_ok]
    cases tt η1 with
    | bad => rfl
    | exc c η2 => rfl
    | ok b η2 =>
      cases b with
      | false => rfl
      | true =>
        simp only [bind_ok, if_true]
        cases f η2 <;> rfl
/-- each turn gives at most one item; I: what holds of the environment, the block's names hidden -/
theorem compL_run (I : Nat → List D → Env → Prop) (h : ∀ i (hi : i < ds.length) acc η, I i acc (S.hide η vs) → acc.length ≤ i → ∃ o η', S.step g tt f ds[i] (S.hide η vs) = .ok o η' ∧ (∀ p, o = some p → p.1 = k) ∧ I (i + 1) (acc ++ (o.map (·.2)).toList) (S.hide η' vs)) (hs : ds.length ≤ sizeLine) :
    ∀ n i acc η, i + n = ds.length → acc.length ≤ i → I i acc (S.hide η vs) → ∃ es η', S.compL g tt f k vs (ds.drop i) acc η = .ok es η' ∧ I ds.length es (S.hide η' vs) ∧ es.length ≤ ds.length
  | 0, i, acc, η, e, ha, hI => by
    have e : i = ds.length := by omega
    subst e
    rw [List.drop_length]
    exact ⟨acc, η, rfl, hI, ha⟩
  | n + 1, i, acc, η, e, ha, hI => by
    have hi : i < ds.length := by omega
    obtain ⟨o, η1, h1, h2, h3⟩ := h i hi acc η hI ha
    rw [List.drop_eq_getElem_cons hi, compL_cons, h1]
    cases o with
    | none =>
      simp only [Option.map_none, Option.toList_none, List.append_nil] at h3
      exact compL_run I h hs n (i + 1) acc η1 (by omega) (by omega) h3
    | some p =>
      simp only [Option.map_some, Option.toList_some] at h3
      obtain ⟨es, η2, h4, h5⟩ := compL_run I h hs n (i + 1) (acc ++ [p.2]) η1 (by omega) (by rw [List.length_append, List.length_singleton]; omega) h3
      refine ⟨es, η2, ?_, h5⟩
      show (if p.1 = k ∧ acc.length < sizeLine then _ else _) = _
      rw [if_pos ⟨h2 p rfl, by omega⟩]
      exact h4
theorem mix_same (h : S.hide η' vs = S.hide η vs) (hv : ∀ i ∈ vs, i < η.length) : S.mix η η' vs = η := by
  have hl : η'.length = η.length := by
    have := congrArg List.length h
    rw [hide_len, hide_len] at this; exact this
  apply List.ext_getElem?
  intro i
  by_cases hi : i ∈ vs
  · rw [mix_in hi (by rw [hl]; exact hv i hi)]
    rw [List.getElem?_eq_getElem (hv i hi)]; rfl
  · rw [mix_out hi, ← hide_out (η := η') hi, h, hide_out hi]
/-- a comprehension whose turns leave the environment as it is: φ d the item, if any -/
theorem comp_pure (φ : D → Option D) {η1 : Env} (hit : it η = .ok ds η1) (hst : S.still vs η1 = true) (hs : ds.length ≤ sizeLine) (hv : ∀ i ∈ vs, i < η1.length)
    (h : ∀ d ∈ ds, ∃ η', S.step g tt f d (S.hide η1 vs) = .ok ((φ d).map fun x => (k, x)) η' ∧ S.hide η' vs = S.hide η1 vs) : S.comp k vs it g tt f η = .ok (k + 1, .lst (ds.filterMap φ)) η1 := by
  obtain ⟨es, η2, h1, ⟨h2, h3⟩, _⟩ := compL_run (g := g) (tt := tt) (f := f) (k := k) (vs := vs) (ds := ds) (fun i acc η => acc = (ds.take i).filterMap φ ∧ η = S.hide η1 vs) (fun i hi acc η ⟨e1, e2⟩ _ => by
    obtain ⟨η', h1, h2⟩ := h _ (List.getElem_mem hi)
    rw [e2]
    refine ⟨_, η', h1, fun p hp => ?_, ?_, h2⟩
    · cases q : φ ds[i] with
      | none => rw [q] at hp; cases hp
      | some x => rw [q] at hp; cases hp; rfl
    · rw [e1, List.take_succ_eq_append_getElem hi, List.filterMap_append]
      congr 1
      cases q : φ ds[i] <;> simp [q]) hs ds.length 0 [] η1 (by omega) (Nat.zero_le _) ⟨by simp, rfl⟩
  rw [List.drop_zero] at h1
  rw [List.take_length] at h2
  unfold S.comp
  rw [hit]
  simp only [bind_ok]
  rw [if_pos hst, h1]
  simp only
  rw [mix_same h3 hv, h2]
theorem comp_map (φ : D → D) {η1 : Env} (hit : it η = .ok ds η1) (hst : S.still vs η1 = true) (hs : ds.length ≤ sizeLine) (hv : ∀ i ∈ vs, i < η1.length)
    (h : ∀ d ∈ ds, ∃ η', S.step g tt f d (S.hide η1 vs) = .ok (some (k, φ d)) η' ∧ S.hide η' vs = S.hide η1 vs) : S.comp k vs it g tt f η = .ok (k + 1, .lst (ds.map φ)) η1 := by
  rw [comp_pure (fun d => some (φ d)) hit hst hs hv h]
  congr 3
  induction ds with
  | nil => rfl
  | cons d ds ih => simp
/-- a comprehension that changes the environment: each turn gives one item -/
theorem comp_one (I : Env → Prop) (P : D → Prop) {η1 : Env} (hit : it η = .ok ds η1) (hst : S.still vs η1 = true) (hs : ds.length ≤ sizeLine) (h0 : I (S.hide η1 vs))
    (h : ∀ d ∈ ds, ∀ η, I (S.hide η vs) → ∃ e η', S.step g tt f d (S.hide η vs) = .ok (some (k, e)) η' ∧ P e ∧ I (S.hide η' vs)) :
    ∃ es η2, S.comp k vs it g tt f η = .ok (k + 1, .lst es) (S.mix η1 η2 vs) ∧ es.length = ds.length ∧ (∀ e ∈ es, P e) ∧ I (S.hide η2 vs) := by
  obtain ⟨es, η2, h1, ⟨h2, h3, h4⟩, _⟩ := compL_run (g := g) (tt := tt) (f := f) (k := k) (vs := vs) (ds := ds) (fun i acc η => acc.length = i ∧ (∀ e ∈ acc, P e) ∧ I η) (fun i hi acc η ⟨e1, e2, e3⟩ _ => by
    obtain ⟨e, η', h1, h2, h3⟩ := h _ (List.getElem_mem hi) η e3
    refine ⟨_, η', h1, fun p hp => by cases hp; rfl, by simp [e1], fun x hx => ?_, h3⟩
    simp at hx
    rcases hx with hx | hx
    · exact e2 x hx
    · subst hx; exact h2) hs ds.length 0 [] η1 (by omega) (Nat.zero_le _) ⟨rfl, fun _ h => by simp at h, h0⟩
  rw [List.drop_zero] at h1
  refine ⟨es, η2, ?_, h2, h3, h4⟩
  unfold S.comp
  rw [hit]
  simp only [bind_ok]
  rw [if_pos hst, h1]
end

/-! ### draws -/
/-- F(pot, many) draws a whole number below many, the pot stays sound -/
def IsDraw (F : FnSem) (Ok : D → Prop) : Prop := ∀ pot (m : Int), Ok pot → 0 < m → m.natAbs.log2 < 9000 → ∃ r p, 0 ≤ r ∧ r < m ∧ Ok p ∧ F [(1, pot), (0, .int m)] = .ok 0 (.int r) [.val 1 true p, .no]
end DV

/-! DV17: equality, shapes, types, worked out. -/
namespace DV
open PySem PySem.Spec PyProof.Rows L2 RZ

@[simp] theorem isi_int_non  : isiD "int" .non = some false := by show kitB "NoneType" "int" = some false; decide +kernel
@[simp] theorem isi_int_bl {b : Bool} : isiD "int" (.bl b) = some true := by show kitB "bool" "int" = some true; decide +kernel
@[simp] theorem isi_int_int {i : Int} : isiD "int" (.int i) = some true := by show kitB "int" "int" = some true; decide +kernel
@[simp] theorem isi_int_str {x : Str} : isiD "int" (.str x) = some false := by show kitB "str" "int" = some false; decide +kernel
@[simp] theorem isi_int_tup {ds : List D} : isiD "int" (.tup ds) = some false := by show kitB "tuple" "int" = some false; decide +kernel
@[simp] theorem isi_int_lst {ds : List D} : isiD "int" (.lst ds) = some false := by show kitB "list" "int" = some false; decide +kernel
@[simp] theorem isi_int_dK {kvs : List (Key × D)} : isiD "int" (.dK kvs) = some false := by show kitB "dict" "int" = some false; decide +kernel
@[simp] theorem isi_bool_non  : isiD "bool" .non = some false := by show kitB "NoneType" "bool" = some false; decide +kernel
@[simp] theorem isi_bool_bl {b : Bool} : isiD "bool" (.bl b) = some true := by show kitB "bool" "bool" = some true; decide +kernel
@[simp] theorem isi_bool_int {i : Int} : isiD "bool" (.int i) = some false := by show kitB "int" "bool" = some false; decide +kernel
@[simp] theorem isi_bool_str {x : Str} : isiD "bool" (.str x) = some false := by show kitB "str" "bool" = some false; decide +kernel
@[simp] theorem isi_bool_tup {ds : List D} : isiD "bool" (.tup ds) = some false := by show kitB "tuple" "bool" = some false; decide +kernel
@[simp] theorem isi_bool_lst {ds : List D} : isiD "bool" (.lst ds) = some false := by show kitB "list" "bool" = some false; decide +kernel
@[simp] theorem isi_bool_dK {kvs : List (Key × D)} : isiD "bool" (.dK kvs) = some false := by show kitB "dict" "bool" = some false; decide +kernel
@[simp] theorem isi_str_non  : isiD "str" .non = some false := by show kitB "NoneType" "str" = some false; decide +kernel
@[simp] theorem isi_str_bl {b : Bool} : isiD "str" (.bl b) = some false := by show kitB "bool" "str" = some false; decide +kernel
@[simp] theorem isi_str_int {i : Int} : isiD "str" (.int i) = some false := by show kitB "int" "str" = some false; decide +kernel
@[simp] theorem isi_str_str {x : Str} : isiD "str" (.str x) = some true := by show kitB "str" "str" = some true; decide +kernel
@[simp] theorem isi_str_tup {ds : List D} : isiD "str" (.tup ds) = some false := by show kitB "tuple" "str" = some false; decide +kernel
@[simp] theorem isi_str_lst {ds : List D} : isiD "str" (.lst ds) = some false := by show kitB "list" "str" = some false; decide +kernel
@[simp] theorem isi_str_dK {kvs : List (Key × D)} : isiD "str" (.dK kvs) = some false := by show kitB "dict" "str" = some false; decide +kernel
@[simp] theorem isi_tuple_non  : isiD "tuple" .non = some false := by show kitB "NoneType" "tuple" = some false; decide +kernel
@[simp] theorem isi_tuple_bl {b : Bool} : isiD "tuple" (.bl b) = some false := by show kitB "bool" "tuple" = some false; decide +kernel
@[simp] theorem isi_tuple_int {i : Int} : isiD "tuple" (.int i) = some false := by show kitB "int" "tuple" = some false; decide +kernel
@[simp] theorem isi_tuple_str {x : Str} : isiD "tuple" (.str x) = some false := by show kitB "str" "tuple" = some false; decide +kernel
@[simp] theorem isi_tuple_tup {ds : List D} : isiD "tuple" (.tup ds) = some true := by show kitB "tuple" "tuple" = some true; decide +kernel
@[simp] theorem isi_tuple_lst {ds : List D} : isiD "tuple" (.lst ds) = some false := by show kitB "list" "tuple" = some false; decide +kernel
@[simp] theorem isi_tuple_dK {kvs : List (Key × D)} : isiD "tuple" (.dK kvs) = some false := by show kitB "dict" "tuple" = some false; decide +kernel
@[simp] theorem isi_list_non  : isiD "list" .non = some false := by show kitB "NoneType" "list" = some false; decide +kernel
@[simp] theorem isi_list_bl {b : Bool} : isiD "list" (.bl b) = some false := by show kitB "bool" "list" = some false; decide +kernel
@[simp] theorem isi_list_int {i : Int} : isiD "list" (.int i) = some false := by show kitB "int" "list" = some false; decide +kernel
@[simp] theorem isi_list_str {x : Str} : isiD "list" (.str x) = some false := by show kitB "str" "list" = some false; decide +kernel
@[simp] theorem isi_list_tup {ds : List D} : isiD "list" (.tup ds) = some false := by show kitB "tuple" "list" = some false; decide +kernel
@[simp] theorem isi_list_lst {ds : List D} : isiD "list" (.lst ds) = some true := by show kitB "list" "list" = some true; decide +kernel
@[simp] theorem isi_list_dK {kvs : List (Key × D)} : isiD "list" (.dK kvs) = some false := by show kitB "dict" "list" = some false; decide +kernel
@[simp] theorem isi_dict_non  : isiD "dict" .non = some false := by show kitB "NoneType" "dict" = some false; decide +kernel
@[simp] theorem isi_dict_bl {b : Bool} : isiD "dict" (.bl b) = some false := by show kitB "bool" "dict" = some false; decide +kernel
@[simp] theorem isi_dict_int {i : Int} : isiD "dict" (.int i) = some false := by show kitB "int" "dict" = some false; decide +kernel
@[simp] theorem isi_dict_str {x : Str} : isiD "dict" (.str x) = some false := by show kitB "str" "dict" = some false; decide +kernel
@[simp] theorem isi_dict_tup {ds : List D} : isiD "dict" (.tup ds) = some false := by show kitB "tuple" "dict" = some false; decide +kernel
@[simp] theorem isi_dict_lst {ds : List D} : isiD "dict" (.lst ds) = some false := by show kitB "list" "dict" = some false; decide +kernel
@[simp] theorem isi_dict_dK {kvs : List (Key × D)} : isiD "dict" (.dK kvs) = some true := by show kitB "dict" "dict" = some true; decide +kernel
mutual
/-- no bools within -/
def nb : D → Bool
  | .non => true
  | .int _ => true
  | .str _ => true
  | .tup ds => nbL ds
  | .lst ds => nbL ds
  | _ => false
def nbL : List D → Bool
  | [] => true
  | d :: ds => nb d && nbL ds
end
mutual
theorem eqv_nb : ∀ {a b : D}, nb a = true → nb b = true → (eqv a b = true ↔ a = b)
  | .non, b, _, h => by
    cases b <;> simp [eqv, py, PyData.eqv, nb] at h ⊢
  | .int i, b, _, h => by
    cases b <;> simp [eqv, py, PyData.eqv, nb] at h ⊢
  | .str x, b, _, h => by
    cases b <;> simp [eqv, py, PyData.eqv, nb] at h ⊢
  | .tup xs, b, h', h => by
    cases b <;> simp [eqv, py, PyData.eqv, nb] at h ⊢
    exact eqvL_nb (by simpa [nb] using h') h
  | .lst xs, b, h', h => by
    cases b <;> simp [eqv, py, PyData.eqv, nb] at h ⊢
    exact eqvL_nb (by simpa [nb] using h') h
  | .bl _, _, h, _ => by simp [nb] at h
  | .dK _, _, h, _ => by simp [nb] at h
  | .dT _, _, h, _ => by simp [nb] at h
theorem eqvL_nb : ∀ {a b : List D}, nbL a = true → nbL b = true → (PyData.eqvAll (pyL a) (pyL b) = true ↔ a = b)
  | [], [], _, _ => by simp [pyL, PyData.eqvAll]
  | [], _ :: _, _, _ => by simp [pyL, PyData.eqvAll]
  | _ :: _, [], _, _ => by simp [pyL, PyData.eqvAll]
  | x :: xs, y :: ys, h, h' => by
    have h1 : nb x = true ∧ nbL xs = true := by simpa [nbL] using h
    have h2 : nb y = true ∧ nbL ys = true := by simpa [nbL] using h'
    have e1 := eqv_nb h1.1 h2.1
    have e2 := eqvL_nb h1.2 h2.2
    unfold eqv at e1
    simp only [pyL, PyData.eqvAll, Bool.and_eq_true, e1, e2, List.cons.injEq]
end
@[simp] theorem nb_non : nb .non = true := by simp [nb]
@[simp] theorem nb_int {i : Int} : nb (.int i) = true := by simp [nb]
@[simp] theorem nb_str {x : Str} : nb (.str x) = true := by simp [nb]
@[simp] theorem nb_tup {ds : List D} : nb (.tup ds) = nbL ds := by simp [nb]
@[simp] theorem nb_lst {ds : List D} : nb (.lst ds) = nbL ds := by simp [nb]
@[simp] theorem nbL_nil : nbL [] = true := by simp [nbL]
@[simp] theorem nbL_cons {d : D} {ds : List D} : nbL (d :: ds) = (nb d && nbL ds) := by simp [nbL]
theorem nbL_all : ∀ {ds : List D}, (∀ d ∈ ds, nb d = true) → nbL ds = true
  | [], _ => by simp
  | d :: ds, h => by simp [h d (by simp), nbL_all fun x hx => h x (List.mem_cons_of_mem _ hx)]
@[simp] theorem nbL_ints {ns : List Int} : nbL (ns.map .int) = true := nbL_all fun d h => by
  obtain ⟨n, _, e⟩ := List.mem_map.mp h
  subst e; simp
@[simp] theorem ok_non {n : Nat} : okD n .non = true := by simp [okD]
@[simp] theorem ok_bl {n : Nat} {b : Bool} : okD n (.bl b) = true := by simp [okD]
@[simp] theorem ok_int {n : Nat} {i : Int} : okD n (.int i) = true := by simp [okD]
@[simp] theorem ok_str {n : Nat} {x : Str} : okD n (.str x) = PyData.strOk x := by simp [okD]
@[simp] theorem ok_tup {n : Nat} {ds : List D} (h : n ≠ 0) : okD n (.tup ds) = okL (n - 1) ds := by
  cases n with
  | zero => exact absurd rfl h
  | succ n => simp [okD]
@[simp] theorem ok_lst {n : Nat} {ds : List D} (h : n ≠ 0) : okD n (.lst ds) = okL (n - 1) ds := by
  cases n with
  | zero => exact absurd rfl h
  | succ n => simp [okD]
@[simp] theorem okL_nil {n : Nat} : okL n [] = true := by simp [okL]
@[simp] theorem okL_cons {n : Nat} {d : D} {ds : List D} : okL n (d :: ds) = (okD n d && okL n ds) := by simp [okL]
theorem okL_all {n : Nat} : ∀ {ds : List D}, (∀ d ∈ ds, okD n d = true) → okL n ds = true
  | [], _ => by simp
  | d :: ds, h => by simp [h d (by simp), okL_all fun x hx => h x (List.mem_cons_of_mem _ hx)]
@[simp] theorem okL_ints {n : Nat} {ns : List Int} : okL n (ns.map .int) = true := okL_all fun d h => by
  obtain ⟨n, _, e⟩ := List.mem_map.mp h
  subst e; simp
theorem small_ok {n : Nat} (h : n ≤ 16777216) : n ≤ sizeLine := by rw [sizeLine_eq]; exact h
/-- == of data without bools -/
theorem eqD_nb {a b : D} (ha : okD 16 a = true) (hb : okD 16 b = true) (na : nb a = true) (nb' : nb b = true) [Decidable (a = b)] : eqD a b = some (decide (a = b)) := by
  unfold eqD
  rw [if_pos ⟨ha, hb⟩]
  congr 1
  rw [Bool.eq_iff_iff, eqv_nb na nb', decide_eq_true_eq]
theorem neD_nb {a b : D} (ha : okD 16 a = true) (hb : okD 16 b = true) (na : nb a = true) (nb' : nb b = true) [Decidable (a = b)] : neD a b = some (!decide (a = b)) := by
  unfold neD
  rw [if_pos ⟨ha, hb⟩]
  congr 2
  rw [Bool.eq_iff_iff, eqv_nb na nb', decide_eq_true_eq]
@[simp] theorem eqD_int {a b : Int} : eqD (.int a) (.int b) = some (decide (a = b)) := by
  unfold eqD
  rw [if_pos ⟨by simp, by simp⟩]
  congr 1
@[simp] theorem neD_int {a b : Int} : neD (.int a) (.int b) = some (!decide (a = b)) := by
  unfold neD
  rw [if_pos ⟨by simp, by simp⟩]
  congr 2
theorem eqD_self {a : D} (ha : okD 16 a = true) (na : nb a = true) : eqD a a = some true := by
  unfold eqD
  rw [if_pos ⟨ha, ha⟩, (eqv_nb na na).mpr rfl]
theorem neD_self {a : D} (ha : okD 16 a = true) (na : nb a = true) : neD a a = some false := by
  unfold neD
  rw [if_pos ⟨ha, ha⟩, (eqv_nb na na).mpr rfl]; rfl
@[simp] theorem intsOf_ints : ∀ {ns : List Int}, intsOf (ns.map .int) = some ns
  | [] => rfl
  | n :: ns => by simp [intsOf, intsOf_ints (ns := ns)]
@[simp] theorem min_l2 {a b : Int} : minD [.lst [.int a, .int b]] = some (.int (min a b)) := by
  show some (D.int (minI [a, b])) = _
  congr 2
  show (if b < a then b else a) = _
  split <;> omega
@[simp] theorem max_l2 {a b : Int} : maxD [.lst [.int a, .int b]] = some (.int (max a b)) := by
  show some (D.int (maxI [a, b])) = _
  congr 2
  show (if b > a then b else a) = _
  split <;> omega
@[simp] theorem sum_l2 {a b : Int} : sumD [.lst [.int a, .int b]] = some (.int (a + b)) := by
  show some (D.int [a, b].sum) = _
  congr 2
  simp
@[simp] theorem blsOf_bls : ∀ {bs : List Bool}, blsOf (bs.map .bl) = some bs
  | [] => rfl
  | n :: ns => by simp [blsOf, blsOf_bls (bs := ns)]
@[simp] theorem sum_ints {ns : List Int} : sumD [.lst (ns.map .int)] = some (.int ns.sum) := by simp [sumD]
@[simp] theorem all_bls {bs : List Bool} : allD [.lst (bs.map .bl)] = some (.bl (bs.all id)) := by simp [allD]
@[simp] theorem any_bls {bs : List Bool} : anyD [.lst (bs.map .bl)] = some (.bl (bs.any id)) := by simp [anyD]
theorem at_map {α β : Type} {f : α → β} {xs : List α} {i : Int} : atI (xs.map f) i = (atI xs i).map f := by
  unfold atI
  rw [List.length_map]
  cases ixN xs.length i with
  | none => rfl
  | some j => simp
@[simp] theorem at_ints {ns : List Int} {i : Int} : atI (ns.map D.int) i = (atI ns i).map D.int := at_map
@[simp] theorem rangeL_len {lo : Int} {n : Nat} : (S.rangeL lo n).length = n := by unfold S.rangeL; simp
@[simp] theorem rangeL_get {lo : Int} {n i : Nat} (h : i < (S.rangeL lo n).length) : (S.rangeL lo n)[i] = .int (lo + i) := (List.getElem_map ..).trans (by rw [List.getElem_range])
theorem rangeL_mem {lo : Int} {n : Nat} {d : D} (h : d ∈ S.rangeL lo n) : ∃ i : Nat, i < n ∧ d = .int (lo + i) := by
  unfold S.rangeL at h
  obtain ⟨i, h1, h2⟩ := List.mem_map.mp h
  exact ⟨i, List.mem_range.mp h1, h2.symm⟩
def cutI {α : Type} (ns : List α) (lo hi : Option Int) : List α := (ns.drop (HT.sIx ns.length 0 lo)).take (HT.sIx ns.length ns.length hi - HT.sIx ns.length 0 lo)
theorem cutD_map {α : Type} {f : α → D} {ns : List α} {lo hi : Option Int} : cutD (ns.map f) lo hi = (cutI ns lo hi).map f := by
  unfold cutD cutI; simp
@[simp] theorem cutD_ints {ns : List Int} {lo hi : Option Int} : cutD (ns.map .int) lo hi = (cutI ns lo hi).map .int := cutD_map
theorem cut_to {α : Type} {ns : List α} {r : Int} (h : 0 ≤ r) : cutI ns none (some r) = ns.take r.toNat := by
  unfold cutI HT.sIx
  simp only [List.drop_zero, Nat.sub_zero]
  rw [if_neg (by omega)]
  by_cases h2 : r.toNat ≤ ns.length
  · rw [Nat.min_eq_left h2]
  · rw [Nat.min_eq_right (by omega), List.take_length, List.take_of_length_le (by omega)]
theorem cut_from {α : Type} {ns : List α} {r : Int} (h : 0 ≤ r) : cutI ns (some r) none = ns.drop r.toNat := by
  unfold cutI HT.sIx
  simp only
  rw [if_neg (by omega)]
  by_cases h2 : r.toNat ≤ ns.length
  · rw [Nat.min_eq_left h2, List.take_of_length_le (by rw [List.length_drop]; omega)]
  · rw [Nat.min_eq_right (by omega), List.drop_length, List.drop_eq_nil_of_le (by omega)]; simp
theorem cutI_len_le {α : Type} {ns : List α} {lo hi : Option Int} : (cutI ns lo hi).length ≤ ns.length := by
  unfold cutI; rw [List.length_take, List.length_drop]; omega
@[simp] theorem add_tups {xs ys : List Int} (h : xs.length + ys.length ≤ 16777216) : addD (.tup (xs.map .int)) (.tup (ys.map .int)) = some (0, .tup ((xs ++ ys).map .int)) := by
  show (if (xs.map D.int).length + (ys.map D.int).length ≤ sizeLine then some (0, D.tup (xs.map .int ++ ys.map .int)) else none) = _
  rw [List.length_map, List.length_map, if_pos (small_ok h), List.map_append]
@[simp] theorem add_tup1 {xs : List Int} {i : Int} (h : xs.length + 1 ≤ 16777216) : addD (.tup (xs.map .int)) (.tup [.int i]) = some (0, .tup ((xs ++ [i]).map .int)) := add_tups (ys := [i]) h
@[simp] theorem add_lsts {xs ys : List Int} (h : xs.length + ys.length ≤ 16777216) : addD (.lst (xs.map .int)) (.lst (ys.map .int)) = some (1, .lst ((xs ++ ys).map .int)) := by
  show (if (xs.map D.int).length + (ys.map D.int).length ≤ sizeLine then some (1, D.lst (xs.map .int ++ ys.map .int)) else none) = _
  rw [List.length_map, List.length_map, if_pos (small_ok h), List.map_append]
theorem at_some {α : Type} {xs : List α} {i : Int} (h1 : -(xs.length : Int) ≤ i) (h2 : i < xs.length) : ∃ v, atI xs i = some v ∧ v ∈ xs := by
  by_cases h : 0 ≤ i
  · rw [at_nat h]
    exact ⟨_, List.getElem?_eq_getElem (show i.toNat < xs.length by omega), List.getElem_mem _⟩
  · rw [at_neg (by omega) h1]
    exact ⟨_, List.getElem?_eq_getElem (show (i + xs.length).toNat < xs.length by omega), List.getElem_mem _⟩
@[simp] theorem pop_ints {ns : List Int} (h : ns ≠ []) : popD (ns.map .int) [] = some (.int (ns.getLast h), ns.dropLast.map .int) := by
  have hl : 0 < ns.length := List.length_pos_iff.mpr h
  unfold popD
  simp [List.getElem?_map, List.getLast_eq_getElem]
/-- items are dropped from a list's end while a test says so -/
theorem pop_loop {t : ST} {c : SS} (E : List Int → Env) (per : Nat) {N : Nat} (h1 : ∀ sh, sh.length ≤ N → ∃ b, t (E sh) = .ok b (E sh) ∧ (b = true → per < sh.length))
    (h3 : ∀ sh, per < sh.length → sh.length ≤ N → c (E sh) = .ok .nx (E sh.dropLast)) {sh : List Int} (hl : per ≤ sh.length) (hN : sh.length ≤ N) : ∃ sh', S.whl t c (E sh) = .ok .nx (E sh') ∧ per ≤ sh'.length ∧ sh'.length ≤ sh.length := by
  refine whl_run E (fun x => per ≤ x.length ∧ x.length ≤ sh.length) (fun x => per ≤ x.length ∧ x.length ≤ sh.length) List.length ⟨hl, Nat.le_refl _⟩ fun x ⟨i1, i2⟩ => ?_
  obtain ⟨b, e, hb⟩ := h1 x (by omega)
  cases b with
  | false => exact .inl ⟨x, e, i1, i2⟩
  | true => exact .inr ⟨_, x.dropLast, e, .inl (h3 x (hb rfl) (by omega)), ⟨by rw [List.length_dropLast]; have := hb rfl; omega, by rw [List.length_dropLast]; omega⟩, by rw [List.length_dropLast]; have := hb rfl; omega⟩
theorem ints_of {es : List D} (h : ∀ e ∈ es, ∃ i : Int, e = .int i) : ∃ ns : List Int, es = ns.map .int := by
  induction es with
  | nil => exact ⟨[], rfl⟩
  | cons e es ih =>
    obtain ⟨i, rfl⟩ := h e (by simp)
    obtain ⟨ns, rfl⟩ := ih fun x hx => h x (List.mem_cons_of_mem _ hx)
    exact ⟨i :: ns, rfl⟩
/-- a comprehension of items that draw on what E holds -/
theorem comp_draws {it : SI} {g : SG} {tt : ST} {f : SF} {k : Nat} {vs : List Nat} {ds : List D} {η : Env} {α : Type} (E : α → Env) (Ok : α → Prop) (P : D → Prop) {p0 : α} (hit : it η = .ok ds (E p0)) (hp : Ok p0) (hst : S.still vs (E p0) = true) (hs : ds.length ≤ 16777216)
    (hv : ∀ p q, (E p).length = (E q).length ∧ ∀ i ∈ vs, i < (E p).length ∧ (E p)[i]? = (E q)[i]?)
    (h : ∀ d ∈ ds, ∀ p, Ok p → ∃ e p' η', S.step g tt f d (S.hide (E p) vs) = .ok (some (k, e)) η' ∧ P e ∧ S.hide η' vs = S.hide (E p') vs ∧ Ok p') :
    ∃ es p, S.comp k vs it g tt f η = .ok (k + 1, .lst es) (E p) ∧ Ok p ∧ es.length = ds.length ∧ ∀ e ∈ es, P e := by
  obtain ⟨es, η2, e1, e2, e3, p, e4, e5⟩ := comp_one (g := g) (tt := tt) (f := f) (k := k) (fun η => ∃ p, Ok p ∧ η = S.hide (E p) vs) P hit hst (small_ok hs) ⟨p0, hp, rfl⟩ fun d hd η ⟨p, h1, h2⟩ => by
    obtain ⟨e, p', η', h3, h4, h5, h6⟩ := h d hd p h1
    exact ⟨e, η', by rw [h2]; exact h3, h4, p', h6, h5⟩
  refine ⟨es, p, ?_, e4, e2, e3⟩
  rw [e1]
  congr 1
  have hl : η2.length = (E p).length := by
    have := congrArg List.length e5
    rw [hide_len, hide_len] at this; exact this
  apply List.ext_getElem?
  intro i
  by_cases hi : i ∈ vs
  · obtain ⟨y1, y2⟩ := (hv p0 p).2 i hi
    rw [mix_in hi (by rw [hl, ← (hv p0 p).1]; exact y1), ← y2, List.getElem?_eq_getElem y1]; rfl
  · rw [mix_out hi, ← hide_out (η := η2) hi, e5, hide_out hi]
theorem comp_ints {it : SI} {g : SG} {tt : ST} {f : SF} {vs : List Nat} {ds : List D} {η : Env} {α : Type} (E : α → Env) (Ok : α → Prop) (P : Int → Prop) {p0 : α} (hit : it η = .ok ds (E p0)) (hp : Ok p0) (hst : S.still vs (E p0) = true) (hs : ds.length ≤ 16777216)
    (hv : ∀ p q, (E p).length = (E q).length ∧ ∀ i ∈ vs, i < (E p).length ∧ (E p)[i]? = (E q)[i]?)
    (h : ∀ d ∈ ds, ∀ p, Ok p → ∃ i p' η', S.step g tt f d (S.hide (E p) vs) = .ok (some (0, .int i)) η' ∧ P i ∧ S.hide η' vs = S.hide (E p') vs ∧ Ok p') :
    ∃ ns : List Int, ∃ p, S.comp 0 vs it g tt f η = .ok (1, .lst (ns.map .int)) (E p) ∧ Ok p ∧ ns.length = ds.length ∧ ∀ n ∈ ns, P n := by
  obtain ⟨es, p, h1, h2, h3, h4⟩ := comp_draws E Ok (fun e => ∃ i : Int, e = .int i ∧ P i) hit hp hst hs hv fun d hd p hp => by
    obtain ⟨i, p', η', z1, z2, z3, z4⟩ := h d hd p hp
    exact ⟨_, p', η', z1, ⟨i, rfl, z2⟩, z3, z4⟩
  obtain ⟨ns, rfl⟩ := ints_of fun e he => let ⟨i, z, _⟩ := h4 e he; ⟨i, z⟩
  refine ⟨ns, p, h1, h2, by simpa using h3, fun n hn => ?_⟩
  obtain ⟨i, z1, z2⟩ := h4 (.int n) (List.mem_map_of_mem hn)
  cases z1; exact z2
end DV

/-! DV18: in, not in. -/
namespace DV
open PySem PySem.Spec PyProof.Rows L2 RZ
/-- x in c, c a list or a tuple of data -/
def memD (x : D) (ds : List D) : Bool := ds.any fun z => eqv z x
def inD : D → D → Option Bool
  | x, .lst ds => if okD 16 x = true ∧ okD 16 (.lst ds) = true then some (memD x ds) else none
  | x, .tup ds => if okD 16 x = true ∧ okD 16 (.tup ds) = true then some (memD x ds) else none
  | _, _ => none
def ninD (x c : D) : Option Bool := (inD x c).map (!·)
theorem pyL_any : ∀ {ds : List D} {x : D}, (pyL ds).any (fun z => PyData.eqv z (py x)) = memD x ds
  | [], _ => rfl
  | d :: ds, x => by
    have ih := pyL_any (ds := ds) (x := x)
    simp only [pyL, List.any_cons, memD] at ih ⊢
    rw [ih]; rfl
def rInT (K : PySem.W.Frag) (neg : Bool) : R2 := fun x y H Q => ∃ d ds, Dp K H x d ∧ Dp K H y (.tuple ds) ∧ SeqAt.shaped d = true ∧ SeqAt.shaped (.tuple ds) = true ∧ Q (.bl (if neg then !ds.any fun z => PyData.eqv z d else ds.any fun z => PyData.eqv z d)) H
section
variable {X : Cx}
theorem room_tup {A : Around} {ds : List PyData} {d : PyData} (sd : SeqAt.shaped d = true) (hu : A.units + 65 < cLine) : A.units + 1 + min (PyData.depthAll ds) d.depth < cLine := room_in_shaped sd hu
theorem op_inT (hu : X.A.units + 65 < cLine) : OpR X (compareOp .In) (rInT X.K false) := by
  intro pins s σ H x y v u Q I rx ry h
  obtain ⟨d, ds, hd, he, sd, se, q⟩ := h
  obtain ⟨as, r1⟩ := Dp.reads I d x v hd rx
  obtain ⟨bs, r2⟩ := Dp.reads I (.tuple ds) y u he ry
  exact SeqAt.in_tuple_reads r2 r1 (SeqAt.canLay_of_shaped se) (SeqAt.canLay_of_shaped sd) (room_in_shaped sd hu) ⟨.bl _, H, I, rfl, q⟩
theorem op_ninT (hu : X.A.units + 65 < cLine) : OpR X (compareOp .NotIn) (rInT X.K true) := by
  intro pins s σ H x y v u Q I rx ry h
  obtain ⟨d, ds, hd, he, sd, se, q⟩ := h
  obtain ⟨as, r1⟩ := Dp.reads I d x v hd rx
  obtain ⟨bs, r2⟩ := Dp.reads I (.tuple ds) y u he ry
  exact SeqAt.notIn_tuple_reads r2 r1 (SeqAt.canLay_of_shaped se) (SeqAt.canLay_of_shaped sd) (room_in_shaped sd hu) ⟨.bl _, H, I, rfl, q⟩
def rInA (K : PySem.W.Frag) : R2 := fun x y H Q => rInD K x y H Q ∨ rInT K false x y H Q
def rNinA (K : PySem.W.Frag) : R2 := fun x y H Q => rNotInD K x y H Q ∨ rInT K true x y H Q
theorem op_inA (hu : X.A.units + 65 < cLine) : OpR X (compareOp .In) (rInA X.K) := (op_inD hu).or (op_inT hu)
theorem op_ninA (hu : X.A.units + 65 < cLine) : OpR X (compareOp .NotIn) (rNinA X.K) := (op_notInD hu).or (op_ninT hu)
variable {K : PySem.W.Frag}
theorem cz_in : Cmp2 (rInA K) inD := by
  intro H v w dx dy b Q rx ry h q
  unfold inD at h
  split at h <;> try cases h
  · split at h <;> cases h
    rename_i ho
    refine .inl ⟨py dx, _, rx.dp 16 _ _ ho.1, ry.dp 16 _ _ ho.2, shaped_ok ho.1, shaped_ok ho.2, ?_⟩
    rw [pyL_any]; exact q
  · split at h <;> cases h
    rename_i ho
    refine .inr ⟨py dx, _, rx.dp 16 _ _ ho.1, ry.dp 16 _ _ ho.2, shaped_ok ho.1, shaped_ok ho.2, ?_⟩
    rw [pyL_any]; exact q
theorem cz_nin : Cmp2 (rNinA K) ninD := by
  intro H v w dx dy b Q rx ry h q
  unfold ninD inD at h
  split at h <;> try cases h
  · split at h <;> cases h
    rename_i ho
    refine .inl ⟨py dx, _, rx.dp 16 _ _ ho.1, ry.dp 16 _ _ ho.2, shaped_ok ho.1, shaped_ok ho.2, ?_⟩
    rw [pyL_any]; exact q
  · split at h <;> cases h
    rename_i ho
    refine .inr ⟨py dx, _, rx.dp 16 _ _ ho.1, ry.dp 16 _ _ ho.2, shaped_ok ho.1, shaped_ok ho.2, ?_⟩
    show Q (.bl (!(pyL _).any _)) H
    rw [pyL_any]; exact q
end
theorem u65 {k : Nat} {A : Around} (hr : Room k A) : A.units + 65 < cLine := by have := hr.un; omega
theorem memD_nb {x : D} {ds : List D} (hx : nb x = true) (hd : nbL ds = true) : memD x ds = true ↔ x ∈ ds := by
  induction ds with
  | nil => simp [memD]
  | cons d ds ih =>
    have h : nb d = true ∧ nbL ds = true := by simpa using hd
    have e := eqv_nb h.1 hx
    have ih := ih h.2
    simp only [memD, List.any_cons, Bool.or_eq_true, List.mem_cons] at ih ⊢
    rw [e, ih]
    constructor
    · rintro (z | z)
      · exact .inl z.symm
      · exact .inr z
    · rintro (z | z)
      · exact .inl z.symm
      · exact .inr z
theorem inL {x : D} {ds : List D} (h1 : okD 16 x = true) (h2 : okD 16 (.lst ds) = true) : inD x (.lst ds) = some (memD x ds) := if_pos ⟨h1, h2⟩
theorem inT {x : D} {ds : List D} (h1 : okD 16 x = true) (h2 : okD 16 (.tup ds) = true) : inD x (.tup ds) = some (memD x ds) := if_pos ⟨h1, h2⟩
theorem memD_map {α : Type} {f : α → D} {x : α} {xs : List α} (inj : ∀ a b, f a = f b → a = b) (nf : ∀ a, nb (f a) = true) [DecidableEq α] : memD (f x) (xs.map f) = decide (x ∈ xs) := by
  rw [Bool.eq_iff_iff, memD_nb (nf x) (nbL_all fun d h => by obtain ⟨a, _, e⟩ := List.mem_map.mp h; rw [← e]; exact nf a), decide_eq_true_eq]
  constructor
  · intro h
    obtain ⟨a, h1, h2⟩ := List.mem_map.mp h
    rw [← inj a x h2]; exact h1
  · exact fun h => List.mem_map_of_mem h
end DV

/-! DV19: dicts. -/
namespace DV
open PySem PySem.Spec PyProof.Rows L2 RZ
def keyD : D → Option Key
  | .int i => some (.inl i)
  | .str x => some (.inr x)
  | _ => none
def keysD : List D → Option (List Key)
  | [] => some []
  | d :: ds => (keyD d).bind fun k => (keysD ds).map (k :: ·)
def keyV : Key → D
  | .inl i => .int i
  | .inr x => .str x
section
variable {κ : Type} [DecidableEq κ]
def lookD (kvs : List (κ × D)) (k : κ) : Option D := (kvs.find? fun kv => decide (kv.1 = k)).map (·.2)
def putD (kvs : List (κ × D)) (k : κ) (v : D) : List (κ × D) :=
  if (kvs.any fun kv => decide (kv.1 = k)) = true then kvs.map (fun kv => if kv.1 = k then (kv.1, v) else kv) else kvs ++ [(k, v)]
theorem look_rep {G : Hp} {k : κ} : ∀ {vs : List (κ × V)} {ds : List (κ × D)}, vs.map (·.1) = ds.map (·.1) → RepL G (vs.map (·.2)) (ds.map (·.2)) → match lookD ds k with
    | some d => ∃ v, valV vs k = some v ∧ Rep G v d
    | none => valV vs k = none
  | [], [], _, _ => rfl
  | [], _ :: _, e, _ => by cases e
  | _ :: _, [], e, _ => by cases e
  | (a, v) :: vs, (b, d) :: ds, e, r => by
    simp only [List.map_cons, List.cons.injEq] at e r
    cases r with
    | cons r1 r2 =>
      have ih := look_rep (k := k) e.2 r2
      obtain ⟨e1, e2⟩ := e
      subst e1
      by_cases h : a = k
      · subst h
        simp only [lookD, valV, List.find?_cons, decide_true, Option.map_some]
        exact ⟨v, rfl, r1⟩
      · simp only [lookD, valV, List.find?_cons, h, decide_false] at ih ⊢
        exact ih
theorem put_keys {k : κ} {v : V} {d : D} {vs : List (κ × V)} {ds : List (κ × D)} (e : vs.map (·.1) = ds.map (·.1)) : (putK vs k v).map (·.1) = (putD ds k d).map (·.1) := by
  have h : (vs.any fun kv => decide (kv.1 = k)) = ds.any fun kv => decide (kv.1 = k) := by
    have a : ∀ l : List (κ × V), (l.any fun kv => decide (kv.1 = k)) = (l.map (·.1)).any fun x => decide (x = k) := fun l => by rw [List.any_map]; rfl
    have b : ∀ l : List (κ × D), (l.any fun kv => decide (kv.1 = k)) = (l.map (·.1)).any fun x => decide (x = k) := fun l => by rw [List.any_map]; rfl
    rw [a, b, e]
  unfold putK putD
  rw [h]
  split
  · rw [List.map_map, List.map_map]
    have a : (vs.map ((·.1) ∘ fun kv => if kv.1 = k then (kv.1, v) else kv)) = vs.map (·.1) := List.map_congr_left fun p _ => by simp only [Function.comp]; split <;> rfl
    have b : (ds.map ((·.1) ∘ fun kv => if kv.1 = k then (kv.1, d) else kv)) = ds.map (·.1) := List.map_congr_left fun p _ => by simp only [Function.comp]; split <;> rfl
    rw [a, b, e]
  · simp [e]
theorem put_rep {G : Hp} {k : κ} {v : V} {d : D} (rv : Rep G v d) {vs : List (κ × V)} {ds : List (κ × D)} (e : vs.map (·.1) = ds.map (·.1)) (r : RepL G (vs.map (·.2)) (ds.map (·.2))) : RepL G ((putK vs k v).map (·.2)) ((putD ds k d).map (·.2)) := by
  have h : (vs.any fun kv => decide (kv.1 = k)) = ds.any fun kv => decide (kv.1 = k) := by
    have a : ∀ l : List (κ × V), (l.any fun kv => decide (kv.1 = k)) = (l.map (·.1)).any fun x => decide (x = k) := fun l => by rw [List.any_map]; rfl
    have b : ∀ l : List (κ × D), (l.any fun kv => decide (kv.1 = k)) = (l.map (·.1)).any fun x => decide (x = k) := fun l => by rw [List.any_map]; rfl
    rw [a, b, e]
  unfold putK putD
  rw [h]
  split
  · clear h
    rename_i hh
    clear hh
    induction vs generalizing ds with
    | nil => cases ds with
      | nil => exact .nil
      | cons _ _ => cases e
    | cons p vs ih => cases ds with
      | nil => cases e
      | cons q ds =>
        obtain ⟨a, v'⟩ := p
        obtain ⟨b, d'⟩ := q
        simp only [List.map_cons, List.cons.injEq] at e r ⊢
        obtain ⟨e1, e2⟩ := e
        subst e1
        cases r with
        | cons r1 r2 =>
          by_cases hk : a = k
          · simp only [hk, if_true]; exact .cons rv (ih e2 r2)
          · simp only [hk, if_false]; exact .cons r1 (ih e2 r2)
  · rw [List.map_append, List.map_append]
    exact r.append (.cons rv .nil)
end
theorem key_rep {G : Hp} {v : V} {d : D} {k : Key} (r : Rep G v d) (h : keyD d = some k) : v = kV k := by
  cases d <;> simp only [keyD] at h <;> cases h <;> cases r <;> rfl
theorem keys_rep {G : Hp} : ∀ {vs : List V} {ds : List D} {ks : List Key}, RepL G vs ds → keysD ds = some ks → vs = ks.map kV
  | _, _, _, .nil, h => by cases h; rfl
  | _, _, ks, .cons (d := d) (ds := ds) r t, h => by
    have h : (keyD d).bind (fun k => (keysD ds).map (k :: ·)) = some ks := h
    cases e1 : keyD d with
    | none => rw [e1] at h; cases h
    | some k =>
      rw [e1] at h
      have h : (keysD ds).map (k :: ·) = some ks := h
      cases e2 : keysD ds with
      | none => rw [e2] at h; cases h
      | some ks' =>
        rw [e2] at h; cases h
        rw [key_rep r e1, keys_rep t e2]; rfl
/-- what a dict tells of a key -/
def getD' : D → D → Option (Option D)
  | .dK kvs, k => (keyD k).map (lookD kvs)
  | .dT kvs, .tup ks => (keysD ks).map (lookD kvs)
  | _, _ => none
def DgetOk (G H : Hp) (a : Addr) (w : V) : Option D → Prop
  | some d => ∃ u, DGet H a w (some u) ∧ Rep G u d
  | none => DGet H a w none
theorem dget_rep {G H : Hp} {v w : V} {dx dy : D} {o : Option D} (s : Sub G H) (bx : Bor G H v dx) (by' : Bor G H w dy) (h : getD' dx dy = some o) : ∃ a, v = .ref a ∧ DgetOk G H a w o := by
  cases dx <;> first | (cases h; done) | skip
  · rename_i kvs
    have h : (keyD dy).map (lookD kvs) = some o := h
    cases e : keyD dy with
    | none => rw [e] at h; cases h
    | some k =>
      rw [e] at h; cases h
      obtain ⟨a, vs, rfl, h1, h2, h3⟩ := bx.dK s
      have ew : w = kV k := key_rep (by'.rep s) e
      refine ⟨a, rfl, ?_⟩
      have l := look_rep (k := k) h2 h3
      cases q : lookD kvs k with
      | none => rw [q] at l; exact .inl ⟨vs, k, h1, ew, l.symm⟩
      | some d => rw [q] at l; obtain ⟨u, y1, y2⟩ := l; exact ⟨u, .inl ⟨vs, k, h1, ew, y1.symm⟩, y2⟩
  · rename_i kvs
    cases dy <;> first | (cases h; done) | skip
    rename_i ks
    have h : (keysD ks).map (lookD kvs) = some o := h
    cases e : keysD ks with
    | none => rw [e] at h; cases h
    | some k =>
      rw [e] at h; cases h
      obtain ⟨a, vs, rfl, h1, h2, h3⟩ := bx.dT s
      obtain ⟨b, ws, rfl, h4, h5⟩ := by'.tup s
      have ew : ws = k.map kV := keys_rep h5 e
      subst ew
      refine ⟨a, rfl, ?_⟩
      have l := look_rep (k := k) h2 h3
      cases q : lookD kvs k with
      | none => rw [q] at l; exact .inr ⟨vs, k, b, h1, rfl, s.tp _ _ h4, l.symm⟩
      | some d => rw [q] at l; obtain ⟨u, y1, y2⟩ := l; exact ⟨u, .inr ⟨vs, k, b, h1, rfl, s.tp _ _ h4, y1.symm⟩, y2⟩
/-! ### d[k] beside xs[i] -/
def ixA : D → D → Option (Nat × D)
  | .dK kvs, k => ((getD' (.dK kvs) k).bind id).map (0, ·)
  | .dT kvs, k => ((getD' (.dT kvs) k).bind id).map (0, ·)
  | x, y => ixD x y
def rIxDct : R2 := fun x y H Q => ∃ a v, x = .ref a ∧ DGet H a y (some v) ∧ Q v H
section
variable {X : Cx}
theorem ix_dct (hu : X.A.units + 1 < cLine) : IxR X rIxDct := by
  intro value slice pins s σ H x y v u Q I rx ry h hs
  obtain ⟨a, w, rfl, g, q⟩ := h
  cases rx
  exact tail_any (dict_typeIs I g) PySem.F.slot_dict_getitem.lookup (d_getItem hu I g ry fun w' s3 I3 rw' => ⟨w, H, I3, rw', q⟩) hs
def rIxA (K : PySem.W.Frag) : R2 := fun x y H Q => rIx K x y H Q ∨ rIxDct x y H Q
theorem ix_all (hu : X.A.units + 1 < cLine) : IxR X (rIxA X.K) := ix_seq.or (ix_dct hu)
theorem sz_ixA {K : PySem.W.Frag} : Op2 (rIxA K) ixA := by
  intro G H v w dx dy k d Q s bx by' h fin
  unfold ixA at h
  split at h
  · rename_i kvs
    cases e : getD' (.dK kvs) dy with
    | none => rw [e] at h; cases h
    | some o =>
      rw [e] at h
      cases o with
      | none => cases h
      | some d' =>
        cases h
        obtain ⟨a, rfl, u, g, r⟩ := dget_rep s bx by' e
        exact .inr ⟨a, u, rfl, g, fin.same s r⟩
  · rename_i kvs
    cases e : getD' (.dT kvs) dy with
    | none => rw [e] at h; cases h
    | some o =>
      rw [e] at h
      cases o with
      | none => cases h
      | some d' =>
        cases h
        obtain ⟨a, rfl, u, g, r⟩ := dget_rep s bx by' e
        exact .inr ⟨a, u, rfl, g, fin.same s r⟩
  · exact .inl (sz_ix G H v w dx dy k d Q s bx by' h fin)
variable {L : Lents} {W : WX} {e a b c tg it : Expr} {es : List Expr} {pos : Pos} {ss : List Stmt}
theorem jf_ixA {oa ob : Opd} (hu : X.A.units + 1 < cLine) (ha : PE X a (tO X.K L W oa)) (hb : PE X b (tO X.K L W ob)) (hs : PlainIx b) : PE X (.Subscript a b pos) (tF X.K L W (S.bin ixA oa ob)) :=
  PE.imp (pe_ix (ix_all hu) ha hb hs) fun σ H Q h => bin_use sz_ixA h
end
@[simp] theorem ixA_lst {ds : List D} {k : D} : ixA (.lst ds) k = ixD (.lst ds) k := rfl
@[simp] theorem ixA_tup {ds : List D} {k : D} : ixA (.tup ds) k = ixD (.tup ds) k := rfl
@[simp] theorem ixA_str {x : Str} {k : D} : ixA (.str x) k = ixD (.str x) k := rfl
theorem u1 {k : Nat} {A : Around} (hr : Room k A) : A.units + 1 < cLine := by have := hr.un; omega

/-! ### in: values frozen or of one level -/
def inA : D → D → Option Bool
  | k, .dK kvs => (getD' (.dK kvs) k).map (·.isSome)
  | k, .dT kvs => (getD' (.dT kvs) k).map (·.isSome)
  | x, c => inD x c
def ninA (x c : D) : Option Bool := (inA x c).map (!·)
def rInDct (neg : Bool) : R2 := fun x y H Q => ∃ a o, y = .ref a ∧ DGet H a x o ∧ Q (.bl (if neg then !o.isSome else o.isSome)) H
section
variable {X : Cx}
theorem op_inDct (hu : X.A.units + 1 < cLine) : OpR X (compareOp .In) (rInDct false) := by
  intro pins s σ H x y v u Q I rx ry h
  obtain ⟨a, o, rfl, g, q⟩ := h
  cases ry
  exact d_in hu I g rx fun s3 I3 => ⟨.bl o.isSome, H, I3, rfl, q⟩
theorem op_ninDct (hu : X.A.units + 1 < cLine) : OpR X (compareOp .NotIn) (rInDct true) := by
  intro pins s σ H x y v u Q I rx ry h
  obtain ⟨a, o, rfl, g, q⟩ := h
  cases ry
  exact d_notIn hu I g rx fun s3 I3 => ⟨.bl (!o.isSome), H, I3, rfl, q⟩
def rInB' (K : PySem.W.Frag) : R2 := fun x y H Q => rInA K x y H Q ∨ rInDct false x y H Q
def rNinB' (K : PySem.W.Frag) : R2 := fun x y H Q => rNinA K x y H Q ∨ rInDct true x y H Q
theorem op_inB (hu : X.A.units + 65 < cLine) : OpR X (compareOp .In) (rInB' X.K) := (op_inA hu).or (op_inDct (by omega))
theorem op_ninB (hu : X.A.units + 65 < cLine) : OpR X (compareOp .NotIn) (rNinB' X.K) := (op_ninA hu).or (op_ninDct (by omega))
theorem getD_top {H : Hp} {v w : V} {dx dy : D} {o : Option D} (rx : Rep H v dx) (ry : Rep H w dy) (h : getD' dx dy = some o) : ∃ a r, v = .ref a ∧ DGet H a w r ∧ r.isSome = o.isSome := by
  obtain ⟨a, e, g⟩ := dget_rep (Sub.refl H) (.inl rx) (.inl ry) h
  cases o with
  | none => exact ⟨a, none, e, g, rfl⟩
  | some d => obtain ⟨u, g, _⟩ := g; exact ⟨a, some u, e, g, rfl⟩
theorem cz_inB {K : PySem.W.Frag} : Cmp2 (rInB' K) inA := by
  intro H v w dx dy b Q rx ry h q
  unfold inA at h
  split at h
  · rename_i kvs
    cases e : getD' (.dK kvs) dx with
    | none => rw [e] at h; cases h
    | some o =>
      rw [e] at h; cases h
      obtain ⟨a, r, rfl, g, e2⟩ := getD_top ry rx e
      exact .inr ⟨a, r, rfl, g, by rw [e2]; exact q⟩
  · rename_i kvs
    cases e : getD' (.dT kvs) dx with
    | none => rw [e] at h; cases h
    | some o =>
      rw [e] at h; cases h
      obtain ⟨a, r, rfl, g, e2⟩ := getD_top ry rx e
      exact .inr ⟨a, r, rfl, g, by rw [e2]; exact q⟩
  · exact .inl (cz_in H v w dx dy b Q rx ry h q)
theorem cz_ninB {K : PySem.W.Frag} : Cmp2 (rNinB' K) ninA := by
  intro H v w dx dy b Q rx ry h q
  unfold ninA inA at h
  split at h
  · rename_i kvs
    cases e : getD' (.dK kvs) dx with
    | none => rw [e] at h; cases h
    | some o =>
      rw [e] at h; cases h
      obtain ⟨a, r, rfl, g, e2⟩ := getD_top ry rx e
      exact .inr ⟨a, r, rfl, g, by rw [e2]; exact q⟩
  · rename_i kvs
    cases e : getD' (.dT kvs) dx with
    | none => rw [e] at h; cases h
    | some o =>
      rw [e] at h; cases h
      obtain ⟨a, r, rfl, g, e2⟩ := getD_top ry rx e
      exact .inr ⟨a, r, rfl, g, by rw [e2]; exact q⟩
  · exact .inl (cz_nin H v w dx dy b Q rx ry h q)
end
@[simp] theorem inA_lst {x : D} {ds : List D} : inA x (.lst ds) = inD x (.lst ds) := rfl
@[simp] theorem inA_tup {x : D} {ds : List D} : inA x (.tup ds) = inD x (.tup ds) := rfl
end DV

/-! DV20: dicts: made, written, counted, walked. -/
namespace DV
open PySem PySem.Spec PyProof.Rows L2 RZ
section
variable {L : Lents} {σ : Sig} {G H : Hp} {η : Env} {Fs : Feet}
/-- the one object of a slot is written -/
theorem Rel.writeAny (R : Rel L G η σ H Fs) {j : Nat} {l : Bool} {d d' : D} {a : Addr} {o' : HO} (e : η[j]? = some (.val 1 l d)) (h1 : σ[j]? = some (some (.ref a))) (e3 : Fs j = [a]) (x : Own G (upd H a o') 1 (.ref a) d' [a]) :
    Rel L G (η.set j (.val 1 l d')) σ (upd H a o') Fs ∧ Ext G H Fs G (upd H a o') Fs := by
  have dis : G a = none := R.dis j a (by rw [e3]; exact List.mem_cons_self)
  have fl : foot (fun i => if i = j then [a] else []) a := ⟨j, by show a ∈ (if j = j then [a] else []); rw [if_pos rfl]; exact List.mem_cons_self⟩
  have E := Ext.upd1 (G := G) (H := H) (o := o') fl
  obtain ⟨r1, r2⟩ := R.swap e h1 E (R.sub.upd_out dis) (fun b ⟨i, hb⟩ => by
    have hb : b ∈ (if i = j then [a] else []) := hb
    by_cases hi : i = j
    · subst hi; rw [if_pos rfl] at hb; rw [e3]; exact hb
    · rw [if_neg hi] at hb; simp at hb) (k' := 1) (d' := d') (F' := [a]) x (by simp) (fun b hb => by
      have z : b = a := by simpa using hb
      subst z; exact dis) fun b hb => by
      have z : b = a := by simpa using hb
      subst z; exact fl
  have ef : setF Fs j [a] = Fs := by
    funext i
    by_cases hi : i = j
    · subst hi; rw [setF_same, e3]
    · rw [setF_ne hi]
  rw [ef] at r1 r2
  exact ⟨r1, r2⟩
theorem Rel.writeK (R : Rel L G η σ H Fs) {j : Nat} {l : Bool} {kvs : List (Key × D)} (e : η[j]? = some (.val 1 l (.dK kvs))) :
    ∃ a vs, σ[j]? = some (some (.ref a)) ∧ H a = some (.dK vs) ∧ vs.map (·.1) = kvs.map (·.1) ∧ RepL G (vs.map (·.2)) (kvs.map (·.2)) ∧ ∀ vs' kvs', vs'.map (·.1) = kvs'.map (·.1) → RepL G (vs'.map (·.2)) (kvs'.map (·.2)) →
      Rel L G (η.set j (.val 1 l (.dK kvs'))) σ (upd H a (.dK vs')) Fs ∧ Ext G H Fs G (upd H a (.dK vs')) Fs := by
  obtain ⟨v, h1, ⟨a, vs, F, e1, e2, e3, e5, e4⟩, h3⟩ := R.slot j 1 l (.dK kvs) e
  subst e1
  obtain ⟨r, e6⟩ := e4.to0
  subst e6
  exact ⟨a, vs, h1, e2, e5, r, fun vs' kvs' k' r' => R.writeAny e h1 e3 ⟨a, vs', [], rfl, upd_same, rfl, k', OwnL.of0 r'⟩⟩
theorem Rel.writeT (R : Rel L G η σ H Fs) {j : Nat} {l : Bool} {kvs : List (List Key × D)} (e : η[j]? = some (.val 1 l (.dT kvs))) :
    ∃ a vs, σ[j]? = some (some (.ref a)) ∧ H a = some (.dT vs) ∧ vs.map (·.1) = kvs.map (·.1) ∧ RepL G (vs.map (·.2)) (kvs.map (·.2)) ∧ ∀ vs' kvs', vs'.map (·.1) = kvs'.map (·.1) → RepL G (vs'.map (·.2)) (kvs'.map (·.2)) →
      Rel L G (η.set j (.val 1 l (.dT kvs'))) σ (upd H a (.dT vs')) Fs ∧ Ext G H Fs G (upd H a (.dT vs')) Fs := by
  obtain ⟨v, h1, ⟨a, vs, F, e1, e2, e3, e5, e4⟩, h3⟩ := R.slot j 1 l (.dT kvs) e
  subst e1
  obtain ⟨r, e6⟩ := e4.to0
  subst e6
  exact ⟨a, vs, h1, e2, e5, r, fun vs' kvs' k' r' => R.writeAny e h1 e3 ⟨a, vs', [], rfl, upd_same, rfl, k', OwnL.of0 r'⟩⟩
end
/-- c[k] = d -/
def stD : D → D → D → Option D
  | .lst ds, .int i, d => (ixN ds.length i).map fun m => .lst (ds.set m d)
  | .dK kvs, k, d => if kvs.length < sizeLine then (keyD k).map fun k => .dK (putD kvs k d) else none
  | .dT kvs, .tup ks, d => if kvs.length < sizeLine then (keysD ks).map fun k => .dT (putD kvs k d) else none
  | _, _, _ => none
namespace S
def setA (j : Nat) (f g : SE) : SS := fun η => (f η).bind fun d η1 => match η1[j]? with
  | some (.val _ _ _) => (g η1).bind fun y η2 => match η2[j]? with
    | some (.val 1 l c) => (match stD c y d with
      | some c' => .ok .nx (η2.set j (.val 1 l c'))
      | none => .bad)
    | _ => .bad
  | _ => .bad
def dnew (d : D) : SF := fun η => .ok (1, d) η
end S
def rSetA : TSet := fun o i v H Q => rSetL o i v H Q ∨ rSetD o i v H Q
theorem map_len {α β γ : Type} {xs : List (α × β)} {ys : List (α × γ)} (h : xs.map (·.1) = ys.map (·.1)) : xs.length = ys.length := by
  have := congrArg List.length h
  rw [List.length_map, List.length_map] at this; exact this
section
variable {X : Cx} {L : Lents} {W : WX} {e a b c tg it : Expr} {es : List Expr} {pos : Pos} {ss : List Stmt}
theorem set_any (hu : X.A.units + 1 < cLine) : PSet X rSetA := by
  intro pins s σ H o i v ov iv u Q I ro ri rv h
  rcases h with h | h
  · exact set_list pins s σ H o i v ov iv u Q I ro ri rv h
  · exact set_dict hu pins s σ H o i v ov iv u Q I ro ri rv h
theorem js_setA {o i : Expr} {j : Nat} {f g : SE} {p : Pos} (hu : X.A.units + 1 < cLine) (he : PE X e (tE X.K L W f)) (ho : PE X o (tVar j)) (hi : PE X i (tE X.K L W g))
    (hst : ∀ v, assign (.Subscript o i p) X.env v = (do
      let ov ← holding [v] (eval o X.env)
      let iv ← holding [v, ov] (eval i X.env)
      standAt p
      holding [v, ov, iv] (setItem ov iv v)
      release [v, ov, iv] []) := by intro _; rfl)
    (hs : swapsWithSole [.Subscript o i p] e pos.line X.env = pure false := by rfl) (hw : swappedStores [.Subscript o i p] e X.env = pure none := by rfl) (h1 : (assignEach [.Subscript o i p] X.env).map (·.2) = [assign (.Subscript o i p) X.env] := by rfl) :
    PS X (.Assign [.Subscript o i p] e pos) (tS X.K L W (S.setA j f g)) := by
  refine PS.imp (ps_asg he (pg_sub ho hi (set_any hu) hst) hs hw h1) fun D σ H ⟨G, η, Fs, R, q⟩ => ⟨G, η, Fs, R, (ResS.bind q).mono fun d η1 G1 H1 Fs1 R1 E1 q1 v rv => ?_⟩
  cases z : η1[j]? with
  | none => simp only [z] at q1; exact q1.elim
  | some sl =>
    cases sl with
    | no => simp only [z] at q1; exact q1.elim
    | val k l d0 =>
      simp only [z] at q1
      obtain ⟨x, hx, _⟩ := R1.slot j k l d0 z
      refine ⟨x, hx, G1, η1, Fs1, R1, (ResS.bind q1).mono fun y η2 G2 H2 Fs2 R2 E2 q2 w rw' => ?_⟩
      cases z2 : η2[j]? with
      | none => simp only [z2] at q2; exact q2.elim
      | some sl2 =>
        rw [z2] at q2
        split at q2
        · rename_i l2 c y2
          have z2 := z2.trans y2
          cases hc : stD c y d with
          | none => rw [hc] at q2; exact q2.elim
          | some c' =>
            rw [hc] at q2
            have rv2 := rv.mono E2.g.sub
            cases c <;> first | (cases hc; done) | skip
            · rename_i ds
              cases y <;> first | (cases hc; done) | skip
              rename_i i
              cases hm : ixN ds.length i with
              | none => simp only [stD, hm] at hc; cases hc
              | some m =>
                simp only [stD, hm, Option.map_some] at hc
                cases hc
                cases rw'
                obtain ⟨a, vs, s1, s2, s3, s4⟩ := R2.write1 z2
                rw [hx] at s1; cases s1
                obtain ⟨r1, r2⟩ := s4 (vs.set m v) (ds.set m d) (RepL.set rv2 m s3)
                exact .inl ⟨a, vs, i, m, rfl, rfl, s2, by rw [s3.length]; exact hm, q2 σ G2 _ Fs2 r1 r2⟩
            · rename_i kvs
              have hc : (if kvs.length < sizeLine then (keyD y).map fun k => DV.D.dK (putD kvs k d) else none) = some c' := hc
              split at hc
              · rename_i hz
                cases hk : keyD y with
                | none => rw [hk] at hc; cases hc
                | some k =>
                  rw [hk] at hc; cases hc
                  obtain ⟨a, vs, s1, s2, s3, s4, s5⟩ := R2.writeK z2
                  rw [hx] at s1; cases s1
                  obtain ⟨r1, r2⟩ := s5 (putK vs k v) (putD kvs k d) (put_keys s3) (put_rep rv2 s3 s4)
                  exact .inr ⟨a, _, rfl, .inl ⟨vs, k, s2, key_rep rw' hk, by rw [map_len s3]; exact hz, rfl⟩, q2 σ G2 _ Fs2 r1 r2⟩
              · cases hc
            · rename_i kvs
              cases y <;> first | (cases hc; done) | skip
              rename_i ks
              have hc : (if kvs.length < sizeLine then (keysD ks).map fun k => DV.D.dT (putD kvs k d) else none) = some c' := hc
              split at hc
              · rename_i hz
                cases hk : keysD ks with
                | none => rw [hk] at hc; cases hc
                | some k =>
                  rw [hk] at hc; cases hc
                  obtain ⟨a, vs, s1, s2, s3, s4, s5⟩ := R2.writeT z2
                  rw [hx] at s1; cases s1
                  cases rw' with
                  | tup t1 t2 =>
                    have ew := keys_rep t2 hk
                    subst ew
                    obtain ⟨r1, r2⟩ := s5 (putK vs k v) (putD kvs k d) (put_keys s3) (put_rep rv2 s3 s4)
                    exact .inr ⟨a, _, rfl, .inr ⟨vs, k, _, s2, rfl, R2.sub.tp _ _ t1, by rw [map_len s3]; exact hz, rfl⟩, q2 σ G2 _ Fs2 r1 r2⟩
              · cases hc
        · exact q2.elim
theorem new_own1 {σ : Sig} {G H : Hp} {η : Env} {Fs : Feet} {Q : VK} {p : Addr} {o : HO} {d : D} (R : Rel L G η σ H Fs) (hp : H p = none) (x : Own G (upd H p o) 1 (.ref p) d [p])
    (q : Res X.K L W σ G H Fs (fun p _ G' H' Fs' => ∀ v F, Apart G' H' Fs' p.1 v p.2 F → (∀ a ∈ F, foot Fs a ∨ H a = none) → Q v H') (.ok (1, d) η)) : Q (.ref p) (upd H p o) := by
  have N := New.own (o := o) R.sub hp
  refine q _ _ _ (R.new N) N.ext _ [p] ⟨x, by simp, fun a ha => ?_, fun a ha => ?_⟩ fun a ha => ?_
  · have e : a = p := by simpa using ha
    subst e; exact R.sub.free hp
  · have e : a = p := by simpa using ha
    subst e; exact R.noFoot hp
  · have e : a = p := by simpa using ha
    subst e; exact .inr hp
theorem jf_dnewK : PE X (.Dict [] [] pos) (tF X.K L W (S.dnew (.dK []))) :=
  PE.imp pe_dnewK fun σ H Q ⟨G, η, Fs, R, q⟩ p hp => new_own1 (d := .dK []) R hp ⟨p, [], [], rfl, upd_same, rfl, rfl, .nil⟩ q
theorem jf_dnewT : PE X (.Dict [] [] pos) (tF X.K L W (S.dnew (.dT []))) :=
  PE.imp pe_dnewT fun σ H Q ⟨G, η, Fs, R, q⟩ p hp => new_own1 (d := .dT []) R hp ⟨p, [], [], rfl, upd_same, rfl, rfl, .nil⟩ q
end
end DV

/-! DV21: loops and comprehensions over a dict that a name holds. -/
namespace DV
open PySem PySem.Spec PyProof.Rows L2 RZ
def keysOf : D → Option (List D)
  | .dK kvs => some (kvs.map fun p => keyV p.1)
  | .dT kvs => some (kvs.map fun p => .tup (p.1.map keyV))
  | _ => none
namespace S
def keys (j : Nat) : SI := fun η => (S.var j η).bind fun d η1 => lift (keysOf d) η1
def forsD (j : Nat) (g : SG) (body : SS) : SS := fun η => match S.fors (keys j) g body η with
  | .ok fl η' => .ok fl η'
  | _ => .bad
/-- a value made while the dict of a name is walked -/
def locked (f : SF) : SF := fun η => match f η with
  | .ok p η' => .ok p η'
  | _ => .bad
end S
def Dct : HO → Prop
  | .dK _ => True
  | .dT _ => True
  | _ => False
section
variable {L : Lents} {σ : Sig} {G H G' H' : Hp} {η : Env} {Fs Fs' : Feet} {a : Addr} {u : HO} {od : Obj}
theorem Rel.reH (R : Rel L G η σ H Fs) (s : Sub G H') (h : ∀ b, foot Fs b → H' b = H b) : Rel L G η σ H' Fs where
  sub := s
  len := R.len
  wid := R.wid
  slot := fun i k l d e => by
    obtain ⟨v, y1, y2, y3⟩ := R.slot i k l d e
    exact ⟨v, y1, y2.mono (Sub.refl G) k fun b hb => h b ⟨i, hb⟩, y3⟩
  emp := R.emp
  nod := R.nod
  dis := R.dis
  sep := R.sep
  lnt := R.lnt
theorem Sub.lock (s : Sub G H) (g : G a = some u) (du : Dct u) : Sub G (upd H a (.frz od u)) where
  rd := fun b w r => by
    by_cases e : b = a
    · subst e
      rcases r with z | ⟨o, z⟩
      · rw [g] at z; cases z; exact .inr ⟨od, upd_same⟩
      · rw [g] at z; cases z; exact du.elim
    · rcases s.rd b w r with z | ⟨o, z⟩
      · exact .inl (by rw [upd_ne e]; exact z)
      · exact .inr ⟨o, by rw [upd_ne e]; exact z⟩
  tp := fun b xs r => by
    by_cases e : b = a
    · subst e; rw [g] at r; cases r; exact du.elim
    · rw [upd_ne e]; exact s.tp b xs r
  fz := fun b o w r => by
    by_cases e : b = a
    · subst e; rw [g] at r; cases r; exact du.elim
    · rw [upd_ne e]; exact s.fz b o w r
theorem Sub.unlock (s : Sub G H) (g : G a = some u) (du : Dct u) : Sub G (upd H a u) where
  rd := fun b w r => by
    by_cases e : b = a
    · subst e
      rcases r with z | ⟨o, z⟩
      · rw [g] at z; cases z; exact .inl upd_same
      · rw [g] at z; cases z; exact du.elim
    · rcases s.rd b w r with z | ⟨o, z⟩
      · exact .inl (by rw [upd_ne e]; exact z)
      · exact .inr ⟨o, by rw [upd_ne e]; exact z⟩
  tp := fun b xs r => by
    by_cases e : b = a
    · subst e; rw [g] at r; cases r; exact du.elim
    · rw [upd_ne e]; exact s.tp b xs r
  fz := fun b o w r => by
    by_cases e : b = a
    · subst e; rw [g] at r; cases r; exact du.elim
    · rw [upd_ne e]; exact s.fz b o w r
theorem Rel.notFoot (R : Rel L G η σ H Fs) (g : G a = some u) : ¬ foot Fs a := fun ⟨i, h⟩ => by rw [R.dis i a h] at g; cases g
theorem Rel.lock (R : Rel L G η σ H Fs) (g : G a = some u) (du : Dct u) : Rel L G η σ (upd H a (.frz od u)) Fs :=
  R.reH (R.sub.lock g du) fun b hb => upd_ne fun z => R.notFoot g (by rw [← z]; exact hb)
theorem Rel.unlock (R : Rel L G η σ H Fs) (g : G a = some u) (du : Dct u) : Rel L G η σ (upd H a u) Fs :=
  R.reH (R.sub.unlock g du) fun b hb => upd_ne fun z => R.notFoot g (by rw [← z]; exact hb)
/-- behind a locked stretch -/
theorem Ext.locked (E : Ext G (upd H a (.frz od u)) Fs G' H' Fs') (nf : ¬ foot Fs a) (h : H a = some u) : H' a = some (.frz od u) ∧ Ext G H Fs G' (upd H' a u) Fs' := by
  refine ⟨E.h a _ upd_same nf, E.g, fun b o e n => ?_, fun b z => ?_, fun b z => ?_, fun b z => ?_⟩
  · by_cases hb : b = a
    · subst hb; rw [h] at e; cases e; exact upd_same
    · rw [upd_ne hb]; exact E.h b o (by rw [upd_ne hb]; exact e) n
  · rcases E.n b z with y | y | y
    · exact .inl y
    · exact .inr (.inl y)
    · by_cases hb : b = a
      · subst hb; rw [upd_same] at y; exact y.elim
      · rw [upd_ne hb] at y; exact .inr (.inr y)
  · rcases E.f b z with y | y
    · exact .inl y
    · by_cases hb : b = a
      · subst hb; rw [upd_same] at y; cases y
      · rw [upd_ne hb] at y; exact .inr y
  · by_cases hb : b = a
    · subst hb; rw [upd_same]; simp
    · rw [upd_ne hb]
      exact E.d b (by rw [upd_ne hb]; exact z)
end
theorem keyV_rep {G : Hp} (k : Key) : Rep G (kV k) (keyV k) := by
  cases k with
  | inl i => exact .int i
  | inr x => exact .str x
theorem keyVs_rep {G : Hp} : ∀ ks : List Key, RepL G (ks.map kV) (ks.map keyV)
  | [] => .nil
  | k :: ks => .cons (keyV_rep k) (keyVs_rep ks)
/-- what is walked: the keys, the dict locked -/
theorem walks_dK {G H : Hp} {Fs : Feet} {a : Addr} {o : Obj} {vs : List (Key × V)} {kvs : List (Key × D)} (h : H a = some (.frz o (.dK vs))) (nf : ¬ foot Fs a) (e : vs.map (·.1) = kvs.map (·.1)) : Walks G H Fs (kvs.map fun p => keyV p.1) (Itk a o vs) := by
  intro i G2 H2 Fs2 E s
  have h2 := E.h a _ h nf
  have hl : vs.length = kvs.length := map_len e
  refine ⟨fun hi => ⟨h2, by rw [List.length_map] at hi; omega⟩, fun hi => ⟨⟨h2, by rw [List.length_map] at hi; omega⟩, fun x H' ⟨e2, k, v, y1, y2⟩ => ?_⟩⟩
  subst e2; subst y2
  have y3 := congrArg (fun l => l[i]?) e
  simp only [List.getElem?_map, y1, Option.map_some] at y3
  cases q : kvs[i]? with
  | none => rw [q] at y3; cases y3
  | some p =>
    rw [q] at y3
    have ek : k = p.1 := by injection y3
    exact ⟨keyV p.1, G2, by simp [q], New.refl s, by rw [ek]; exact keyV_rep _⟩
theorem walks_dT {G H : Hp} {Fs : Feet} {a : Addr} {o : Obj} {vs : List (List Key × V)} {kvs : List (List Key × D)} (h : H a = some (.frz o (.dT vs))) (nf : ¬ foot Fs a) (e : vs.map (·.1) = kvs.map (·.1)) : Walks G H Fs (kvs.map fun p => .tup (p.1.map keyV)) (Itkt a o vs) := by
  intro i G2 H2 Fs2 E s
  have h2 := E.h a _ h nf
  have hl : vs.length = kvs.length := map_len e
  refine ⟨fun hi => ⟨h2, by rw [List.length_map] at hi; omega⟩, fun hi => ⟨⟨h2, by rw [List.length_map] at hi; omega⟩, fun x H' ⟨e2, k, v, b, y1, y2, y4⟩ => ?_⟩⟩
  subst e2; subst y2
  have y3 := congrArg (fun l => l[i]?) e
  simp only [List.getElem?_map, y1, Option.map_some] at y3
  cases q : kvs[i]? with
  | none => rw [q] at y3; cases y3
  | some p =>
    rw [q] at y3
    have ek : k = p.1 := by injection y3
    subst ek
    -- the key's tuple comes to be known
    have N : New G2 H' (frz G2 H' [b]) H' := by
      refine ⟨fun c o z => ?_, Le.refl H', frz_sub s, fun c z => ?_⟩
      · by_cases hc : c ∈ [b]
        · have ec : c = b := by simpa using hc
          subst ec
          rw [frz_in hc]
          cases o with
          | tup xs => exact s.tp c xs z
          | frz o' u => exact s.fz c o' u z
          | _ =>
            rcases s.rd c _ (.inl z) with y | ⟨o', y⟩
            · exact y
            · rw [y4] at y; cases y
        · rw [frz_out hc]; exact z
      · by_cases hc : c ∈ [b]
        · have ec : c = b := by simpa using hc
          subst ec
          exact .inr (by rw [y4]; trivial)
        · rw [frz_out hc] at z; exact .inl z
    refine ⟨.tup (p.1.map keyV), _, by simp [q], N, .tup ?_ (keyVs_rep p.1)⟩
    rw [frz_in (by simp)]; exact y4
theorem PS.or {X : Cx} {st : Stmt} {t t' : TS} (h : PS X st t) (h' : PS X st t') : PS X st (fun D σ H => t D σ H ∨ t' D σ H) := ⟨fun pins s σ H D I q => q.elim (h.run pins s σ H D I) (h'.run pins s σ H D I)⟩
theorem PE.or {X : Cx} {e : Expr} {t t' : TE} (h : PE X e t) (h' : PE X e t') : PE X e (fun σ H Q => t σ H Q ∨ t' σ H Q) := ⟨fun pins s σ H Q I q => q.elim (h.run pins s σ H Q I) (h'.run pins s σ H Q I)⟩
theorem lift_exc {α : Type} {o : Option α} {η η' : Env} {c : Str} (h : lift o η = .exc c η') : False := by cases o <;> cases h
/-- the keys of a dict's object -/
def DKeys (u : HO) (ds : List D) : Prop := (∃ (vs : List (Key × V)) (kvs : List (Key × D)), u = .dK vs ∧ ds = (kvs.map fun p => keyV p.1) ∧ vs.map (·.1) = kvs.map (·.1)) ∨
  ∃ (vs : List (List Key × V)) (kvs : List (List Key × D)), u = .dT vs ∧ ds = (kvs.map fun p => .tup (p.1.map keyV)) ∧ vs.map (·.1) = kvs.map (·.1)
theorem DKeys.dct {u : HO} {ds : List D} (h : DKeys u ds) : Dct u := by
  rcases h with ⟨vs, kvs, rfl, _⟩ | ⟨vs, kvs, rfl, _⟩ <;> trivial
theorem DKeys.mut {u : HO} {ds : List D} (h : DKeys u ds) : Mut (some u) := by
  rcases h with ⟨vs, kvs, rfl, _⟩ | ⟨vs, kvs, rfl, _⟩ <;> trivial
section
variable {L : Lents} {W : WX} {K : PySem.W.Frag} {σ : Sig} {H : Hp} {G : Hp} {η : Env} {Fs : Feet}
/-- the dict that name j holds, frozen; how it stands -/
theorem keys_use {P : List D → Env → Hp → Hp → Feet → Prop} (R : Rel L G η σ H Fs) {j : Nat} (q : Res K L W σ G H Fs P (S.keys j η)) :
    ∃ a u G1 η1 Fs1 ds, σ[j]? = some (some (.ref a)) ∧ Rel L G1 η1 σ H Fs1 ∧ Ext G H Fs G1 H Fs1 ∧ S.keys j η = .ok ds η1 ∧ DKeys u ds ∧ (∃ w, G1 a = some w) ∧ ((H a = some u ∧ G1 a = some u) ∨ ∃ o, H a = some (.frz o u)) := by
  have base : ∀ (v : V) (d : D) (G1 : Hp) (η1 : Env) (Fs1 : Feet), σ[j]? = some (some v) → Rel L G1 η1 σ H Fs1 → Ext G H Fs G1 H Fs1 → Rep G1 v d → S.var j η = .ok d η1 →
      ∃ a u G1 η1 Fs1 ds, σ[j]? = some (some (.ref a)) ∧ Rel L G1 η1 σ H Fs1 ∧ Ext G H Fs G1 H Fs1 ∧ S.keys j η = .ok ds η1 ∧ DKeys u ds ∧ (∃ w, G1 a = some w) ∧ ((H a = some u ∧ G1 a = some u) ∨ ∃ o, H a = some (.frz o u)) := fun v d G1 η1 Fs1 hv R1 E1 r hvar => by
    have hk : S.keys j η = lift (keysOf d) η1 := by unfold S.keys; rw [hvar]; rfl
    cases hd : keysOf d with
    | none => rw [hk, hd] at q; exact q.elim
    | some ds =>
      rw [hd] at hk
      cases d <;> first | (cases hd; done) | skip
      · rename_i kvs
        have hd : some (kvs.map fun p => keyV p.1) = some ds := hd
        have hd := Option.some.inj hd
        cases r with
        | @dK a vs _ h1 h2 h3 =>
          refine ⟨a, .dK vs, G1, η1, Fs1, ds, hv, R1, E1, hk, .inl ⟨vs, kvs, rfl, hd.symm, h2⟩, ?_, ?_⟩
          · rcases h1 with h1 | ⟨o, h1⟩
            · exact ⟨_, h1⟩
            · exact ⟨_, h1⟩
          · rcases h1 with h1 | ⟨o, h1⟩
            · rcases R1.sub.rd _ _ (.inl h1) with y | ⟨o, y⟩
              · exact .inl ⟨y, h1⟩
              · exact .inr ⟨o, y⟩
            · exact .inr ⟨o, R1.sub.fz _ _ _ h1⟩
      · rename_i kvs
        have hd : some (kvs.map fun p => D.tup (p.1.map keyV)) = some ds := hd
        have hd := Option.some.inj hd
        cases r with
        | @dT a vs _ h1 h2 h3 =>
          refine ⟨a, .dT vs, G1, η1, Fs1, ds, hv, R1, E1, hk, .inr ⟨vs, kvs, rfl, hd.symm, h2⟩, ?_, ?_⟩
          · rcases h1 with h1 | ⟨o, h1⟩
            · exact ⟨_, h1⟩
            · exact ⟨_, h1⟩
          · rcases h1 with h1 | ⟨o, h1⟩
            · rcases R1.sub.rd _ _ (.inl h1) with y | ⟨o, y⟩
              · exact .inl ⟨y, h1⟩
              · exact .inr ⟨o, y⟩
            · exact .inr ⟨o, R1.sub.fz _ _ _ h1⟩
  unfold S.keys at q
  cases z : η[j]? with
  | none => unfold S.var at q; simp only [z] at q; exact q.elim
  | some sl =>
    cases sl with
    | no => unfold S.var at q; simp only [z] at q; exact q.elim
    | val k l d =>
      cases k with
      | zero =>
        obtain ⟨v, h1, h2, _⟩ := R.slot j 0 l d z
        exact base v d G η Fs h1 R Ext.refl h2.1 (by unfold S.var; simp only [z])
      | succ k =>
        cases l with
        | true => unfold S.var at q; simp only [z] at q; exact q.elim
        | false =>
          obtain ⟨v, h1, h2, _⟩ := R.slot j (k + 1) false d z
          obtain ⟨R2, r, E⟩ := R.emptied z h1
          exact base v d _ _ _ h1 R2 E r (by unfold S.var; simp only [z])
/-- the turns over a locked dict -/
theorem keys_walk {a : Addr} {o : Obj} {u : HO} {ds : List D} {R : It → Hp → Prop} (h : H a = some (.frz o u)) (nf : ¬ foot Fs a) (dk : DKeys u ds) (q : ∀ J, Walks G H Fs ds J → R J H) :
    (∃ kvs, H a = some (.frz o (.dK kvs)) ∧ R (Itk a o kvs) H) ∨ ∃ kvs, H a = some (.frz o (.dT kvs)) ∧ R (Itkt a o kvs) H := by
  rcases dk with ⟨vs, kvs, rfl, rfl, e⟩ | ⟨vs, kvs, rfl, rfl, e⟩
  · exact .inl ⟨vs, h, q _ (walks_dK h nf e)⟩
  · exact .inr ⟨vs, h, q _ (walks_dT h nf e)⟩
end
section
variable {X : Cx} {L : Lents} {W : WX} {e a b c tg it : Expr} {es : List Expr} {pos : Pos} {ss : List Stmt} {vs : List Nat}
theorem js_forD {j : Nat} {g : SG} {body : SS} (hp : PassesOwn (model X.prog X.w) X.A X.env X.xe) (hc : X.calm = true) (ho : PE X e (tVar j)) (hg : PG X tg (tG L g)) (hb : PSs X ss (tS X.K L W body)) (hs : ∀ x, foldedSetIterable e X.env x = pure x) :
    PS X (.For tg e ss [] pos) (tS X.K L W (S.forsD j g body)) := by
  have P := ps_for (pos := pos) hp hc (pi_keys (tg := tg) ho) hg hb hs
  refine PS.imp (PS.or P (ps_lock P)) fun D σ H ⟨G, η, Fs, R, q⟩ => ?_
  unfold S.forsD at q
  have qk : Res X.K L W σ G H Fs (fun ds η1 G1 H1 Fs1 => S.forsD j g body η = S.forsD j g body η) (S.keys j η) := by
    cases z : S.keys j η with
    | bad => simp only [S.fors, z, bind_bad] at q; exact q
    | exc c η' => simp only [S.fors, z, bind_exc] at q; exact q.elim
    | ok ds η1 => exact fun _ _ _ _ _ => rfl
  obtain ⟨ad, u, G1, η1, Fs1, ds, hv, R1, E1, hk, dk, ⟨gw, hgw⟩, st⟩ := keys_use R qk
  have nf : ¬ foot Fs1 ad := fun ⟨i, h⟩ => by rw [R1.dis i ad h] at hgw; cases hgw
  simp only [S.fors, hk, bind_ok] at q
  cases hf : S.forL g body ds η1 with
  | bad => rw [hf] at q; exact q.elim
  | exc c η2 => rw [hf] at q; exact q.elim
  | ok fl η2 =>
    rw [hf] at q
    have q1 : ResS X.K L W D G1 H Fs1 (.ok fl η2) := ResS.later q E1
    rcases st with ⟨hH, hG⟩ | ⟨o, hH⟩
    · refine .inr ⟨ad, u, hH, dk.mut, fun od => ⟨.ref ad, hv, ad, od, rfl, ?_⟩⟩
      have R2 := R1.lock (od := od) hG dk.dct
      have q2 : ResS X.K L W ⟨fun σ' H' => H' ad = some (.frz od u) ∧ D.nx σ' (upd H' ad u), fun v H' => H' ad = some (.frz od u) ∧ D.rt v (upd H' ad u), fun σ' H' => H' ad = some (.frz od u) ∧ D.bk σ' (upd H' ad u), fun σ' H' => H' ad = some (.frz od u) ∧ D.ct σ' (upd H' ad u)⟩ G1 (upd H ad (.frz od u)) Fs1 (S.forL g body ds η1) := by
        rw [hf]
        cases fl with
        | nx =>
          intro σ' G' H' Fs' R' E'
          obtain ⟨z1, z2⟩ := E'.locked nf hH
          show H' ad = some (.frz od u) ∧ D.nx σ' (upd H' ad u)
          exact ⟨z1, q1 σ' G' _ Fs' (R'.unlock (E'.g _ _ hG) dk.dct) z2⟩
        | bk =>
          intro σ' G' H' Fs' R' E'
          obtain ⟨z1, z2⟩ := E'.locked nf hH
          show H' ad = some (.frz od u) ∧ D.bk σ' (upd H' ad u)
          exact ⟨z1, q1 σ' G' _ Fs' (R'.unlock (E'.g _ _ hG) dk.dct) z2⟩
        | ct =>
          intro σ' G' H' Fs' R' E'
          obtain ⟨z1, z2⟩ := E'.locked nf hH
          show H' ad = some (.frz od u) ∧ D.ct σ' (upd H' ad u)
          exact ⟨z1, q1 σ' G' _ Fs' (R'.unlock (E'.g _ _ hG) dk.dct) z2⟩
        | rt k d =>
            intro σ' G' H' Fs' v F R' E' x y
            obtain ⟨z1, z2⟩ := E'.locked nf hH
            have nF : ad ∉ F := fun z => by have := x.dis ad z; rw [E'.g _ _ hG] at this; cases this
            show H' ad = some (.frz od u) ∧ D.rt v (upd H' ad u)
            refine ⟨z1, q1 σ' G' _ Fs' v F (R'.unlock (E'.g _ _ hG) dk.dct) z2 ⟨x.own.mono (Sub.refl G') k fun b hb => upd_ne fun z => nF (by rw [← z]; exact hb), x.nod, x.dis, x.sep⟩ fun b hb => (y b hb).elim .inl fun z => .inr ?_⟩
            by_cases hba : b = ad
            · subst hba; rw [upd_same] at z; cases z
            · rw [upd_ne hba] at z; exact z
      rcases dk with ⟨vs, kvs, rfl, rfl, e⟩ | ⟨vs, kvs, rfl, rfl, e⟩
      · exact .inl ⟨vs, upd_same, for_core (walks_dK upd_same nf e) R2 q2⟩
      · exact .inr ⟨vs, upd_same, for_core (walks_dT upd_same nf e) R2 q2⟩
    · have q2 : ResS X.K L W D G1 H Fs1 (S.forL g body ds η1) := by rw [hf]; exact q1
      refine .inl ⟨.ref ad, hv, ad, o, rfl, ?_⟩
      rcases dk with ⟨vs, kvs, rfl, rfl, e⟩ | ⟨vs, kvs, rfl, rfl, e⟩
      · exact .inl ⟨vs, hH, for_core (walks_dK hH nf e) R1 q2⟩
      · exact .inr ⟨vs, hH, for_core (walks_dT hH nf e) R1 q2⟩
/-- a comprehension over a dict that a name holds -/
theorem lcD_use {σ : Sig} {H : Hp} {Q : VK} {j k : Nat} {g : SG} {tt : ST} {f : SF} (h : tF X.K L W (S.comp k vs (S.keys j) g tt f) σ H Q) :
    tLc (iKeys (tVar j)) (tGv L vs g) (tT X.K L WN tt) (tF X.K L WN f) vs σ H Q ∨ tLockE (tLc (iKeys (tVar j)) (tGv L vs g) (tT X.K L WN tt) (tF X.K L WN f) vs) σ H Q := by
  obtain ⟨G, η, Fs, R, q⟩ := h
  have qk : Res X.K L W σ G H Fs (fun ds η1 G1 H1 Fs1 => True) (S.keys j η) ∨ ∃ c η', S.keys j η = .exc c η' := by
    cases z : S.keys j η with
    | bad => unfold S.comp at q; rw [z] at q; exact q.elim
    | exc c η' => exact .inr ⟨c, η', rfl⟩
    | ok ds η1 => exact .inl fun _ _ _ _ _ => trivial
  rcases qk with qk | ⟨c, η', hx⟩
  · obtain ⟨ad, u, G1, η1, Fs1, ds, hv, R1, E1, hk, dk, ⟨gw, hgw⟩, st⟩ := keys_use R qk
    have nf : ¬ foot Fs1 ad := fun ⟨i, h⟩ => by rw [R1.dis i ad h] at hgw; cases hgw
    unfold S.comp at q
    rw [hk, bind_ok] at q
    split at q
    · rename_i hst
      cases z : S.compL g tt f k vs ds [] η1 with
      | bad => rw [z] at q; exact q.elim
      | exc c η2 => rw [z] at q; exact q.elim
      | ok es0 η0 =>
        rw [z] at q
        have q1 : ∀ G' H' Fs', Rel L G' (S.mix η1 η0 vs) σ H' Fs' → Ext G1 H Fs1 G' H' Fs' → ∀ v F, Apart G' H' Fs' (k + 1) v (.lst es0) F → (∀ a ∈ F, foot Fs1 a ∨ H a = none) → Q v H' :=
          fun G' H' Fs' R' E' v F x fr => q G' H' Fs' R' (E1.trans E') v F x fun a ha => (fr a ha).elim (E1.f a) .inr
        rcases st with ⟨hH, hG⟩ | ⟨o, hH⟩
        · refine .inr ⟨ad, u, hH, dk.mut, fun od => ⟨.ref ad, hv, ad, od, rfl, ?_⟩⟩
          have R2 := R1.lock (od := od) hG dk.dct
          have q2 : ∀ G' H' Fs', Rel L G' (S.mix η1 η0 vs) σ H' Fs' → Ext G1 (upd H ad (.frz od u)) Fs1 G' H' Fs' → ∀ v F, Apart G' H' Fs' (k + 1) v (.lst es0) F → (∀ a ∈ F, foot Fs1 a ∨ upd H ad (.frz od u) a = none) → H' ad = some (.frz od u) ∧ Q v (upd H' ad u) := by
            intro G' H' Fs' R' E' v F x fr
            obtain ⟨z1, z2⟩ := E'.locked nf hH
            have nF : ad ∉ F := fun z => by have := x.dis ad z; rw [E'.g _ _ hG] at this; cases this
            refine ⟨z1, q1 G' _ Fs' (R'.unlock (E'.g _ _ hG) dk.dct) z2 v F ⟨x.own.mono (Sub.refl G') (k + 1) fun b hb => upd_ne fun z => nF (by rw [← z]; exact hb), x.nod, x.dis, x.sep⟩ fun b hb => (fr b hb).elim .inl fun z => .inr ?_⟩
            by_cases hba : b = ad
            · subst hba; rw [upd_same] at z; cases z
            · rw [upd_ne hba] at z; exact z
          rcases dk with ⟨vs', kvs, rfl, rfl, e⟩ | ⟨vs', kvs, rfl, rfl, e⟩
          · exact .inl ⟨vs', upd_same, fun D hD => lc_turns (Q := fun v H' => H' ad = some (.frz od (.dK vs')) ∧ Q v (upd H' ad (.dK vs'))) (walks_dK upd_same nf e) R2 hst hD z q2⟩
          · exact .inr ⟨vs', upd_same, fun D hD => lc_turns (Q := fun v H' => H' ad = some (.frz od (.dT vs')) ∧ Q v (upd H' ad (.dT vs'))) (walks_dT upd_same nf e) R2 hst hD z q2⟩
        · refine .inl ⟨.ref ad, hv, ad, o, rfl, ?_⟩
          rcases dk with ⟨vs', kvs, rfl, rfl, e⟩ | ⟨vs', kvs, rfl, rfl, e⟩
          · exact .inl ⟨vs', hH, fun D hD => lc_turns (walks_dK hH nf e) R1 hst hD z q1⟩
          · exact .inr ⟨vs', hH, fun D hD => lc_turns (walks_dT hH nf e) R1 hst hD z q1⟩
    · exact q.elim
  · -- a name's reading raises nothing
    exfalso
    unfold S.keys S.var at hx
    split at hx
    · exact lift_exc hx
    · exact lift_exc hx
    · cases hx
theorem jf_lcD {elt : Expr} {ifs : List Expr} {scope : Scope} {own : List (Str × Nat)} {j k : Nat} {g : SG} {tt : ST} {f : SF} (hc : X.calm = true) (hN : X.N.Nodup) (hi : PE X it (tVar j)) (ok : BlkOk X.N X.env.scope scope own) (hv : own.map (·.2) = vs)
    (hg : ∀ (s : Shared) (H : Hp) (C : Addr) (cl : List (Str × Addr)) (fp : List Addr), PG (X.blk s H scope (compEnvC scope cl C X.env) fp) tg (tGv L vs g)) (ht : ∀ (s : Shared) (H : Hp) (C : Addr) (cl : List (Str × Addr)) (fp : List Addr), PTs (X.blk s H scope (compEnvC scope cl C X.env) fp) ifs (tT X.K L WN tt))
    (he : ∀ (s : Shared) (H : Hp) (C : Addr) (cl : List (Str × Addr)) (fp : List Addr), PE (X.blk s H scope (compEnvC scope cl C X.env) fp) elt (tF X.K L WN f)) (hs : ∀ x, foldedSetIterable it X.env x = pure x := by intro _; rfl) :
    PE X (.ListComp elt [⟨tg, it, ifs, 0⟩] scope pos) (tF X.K L W (S.comp k vs (S.keys j) g tt f)) := by
  subst hv
  have P := pe_lc (pos := pos) hc hN (pi_keys (tg := tg) hi) ok hg ht he hs
  exact PE.imp (PE.or P (pe_lock P)) fun σ H Q h => lcD_use h
end
end DV

/-! DV22: sorted(xs), xs a list of alike data. -/
namespace DV
open PySem PySem.Spec PyProof.Rows L2 RZ
open PySem.W (EachIs AllAlike Sortable alike alikeAll dataLe dataLt)
def leDat (a b : D) : Bool := dataLe false py a b
def tupish : D → Bool
  | .tup (_ :: _) => true
  | _ => false
def loose : D → Bool
  | .tup _ => false
  | .non => false
  | _ => true
/-- they may be sorted -/
def sortOk (ds : List D) : Bool := (ds.all fun a => ds.all fun b => alike (py a) (py b)) && (ds.all tupish || ds.all loose) && ds.all (okD 16)
def sortedD : List D → Option (Nat × D)
  | [.lst ds] => if sortOk ds = true then some (1, .lst (ds.mergeSort leDat)) else none
  | _ => none
def rSortedD (K : PySem.W.Frag) : List V → Hp → VK → Prop := fun vs H Q => ∃ (a : Addr) (bs : List (V × D)), vs = [V.ref a] ∧ SqL K H a (bs.map (·.1)) ∧ (∀ b ∈ bs, Dp K H b.1 (py b.2)) ∧ sortOk (bs.map (·.2)) = true ∧
  ∀ p, H p = none → Q (.ref p) (upd H p (.lst ((bs.mergeSort fun x y => leDat x.2 y.2).map (·.1))))
theorem each_of {X : Cx} {pins : List (Addr × Obj)} {σ : Sig} {H : Hp} {s : Shared} (I : Inv X pins σ H s) : ∀ {bs : List (V × D)} {us : List Value}, Vals (bs.map (·.1)) us → (∀ b ∈ bs, Dp X.K H b.1 (py b.2)) → EachIs (fun u (b : V × D) => RelV b.1 u) us bs ∧ EachIs (fun u (b : V × D) => ∃ as, Reads s.heap u (py b.2) as) us bs
  | [], _, r, _ => by cases r; exact ⟨.nil, .nil⟩
  | b :: bs, _, r, h => by
    cases r with
    | cons r1 r2 =>
      obtain ⟨i1, i2⟩ := each_of I r2 fun x hx => h x (List.mem_cons_of_mem _ hx)
      exact ⟨.cons r1 i1, .cons (Dp.reads I _ _ _ (h b List.mem_cons_self) r1) i2⟩
theorem vals_each : ∀ {bs : List (V × D)} {us : List Value}, EachIs (fun u (b : V × D) => RelV b.1 u) us bs → Vals (bs.map (·.1)) us
  | _, _, .nil => .nil
  | _, _, .cons r t => .cons r (vals_each t)
section
variable {X : Cx}
theorem cr_sortedD (hu : X.A.units + 65 < cLine) : CallR X (.builtin "sorted") (rSortedD X.K) := by
  intro pins s σ H vs us Q I r h
  obtain ⟨a, bs, rfl, hs, hd, ho, q⟩ := h
  obtain ⟨its, rv, hl, hz⟩ := I.list hs
  rw [Vals.ref1 r]
  obtain ⟨e1, e2⟩ := each_of I rv hd
  unfold sortOk at ho
  rw [Bool.and_eq_true, Bool.and_eq_true] at ho
  obtain ⟨⟨o1, o2⟩, o3⟩ := ho
  have hal : AllAlike (bs.map fun b => py b.2) := by
    intro d hd d' hd'
    obtain ⟨b, hb, rfl⟩ := List.mem_map.mp hd
    obtain ⟨b', hb', rfl⟩ := List.mem_map.mp hd'
    have := List.all_eq_true.mp o1 b.2 (List.mem_map_of_mem hb)
    exact List.all_eq_true.mp this b'.2 (List.mem_map_of_mem hb')
  have hk : Sortable (bs.map fun b => py b.2) := by
    rcases Bool.or_eq_true_iff.mp o2 with o2 | o2
    · refine .inl fun d hd => ?_
      obtain ⟨b, hb, rfl⟩ := List.mem_map.mp hd
      have := List.all_eq_true.mp o2 b.2 (List.mem_map_of_mem hb)
      match h : b.2, this with
      | .tup (x :: r), _ => exact ⟨_, _, rfl⟩
      | .tup [], z => cases z
      | .non, z => cases z
      | .bl _, z => cases z
      | .int _, z => cases z
      | .str _, z => cases z
      | .lst _, z => cases z
      | .dK _, z => cases z
      | .dT _, z => cases z
    · refine .inr fun d hd => ?_
      obtain ⟨b, hb, rfl⟩ := List.mem_map.mp hd
      have := List.all_eq_true.mp o2 b.2 (List.mem_map_of_mem hb)
      match h : b.2, this with
      | .tup _, z => cases z
      | .non, z => cases z
      | .bl _, _ => exact ⟨fun z => (by cases z), fun _ z => by cases z⟩
      | .int _, _ => exact ⟨fun z => (by cases z), fun _ z => by cases z⟩
      | .str _, _ => exact ⟨fun z => (by cases z), fun _ z => by cases z⟩
      | .lst _, _ => exact ⟨fun z => (by simp [py] at z), fun _ z => by simp [py] at z⟩
      | .dK _, _ => exact ⟨fun z => (by simp [py] at z), fun _ z => by simp [py] at z⟩
      | .dT _, _ => exact ⟨fun z => (by simp [py] at z), fun _ z => by simp [py] at z⟩
  have hlen : bs.length = its.length := by rw [← rv.length, List.length_map]
  refine PySem.W.sorted_data (enc := fun b : V × D => py b.2) (R := fun u b => RelV b.1 u) (vs := its) (bs := bs) hl.isList e1 e2 hal hk (by rw [List.length_map] at hz; exact hz) (fun b hb => ?_) fun out hout ho => ?_
  · have := List.all_eq_true.mp o3 b.2 (List.mem_map_of_mem hb)
    have := (okD_lay 16 b.2 this).2
    omega
  · obtain ⟨ep, he'⟩ := PyProof.Rows.sortedAll_at s.heap its (List.toArray out)
    have hle : (fun x y : V × D => leDat x.2 y.2) = dataLe false fun b : V × D => py b.2 := by
      funext x y; rfl
    refine ⟨.ref _, upd H (s.heap.objs.size + 1) (.lst ((bs.mergeSort fun x y => leDat x.2 y.2).map (·.1))), I.laid (t' := s.toks) (fun _ _ => PyProof.Rows.sortedAll_old) (Nat.le_succ _) ⟨?_, out, ep, ?_, he'⟩, rfl, q _ (I.hok.fresh (Nat.le_succ _))⟩
    · rw [List.length_map, (List.mergeSort_perm bs _).length_eq]; rw [List.length_map] at hz; exact hz
    · rw [hle]; exact vals_each ho
end
theorem zip_fst {G : Hp} : ∀ {vs : List V} {ds : List D}, RepL G vs ds → (vs.zip ds).map (·.1) = vs ∧ (vs.zip ds).map (·.2) = ds ∧ ∀ b ∈ vs.zip ds, Rep G b.1 b.2
  | _, _, .nil => ⟨rfl, rfl, fun _ h => by simp at h⟩
  | _, _, .cons r t => by
    obtain ⟨h1, h2, h3⟩ := zip_fst t
    refine ⟨by simp [h1], by simp [h2], fun b hb => ?_⟩
    rw [List.zip_cons_cons, List.mem_cons] at hb
    rcases hb with e | hb
    · subst e; exact r
    · exact h3 b hb
theorem repL_map {G : Hp} : ∀ {bs : List (V × D)}, (∀ b ∈ bs, Rep G b.1 b.2) → RepL G (bs.map (·.1)) (bs.map (·.2))
  | [], _ => .nil
  | b :: bs, h => .cons (h b List.mem_cons_self) (repL_map fun x hx => h x (List.mem_cons_of_mem _ hx))
theorem cf_sortedD {K : PySem.W.Frag} : CallF (rSortedD K) sortedD := by
  intro G H vs ds k d Q s r h fin
  unfold sortedD at h
  split at h <;> try cases h
  split at h <;> cases h
  rename_i ds0 ho
  obtain ⟨v, rfl, b⟩ := r.one
  obtain ⟨a, ys, rfl, h1, r1⟩ := b.lst s
  obtain ⟨z1, z2, z3⟩ := zip_fst r1
  have ho' := ho
  unfold sortOk at ho'
  rw [Bool.and_eq_true, Bool.and_eq_true] at ho'
  refine ⟨a, ys.zip ds0, rfl, .inl (by rw [z1]; exact h1), fun b hb => ?_, by rw [z2]; exact ho, fun p hp => ?_⟩
  · have hb2 : b.2 ∈ ds0 := by rw [← z2]; exact List.mem_map_of_mem hb
    exact ((z3 b hb).mono s).dp 16 _ _ (List.all_eq_true.mp ho'.2 b.2 hb2)
  · have e : ds0.mergeSort leDat = ((ys.zip ds0).mergeSort fun x y => leDat x.2 y.2).map (·.2) := by
      rw [List.map_mergeSort (s := leDat) (fun _ _ _ _ => rfl), z2]
    rw [e] at fin
    exact fin.lstN s hp (repL_map fun b hb => z3 b ((List.mergeSort_perm _ _).mem_iff.mp hb))
end DV
namespace DV
open PySem PySem.Spec PyProof.Rows L2 RZ
/-! ### over what a name holds, be it a list, a tuple or a dict -/
def isDct : Option D → Bool
  | some (.dK _) => true
  | some (.dT _) => true
  | _ => false
namespace S
def forsX (j : Nat) (g : SG) (body : SS) : SS := fun η => if isDct (slotA η[j]?) = true then forsD j g body η else fors (items (var j)) g body η
def compX (k : Nat) (vs : List Nat) (j : Nat) (g : SG) (tt : ST) (f : SF) : SF := fun η => if isDct (slotA η[j]?) = true then comp k vs (keys j) g tt f η else comp k vs (items (var j)) g tt f η
end S
section
variable {X : Cx} {L : Lents} {W : WX} {e a b c tg it : Expr} {es : List Expr} {pos : Pos} {ss : List Stmt} {vs : List Nat}
theorem js_forX {j : Nat} {g : SG} {body : SS} (hp : PassesOwn (model X.prog X.w) X.A X.env X.xe) (hc : X.calm = true) (ho : PE X e (tVar j)) (hg : PG X tg (tG L g)) (hb : PSs X ss (tS X.K L W body)) (hs : ∀ x, foldedSetIterable e X.env x = pure x) :
    PS X (.For tg e ss [] pos) (tS X.K L W (S.forsX j g body)) :=
  PS.imp (PS.or (js_forD hp hc ho hg hb hs) (js_for hp hc (ji_items (je_var ho)) hg hb hs)) fun D σ H ⟨G, η, Fs, R, q⟩ => by
    unfold S.forsX at q
    split at q
    · exact .inl ⟨G, η, Fs, R, q⟩
    · exact .inr ⟨G, η, Fs, R, q⟩
theorem jf_lcX {elt : Expr} {ifs : List Expr} {scope : Scope} {own : List (Str × Nat)} {j k : Nat} {g : SG} {tt : ST} {f : SF} (hc : X.calm = true) (hN : X.N.Nodup) (hi : PE X it (tVar j)) (ok : BlkOk X.N X.env.scope scope own) (hv : own.map (·.2) = vs)
    (hg : ∀ (s : Shared) (H : Hp) (C : Addr) (cl : List (Str × Addr)) (fp : List Addr), PG (X.blk s H scope (compEnvC scope cl C X.env) fp) tg (tGv L vs g)) (ht : ∀ (s : Shared) (H : Hp) (C : Addr) (cl : List (Str × Addr)) (fp : List Addr), PTs (X.blk s H scope (compEnvC scope cl C X.env) fp) ifs (tT X.K L WN tt))
    (he : ∀ (s : Shared) (H : Hp) (C : Addr) (cl : List (Str × Addr)) (fp : List Addr), PE (X.blk s H scope (compEnvC scope cl C X.env) fp) elt (tF X.K L WN f)) (hs : ∀ x, foldedSetIterable it X.env x = pure x := by intro _; rfl) :
    PE X (.ListComp elt [⟨tg, it, ifs, 0⟩] scope pos) (tF X.K L W (S.compX k vs j g tt f)) :=
  PE.imp (PE.or (jf_lcD hc hN hi ok hv hg ht he hs) (jf_lc hc hN (ji_items (je_var hi)) ok hv hg ht he hs)) fun σ H Q ⟨G, η, Fs, R, q⟩ => by
    unfold S.compX at q
    split at q
    · exact .inl ⟨G, η, Fs, R, q⟩
    · exact .inr ⟨G, η, Fs, R, q⟩
theorem js_setLcX {i : Nat} {y : Str} {py spos : Pos} {elt : Expr} {ifs : List Expr} {scope : Scope} {own : List (Str × Nat)} {j k : Nat} {g : SG} {tt : ST} {f : SF} (hc : X.calm = true) (hN : X.N.Nodup) (hy : X.N[i]? = some y) (hyl : X.env.scope.names.lookup y = some .local)
    (hsw : swapsWith (.ListComp elt [⟨tg, it, ifs, 0⟩] scope pos) (some (.Name y py)) spos.line X.env = pure true) (hi : PE X it (tVar j)) (ok : BlkOk X.N X.env.scope scope own) (hv : own.map (·.2) = vs)
    (hg : ∀ (s : Shared) (H : Hp) (C : Addr) (cl : List (Str × Addr)) (fp : List Addr), PG (X.blk s H scope (compEnvC scope cl C X.env) fp) tg (tGv L vs g)) (ht : ∀ (s : Shared) (H : Hp) (C : Addr) (cl : List (Str × Addr)) (fp : List Addr), PTs (X.blk s H scope (compEnvC scope cl C X.env) fp) ifs (tT X.K L WN tt))
    (he : ∀ (s : Shared) (H : Hp) (C : Addr) (cl : List (Str × Addr)) (fp : List Addr), PE (X.blk s H scope (compEnvC scope cl C X.env) fp) elt (tF X.K L WN f)) (hs : ∀ x, foldedSetIterable it X.env x = pure x := by intro _; rfl) :
    PS X (.Assign [.Name y py] (.ListComp elt [⟨tg, it, ifs, 0⟩] scope pos) spos) (tS X.K L W (S.asg i (S.compX k vs j g tt f))) := by
  subst hv
  have P := ps_setLc (py := py) (pos := pos) (spos := spos) hc hN hy hyl hsw (pi_keys (tg := tg) hi) ok hg ht he hs
  refine PS.imp (PS.or (PS.or P (ps_lock P)) (js_setLc (W := W) (k := k) hc hN hy hyl hsw (ji_items (je_var hi)) ok rfl hg ht he hs)) fun D σ H q => ?_
  obtain ⟨G, η, Fs, R, q⟩ := q
  by_cases hd : isDct (slotA η[j]?) = true
  · have e : S.asg i (S.compX k (own.map (·.2)) j g tt f) η = S.asg i (S.comp k (own.map (·.2)) (S.keys j) g tt f) η := by unfold S.asg S.compX; rw [if_pos hd]
    rw [e] at q
    rcases lcD_use (asg_use ⟨G, η, Fs, R, q⟩) with z | z
    · exact .inl (.inl z)
    · obtain ⟨d, u, h1, h2, h3⟩ := z
      exact .inl (.inr ⟨d, u, h1, h2, h3⟩)
  · have e : S.asg i (S.compX k (own.map (·.2)) j g tt f) η = S.asg i (S.comp k (own.map (·.2)) (S.items (S.var j)) g tt f) η := by unfold S.asg S.compX; rw [if_neg hd]
    rw [e] at q
    exact .inr ⟨G, η, Fs, R, q⟩
end
end DV

/-! DV23: sorted(d), d a dict. -/
namespace DV
open PySem PySem.Spec PyProof.Rows L2 RZ
open PySem.W (EachIs AllAlike Sortable alike alikeAll dataLe dataLt)
/-- the premises of sorting, from sortOk -/
theorem sort_premises {β : Type} {f : β → D} {bs : List β} (ho : sortOk (bs.map f) = true) : AllAlike (bs.map fun b => py (f b)) ∧ Sortable (bs.map fun b => py (f b)) ∧ ∀ b ∈ bs, (py (f b)).depth ≤ 16 := by
  unfold sortOk at ho
  rw [Bool.and_eq_true, Bool.and_eq_true] at ho
  obtain ⟨⟨o1, o2⟩, o3⟩ := ho
  refine ⟨?_, ?_, fun b hb => (okD_lay 16 _ (List.all_eq_true.mp o3 (f b) (List.mem_map_of_mem hb))).2⟩
  · intro d hd d' hd'
    obtain ⟨b, hb, rfl⟩ := List.mem_map.mp hd
    obtain ⟨b', hb', rfl⟩ := List.mem_map.mp hd'
    have := List.all_eq_true.mp o1 (f b) (List.mem_map_of_mem hb)
    exact List.all_eq_true.mp this (f b') (List.mem_map_of_mem hb')
  · rcases Bool.or_eq_true_iff.mp o2 with o2 | o2
    · refine .inl fun d hd => ?_
      obtain ⟨b, hb, rfl⟩ := List.mem_map.mp hd
      have := List.all_eq_true.mp o2 (f b) (List.mem_map_of_mem hb)
      match h : f b, this with
      | .tup (x :: r), _ => exact ⟨_, _, rfl⟩
      | .tup [], z => cases z
      | .non, z => cases z
      | .bl _, z => cases z
      | .int _, z => cases z
      | .str _, z => cases z
      | .lst _, z => cases z
      | .dK _, z => cases z
      | .dT _, z => cases z
    · refine .inr fun d hd => ?_
      obtain ⟨b, hb, rfl⟩ := List.mem_map.mp hd
      have := List.all_eq_true.mp o2 (f b) (List.mem_map_of_mem hb)
      match h : f b, this with
      | .tup _, z => cases z
      | .non, z => cases z
      | .bl _, _ => exact ⟨fun z => (by cases z), fun _ z => by cases z⟩
      | .int _, _ => exact ⟨fun z => (by cases z), fun _ z => by cases z⟩
      | .str _, _ => exact ⟨fun z => (by cases z), fun _ z => by cases z⟩
      | .lst _, _ => exact ⟨fun z => (by simp [py] at z), fun _ z => by simp [py] at z⟩
      | .dK _, _ => exact ⟨fun z => (by simp [py] at z), fun _ z => by simp [py] at z⟩
      | .dT _, _ => exact ⟨fun z => (by simp [py] at z), fun _ z => by simp [py] at z⟩
/-- a tuple key as data -/
def keyT (k : List Key) : D := .tup (k.map keyV)
def rSortDT : List V → Hp → VK → Prop := fun vs H Q => ∃ (d : Addr) (kvs : List (List Key × V)), vs = [V.ref d] ∧ Rd H d (.dT kvs) ∧ sortOk ((kvs.map (·.1)).map keyT) = true ∧
  ∀ (bs : List (List Key × Addr)) (p : Addr), H p = none → bs.map (·.1) = kvs.map (·.1) → (∀ b ∈ bs, H b.2 = some (.tup (b.1.map kV))) → Q (.ref p) (upd H p (.lst ((bs.mergeSort fun x y => leDat (keyT x.1) (keyT y.1)).map fun b => V.ref b.2)))
section
variable {X : Cx}
theorem cr_sortDT (hc : X.calm = true) (hu : X.A.units + 65 < cLine) : CallR X (.builtin "sorted") rSortDT := by
  intro pins s σ H xs us Q I r h
  obtain ⟨d, kvs, rfl, hd, hso, q⟩ := h
  obtain ⟨u, rfl, rx⟩ := r.one
  cases rx
  obtain ⟨z, hs, ks, pr, o, es, ep, ho, hx, hdt, he, hn⟩ := (show ObjOk X.prog X.w H s.heap d (.dT kvs) from hd.ok I.hok)
  have l1 : es.size = ks.length := size_of_entries he
  have l2 : kvs.length = ks.length := Paired.length pr
  refine Calls.call_function_entry PyProof.Rows.kind_sorted PyProof.Rows.plain_sorted PyProof.Rows.entry_sorted (PyProof.Rows.args_sorted1 _) ?_
  unfold Builtin.«sorted»
  refine wpAny_bind (m := checkCount "sorted" 1 1 _) (wpAny_pure ?_)
  refine wpAny_bind (PySem.W.kdu_collect (A := X.A.in1) (kdl_raw hs hx hdt) (I.ok.hd hc) ho (by omega) fun h' tk acc' kp it => ?_)
  have ea : acc'.toList = ks.map fun x => Value.ref x.2.1 := by
    have hl : acc'.toList.length = ks.length := by rw [Array.length_toList, it.1]; exact l1
    apply List.ext_getElem?
    intro j
    rw [List.getElem?_map]
    cases hj : acc'.toList[j]? with
    | none =>
      have h1 := List.getElem?_eq_none_iff.mp hj
      rw [List.getElem?_eq_none (by omega)]
      all_goals rfl
    | some v =>
      obtain ⟨en, hen, hv⟩ := it.2 j v (by rw [← Array.getElem?_toList]; exact hj)
      have qe := entry_at he j
      rw [hen] at qe
      cases hb : ks[j]? with
      | none =>
        rw [hb] at qe
        exact nomatch (show some en = none from qe)
      | some b =>
        rw [hb] at qe
        have e2 : en = entryOfKey (tupleKind (mixKind X.prog X.w)) b := Option.some.inj qe
        rw [hv, e2]
        all_goals rfl
  -- the keys with their tuples
  have kb : (ks.map fun x => (x.1, x.2.1)).map (·.1) = kvs.map (·.1) ∧ ∀ b ∈ ks.map fun x => (x.1, x.2.1), H b.2 = some (.tup (b.1.map kV)) := by
    clear ea he hn l1 l2 it hso q hd
    induction pr with
    | nil => exact ⟨rfl, fun _ h => by simp at h⟩
    | cons h t ih =>
      obtain ⟨i1, i2⟩ := ih (by simp only [List.length_cons] at z; omega)
      refine ⟨?_, ?_⟩
      · simp only [List.map_cons, List.cons.injEq]
        exact ⟨h.1.symm, i1⟩
      · intro b hb
        rw [List.map_cons, List.mem_cons] at hb
        rcases hb with e | hb
        · subst e; rw [← h.1]; exact h.2.1
        · exact i2 b hb
  generalize hbs : (ks.map fun x => (x.1, x.2.1)) = bs at kb
  have ea2 : acc'.toList = bs.map fun b => Value.ref b.2 := by rw [ea, ← hbs, List.map_map]; rfl
  have lb : bs.length = ks.length := by rw [← hbs, List.length_map]
  have I1 : Inv X pins σ H { s with heap := h', toks := tk } := I.kept kp
  have hlen : acc'.toList.length ≤ sizeLine := by rw [ea2, List.length_map, lb]; omega
  refine wpAny_bind (wpAny_newList ?_ hlen)
  have hoL : (h'.push (seqObj "list" acc'.toList.toArray 0)).get? h'.objs.size = some (seqObj "list" acc'.toList.toArray 0) := Heap.get?_push_size _ rfl
  show wpAny _ _ _ _ _ { s with heap := h'.push (seqObj "list" acc'.toList.toArray 0), toks := tk }
  have ho2 : sortOk (bs.map fun b => keyT b.1) = true := by
    have : (bs.map fun b => keyT b.1) = (kvs.map (·.1)).map keyT := by rw [← kb.1, List.map_map]; rfl
    rw [this]; exact hso
  obtain ⟨p1, p2, p3⟩ := sort_premises ho2
  have rd : ∀ b ∈ bs, ∃ as, Reads h' (.ref b.2) (py (keyT b.1)) as := fun b hb => by
    have r : Rep H (.ref b.2) (keyT b.1) := .tup (kb.2 b hb) (keyVs_rep b.1)
    have ok : okD 16 (keyT b.1) = true := by
      unfold sortOk at ho2
      rw [Bool.and_eq_true] at ho2
      exact List.all_eq_true.mp ho2.2 _ (List.mem_map_of_mem hb)
    exact Dp.reads I1 _ _ _ (r.dp 16 _ _ ok) rfl
  have e1 : EachIs (fun u (b : List Key × Addr) => u = Value.ref b.2) acc'.toList bs := by
    rw [ea2]
    clear ea2 rd p1 p2 p3 ho2 lb kb hbs ea hoL hlen
    induction bs with
    | nil => exact .nil
    | cons b bs ih => exact .cons rfl ih
  have e2 : EachIs (fun u (b : List Key × Addr) => ∃ as, Reads (h'.push (seqObj "list" acc'.toList.toArray 0)) u (py (keyT b.1)) as ∧ h'.objs.size ∉ as) acc'.toList bs := by
    have : ∀ (l : List (List Key × Addr)) (us : List Value), (∀ b ∈ l, b ∈ bs) → EachIs (fun u (b : List Key × Addr) => u = Value.ref b.2) us l → EachIs (fun u (b : List Key × Addr) => ∃ as, Reads (h'.push (seqObj "list" acc'.toList.toArray 0)) u (py (keyT b.1)) as ∧ h'.objs.size ∉ as) us l := by
      intro l us hl e
      induction e with
      | nil => exact .nil
      | @cons u b us l hu t ih =>
        refine .cons ?_ (ih fun x hx => hl x (List.mem_cons_of_mem _ hx))
        obtain ⟨as, ra⟩ := rd b (hl b List.mem_cons_self)
        subst hu
        refine ⟨as, PyProof.Rows.Reads.keeps (fun _ _ q => Heap.get?_push_of_some _ q) ra, fun hm => ?_⟩
        obtain ⟨ob, hob⟩ := PyProof.On.reads_mem_get ra _ hm
        exact absurd (Heap.lt_size hob) (Nat.lt_irrefl _)
    exact this bs _ (fun _ h => h) e1
  refine wpAny_bind (wpAny_holding (PySem.W.list_sort_data (A := X.A.in1) (s := { s with heap := h'.push (seqObj "list" acc'.toList.toArray 0), toks := tk }) hoL e1 e2 p1 p2 (by rw [lb]; omega) (fun b hb => ?_) fun out hout ho => ?_))
  · have := p3 b hb
    show X.A.units + 1 + 1 + _ < _
    omega
  · obtain ⟨e', he'⟩ := PyProof.Rows.sortedHeap_at (vs := acc'.toList) (out := List.toArray out) hoL
    have hle : (fun x y : List Key × Addr => leDat (keyT x.1) (keyT y.1)) = dataLe false fun b : List Key × Addr => py (keyT b.1) := by
      funext x y; rfl
    have rv : Vals ((bs.mergeSort fun x y => leDat (keyT x.1) (keyT y.1)).map fun b => V.ref b.2) out := by
      rw [hle]
      clear hout he'
      generalize (bs.mergeSort (dataLe false fun b : List Key × Addr => py (keyT b.1))) = l at ho
      induction ho with
      | nil => exact .nil
      | cons h t ih => exact .cons h ih
    refine wpAny_pure ⟨_, rfl, .ref h'.objs.size, upd H h'.objs.size (.lst ((bs.mergeSort fun x y => leDat (keyT x.1) (keyT y.1)).map fun b => V.ref b.2)), I1.laid (t' := tk) (fun b u e => ?_) (Nat.le_refl _) ⟨?_, out, e', rv, he'⟩, rfl, q bs _ (I1.hok.fresh (Nat.le_refl _)) kb.1 kb.2⟩
    · have hb : b < h'.objs.size := Heap.lt_size e
      rw [PyProof.Rows.sortedHeap_old (Nat.ne_of_lt hb) (by rw [size_push']; exact Nat.lt_succ_of_lt hb)]
      exact Heap.get?_push_of_some _ e
    · rw [List.length_map, (List.mergeSort_perm bs _).length_eq, lb]; omega
end
end DV
namespace DV
open PySem PySem.Spec PyProof.Rows L2 RZ
/-- sorted of a list, or of a dict -/
def sortedA : List D → Option (Nat × D)
  | [.dT kvs] => if sortOk (kvs.map fun p => keyT p.1) = true then some (1, .lst ((kvs.map fun p => keyT p.1).mergeSort leDat)) else none
  | ds => sortedD ds
def rSortedA (K : PySem.W.Frag) : List V → Hp → VK → Prop := fun vs H Q => rSortedD K vs H Q ∨ rSortDT vs H Q
/-- tuples come to be known -/
theorem learn {G H : Hp} {as : List Addr} (s : Sub G H) (h : ∀ a ∈ as, ∃ xs, H a = some (.tup xs)) : Le G (frz G H as) := fun c o z => by
  by_cases hc : c ∈ as
  · rw [frz_in hc]
    obtain ⟨xs, hx⟩ := h c hc
    cases o with
    | tup ys => exact s.tp c ys z
    | frz o' u => exact s.fz c o' u z
    | _ =>
      rcases s.rd c _ (.inl z) with y | ⟨o', y⟩
      · exact y
      · rw [hx] at y; cases y
  · rw [frz_out hc]; exact z
theorem CallR.or' {X : Cx} {f : Value} {r r' : List V → Hp → VK → Prop} (h : CallR X f r) (h' : CallR X f r') : CallR X f (fun xs H Q => r xs H Q ∨ r' xs H Q) := fun pins s σ H xs us Q I rx q => q.elim (h pins s σ H xs us Q I rx) (h' pins s σ H xs us Q I rx)
theorem cr_sortedA {X : Cx} (hc : X.calm = true) (hu : X.A.units + 65 < cLine) : CallR X (.builtin "sorted") (rSortedA X.K) := CallR.or' (cr_sortedD hu) (cr_sortDT hc hu)
theorem cf_sortedA {K : PySem.W.Frag} : CallF (rSortedA K) sortedA := by
  intro G H vs ds k d Q s r h fin
  unfold sortedA at h
  split at h
  · rename_i kvs
    split at h <;> cases h
    rename_i ho
    obtain ⟨v, rfl, b⟩ := r.one
    obtain ⟨a, ws, rfl, h1, h2, h3⟩ := b.dT s
    have hk : (ws.map (·.1)).map keyT = kvs.map fun p => keyT p.1 := by rw [h2, List.map_map]; rfl
    refine .inr ⟨a, ws, rfl, h1, by rw [hk]; exact ho, fun bs p hp e1 e2 => ?_⟩
    have tp : ∀ c ∈ bs.map (·.2), ∃ xs, H c = some (.tup xs) := fun c hc => by
      obtain ⟨b, hb, rfl⟩ := List.mem_map.mp hc
      exact ⟨_, e2 b hb⟩
    have np : G p = none := s.free hp
    have nb' : p ∉ bs.map (·.2) := fun hc => by
      obtain ⟨xs, hx⟩ := tp p hc
      rw [hp] at hx; cases hx
    have N : New G H (frz G H (bs.map (·.2))) (upd H p (.lst ((bs.mergeSort fun x y => leDat (keyT x.1) (keyT y.1)).map fun b => V.ref b.2))) := by
      refine ⟨learn s tp, upd_le hp, (frz_sub s).trans (upd_le hp).sub, fun c z => ?_⟩
      by_cases hc : c ∈ bs.map (·.2)
      · obtain ⟨xs, hx⟩ := tp c hc
        exact .inr (by rw [hx]; trivial)
      · rw [frz_out hc] at z; exact .inl z
    have e : (kvs.map fun p => keyT p.1).mergeSort leDat = (bs.mergeSort fun x y => leDat (keyT x.1) (keyT y.1)).map fun b => keyT b.1 := by
      rw [List.map_mergeSort (s := leDat) (fun _ _ _ _ => rfl), ← hk, ← e1, List.map_map]; rfl
    rw [e] at fin
    have rl : ∀ l : List (List Key × Addr), (∀ b ∈ l, b ∈ bs) → RepL (frz G H (bs.map (·.2))) (l.map fun b => V.ref b.2) (l.map fun b => keyT b.1) := by
      intro l
      induction l with
      | nil => exact fun _ => .nil
      | cons b l ih =>
        intro hl
        have hb := hl b List.mem_cons_self
        refine .cons (.tup ?_ (keyVs_rep b.1)) (ih fun x hx => hl x (List.mem_cons_of_mem _ hx))
        rw [frz_in (List.mem_map_of_mem hb)]; exact e2 b hb
    refine fin _ _ _ [p] N ⟨p, _, [], rfl, upd_same, rfl, OwnL.of0 (rl _ fun b hb => (List.mergeSort_perm _ _).mem_iff.mp hb)⟩ (by simp) fun c hc => ?_
    have ec : c = p := by simpa using hc
    subst ec
    exact ⟨by rw [frz_out nb']; exact np, hp⟩
  · exact .inl (cf_sortedD G H vs ds k d Q s r h fin)
end DV

/-! DV24: dicts and rows of whole numbers, worked out. -/
namespace DV
open PySem PySem.Spec PyProof.Rows L2 RZ
open PySem.W (alike alikeAll dataLe dataLt)
/-- a tuple of whole numbers -/
def tupI (t : List Int) : D := .tup (t.map .int)
def keyI (t : List Int) : List Key := t.map .inl
theorem pyL_ints : ∀ t : List Int, pyL (t.map .int) = t.map PyData.int
  | [] => rfl
  | i :: t => by simp only [List.map_cons, pyL, py, pyL_ints t]
theorem py_tupI (t : List Int) : py (tupI t) = .tuple (t.map PyData.int) := by unfold tupI; rw [py, pyL_ints]
theorem keyT_I (t : List Int) : keyT (keyI t) = tupI t := by
  unfold keyT keyI tupI
  rw [List.map_map]; rfl
theorem tupI_inj {a b : List Int} (h : tupI a = tupI b) : a = b := by
  unfold tupI at h
  injection h with h
  exact List.map_inj_right (fun x y h => by injection h) |>.mp h
theorem keyI_inj {a b : List Int} (h : keyI a = keyI b) : a = b := List.map_inj_right (fun x y h => by injection h) |>.mp h
@[simp] theorem nb_tupI {t : List Int} : nb (tupI t) = true := by unfold tupI; simp
@[simp] theorem ok_tupI {n : Nat} {t : List Int} (h : n ≠ 0) : okD n (tupI t) = true := by unfold tupI; rw [ok_tup h]; simp
theorem sortOk_ints {n : Nat} (hn : 1 ≤ n) {ts : List (List Int)} (h : ∀ t ∈ ts, t.length = n) : sortOk (ts.map tupI) = true := by
  unfold sortOk
  rw [Bool.and_eq_true, Bool.and_eq_true, Bool.or_eq_true]
  refine ⟨⟨List.all_eq_true.mpr fun a ha => List.all_eq_true.mpr fun b hb => ?_, .inl (List.all_eq_true.mpr fun a ha => ?_)⟩, List.all_eq_true.mpr fun a ha => ?_⟩
  · obtain ⟨x, _, rfl⟩ := List.mem_map.mp ha
    obtain ⟨y, _, rfl⟩ := List.mem_map.mp hb
    rw [py_tupI, py_tupI]
    show alikeAll _ _ = true
    exact PySem.W.alike_ints x y
  · obtain ⟨x, hx, rfl⟩ := List.mem_map.mp ha
    have := h x hx
    cases x with
    | nil => simp at this; omega
    | cons i r => rfl
  · obtain ⟨x, _, rfl⟩ := List.mem_map.mp ha
    simp
def leI (a b : List Int) : Bool := leDat (tupI a) (tupI b)
theorem sort_tupI (ts : List (List Int)) : (ts.map tupI).mergeSort leDat = (ts.mergeSort leI).map tupI := (List.map_mergeSort (r := leI) (s := leDat) (f := tupI) (l := ts) (fun _ _ _ _ => rfl)).symm
/-- a dict whose keys are tuples of whole numbers -/
def dI (kvs : List (List Int × D)) : D := .dT (kvs.map fun p => (keyI p.1, p.2))
theorem sorted_dI {n : Nat} (hn : 1 ≤ n) {kvs : List (List Int × D)} (h : ∀ p ∈ kvs, p.1.length = n) : sortedA [dI kvs] = some (1, .lst (((kvs.map (·.1)).mergeSort leI).map tupI)) := by
  have e : ((kvs.map fun p => (keyI p.1, p.2)).map fun p : List Key × D => keyT p.1) = (kvs.map (·.1)).map tupI := by
    rw [List.map_map, List.map_map]
    exact List.map_congr_left fun p _ => keyT_I p.1
  show (if sortOk ((kvs.map fun p => (keyI p.1, p.2)).map fun p => keyT p.1) = true then some (1, D.lst (((kvs.map fun p => (keyI p.1, p.2)).map fun p => keyT p.1).mergeSort leDat)) else none) = _
  rw [e, if_pos (sortOk_ints hn fun t ht => by obtain ⟨p, hp, rfl⟩ := List.mem_map.mp ht; exact h p hp), sort_tupI]
theorem sorted_tupI {n : Nat} (hn : 1 ≤ n) {ts : List (List Int)} (h : ∀ t ∈ ts, t.length = n) : sortedA [.lst (ts.map tupI)] = some (1, .lst ((ts.mergeSort leI).map tupI)) := by
  show (if sortOk (ts.map tupI) = true then some (1, D.lst ((ts.map tupI).mergeSort leDat)) else none) = _
  rw [if_pos (sortOk_ints hn h), sort_tupI]
theorem keysD_ints : ∀ t : List Int, keysD (t.map .int) = some (keyI t)
  | [] => rfl
  | i :: t => by
    show (keyD (.int i)).bind (fun k => (keysD (t.map .int)).map (k :: ·)) = _
    rw [keysD_ints t]; rfl
def putI (kvs : List (List Int × D)) (k : List Int) (v : D) : List (List Int × D) :=
  if (kvs.any fun kv => decide (kv.1 = k)) = true then kvs.map (fun kv => if kv.1 = k then (kv.1, v) else kv) else kvs ++ [(k, v)]
def lookI (kvs : List (List Int × D)) (k : List Int) : Option D := (kvs.find? fun kv => decide (kv.1 = k)).map (·.2)
theorem put_dI {kvs : List (List Int × D)} {k : List Int} {v : D} : putD (kvs.map fun p => (keyI p.1, p.2)) (keyI k) v = (putI kvs k v).map fun p => (keyI p.1, p.2) := by
  have hk : ∀ p : List Int × D, (keyI p.1 = keyI k) = (p.1 = k) := fun p => propext ⟨keyI_inj, fun h => by rw [h]⟩
  have ha : ((kvs.map fun p => (keyI p.1, p.2)).any fun kv => decide (kv.1 = keyI k)) = kvs.any fun kv => decide (kv.1 = k) := by
    rw [List.any_map]
    congr 1
    funext p
    simp only [Function.comp, hk]
  unfold putD putI
  rw [ha]
  split
  · rw [List.map_map, List.map_map]
    refine List.map_congr_left fun p _ => ?_
    simp only [Function.comp, hk]
    split <;> rfl
  · rw [List.map_append]; rfl
theorem look_dI {kvs : List (List Int × D)} {k : List Int} : lookD (kvs.map fun p => (keyI p.1, p.2)) (keyI k) = lookI kvs k := by
  have hk : ∀ p : List Int × D, (keyI p.1 = keyI k) = (p.1 = k) := fun p => propext ⟨keyI_inj, fun h => by rw [h]⟩
  unfold lookD lookI
  rw [List.find?_map]
  cases h : kvs.find? ((fun kv : List Key × D => decide (kv.1 = keyI k)) ∘ fun p => (keyI p.1, p.2)) with
  | none =>
    have : kvs.find? (fun kv => decide (kv.1 = k)) = none := by
      rw [← h]; congr 1; funext p; simp only [Function.comp, hk]
    rw [this]; rfl
  | some q =>
    have : kvs.find? (fun kv => decide (kv.1 = k)) = some q := by
      rw [← h]; congr 1; funext p; simp only [Function.comp, hk]
    rw [this]; rfl
theorem st_dI {kvs : List (List Int × D)} {k : List Int} {v : D} (h : kvs.length < 16777216) : stD (dI kvs) (tupI k) v = some (dI (putI kvs k v)) := by
  show (if (kvs.map fun p => (keyI p.1, p.2)).length < sizeLine then (keysD (k.map .int)).map fun k => D.dT (putD (kvs.map fun p => (keyI p.1, p.2)) k v) else none) = _
  rw [List.length_map, if_pos (by rw [sizeLine_eq]; exact h), keysD_ints]
  show some (D.dT (putD _ (keyI k) v)) = _
  rw [put_dI]; rfl
theorem get_dI {kvs : List (List Int × D)} {k : List Int} : getD' (dI kvs) (tupI k) = some (lookI kvs k) := by
  show (keysD (k.map .int)).map (lookD (kvs.map fun p => (keyI p.1, p.2))) = _
  rw [keysD_ints]
  show some (lookD _ (keyI k)) = _
  rw [look_dI]
theorem in_dI {kvs : List (List Int × D)} {k : List Int} : inA (tupI k) (dI kvs) = some (lookI kvs k).isSome := by
  show (getD' (dI kvs) (tupI k)).map (·.isSome) = _
  rw [get_dI]; rfl
theorem nin_dI {kvs : List (List Int × D)} {k : List Int} : ninA (tupI k) (dI kvs) = some (!(lookI kvs k).isSome) := by
  unfold ninA; rw [in_dI]; rfl
theorem ix_dI {kvs : List (List Int × D)} {k : List Int} {v : D} (h : lookI kvs k = some v) : ixA (dI kvs) (tupI k) = some (0, v) := by
  show ((getD' (dI kvs) (tupI k)).bind id).map (0, ·) = _
  rw [get_dI, h]; rfl
theorem putI_keys {kvs : List (List Int × D)} {k : List Int} {v : D} {p : List Int × D} (h : p ∈ putI kvs k v) : p.1 = k ∨ ∃ q ∈ kvs, q.1 = p.1 := by
  unfold putI at h
  split at h
  · obtain ⟨q, hq, e⟩ := List.mem_map.mp h
    split at e
    · rename_i hk; exact .inl (by rw [← e]; exact hk)
    · exact .inr ⟨q, hq, by rw [e]⟩
  · rcases List.mem_append.mp h with h | h
    · exact .inr ⟨p, h, rfl⟩
    · exact .inl (by have e : p = (k, v) := by simpa using h
                     rw [e])
theorem putI_len {kvs : List (List Int × D)} {k : List Int} {v : D} : (putI kvs k v).length ≤ kvs.length + 1 := by
  unfold putI; split <;> simp
theorem eq_tupI {a b : List Int} : eqD (tupI a) (tupI b) = some (decide (a = b)) := by
  unfold eqD
  rw [if_pos ⟨by simp, by simp⟩]
  congr 1
  rw [Bool.eq_iff_iff, eqv_nb (by simp) (by simp), decide_eq_true_eq]
  exact ⟨tupI_inj, fun h => by rw [h]⟩
theorem ne_tupI {a b : List Int} : neD (tupI a) (tupI b) = some (!decide (a = b)) := by
  unfold neD
  rw [if_pos ⟨by simp, by simp⟩]
  congr 2
  rw [Bool.eq_iff_iff, eqv_nb (by simp) (by simp), decide_eq_true_eq]
  exact ⟨tupI_inj, fun h => by rw [h]⟩
theorem lt_tupI {a b : List Int} : ltD (tupI a) (tupI b) = some (HT.lexLt a b) := by
  unfold tupI ltD
  simp
section
variable {η : Env} {f g h : SE} {j k : Nat} {d : D} {b : SS} {tg : SG} {vs : List Nat} {tt : ST} {F : SF}
@[simp] theorem v_setA : S.setA j f g η = (f η).bind fun d η1 => match η1[j]? with
  | some (.val _ _ _) => (g η1).bind fun y η2 => (match η2[j]? with
    | some (.val 1 l c) => (match stD c y d with
      | some c' => .ok .nx (η2.set j (.val 1 l c'))
      | none => .bad)
    | _ => .bad)
  | _ => .bad := rfl
@[simp] theorem st_lst {ds : List D} {i : Int} : stD (.lst ds) (.int i) d = (ixN ds.length i).map fun m => .lst (ds.set m d) := rfl
@[simp] theorem v_dnew : S.dnew d η = .ok (1, d) η := rfl
@[simp] theorem v_range2 : S.range2 f g η = (f η).bind fun d η1 => (g η1).bind fun e η2 => match d, e with
  | .int i, .int j => if -(2 ^ 62) ≤ i ∧ i < 2 ^ 62 ∧ -(2 ^ 62) ≤ j ∧ j < 2 ^ 62 then .ok (S.rangeL i (j - i).toNat) η2 else .bad
  | _, _ => .bad := rfl
@[simp] theorem isD_lst {ds : List D} : isDct (some (.lst ds)) = false := rfl
@[simp] theorem isD_tup {ds : List D} : isDct (some (.tup ds)) = false := rfl
@[simp] theorem isD_dI {kvs : List (List Int × D)} : isDct (some (dI kvs)) = true := rfl
theorem forsX_seq (hd : isDct (slotA η[j]?) = false) : S.forsX j tg b η = S.fors (S.items (S.var j)) tg b η := by unfold S.forsX; rw [hd]; rfl
theorem compX_seq (hd : isDct (slotA η[j]?) = false) : S.compX k vs j tg tt F η = S.comp k vs (S.items (S.var j)) tg tt F η := by unfold S.compX; rw [hd]; rfl
theorem forsX_dct (hd : isDct (slotA η[j]?) = true) : S.forsX j tg b η = S.forsD j tg b η := by unfold S.forsX; rw [hd]; rfl
theorem compX_dct (hd : isDct (slotA η[j]?) = true) : S.compX k vs j tg tt F η = S.comp k vs (S.keys j) tg tt F η := by unfold S.compX; rw [hd]; rfl
end
theorem log2_le {n k : Nat} (h : n < 2 ^ k) (hk : k ≠ 0) : n.log2 < k := by
  by_cases z : n = 0
  · rw [z]
    have : Nat.log2 0 = 0 := by decide
    omega
  · exact (Nat.log2_lt z).mpr h
theorem v_mulB {a b : Int} (ha : a.natAbs < 2 ^ 1000) (hb : b.natAbs < 2 ^ 1000) : mulD (.int a) (.int b) = some (0, .int (a * b)) :=
  v_mulW (by have := log2_le ha (by decide); have := log2_le hb (by decide); omega)
theorem max_ints {n : Int} {ns : List Int} : maxD [.lst ((n :: ns).map .int)] = some (.int (maxI (n :: ns))) := by
  show (match intsOf ((n :: ns).map .int) with
    | some (n :: ns) => some (D.int (maxI (n :: ns)))
    | _ => none) = _
  rw [intsOf_ints]
theorem min_ints {n : Int} {ns : List Int} : minD [.lst ((n :: ns).map .int)] = some (.int (minI (n :: ns))) := by
  show (match intsOf ((n :: ns).map .int) with
    | some (n :: ns) => some (D.int (minI (n :: ns)))
    | _ => none) = _
  rw [intsOf_ints]
end DV

/-! DV25: try, clauses without a name. -/
namespace DV
open PySem PySem.Spec PyProof.Rows L2 RZ
namespace S
/-- by a table: whether the clause of class x takes an exception of class c -/
def sub (tb : List (Str × Str × Bool)) (c x : Str) : Option Bool := match tb with
  | [] => none
  | p :: r => if p.1 = c ∧ p.2.1 = x then some p.2.2 else sub r c x
def hand (tb : List (Str × Str × Bool)) : List (Str × SS) → Str → SS
  | [], c => fun η => .exc c η
  | (x, h) :: r, c => fun η => match sub tb c x with
    | some true => h η
    | some false => hand tb r c η
    | none => .bad
def tr (tb : List (Str × Str × Bool)) (b : SS) (hs : List (Str × SS)) : SS := fun η => match b η with
  | .exc c η' => hand tb hs c η'
  | .ok fl η' => .ok fl η'
  | .bad => .bad
theorem sub_mem : ∀ {tb : List (Str × Str × Bool)} {c x : Str} {b : Bool}, sub tb c x = some b → (c, x, b) ∈ tb
  | [], _, _, _, h => by cases h
  | p :: r, c, x, b, h => by
    unfold sub at h
    split at h
    · rename_i z
      obtain ⟨p1, p2, p3⟩ := p
      obtain ⟨z1, z2⟩ := z
      simp only at z1 z2
      subst z1; subst z2
      cases h
      exact List.mem_cons_self
    · exact List.mem_cons_of_mem _ (sub_mem h)
end S
/-- the table is true -/
def SubOk (K : PySem.W.Frag) (tb : List (Str × Str × Bool)) : Prop := ∀ p ∈ tb, PySem.W.exmOne K (.ref (He.ga K p.1)) (.ref (He.ga K p.2.1)) = some p.2.2
inductive HdsT (X : Cx) (L : Lents) (W : WX) : List ExceptHandler → List (Str × SS) → Prop
  | nil : HdsT X L W [] []
  | cons {x : Str} {np pos' : Pos} {b₀ : Stmt} {suite : List Stmt} {hds : List ExceptHandler} {hs : List (Str × SS)} {h : SS} (hm : X.mg x = some (.ref (He.ga X.K x))) (hg : Gl X x) (hdb : (x == ("__debug__" : Str)) = false)
      (hsu : ∀ (a : Addr) (oe : Obj) (pn : List (Addr × Obj)), PSs (X.suite a ((a, oe) :: pn)) (b₀ :: suite) (tS X.K L W h)) (r : HdsT X L W hds hs) :
      HdsT X L W (.ExceptHandler (some (.Name x np)) none (b₀ :: suite) pos' :: hds) ((x, h) :: hs)
section
variable {X : Cx} {L : Lents} {W : WX}
def hdsL (K : PySem.W.Frag) (L : Lents) (W : WX) (hs : List (Str × SS)) : List (Value × (Addr → Value → Option Addr → TS)) := hs.map fun p => (.ref (He.ga K p.1), fun _ _ _ => tS K L W p.2)
theorem HdsT.ok {hds : List ExceptHandler} {hs : List (Str × SS)} (h : HdsT X L W hds hs) : HdsOk X hds (hdsL X.K L W hs) := by
  induction h with
  | nil => exact .nil
  | cons hm hg hdb hsu _ ih => exact .cons ⟨hg, hdb, .inl hm⟩ (fun a oe cls d pn _ _ => hsu a oe pn) ih
theorem hand_use {K : PySem.W.Frag} {tb : List (Str × Str × Bool)} (hT : SubOk K tb) {c : Str} {D : Ends} {G H : Hp} {η : Env} {Fs : Feet} : ∀ {hs : List (Str × SS)}, ResS K L W D G H Fs (S.hand tb hs c η) →
    ∀ σ' G' H' Fs', Rel L G' η σ' H' Fs' → Ext G H Fs G' H' Fs' → wMany K W D (hdsL K L W hs) (.ref (He.ga K c)) none σ' H'
  | [], q, σ', G', H', Fs', R, E => q σ' G' H' Fs' R E
  | (x, h) :: r, q, σ', G', H', Fs', R, E => by
    unfold S.hand at q
    cases e : S.sub tb c x with
    | none => simp only [e] at q; exact q.elim
    | some b =>
      simp only [e] at q
      refine ⟨b, hT _ (S.sub_mem e), fun hb a _ => ?_, fun hb => ?_⟩
      · subst hb
        exact ⟨G', η, Fs', R, ResS.later q E⟩
      · subst hb
        exact hand_use hT q σ' G' H' Fs' R E
theorem js_try {body : List Stmt} {h₀ : ExceptHandler} {hds : List ExceptHandler} {hs : List (Str × SS)} {tb : List (Str × Str × Bool)} {b : SS} {pos : Pos} (st : X.stack = X.env :: X.outer) (fr : X.env.frame = some X.env.locals) (tk : Takes X W) (hT : SubOk X.K tb)
    (hb : ∀ (W' : WX) (pn : List (Addr × Obj)) (xe : Value → Shared → Prop), Takes (X.tr pn xe) W' → PSs (X.tr pn xe) body (tS X.K L W' b)) (hh : HdsT X L W (h₀ :: hds) hs) :
    PS X (.Try body (h₀ :: hds) [] [] pos) (tS X.K L W (S.tr tb b hs)) := by
  refine PS.imp (ps_try_many st fr tk (fun W' pn xe tk' _ => hb W' pn xe tk') hh.ok) fun D σ H ⟨G, η, Fs, R, q⟩ => ⟨G, η, Fs, R, ?_⟩
  unfold S.tr at q
  cases e : b η with
  | bad => rw [e] at q; exact q.elim
  | ok fl η' =>
    rw [e] at q
    cases fl <;> exact q
  | exc c η' =>
    rw [e] at q
    exact hand_use hT q
@[simp] theorem v_tr {tb : List (Str × Str × Bool)} {b : SS} {hs : List (Str × SS)} {η : Env} : S.tr tb b hs η = match b η with
  | .exc c η' => S.hand tb hs c η'
  | .ok fl η' => .ok fl η'
  | .bad => .bad := rfl
end
end DV

/-! DV26: sorted(set(xs)), xs a list of tuples of whole numbers. -/
namespace DV
open PySem PySem.Spec PyProof.Rows L2 RZ
open PySem.W (EachIs AllAlike Sortable alike alikeAll dataLe dataLt)
theorem leI_eq (a b : List Int) : leI a b = decide (a ≤ b) := by
  show (!dataLt (py (tupI b)) (py (tupI a))) = _
  rw [py_tupI, py_tupI, PySem.W.dataLt_tuple]
  show (!PySem.W.rowLt _ _) = _
  rw [PySem.W.dataLt_ints]
  by_cases h : b < a
  · have : ¬ a ≤ b := fun r => List.not_lt.mpr r h
    simp [h, this]
  · have : a ≤ b := List.not_lt.mp h
    simp [h, this]
def tupsOf : List D → Option (List (List Int))
  | [] => some []
  | .tup ds :: r => (intsOf ds).bind fun t => (tupsOf r).map (t :: ·)
  | _ :: _ => none
theorem tupsOf_map : ∀ {ts : List (List Int)}, tupsOf (ts.map tupI) = some ts
  | [] => rfl
  | t :: ts => by
    show (intsOf (t.map .int)).bind (fun t => (tupsOf (ts.map tupI)).map (t :: ·)) = _
    rw [intsOf_ints, tupsOf_map]; rfl
def sortSetD : List D → Option (Nat × D)
  | [.lst ds] => match tupsOf ds with
    | some ts => if ts.length < 64 ∧ (ts.all fun t => decide (t ≠ [])) = true then some (1, .lst (((ts.eraseDups).mergeSort leI).map tupI)) else none
    | none => none
  | _ => none
theorem perm_map {α β : Type} {f : α → β} {xs ys : List β} (h : xs.Perm ys) : ∀ l : List α, ys = l.map f → ∃ l1 : List α, l1.Perm l ∧ xs = l1.map f := by
  induction h with
  | nil => exact fun l e => ⟨l, .refl l, e⟩
  | cons x h ih =>
    intro l e
    cases l with
    | nil => cases e
    | cons a l =>
      injection e with e1 e2
      obtain ⟨l1, p, e3⟩ := ih l e2
      exact ⟨a :: l1, p.cons a, by rw [List.map_cons, e3, e1]⟩
  | swap x y l0 =>
    intro l e
    match l, e with
    | a :: b :: l, e =>
      injection e with e1 e2
      injection e2 with e2 e3
      exact ⟨b :: a :: l, .swap a b l, by rw [List.map_cons, List.map_cons, ← e1, ← e2, ← e3]⟩
  | trans _ _ ih1 ih2 =>
    intro l e
    obtain ⟨l1, p1, e1⟩ := ih2 l e
    obtain ⟨l2, p2, e2⟩ := ih1 l1 e1
    exact ⟨l2, p2.trans p1, e2⟩
theorem dpAll_ints {K : PySem.W.Frag} {H : Hp} : ∀ t : List Int, DpAll K H (t.map V.int) (t.map PyData.int)
  | [] => .nil
  | i :: t => .cons (.int i) (dpAll_ints t)
theorem dp_tupI {K : PySem.W.Frag} {H : Hp} {a : Addr} {t : List Int} (h : SqT K H a (t.map V.int)) : Dp K H (.ref a) (py (tupI t)) := by
  rw [py_tupI]; exact .tup h (dpAll_ints t)
def rSortSet (K : PySem.W.Frag) (P : Program) (w : World) : List V → Hp → VK → Prop := fun vs H Q => ∃ (a : Addr) (l : List (Addr × List Int)), vs = [V.ref a] ∧ H a = some (SetTO P w a l) ∧ (∀ p ∈ l, SqT K H p.1 (p.2.map V.int)) ∧ (∀ p ∈ l, p.2 ≠ []) ∧
  ∀ (l' : List (Addr × List Int)) (p : Addr), H p = none → l'.Perm l → (l'.map (·.2)).Nodup → l'.Pairwise (fun q r => leI q.2 r.2 = true) → Q (.ref p) (upd H p (.lst (l'.map fun q => V.ref q.1)))
theorem sortOk_tups {ts : List (List Int)} (h : ∀ t ∈ ts, t ≠ []) : sortOk (ts.map tupI) = true := by
  unfold sortOk
  rw [Bool.and_eq_true, Bool.and_eq_true, Bool.or_eq_true]
  refine ⟨⟨List.all_eq_true.mpr fun a ha => List.all_eq_true.mpr fun b hb => ?_, .inl (List.all_eq_true.mpr fun a ha => ?_)⟩, List.all_eq_true.mpr fun a ha => ?_⟩
  · obtain ⟨x, _, rfl⟩ := List.mem_map.mp ha
    obtain ⟨y, _, rfl⟩ := List.mem_map.mp hb
    rw [py_tupI, py_tupI]
    show alikeAll _ _ = true
    exact PySem.W.alike_ints x y
  · obtain ⟨x, hx, rfl⟩ := List.mem_map.mp ha
    have := h x hx
    cases x with
    | nil => exact absurd rfl this
    | cons i r => rfl
  · obtain ⟨x, _, rfl⟩ := List.mem_map.mp ha
    simp
theorem leI_trans (a b c : List Int) : leI a b = true → leI b c = true → leI a c = true := by
  rw [leI_eq, leI_eq, leI_eq, decide_eq_true_eq, decide_eq_true_eq, decide_eq_true_eq]
  exact List.le_trans
theorem leI_total (a b : List Int) : (leI a b || leI b a) = true := by
  rw [leI_eq, leI_eq, Bool.or_eq_true, decide_eq_true_eq, decide_eq_true_eq]
  exact List.le_total a b
theorem leI_antisymm {a b : List Int} (h : leI a b = true) (h' : leI b a = true) : a = b := by
  rw [leI_eq, decide_eq_true_eq] at h h'
  exact List.le_antisymm h h'
section
variable {X : Cx}
theorem cr_sortSet (hc : X.calm = true) (hu : X.A.units + 65 < cLine) : CallR X (.builtin "sorted") (rSortSet X.K X.prog X.w) := by
  intro pins s σ H vs us Q I r h
  obtain ⟨a, l, rfl, ha, hk, hne, q⟩ := h
  obtain ⟨es, ep, t, R⟩ := (show SetT0 X.prog X.w s.heap a l from (I.hok a _ ha).1).full fun p hp => I.isT (hk p hp)
  rw [Vals.ref1 r]
  obtain ⟨o, ho, hex, hd⟩ := R.ob
  have z1 := R.size
  have z2 := R.few
  refine Calls.call_function_entry PyProof.Rows.kind_sorted PyProof.Rows.plain_sorted PyProof.Rows.entry_sorted (PyProof.Rows.args_sorted1 _) ?_
  unfold Builtin.«sorted»
  refine wpAny_bind (m := checkCount "sorted" 1 1 _) (wpAny_pure ?_)
  refine wpAny_bind (collect_set (A := X.A.in1) (I.ok.hd hc) ⟨o, ho, hex.1, hd⟩ R.fits (by unfold scanBound; omega) R.tab.ris R.led fun s1 its k1 hz g1 o1 pm => ?_)
  obtain ⟨l1, p1, e1⟩ := perm_map (f := fun q : Addr × List Int => Value.ref q.1) pm l (by rw [R.rows]; unfold rowsOf; rw [List.map_map]; rfl)
  have n1 : l1.length < 64 := by rw [p1.length_eq]; exact z2
  have hi : its.length = l1.length := by rw [e1, List.length_map]
  refine wpAny_bind (wpAny_newList ?_ (by rw [sizeLine_eq]; omega))
  have hoL : (s1.heap.push (seqObj "list" its.toArray 0)).get? s1.heap.objs.size = some (seqObj "list" its.toArray 0) := Heap.get?_push_size _ rfl
  have so : sortOk (l1.map fun q => tupI q.2) = true := by
    have := sortOk_tups (ts := l1.map (·.2)) fun t ht => by
      obtain ⟨q, hq, rfl⟩ := List.mem_map.mp ht
      exact hne q (p1.mem_iff.mp hq)
    rwa [List.map_map] at this
  obtain ⟨y1, y2, y3⟩ := sort_premises so
  have rd : ∀ q ∈ l1, ∃ as, Reads s1.heap (.ref q.1) (py (tupI q.2)) as ∧ ∀ b ∈ as, b < s1.heap.objs.size := fun q hq => by
    obtain ⟨as, ra⟩ := Dp.reads I _ _ _ (dp_tupI (hk q (p1.mem_iff.mp hq))) rfl
    have rk := PyProof.Rows.Reads.keeps k1 ra
    refine ⟨as, rk, fun b hb => ?_⟩
    obtain ⟨ob, hob⟩ := PyProof.On.reads_mem_get rk _ hb
    exact Heap.lt_size hob
  have b1 : EachIs (fun u (b : Addr × List Int) => u = Value.ref b.1) its l1 := by
    rw [e1]
    clear e1 rd y1 y2 y3 so hoL hi n1 p1 pm
    induction l1 with
    | nil => exact .nil
    | cons b bs ih => exact .cons rfl ih
  have b2 : EachIs (fun u (b : Addr × List Int) => ∃ as, Reads (s1.heap.push (seqObj "list" its.toArray 0)) u (py (tupI b.2)) as ∧ s1.heap.objs.size ∉ as) its l1 := by
    have : ∀ (bs : List (Addr × List Int)) (ws : List Value), (∀ b ∈ bs, b ∈ l1) → EachIs (fun u (b : Addr × List Int) => u = Value.ref b.1) ws bs → EachIs (fun u (b : Addr × List Int) => ∃ as, Reads (s1.heap.push (seqObj "list" its.toArray 0)) u (py (tupI b.2)) as ∧ s1.heap.objs.size ∉ as) ws bs := by
      intro bs ws hl e
      induction e with
      | nil => exact .nil
      | @cons u b ws bs hu t ih =>
        refine .cons ?_ (ih fun x hx => hl x (List.mem_cons_of_mem _ hx))
        obtain ⟨as, ra, lt⟩ := rd b (hl b List.mem_cons_self)
        subst hu
        exact ⟨as, PyProof.Rows.Reads.keeps (fun _ _ q => Heap.get?_push_of_some _ q) ra, fun hm => Nat.lt_irrefl _ (lt _ hm)⟩
    exact this l1 _ (fun _ h => h) b1
  refine wpAny_bind (wpAny_holding (PySem.W.list_sort_data (A := X.A.in1) (s := { s1 with heap := s1.heap.push (seqObj "list" its.toArray 0) }) hoL b1 b2 y1 y2 (by rw [sizeLine_eq]; omega) (fun b hb => ?_) fun out hout ho2 => ?_))
  · have := y3 b hb
    show X.A.units + 1 + 1 + _ < _
    omega
  · obtain ⟨c, hc'⟩ := PyProof.Rows.sortedHeap_at (vs := its) (out := List.toArray out) hoL
    have hle : (fun x y : Addr × List Int => leI x.2 y.2) = dataLe false fun b : Addr × List Int => py (tupI b.2) := by
      funext x y; rfl
    obtain ⟨l2, hl2⟩ : ∃ l2, l2 = l1.mergeSort fun x y => leI x.2 y.2 := ⟨_, rfl⟩
    have p2 : l2.Perm l1 := by rw [hl2]; exact List.mergeSort_perm _ _
    have pw : l2.Pairwise (fun x y => leI x.2 y.2 = true) := by
      rw [hl2]
      exact List.pairwise_mergeSort (fun a b c => leI_trans a.2 b.2 c.2) (fun a b => leI_total a.2 b.2) l1
    have rv : Vals (l2.map fun b => V.ref b.1) out := by
      rw [← hle, ← hl2] at ho2
      clear hl2 p2 pw hc' hout
      induction ho2 with
      | nil => exact .nil
      | cons h t ih => subst h; exact .cons rfl ih
    have hp : s.heap.objs.size ≤ s1.heap.objs.size := hz
    have kp : ∀ b u, s.heap.get? b = some u → (PyProof.Rows.sortedHeap (s1.heap.push (seqObj "list" its.toArray 0)) s1.heap.objs.size its (List.toArray out)).get? b = some u := fun b u e => by
      have e2 := k1 b u e
      have lt := Heap.lt_size e2
      rw [PyProof.Rows.sortedHeap_old (Nat.ne_of_lt lt) (by rw [size_push']; exact Nat.lt_succ_of_lt lt)]
      exact Heap.get?_push_of_some _ e2
    have hn : H s1.heap.objs.size = none := I.hok.fresh hp
    have nd : (l2.map (·.2)).Nodup := ((p2.trans p1).map (·.2)).nodup_iff.mpr R.nd
    have hlen : (l2.map fun q => V.ref q.1).length ≤ sizeLine := by rw [List.length_map, p2.length_eq, sizeLine_eq]; omega
    refine wpAny_pure ⟨_, rfl, ?_⟩
    have J : Inv X pins σ (upd H s1.heap.objs.size (.lst (l2.map fun q => V.ref q.1))) { s with heap := PyProof.Rows.sortedHeap (s1.heap.push (seqObj "list" its.toArray 0)) s1.heap.objs.size its (List.toArray out), gens := s1.gens, drawn := s1.drawn, toks := s1.toks } :=
      I.call (ch := []) (Un.laid kp hp hn) (I.hok.laid kp hp ⟨hlen, out, c, rv, hc'⟩) (by rw [g1]; exact I.bare) (fun _ z => nomatch z)
    have es : ({ s1 with heap := PyProof.Rows.sortedHeap (s1.heap.push (seqObj "list" its.toArray 0)) s1.heap.objs.size its (List.toArray out) } : Shared) = { s with heap := PyProof.Rows.sortedHeap (s1.heap.push (seqObj "list" its.toArray 0)) s1.heap.objs.size its (List.toArray out), gens := s1.gens, drawn := s1.drawn, toks := s1.toks } := by
      cases s1
      cases s
      cases o1
      rfl
    show ∃ (v : V) (H' : Hp), Inv X pins σ H' ({ s1 with heap := PyProof.Rows.sortedHeap (s1.heap.push (seqObj "list" its.toArray 0)) s1.heap.objs.size its (List.toArray out) } : Shared) ∧ RelV v (.ref s1.heap.objs.size) ∧ Q v H'
    rw [es]
    exact ⟨.ref _, _, J, rfl, q l2 _ hn (p2.trans p1) nd pw⟩
end
theorem nodup_dups : ∀ l : List (List Int), (l.eraseDups).Nodup := by
  intro l
  induction h : l.length using Nat.strongRecOn generalizing l with
  | _ n ih =>
    cases l with
    | nil => simp
    | cons t l =>
      rw [List.eraseDups_cons, List.nodup_cons]
      refine ⟨fun hm => ?_, ih (l.filter fun b => !b == t).length ?_ _ rfl⟩
      · have := List.mem_eraseDups.mp hm
        simp at this
      · have := List.length_filter_le (fun b => !b == t) l
        simp at h
        omega
/-- both calls, one within the other -/
def rSetSort (K : PySem.W.Frag) (P : Program) (w : World) : List V → Hp → VK → Prop := fun vs H Q => rSetOfT K P w vs H fun v H1 => rSortSet K P w [v] H1 Q
theorem tups_rep {G : Hp} : ∀ {vs : List V} {ds : List D} {ts : List (List Int)}, RepL G vs ds → tupsOf ds = some ts → ∃ ks : List (Addr × List Int), vs = ks.map (fun p => V.ref p.1) ∧ ks.map (·.2) = ts ∧ ∀ p ∈ ks, G p.1 = some (.tup (p.2.map V.int))
  | _, _, _, .nil, e => by cases e; exact ⟨[], rfl, rfl, fun _ h => by cases h⟩
  | _, _, ts, .cons (d := d) (ds := ds) r t, e => by
    cases d <;> simp only [tupsOf] at e <;> try cases e
    rename_i es
    cases h1 : intsOf es with
    | none => rw [h1] at e; cases e
    | some u =>
      rw [h1] at e
      cases h2 : tupsOf ds with
      | none => rw [h2] at e; cases e
      | some us =>
        rw [h2] at e; cases e
        obtain ⟨ks, k1, k2, k3⟩ := tups_rep t h2
        cases r with
        | tup g rl =>
          refine ⟨(_, u) :: ks, by rw [List.map_cons, k1], by rw [List.map_cons, k2], fun p hp => ?_⟩
          rcases List.mem_cons.mp hp with z | z
          · subst z
            rw [g, intsOf_rep rl h1]
          · exact k3 p z
theorem repL_tups {G : Hp} : ∀ {ks : List (Addr × List Int)}, (∀ p ∈ ks, G p.1 = some (.tup (p.2.map V.int))) → RepL G (ks.map fun p => V.ref p.1) ((ks.map (·.2)).map tupI)
  | [], _ => .nil
  | p :: ks, h => .cons (.tup (h p List.mem_cons_self) (RepL.ints p.2)) (repL_tups fun q hq => h q (List.mem_cons_of_mem _ hq))
theorem New.mut {G H : Hp} {a : Addr} {o : HO} (s : Sub G H) (h : H a = none) : New G H G (upd H a o) := ⟨Le.refl G, upd_le h, s.trans (upd_le h).sub, fun _ z => .inl z⟩
theorem New.then {G H G1 H1 G2 H2 : Hp} (x : New G H G1 H1) (y : New G1 H1 G2 H2) : New G H G2 H2 where
  g := x.g.trans y.g
  h := x.h.trans y.h
  s := y.s
  n := fun a z => by
    rcases y.n a z with q | q
    · exact x.n a q
    · refine .inr ?_
      cases e : H a with
      | none => trivial
      | some o => rw [x.h a o e] at q; exact q
theorem cf_setSort {K : PySem.W.Frag} {P : Program} {w : World} : CallF (rSetSort K P w) sortSetD := by
  intro G H vs ds k d Q s r h fin
  unfold sortSetD at h
  split at h <;> try cases h
  rename_i ds0
  split at h <;> try cases h
  rename_i ts hts
  split at h <;> cases h
  rename_i hok
  obtain ⟨v, rfl, b⟩ := r.one
  obtain ⟨a, ys, rfl, h1, r1⟩ := b.lst s
  obtain ⟨ks, k1, k2, k3⟩ := tups_rep r1 hts
  subst k1
  have lk : ks.length = ts.length := by rw [← k2, List.length_map]
  refine ⟨a, ks, rfl, .inl h1, fun p hp => .of (s.tp _ _ (k3 p hp)), by omega, fun c l hn hs hall => ?_⟩
  have g1 : ∀ p ∈ l, G p.1 = some (.tup (p.2.map V.int)) := fun p hp => k3 p (hs p hp)
  have s1 : Sub G (upd H c (SetTO P w c l)) := s.trans (upd_le hn).sub
  refine ⟨c, l, rfl, upd_same, fun p hp => .of (s1.tp _ _ (g1 p hp)), fun p hp => ?_, fun l' p hp pm nd pw => ?_⟩
  · have : p.2 ∈ ts := by rw [← k2]; exact List.mem_map_of_mem (hs p hp)
    exact of_decide_eq_true (List.all_eq_true.mp hok.2 _ this)
  · have e : l'.map (·.2) = (ts.eraseDups).mergeSort leI := by
      refine List.Perm.eq_of_pairwise (le := fun x y => leI x y = true) (fun x y _ _ => leI_antisymm) (List.pairwise_map.mpr pw) (List.pairwise_mergeSort leI_trans leI_total _) ?_
      refine ((List.perm_ext_iff_of_nodup nd (nodup_dups _)).mpr fun t => ?_).trans (List.mergeSort_perm _ _).symm
      rw [List.mem_eraseDups, (pm.map (·.2)).mem_iff]
      constructor
      · intro ht
        obtain ⟨q, hq, rfl⟩ := List.mem_map.mp ht
        rw [← k2]; exact List.mem_map_of_mem (hs q hq)
      · intro ht
        rw [← k2] at ht
        obtain ⟨q, hq, rfl⟩ := List.mem_map.mp ht
        exact hall q hq
    rw [← e] at fin
    have N := New.mut (o := SetTO P w c l) s hn
    have np : p ≠ c := fun z => by rw [z, upd_same] at hp; cases hp
    have hp0 : H p = none := by rw [upd_ne np] at hp; exact hp
    refine fin _ _ _ [p] (N.then (New.own s1 hp)) ⟨p, _, [], rfl, upd_same, rfl, OwnL.of0 (repL_tups fun q hq => g1 q (pm.mem_iff.mp hq))⟩ (by simp) fun b hb => ?_
    have eb : b = p := by simpa using hb
    subst eb
    exact ⟨s.free hp0, hp0⟩
section
variable {X : Cx} {L : Lents} {W : WX} {a : Expr} {p1 p2 q1 q2 : Pos}
theorem jf_setSort {e : Expr} {os : List Opd} (z : PE X e (tCB (rSortSet X.K X.prog X.w) (tCons (tCB (rSetOfT X.K X.prog X.w) (tOs X.K L W os)) tNil))) : PE X e (tF X.K L W (S.fn sortSetD os)) :=
  jf_callR (r := rSetSort X.K X.prog X.w) cf_setSort z
theorem u64 {k : Nat} {A : Around} (hr : Room k A) : A.units + 64 < cLine := by have := u65 hr; omega
end
end DV

/-! DV27: targets that take lists, too; parallel stores of values of their own; at += 1. -/
namespace DV
open PySem PySem.Spec PyProof.Rows L2 RZ
namespace S
/-- a, b, .. = a tuple or a list -/
def gsq (gs : List SG) : SG := fun d η => match d with
  | .tup ds => names gs ds η
  | .lst ds => names gs ds η
  | _ => .bad
def rowF : List SF → Env → Out (List (Nat × D))
  | [], η => .ok [] η
  | f :: fs, η => (f η).bind fun p η1 => (rowF fs η1).bind fun ps η2 => .ok (p :: ps) η2
def puts : List Nat → List (Nat × D) → Env → Option Env
  | [], [], η => some η
  | i :: is, p :: ps, η => if stores i η = true then puts is ps (η.set i (.val p.1 false p.2)) else none
  | _, _, _ => none
def parF (is : List Nat) (fs : List SF) : SS := fun η => (rowF fs η).bind fun ps η1 => match puts is ps η1 with
  | some η2 => .ok .nx η2
  | none => .bad
/-- x op= e, of whole numbers -/
def augI (i : Nat) (g : Int → Int → Int) (f : SE) : SS := fun η => match η[i]? with
  | some (.val _ _ (.int x)) => (f η).bind fun d η1 => (match d with
    | .int y => if stores i η1 = true then .ok .nx (η1.set i (.val 0 false (.int (g x y)))) else .bad
    | _ => .bad)
  | _ => .bad
end S
section
variable {X : Cx} {L : Lents} {W : WX} {a b c e : Expr} {es : List Expr} {pos : Pos}
theorem jg_sq {gs : List SG} {k n : Nat} (hc : X.calm = true) (h : PGs X es (tGs L gs)) (hl : gs.length = n) (hn : (assignEach es X.env).length = n := by rfl) (hst : (assignEach es X.env).findIdx? (·.1) = none := by rfl) : PG X (.Tuple es k pos) (tG L (S.gsq gs)) := by
  refine ⟨fun pins s σ H v u Q I r q => ?_⟩
  obtain ⟨G, η, Fs, d, η', R, rr, ee, q⟩ := q
  unfold S.gsq at ee
  cases d <;> first | (exact absurd ee (by intro z; cases z)) | skip
  · rename_i ds
    cases rr with
    | tup h1 h2 => exact (pg_tup hc h hn hst).run pins s σ H _ u Q I r ⟨_, _, rfl, .of (R.sub.tp _ _ h1), by rw [h2.length, ← names_len ee]; exact hl, G, η, Fs, ds, η', R, h2, ee, q⟩
  · rename_i ds
    cases rr with
    | lst h1 h2 => exact (pg_lst hc h hn hst).run pins s σ H _ u Q I r ⟨_, _, rfl, .inl (R.sub.rd _ _ h1), by rw [h2.length, ← names_len ee]; exact hl, G, η, Fs, ds, η', R, h2, ee, q⟩
/-! ### rows of values of their own -/
def tFs (K : PySem.W.Frag) (L : Lents) (W : WX) : List SF → TA
  | [] => tNil
  | f :: fs => tCons (tF K L W f) (tFs K L W fs)
inductive ApL (G H : Hp) (Fs : Feet) : List V → List (Nat × D) → List (List Addr) → Prop
  | nil : ApL G H Fs [] [] []
  | cons {v : V} {vs : List V} {p : Nat × D} {ps : List (Nat × D)} {F : List Addr} {FL : List (List Addr)} : Apart G H Fs p.1 v p.2 F → (∀ x ∈ F, ∀ F' ∈ FL, x ∉ F') → ApL G H Fs vs ps FL → ApL G H Fs (v :: vs) (p :: ps) (F :: FL)
theorem tFs_use {K : PySem.W.Frag} {β : Type} {P : β → Env → Hp → Hp → Feet → Prop} : ∀ {fs : List SF} {σ : Sig} {k : List (Nat × D) → Env → Out β} {Q : List V → Hp → Prop} {G H : Hp} {η : Env} {Fs : Feet} (R : Rel L G η σ H Fs) (h : Res K L W σ G H Fs P ((S.rowF fs η).bind k))
    (fin : ∀ vs ps η1 G1 H1 Fs1 FL, Rel L G1 η1 σ H1 Fs1 → Ext G H Fs G1 H1 Fs1 → ApL G1 H1 Fs1 vs ps FL → (∀ F ∈ FL, ∀ x ∈ F, foot Fs x ∨ H x = none) → Res K L W σ G1 H1 Fs1 P (k ps η1) → Q vs H1), tFs K L W fs σ H Q
  | [], σ, k, Q, G, H, η, Fs, R, h, fin => fin [] [] η G H Fs [] R Ext.refl .nil (fun _ z => by cases z) h
  | f :: fs, σ, k, Q, G, H, η, Fs, R, h, fin => by
    have e : (S.rowF (f :: fs) η).bind k = (f η).bind fun p η1 => (S.rowF fs η1).bind fun ps η2 => k (p :: ps) η2 := by
      show ((f η).bind fun p η1 => (S.rowF fs η1).bind fun ps η2 => .ok (p :: ps) η2).bind k = _
      cases f η with
      | bad => rfl
      | exc c η' => rfl
      | ok p η1 =>
        show ((S.rowF fs η1).bind fun ps η2 => .ok (p :: ps) η2).bind k = (S.rowF fs η1).bind fun ps η2 => k (p :: ps) η2
        cases S.rowF fs η1 <;> rfl
    rw [e] at h
    refine ⟨G, η, Fs, R, h.bind.mono fun p η1 G1 H1 Fs1 R1 E1 q1 v F x o => ?_⟩
    refine tFs_use R1 q1 fun vs ps η2 G2 H2 Fs2 FL R2 E2 al ol q2 => ?_
    refine fin (v :: vs) (p :: ps) η2 G2 H2 Fs2 (F :: FL) R2 (E1.trans E2) (.cons (x.ext E2) (fun y hy F' hF' hz => ?_) al) (fun F' hF' y hy => ?_) q2
    · rcases ol F' hF' y hz with z | z
      · exact x.sep y hy z
      · exact x.there y hy z
    · rcases List.mem_cons.mp hF' with z | z
      · subst z; exact o y hy
      · exact (ol F' z y hy).elim (E1.f y) fun w => .inr (E1.noneOf w)
def setsV : List Nat → List V → Sig → Sig
  | i :: is, v :: vs, σ => setsV is vs (σ.set i (some v))
  | _, _, σ => σ
theorem ApL.len {G H : Hp} {Fs : Feet} : ∀ {vs ps FL}, ApL G H Fs vs ps FL → vs.length = ps.length
  | _, _, _, .nil => rfl
  | _, _, _, .cons _ _ t => by rw [List.length_cons, List.length_cons, t.len]
theorem ApL.imp {G H : Hp} {Fs Fs' : Feet} : ∀ {vs ps FL}, ApL G H Fs vs ps FL → (∀ F ∈ FL, ∀ y ∈ F, foot Fs' y → foot Fs y) → ApL G H Fs' vs ps FL
  | _, _, _, .nil, _ => .nil
  | _, _, _, .cons x d t, h => .cons ⟨x.own, x.nod, x.dis, fun y hy z => x.sep y hy (h _ List.mem_cons_self y hy z)⟩ d (t.imp fun F hF => h F (List.mem_cons_of_mem _ hF))
theorem puts_use {G H : Hp} : ∀ {is : List Nat} {ps : List (Nat × D)} {vs : List V} {FL : List (List Addr)} {η η' : Env} {σ : Sig} {Fs : Feet}, Rel L G η σ H Fs → ApL G H Fs vs ps FL → S.puts is ps η = some η' →
    is.length = vs.length ∧ ∃ Fs', Rel L G η' (setsV is vs σ) H Fs' ∧ ∀ y, foot Fs' y → foot Fs y ∨ ∃ F ∈ FL, y ∈ F
  | [], [], _, _, η, η', σ, Fs, R, al, e => by
    cases al; cases e
    exact ⟨rfl, Fs, R, fun y hy => .inl hy⟩
  | i :: is, p :: ps, _, _, η, η', σ, Fs, R, al, e => by
    cases al with
    | cons x d t =>
      unfold S.puts at e
      split at e
      · rename_i s
        obtain ⟨Fs1, R1, f1⟩ := R.stored x s fun _ _ => .inr (.inr trivial)
        obtain ⟨hl, Fs2, R2, f2⟩ := puts_use R1 (t.imp fun F' hF' y hy z => (f1 y z).elim (fun w => absurd hy (d y w F' hF')) id) e
        refine ⟨by rw [List.length_cons, List.length_cons, hl], Fs2, R2, fun y hy => ?_⟩
        rcases f2 y hy with z | ⟨F', hF', z⟩
        · rcases f1 y z with w | w
          · exact .inr ⟨_, List.mem_cons_self, w⟩
          · exact .inl w
        · exact .inr ⟨F', List.mem_cons_of_mem _ hF', z⟩
      · cases e
  | [], _ :: _, _, _, _, _, _, _, _, al, e => by cases e
  | _ :: _, [], _, _, _, _, _, _, _, al, e => by cases e
theorem parF_use {K : PySem.W.Frag} {N : Ends} {σ : Sig} {H : Hp} {is : List Nat} {fs : List SF} {Q : List V → Hp → Prop} (h : tS K L W (S.parF is fs) N σ H) (fin : ∀ vs H1, is.length = vs.length → N.nx (setsV is vs σ) H1 → Q vs H1) : tFs K L W fs σ H Q := by
  obtain ⟨G, η, Fs, R, q⟩ := h
  have key : Res K L W σ G H Fs (fun (b : List (Nat × D)) η1 G1 H1 Fs1 => ResS K L W N G H Fs (match S.puts is b η1 with
      | some η2 => .ok .nx η2
      | none => .bad)) ((S.rowF fs η).bind fun ps η1 => .ok ps η1) := by
    unfold S.parF at q
    cases z : S.rowF fs η with
    | bad => rw [z] at q; exact q
    | exc c η1 => rw [z] at q; exact fun G1 H1 Fs1 R1 E1 => q σ G1 H1 Fs1 R1 E1
    | ok ps η1 => rw [z] at q; exact fun _ _ _ _ _ => q
  refine tFs_use R key fun vs ps η1 G1 H1 Fs1 FL R1 E1 al ol q3 => ?_
  have q3 : ResS K L W N G H Fs (match S.puts is ps η1 with
      | some η2 => .ok .nx η2
      | none => .bad) := q3 G1 H1 Fs1 R1 Ext.refl
  cases w : S.puts is ps η1 with
  | none => rw [w] at q3; exact q3.elim
  | some η2 =>
    rw [w] at q3
    obtain ⟨hl, Fs2, R2, f2⟩ := puts_use R1 al w
    refine fin vs H1 hl (q3 _ G1 H1 Fs2 R2 (E1.feet fun y hy => ?_))
    rcases f2 y hy with z | ⟨F, hF, z⟩
    · exact E1.f y z
    · exact ol F hF y z
theorem js_parF2 {i j : Nat} {x y : Str} {f g : SF} {px py pt : Pos} {kt k2 pt2} (hc : X.calm = true) (hN : X.N.Nodup) (hi : X.N[i]? = some x) (hj : X.N[j]? = some y) (hij : i ≠ j)
    (hx : X.env.scope.names.lookup x = some .local) (hy : X.env.scope.names.lookup y = some .local) (pa : PA X [a, b] (tFs X.K L W [f, g]))
    (hw : swappedStores [.Tuple [.Name x px, .Name y py] kt pt] (.Tuple [a, b] k2 pt2) X.env = pure (some [x, y]))
    (hs : swapsWithSole [.Tuple [.Name x px, .Name y py] kt pt] (.Tuple [a, b] k2 pt2) pos.line X.env = pure false := by rfl) :
    PS X (.Assign [.Tuple [.Name x px, .Name y py] kt pt] (.Tuple [a, b] k2 pt2) pos) (tS X.K L W (S.parF [i, j] [f, g])) := by
  refine PS.imp (ps_par hc hN hi hj hij hx hy pa hw hs) fun N σ H q => parF_use q fun vs H1 hl h => ?_
  match vs, hl, h with
  | [v, w], _, h => exact ⟨v, w, rfl, h⟩
theorem js_parF3 {i j l : Nat} {x y z : Str} {f g h : SF} {px py pz pt : Pos} {kt k2 pt2} (hc : X.calm = true) (hN : X.N.Nodup) (hi : X.N[i]? = some x) (hj : X.N[j]? = some y) (hl : X.N[l]? = some z) (hij : i ≠ j) (hil : i ≠ l) (hjl : j ≠ l)
    (hx : X.env.scope.names.lookup x = some .local) (hy : X.env.scope.names.lookup y = some .local) (hz : X.env.scope.names.lookup z = some .local) (pa : PA X [a, b, c] (tFs X.K L W [f, g, h]))
    (hw : swappedStores [.Tuple [.Name x px, .Name y py, .Name z pz] kt pt] (.Tuple [a, b, c] k2 pt2) X.env = pure (some [x, y, z]))
    (hs : swapsWithSole [.Tuple [.Name x px, .Name y py, .Name z pz] kt pt] (.Tuple [a, b, c] k2 pt2) pos.line X.env = pure false := by rfl) :
    PS X (.Assign [.Tuple [.Name x px, .Name y py, .Name z pz] kt pt] (.Tuple [a, b, c] k2 pt2) pos) (tS X.K L W (S.parF [i, j, l] [f, g, h])) := by
  refine PS.imp (ps_par3 hc hN hi hj hl hij hil hjl hx hy hz pa hw hs) fun N σ H q => parF_use q fun vs H1 hl h => ?_
  match vs, hl, h with
  | [u, v, w], _, h => exact ⟨u, v, w, rfl, h⟩
theorem jfs_nil : PA X [] (tFs X.K L W []) := pa_nil
theorem jfs_cons {f : SF} {fs : List SF} (h : PE X e (tF X.K L W f)) (hr : PA X es (tFs X.K L W fs)) (hs : starEach (e :: es) X.env = (false, eval e X.env) :: starEach es X.env := by rfl) : PA X (e :: es) (tFs X.K L W (f :: fs)) := pa_cons h hr hs
/-! ### x op= e -/
theorem js_augI {i : Nat} {x : Str} {op : Operator} {g : Int → Int → Int} {f : SE} {pos' : Pos} (hN : X.N.Nodup) (hi : X.N[i]? = some x) (hx : Loc X.env.scope x) (ho : PIp X op (ipI g)) (h : PE X e (tE X.K L W f))
    (hf : X.fn x = true ∨ X.env.scope.names.lookup x = some .local) : PS X (.AugAssign (.Name x pos') op e pos) (tS X.K L W (S.augI i g f)) := by
  refine PS.imp (ps_aug hN hi hx h ho hf) fun N σ H ⟨G, η, Fs, R, q⟩ => ?_
  unfold S.augI at q
  split at q
  · rename_i k l n z
    obtain ⟨v, h1, h2⟩ := R.rep z
    cases h2
    refine ⟨_, h1, G, η, Fs, R, (ResS.bind q).mono fun d η1 G1 H1 Fs1 R1 E1 q1 u ru => ?_⟩
    cases d <;> try exact (show False from q1).elim
    rename_i y
    cases ru
    have q1 : ResS X.K L W N G1 H1 Fs1 (if S.stores i η1 = true then .ok .nx (η1.set i (.val 0 false (.int (g n y)))) else .bad) := q1
    split at q1
    · rename_i s
      obtain ⟨Fs2, R2, f2⟩ := R1.stored (Apart.zero (.int (g n y))) s fun _ z => by simp at z
      exact ⟨_, _, rfl, rfl, q1 _ G1 H1 Fs2 R2 (Ext.refl.feet fun a ha => (f2 a ha).elim (fun z => by simp at z) .inl)⟩
    · exact q1.elim
  · exact q.elim
end
section
variable {η : Env} {f g h : SF} {fe : SE} {i j l : Nat} {gs : List SG} {ds : List D} {op : Int → Int → Int}
@[simp] theorem v_gsqT : S.gsq gs (.tup ds) η = S.names gs ds η := rfl
@[simp] theorem v_gsqL : S.gsq gs (.lst ds) η = S.names gs ds η := rfl
@[simp] theorem v_parF2 : S.parF [i, j] [f, g] η = (f η).bind fun p η1 => (g η1).bind fun q η2 => if S.stores i η2 = true then (if S.stores j (η2.set i (.val p.1 false p.2)) = true then .ok .nx ((η2.set i (.val p.1 false p.2)).set j (.val q.1 false q.2)) else .bad) else .bad := by
  unfold S.parF S.rowF
  cases f η with
  | bad => rfl
  | exc c η1 => rfl
  | ok p η1 =>
    simp only [bind_ok, S.rowF]
    cases g η1 with
    | bad => rfl
    | exc c η2 => rfl
    | ok q η2 =>
      simp only [bind_ok, S.puts]
      split
      · rename_i z
        split at z
        · rename_i s; rw [if_pos s]
          split at z
          · rename_i s2; rw [if_pos s2]; cases z; rfl
          · cases z
        · cases z
      · rename_i z
        split at z
        · rename_i s; rw [if_pos s]
          split at z
          · cases z
          · rename_i s2; rw [if_neg s2]
        · rename_i s; rw [if_neg s]
@[simp] theorem v_augI : S.augI i op fe η = match η[i]? with
  | some (.val _ _ (.int x)) => (fe η).bind fun d η1 => (match d with
    | .int y => if S.stores i η1 = true then .ok .nx (η1.set i (.val 0 false (.int (op x y)))) else .bad
    | _ => .bad)
  | _ => .bad := rfl
theorem v_parF : S.parF = fun is fs η => (S.rowF fs η).bind fun ps η1 => match S.puts is ps η1 with
  | some η2 => .ok .nx η2
  | none => .bad := rfl
@[simp] theorem v_rowF0 : S.rowF [] η = .ok [] η := rfl
@[simp] theorem v_rowF1 {fs : List SF} : S.rowF (f :: fs) η = (f η).bind fun p η1 => (S.rowF fs η1).bind fun ps η2 => .ok (p :: ps) η2 := rfl
@[simp] theorem v_puts0 : S.puts [] [] η = some η := rfl
@[simp] theorem v_puts1 {is : List Nat} {p : Nat × D} {ps : List (Nat × D)} : S.puts (i :: is) (p :: ps) η = if S.stores i η = true then S.puts is ps (η.set i (.val p.1 false p.2)) else none := rfl
@[simp] theorem v_parF3 : S.parF [i, j, l] [f, g, h] η = (S.rowF [f, g, h] η).bind fun ps η1 => match S.puts [i, j, l] ps η1 with
  | some η2 => .ok .nx η2
  | none => .bad := rfl
end
end DV

/-! DV28: max, min of a tuple of whole numbers. -/
namespace DV
open PySem PySem.Spec PyProof.Rows L2 RZ
theorem maxI_fold : ∀ (ns : List Int) (n : Int), ns.foldl max n = maxI (n :: ns)
  | [], n => rfl
  | k :: ns, n => by
    rw [List.foldl_cons, maxI_fold ns (max n k)]
    cases ns with
    | nil =>
      show max n k = if k > n then k else n
      split <;> omega
    | cons j r =>
      have e1 : maxI (max n k :: j :: r) = if maxI (j :: r) > max n k then maxI (j :: r) else max n k := rfl
      have e2 : maxI (n :: k :: j :: r) = if maxI (k :: j :: r) > n then maxI (k :: j :: r) else n := rfl
      have e3 : maxI (k :: j :: r) = if maxI (j :: r) > k then maxI (j :: r) else k := rfl
      rw [e1, e2, e3]
      generalize maxI (j :: r) = M
      repeat' split
      all_goals omega
theorem minI_fold : ∀ (ns : List Int) (n : Int), ns.foldl min n = minI (n :: ns)
  | [], n => rfl
  | k :: ns, n => by
    rw [List.foldl_cons, minI_fold ns (min n k)]
    cases ns with
    | nil =>
      show min n k = if k < n then k else n
      split <;> omega
    | cons j r =>
      have e1 : minI (min n k :: j :: r) = if minI (j :: r) < min n k then minI (j :: r) else min n k := rfl
      have e2 : minI (n :: k :: j :: r) = if minI (k :: j :: r) < n then minI (k :: j :: r) else n := rfl
      have e3 : minI (k :: j :: r) = if minI (j :: r) < k then minI (j :: r) else k := rfl
      rw [e1, e2, e3]
      generalize minI (j :: r) = M
      repeat' split
      all_goals omega
def rMaxT (K : PySem.W.Frag) : List V → Hp → VK → Prop := fun vs H Q => ∃ (a : Addr) (n : Int) (ns : List Int), vs = [V.ref a] ∧ SqT K H a ((n :: ns).map V.int) ∧ Q (.int (maxI (n :: ns))) H
def rMinT (K : PySem.W.Frag) : List V → Hp → VK → Prop := fun vs H Q => ∃ (a : Addr) (n : Int) (ns : List Int), vs = [V.ref a] ∧ SqT K H a ((n :: ns).map V.int) ∧ Q (.int (minI (n :: ns))) H
section
variable {X : Cx}
theorem alike_all_ints (n : Int) (ns : List Int) : PySem.W.AlikeAll (PyData.int n :: ns.map .int) := by
  have f : ∀ e ∈ PyData.int n :: ns.map .int, ∃ i, e = PyData.int i := fun e he => by
    rcases List.mem_cons.mp he with z | z
    · exact ⟨n, z⟩
    · obtain ⟨i, _, h⟩ := List.mem_map.mp z; exact ⟨i, h.symm⟩
  refine ⟨fun d hd d' hd' => ?_, fun d hd => ?_⟩
  · obtain ⟨i, rfl⟩ := f d hd
    obtain ⟨j, rfl⟩ := f d' hd'
    simp [PySem.W.alike]
  · obtain ⟨i, rfl⟩ := f d hd
    exact fun z => by cases z
theorem cr_maxT (hc : X.calm = true) (hu : X.A.units + 65 < cLine) : CallR X (.builtin "max") (rMaxT X.K) := by
  intro pins s σ H vs us Q I r h
  obtain ⟨a, n, ns, rfl, hs, q⟩ := h
  obtain ⟨its, rv, ht, hz⟩ := I.tuple hs
  rw [Vals.ref1 r]
  obtain ⟨as, ra⟩ := Dp.readsAll I _ _ _ (dpAll_ints (n :: ns)) rv
  have dep : PyData.depthAll (PyData.int n :: ns.map PyData.int) = 0 := PySem.W.depth_ints (n :: ns)
  refine PySem.W.max_tuple_data (I.ok.hd hc) ht ra (alike_all_ints n ns) (by rw [dep]; omega) fun i v h' tk bs hi rd hk => ?_
  rw [PySem.W.maxD_ints, maxI_fold] at rd
  cases rd
  exact ⟨.int _, H, I.kept hk, ⟨_, rfl⟩, q⟩
theorem cr_minT (hc : X.calm = true) (hu : X.A.units + 65 < cLine) : CallR X (.builtin "min") (rMinT X.K) := by
  intro pins s σ H vs us Q I r h
  obtain ⟨a, n, ns, rfl, hs, q⟩ := h
  obtain ⟨its, rv, ht, hz⟩ := I.tuple hs
  rw [Vals.ref1 r]
  obtain ⟨as, ra⟩ := Dp.readsAll I _ _ _ (dpAll_ints (n :: ns)) rv
  have dep : PyData.depthAll (PyData.int n :: ns.map PyData.int) = 0 := PySem.W.depth_ints (n :: ns)
  refine PySem.W.min_tuple_data (I.ok.hd hc) ht ra (alike_all_ints n ns) (by rw [dep]; omega) fun i v h' tk bs hi rd hk => ?_
  rw [PySem.W.minD_ints, minI_fold] at rd
  cases rd
  exact ⟨.int _, H, I.kept hk, ⟨_, rfl⟩, q⟩
end
def maxA : List D → Option D
  | [.tup ds] => match intsOf ds with
    | some (n :: ns) => some (.int (maxI (n :: ns)))
    | _ => none
  | ds => maxD ds
def minA : List D → Option D
  | [.tup ds] => match intsOf ds with
    | some (n :: ns) => some (.int (minI (n :: ns)))
    | _ => none
  | ds => minD ds
theorem cd_maxA {K : PySem.W.Frag} {r : List V → Hp → VK → Prop} (h : CallD r maxD) : CallD (fun vs H Q => rMaxT K vs H Q ∨ r vs H Q) maxA := by
  intro H vs ds d Q rl e fin
  unfold maxA at e
  split at e
  · rename_i es
    split at e <;> try cases e
    rename_i n ns hi
    cases rl with
    | cons r1 r2 =>
      cases r2
      cases r1 with
      | tup g rr => exact .inl ⟨_, n, ns, rfl, .of (by rw [← intsOf_rep rr hi]; exact g), fin _ fun G => .int _⟩
  · exact .inr (h H vs _ d Q rl e fin)
theorem cd_minA {K : PySem.W.Frag} {r : List V → Hp → VK → Prop} (h : CallD r minD) : CallD (fun vs H Q => rMinT K vs H Q ∨ r vs H Q) minA := by
  intro H vs ds d Q rl e fin
  unfold minA at e
  split at e
  · rename_i es
    split at e <;> try cases e
    rename_i n ns hi
    cases rl with
    | cons r1 r2 =>
      cases r2
      cases r1 with
      | tup g rr => exact .inl ⟨_, n, ns, rfl, .of (by rw [← intsOf_rep rr hi]; exact g), fin _ fun G => .int _⟩
  · exact .inr (h H vs _ d Q rl e fin)
@[simp] theorem v_maxA_lst {ds : List D} : maxA [.lst ds] = maxD [.lst ds] := rfl
@[simp] theorem v_maxA_two {i j : Int} : maxA [.int i, .int j] = some (.int (max i j)) := v_max2
@[simp] theorem v_minA_lst {ds : List D} : minA [.lst ds] = minD [.lst ds] := rfl
@[simp] theorem v_minA_two {i j : Int} : minA [.int i, .int j] = some (.int (min i j)) := v_min2
theorem v_maxA_tup {n : Int} {ns : List Int} : maxA [.tup ((n :: ns).map .int)] = some (.int (maxI (n :: ns))) := by
  show (match intsOf ((n :: ns).map D.int) with
    | some (n :: ns) => some (D.int (maxI (n :: ns)))
    | _ => none) = _
  rw [intsOf_ints]
theorem v_minA_tup {n : Int} {ns : List Int} : minA [.tup ((n :: ns).map .int)] = some (.int (minI (n :: ns))) := by
  show (match intsOf ((n :: ns).map D.int) with
    | some (n :: ns) => some (D.int (minI (n :: ns)))
    | _ => none) = _
  rw [intsOf_ints]
@[simp] theorem v_maxA_pair {i j : Int} : maxA [.tup [.int i, .int j]] = some (.int (max i j)) := by
  rw [show ([.int i, .int j] : List D) = [i, j].map .int from rfl, v_maxA_tup]
  congr 2
  show (if j > i then j else i) = _
  split <;> omega
@[simp] theorem v_minA_pair {i j : Int} : minA [.tup [.int i, .int j]] = some (.int (min i j)) := by
  rw [show ([.int i, .int j] : List D) = [i, j].map .int from rfl, v_minA_tup]
  congr 2
  show (if j < i then j else i) = _
  split <;> omega
end DV

/-! DV29: calls that borrow what names hold and give back a truth or a number; comprehensions over a list that stays owned. -/
namespace DV
open PySem PySem.Spec PyProof.Rows L2 RZ
def scD : D → Bool
  | .non => true
  | .bl _ => true
  | .int _ => true
  | .str _ => true
  | _ => false
theorem scD_rep {G H M : Hp} {k : Nat} {v : V} {d : D} {F : List Addr} (s : scD d = true) (o : Own G H k v d F) : ∀ M : Hp, Rep M v d := by
  intro M
  cases d with
  | non => cases k <;> (cases o.1; exact .non)
  | bl b => cases k <;> (cases o.1; exact .bl b)
  | int i => cases k <;> (cases o.1; exact .int i)
  | str x => cases k <;> (cases o.1; exact .str x)
  | _ => cases s
namespace S
def callB (F : FnSem) (os : List Opd) : SE := fun η => (preL os η).bind fun ps η1 => match deepL os ps η1 with
  | none => .bad
  | some ds => match F (ds.map fun d => (0, d)) with
    | .ok _ d _ => if scD d = true then .ok d η1 else .bad
    | .exc c _ => .exc c η1
    | .bad => .bad
/-- over the list that slot j owns; the block does not use it -/
def compN (k : Nat) (vs : List Nat) (j : Nat) (g : SG) (tt : ST) (f : SF) : SF := fun η => match η[j]? with
  | some (.val 1 false (.lst ds)) => if still vs (η.set j .no) = true ∧ j ∉ vs then (match compL g tt f k vs ds [] (η.set j .no) with
    | .ok es η2 => (match η2[j]? with
      | some .no => .ok (k + 1, .lst es) ((mix (η.set j .no) η2 vs).set j (.val 1 false (.lst ds)))
      | _ => .bad)
    | _ => .bad) else .bad
  | _ => .bad
end S
section
variable {X : Cx} {L : Lents} {W : WX} {e a b c tg it : Expr} {es : List Expr} {pos p : Pos} {vs : List Nat} {x : Str} {ps : List Str} {k : Nat} {F : FnSem}
theorem borrow_rel {H : Hp} {us : List V} {ds : List D} (r : RepL H us ds) : Rel (us.length, lentsAt 0 (us.map fun _ => false) us) H (S.mkEnv (ds.map fun d => (0, d)) (us.map fun _ => false)) (us.map some) H (fun _ => []) := by
  have hl := r.length
  have hlen : (S.mkEnv (ds.map fun d => (0, d)) (us.map fun _ => false)).length = us.length := by unfold S.mkEnv; rw [List.length_zipWith, List.length_map, List.length_map]; omega
  refine ⟨Sub.refl H, by rw [hlen, List.length_map], hlen, fun i k l d e => ?_, fun _ _ => rfl, fun _ => List.nodup_nil, fun i a h => by simp at h, fun i j a h => by simp at h, fun q hq => ?_⟩
  · obtain ⟨h1, h2⟩ := mkEnv_get.mp e
    rw [List.getElem?_map] at h1 h2
    cases q : ds[i]? with
    | none => rw [q] at h1; cases h1
    | some d' =>
      rw [q] at h1
      have h1 : some (0, d') = some (k, d) := h1
      injection h1 with h1
      injection h1 with hk hd
      subst hk; subst hd
      obtain ⟨v, hv, rv⟩ := r.get q
      refine ⟨v, by rw [List.getElem?_map, hv]; rfl, ⟨rv, rfl⟩, fun hl => ?_⟩
      rw [hv] at h2
      cases h2
      cases hl
  · obtain ⟨i, h1, h2, h3⟩ := lentsAt_mem.mp hq
    rw [List.getElem?_map] at h2
    cases q : us[i]? with
    | none => rw [q] at h2; cases h2
    | some v => rw [q] at h2; cases h2
theorem KnL.len {σ : Sig} {G : Hp} : ∀ {us os ps}, KnL σ G us os ps → us.length = os.length
  | _, _, _, .nil => rfl
  | _, _, _, .cons _ t => by rw [List.length_cons, List.length_cons, t.len]
theorem callB_use {K : PySem.W.Frag} {σ : Sig} {H : Hp} {Q : VK} {os : List Opd} (h : tE K L W (S.callB F os) σ H Q) : tOs K L W os σ H fun us H1 => spF K F (os.map fun _ => false) us H1 Q (WE W σ) := by
  obtain ⟨G, η, Fs, R, q⟩ := h
  refine tOs_use R q fun us ps η1 G1 H1 Fs1 R1 E1 k1 q1 => ?_
  have eio : (os.map fun _ => false) = us.map fun _ => false := by rw [List.map_const', List.map_const', k1.len]
  rw [eio]
  cases hx : S.deepL os ps η1 with
  | none => simp only [hx] at q1; exact q1.elim
  | some ds =>
    simp only [hx] at q1
    have rr := k1.rep R1 hx
    have hl := rr.length
    have after : ∀ {G' H' : Hp} {Fs' : Feet}, Ext H1 H1 (fun _ => []) G' H' Fs' → Rel L G1 η1 σ H' Fs1 ∧ Ext G1 H1 Fs1 G1 H' Fs1 := fun {G' H' Fs'} E' => by
      have le : Le H1 H' := fun y o e => E'.h y o e fun ⟨_, z⟩ => by simp at z
      refine ⟨⟨R1.sub.trans le.sub, R1.len, R1.wid, fun i k l d e => ?_, R1.emp, R1.nod, R1.dis, R1.sep, R1.lnt⟩, Le.refl G1, fun y o e _ => le y o e, fun y z => .inl z, fun y z => .inl z, E'.d⟩
      obtain ⟨v, y1, y2, y3⟩ := R1.slot i k l d e
      refine ⟨v, y1, y2.mono (Sub.refl G1) k fun y hy => ?_, y3⟩
      obtain ⟨u, hu, _⟩ := y2.mem k y hy
      rw [hu, le y u hu]
    refine ⟨by rw [List.length_map], H1, ds.map fun d => (0, d), fun _ => [], by rw [List.length_map, List.length_map, hl], by have := borrow_rel rr; rw [List.length_map]; exact this, ?_⟩
    cases hF : F (ds.map fun d => (0, d)) with
    | bad => simp only [hF] at q1; exact q1.elim
    | exc c bk =>
      simp only [hF] at q1
      intro G' H' Fs' R' E'
      obtain ⟨r1, r2⟩ := after E'
      exact q1 G1 H' Fs1 r1 r2
    | ok k d bk =>
      simp only [hF] at q1
      intro G' H' Fs' v Fv R' E' y o
      split at q1
      · rename_i hs
        obtain ⟨r1, r2⟩ := after E'
        exact q1 G1 H' Fs1 r1 r2 v (scD_rep (M := G1) hs y.own G1)
      · exact q1.elim
theorem je_callB {io : List Bool} {os : List Opd} (h : Has X.prog X.w X.K X.mg X.base x ps k F io) (hr : Room k X.A) (hg : Gl X x) (tk : Takes X W) (hio : io = os.map fun _ => false) (ha : PA X (e :: es) (tOs X.K L W os))
    (hdb : (x == ("__debug__" : Str)) = false := by decide) (he : starEach (e :: es) X.env = (false, eval e X.env) :: starEach es X.env := by rfl) (hpl : (backTo pos (starEach es X.env)).any (·.1) = false := by rfl) :
    PE X (.Call (.Name x p) (e :: es) [] pos) (tE X.K L W (S.callB F os)) := by
  obtain ⟨fd, g, kp, bd, Fk⟩ := h
  subst hio
  exact PE.imp (pe_callS Fk hr hg g kp bd (fun σ => passAt tk σ) ha hdb he hpl) fun σ H Q q => callB_use q
/-! ### a comprehension over a list that stays owned -/
theorem walks_own {K : PySem.W.Frag} {G0 H0 : Hp} {Fs0 : Feet} {y : Addr} {ds : List D} {Fo : List Addr} (h : Apart G0 H0 Fs0 1 (.ref y) (.lst ds) Fo) : Walks G0 H0 Fs0 ds (Itl K y) := by
  intro i G2 H Fs2 E s
  obtain ⟨a', xs, Fl, e1, e2, e3, e4⟩ := (h.ext E).own
  cases e1
  have r := (e4.to0).1
  have q : SqL K H y xs := .inl (.inl e2)
  refine ⟨fun hi => ⟨xs, q, by rw [r.length]; exact hi⟩, fun hi => ?_⟩
  have hx : i < xs.length := by rw [r.length]; exact hi
  refine ⟨⟨xs, xs[i], q, by simp [hx]⟩, fun z H' ⟨e, yy⟩ => ?_⟩
  subst e
  obtain ⟨d, z1, z2⟩ := r.getV (yy xs q)
  exact ⟨d, G2, z1, New.refl s, z2⟩
theorem lcN_use {σ : Sig} {H : Hp} {Q : VK} {k j : Nat} {g : SG} {tt : ST} {f : SF} (h : tF X.K L W (S.compN k vs j g tt f) σ H Q) :
    tLc (iList X.K (tVar j)) (tGv L vs g) (tT X.K L WN tt) (tF X.K L WN f) vs σ H Q := by
  obtain ⟨G, η, Fs, R, q⟩ := h
  unfold S.compN at q
  split at q
  · rename_i ds hj
    split at q
    · rename_i hs
      obtain ⟨hst, hjv⟩ := hs
      cases z : S.compL g tt f k vs ds [] (η.set j .no) with
      | bad => simp only [z] at q; exact q.elim
      | exc c η2 => simp only [z] at q; exact q.elim
      | ok es0 η0 =>
        simp only [z] at q
        split at q
        · rename_i hno
          obtain ⟨v, hv, R1, ap⟩ := R.drop hj
          obtain ⟨y, xs, Fl, e1, e2, e3, e4⟩ := ap.own
          subst e1
          have sub : ∀ w, foot (setF Fs j []) w → foot Fs w := fun w hw => by
            rcases foot_setF hw with z | ⟨i, _, z⟩
            · simp at z
            · exact ⟨i, z⟩
          refine ⟨.ref y, hv, y, rfl, ⟨xs, .inl (.inl e2)⟩, fun D hD => ?_⟩
          refine lc_turns (walks_own ap) R1 hst hD z fun G' H' Fs' R' E' v F x fr => ?_
          have ap' := ap.ext E'
          have hlen : j < (S.mix (η.set j .no) η0 vs).length := by
            have := (List.getElem?_eq_some_iff.mp hno).1
            rw [mix_len]; exact this
          have hm : (S.mix (η.set j .no) η0 vs)[j]? = some .no := by rw [mix_out hjv]; exact hno
          have R2 := R'.put ap' hlen hm
          have es : σ.set j (some (V.ref y)) = σ := by
            apply List.ext_getElem?
            intro i
            by_cases hi : i = j
            · subst hi; rw [get_set_self (List.getElem?_eq_some_iff.mp hv).1, hv]
            · rw [get_set_ne hi]
          rw [es] at R2
          refine q G' H' _ R2 ⟨E'.g, fun w o e n => E'.h w o e fun z => n (sub w z), fun w e => ?_, fun w e => ?_, E'.d⟩ v F ⟨x.own, x.nod, x.dis, fun w hw hf => ?_⟩ fun w hw => ?_
          · rcases E'.n w e with z | z | z
            · exact .inl z
            · exact .inr (.inl (sub w z))
            · exact .inr (.inr z)
          · rcases foot_setF e with z | ⟨i, hi, z⟩
            · exact .inl ⟨j, z⟩
            · exact (E'.f w ⟨i, z⟩).elim (fun y => .inl (sub w y)) .inr
          · rcases foot_setF hf with z | ⟨i, hi, z⟩
            · rcases fr w hw with y | y
              · exact ap.sep w z y
              · exact ap.there w z y
            · exact x.sep w hw ⟨i, z⟩
          · exact (fr w hw).elim (fun z => .inl (sub w z)) .inr
        · exact q.elim
    · exact q.elim
  · exact q.elim
theorem jf_lcN {elt : Expr} {ifs : List Expr} {scope : Scope} {own : List (Str × Nat)} {j k : Nat} {g : SG} {tt : ST} {f : SF} (hc : X.calm = true) (hN : X.N.Nodup) (hi : PE X it (tVar j)) (ok : BlkOk X.N X.env.scope scope own) (hv : own.map (·.2) = vs)
    (hg : ∀ (s : Shared) (H : Hp) (C : Addr) (cl : List (Str × Addr)) (fp : List Addr), PG (X.blk s H scope (compEnvC scope cl C X.env) fp) tg (tGv L vs g)) (ht : ∀ (s : Shared) (H : Hp) (C : Addr) (cl : List (Str × Addr)) (fp : List Addr), PTs (X.blk s H scope (compEnvC scope cl C X.env) fp) ifs (tT X.K L WN tt))
    (he : ∀ (s : Shared) (H : Hp) (C : Addr) (cl : List (Str × Addr)) (fp : List Addr), PE (X.blk s H scope (compEnvC scope cl C X.env) fp) elt (tF X.K L WN f)) (hs : ∀ x, foldedSetIterable it X.env x = pure x := by intro _; rfl) :
    PE X (.ListComp elt [⟨tg, it, ifs, 0⟩] scope pos) (tF X.K L W (S.compN k vs j g tt f)) := by
  subst hv
  exact PE.imp (pe_lc hc hN (pi_list hi) ok hg ht he hs) fun σ H Q h => lcN_use h
theorem js_setLcN {i : Nat} {y : Str} {py spos : Pos} {elt : Expr} {ifs : List Expr} {scope : Scope} {own : List (Str × Nat)} {j k : Nat} {g : SG} {tt : ST} {f : SF} (hc : X.calm = true) (hN : X.N.Nodup) (hy : X.N[i]? = some y) (hyl : X.env.scope.names.lookup y = some .local)
    (hsw : swapsWith (.ListComp elt [⟨tg, it, ifs, 0⟩] scope pos) (some (.Name y py)) spos.line X.env = pure true) (hi : PE X it (tVar j)) (ok : BlkOk X.N X.env.scope scope own) (hv : own.map (·.2) = vs)
    (hg : ∀ (s : Shared) (H : Hp) (C : Addr) (cl : List (Str × Addr)) (fp : List Addr), PG (X.blk s H scope (compEnvC scope cl C X.env) fp) tg (tGv L vs g)) (ht : ∀ (s : Shared) (H : Hp) (C : Addr) (cl : List (Str × Addr)) (fp : List Addr), PTs (X.blk s H scope (compEnvC scope cl C X.env) fp) ifs (tT X.K L WN tt))
    (he : ∀ (s : Shared) (H : Hp) (C : Addr) (cl : List (Str × Addr)) (fp : List Addr), PE (X.blk s H scope (compEnvC scope cl C X.env) fp) elt (tF X.K L WN f)) (hs : ∀ x, foldedSetIterable it X.env x = pure x := by intro _; rfl) :
    PS X (.Assign [.Name y py] (.ListComp elt [⟨tg, it, ifs, 0⟩] scope pos) spos) (tS X.K L W (S.asg i (S.compN k vs j g tt f))) := by
  subst hv
  refine PS.imp (ps_setLc hc hN hy hyl hsw (pi_list hi) ok hg ht he hs) fun D σ H q => ?_
  exact lcN_use (asg_use q)
end
namespace S
def ownL : Option Slot → Bool
  | some (.val 1 false (.lst _)) => true
  | _ => false
def compY (k : Nat) (vs : List Nat) (j : Nat) (g : SG) (tt : ST) (f : SF) : SF := fun η => if ownL η[j]? = true then compN k vs j g tt f η else compX k vs j g tt f η
end S
section
variable {X : Cx} {L : Lents} {W : WX} {tg it : Expr} {pos : Pos} {vs : List Nat}
theorem jf_lcY {elt : Expr} {ifs : List Expr} {scope : Scope} {own : List (Str × Nat)} {j k : Nat} {g : SG} {tt : ST} {f : SF} (hc : X.calm = true) (hN : X.N.Nodup) (hi : PE X it (tVar j)) (ok : BlkOk X.N X.env.scope scope own) (hv : own.map (·.2) = vs)
    (hg : ∀ (s : Shared) (H : Hp) (C : Addr) (cl : List (Str × Addr)) (fp : List Addr), PG (X.blk s H scope (compEnvC scope cl C X.env) fp) tg (tGv L vs g)) (ht : ∀ (s : Shared) (H : Hp) (C : Addr) (cl : List (Str × Addr)) (fp : List Addr), PTs (X.blk s H scope (compEnvC scope cl C X.env) fp) ifs (tT X.K L WN tt))
    (he : ∀ (s : Shared) (H : Hp) (C : Addr) (cl : List (Str × Addr)) (fp : List Addr), PE (X.blk s H scope (compEnvC scope cl C X.env) fp) elt (tF X.K L WN f)) (hs : ∀ x, foldedSetIterable it X.env x = pure x := by intro _; rfl) :
    PE X (.ListComp elt [⟨tg, it, ifs, 0⟩] scope pos) (tF X.K L W (S.compY k vs j g tt f)) :=
  PE.imp (PE.or (jf_lcN hc hN hi ok hv hg ht he hs) (jf_lcX hc hN hi ok hv hg ht he hs)) fun σ H Q ⟨G, η, Fs, R, q⟩ => by
    unfold S.compY at q
    split at q
    · exact .inl ⟨G, η, Fs, R, q⟩
    · exact .inr ⟨G, η, Fs, R, q⟩
end
section
variable {η : Env} {g : SG} {tt : ST} {f : SF} {k j : Nat} {vs : List Nat} {ds : List D} {os : List Opd} {F : FnSem}
@[simp] theorem v_callB : S.callB F os η = (S.preL os η).bind fun ps η1 => match S.deepL os ps η1 with
  | none => .bad
  | some ds => match F (ds.map fun d => (0, d)) with
    | .ok _ d _ => if scD d = true then .ok d η1 else .bad
    | .exc c _ => .exc c η1
    | .bad => .bad := rfl
@[simp] theorem scD_bl {b : Bool} : scD (.bl b) = true := rfl
@[simp] theorem scD_int {i : Int} : scD (.int i) = true := rfl
@[simp] theorem scD_non : scD .non = true := rfl
@[simp] theorem scD_str {x : Str} : scD (.str x) = true := rfl
theorem compY_own (h : η[j]? = some (.val 1 false (.lst ds))) : S.compY k vs j g tt f η = S.compN k vs j g tt f η := by
  unfold S.compY; rw [h]; rfl
/-- a comprehension over an owned list whose turns leave the environment as it is -/
theorem compN_pure (φ : D → Option D) (hj : η[j]? = some (.val 1 false (.lst ds))) (hst : S.still vs (η.set j .no) = true) (hjv : j ∉ vs) (hs : ds.length ≤ sizeLine) (hv : ∀ i ∈ vs, i < η.length)
    (h : ∀ d ∈ ds, ∃ η', S.step g tt f d (S.hide (η.set j .no) vs) = .ok ((φ d).map fun x => (k, x)) η' ∧ S.hide η' vs = S.hide (η.set j .no) vs) : S.compN k vs j g tt f η = .ok (k + 1, .lst (ds.filterMap φ)) η := by
  have c := comp_pure (it := fun η => .ok ds η) φ (η := η.set j .no) (η1 := η.set j .no) (g := g) (tt := tt) (f := f) (k := k) (vs := vs) (ds := ds) rfl hst hs (fun i hi => by rw [List.length_set]; exact hv i hi) h
  unfold S.comp at c
  simp only [bind_ok] at c
  rw [if_pos hst] at c
  unfold S.compN
  rw [hj]
  simp only
  rw [if_pos ⟨hst, hjv⟩]
  have hjl : j < η.length := (List.getElem?_eq_some_iff.mp hj).1
  cases z : S.compL g tt f k vs ds [] (η.set j .no) with
  | bad => rw [z] at c; cases c
  | exc x η2 => rw [z] at c; cases c
  | ok es η2 =>
    rw [z] at c
    simp only at c
    injection c with c1 c2
    have hm : (S.mix (η.set j .no) η2 vs)[j]? = some .no := by rw [c2]; exact get_set_self hjl
    rw [mix_out hjv] at hm
    simp only [hm]
    rw [c1, c2]
    congr 1
    apply List.ext_getElem?
    intro i
    by_cases hi : i = j
    · subst hi; rw [get_set_self (by rw [List.length_set]; exact hjl), hj]
    · rw [get_set_ne hi, get_set_ne hi]
end
end DV

/-! DV30: an error caught by a name and kept in another; isinstance asked of it. -/
namespace DV
open PySem PySem.Spec PyProof.Rows L2 RZ
/-- a caught error of the class cls that a name still holds -/
def keptO (cls : Value) (d : Option Addr) (a : Addr) : HO := .ext fun h => ∃ (ob : Obj) (fs : Array Value), h.get? a = some ob ∧ Zc cls d ob ∧ ob.data = .fields fs
section
variable {X : Cx} {pins : List (Addr × Obj)} {σ : L2.St} {H : Hp} {s : Shared}
theorem Inv.track {a : Addr} {ob : Obj} {fs : Array Value} {cls : Value} {d : Option Addr} (I : Inv X pins σ H s) (e : s.heap.get? a = some ob) (z : Zc cls d ob) (f : ob.data = .fields fs) (na : H a = none) (n0 : X.s_0.heap.get? a = none) (nl : a ≠ X.env.locals)
    (np : ∀ p ∈ X.pn ++ pins, p.1 ≠ a) : Inv X pins σ (upd H a (keptO cls d a)) s := by
  have n1 : ∀ {b : Addr} {o : HO}, H b = some o → b ≠ a := fun q => ne_of_none q na
  refine ⟨I.ok, I.os, I.bare, ⟨I.base.keep, I.base.slot, fun b o q n hb => ?_, I.base.there, fun b xs q => ?_, fun b o u q => ?_, fun b ps q => ?_⟩, I.loc, I.cell, ?_, fun x c q => ?_, fun p hp => ?_, ?_, I.len⟩
  · rw [upd_ne fun w => by rw [w, n0] at q; cases q]
    exact I.base.free b o q n hb
  · have r := I.base.tups b xs q
    rw [upd_ne (n1 r)]; exact r
  · have r := I.base.frzs b o u q
    rw [upd_ne (n1 r)]; exact r
  · obtain ⟨more, r⟩ := I.base.tbls b ps q
    exact ⟨more, by rw [upd_ne (n1 r)]; exact r⟩
  · rw [upd_ne (Ne.symm nl)]; exact I.free
  · obtain ⟨v, o, ho, hv⟩ := I.cell x c q
    rw [upd_ne fun w => by rw [w, e] at ho; cases ho; rw [f] at hv; cases hv]
    exact I.freeC x c q
  · obtain ⟨p1, p2, p3⟩ := I.pin p hp
    exact ⟨p1, by rw [upd_ne (np p hp)]; exact p2, p3⟩
  · exact HOk.laidN I.hok (fun _ _ q => q) na ⟨⟨ob, fs, e, z, f⟩, ⟨ob, e⟩, fun _ _ ⟨o, v, q, r⟩ k => ⟨o, v, k o q, r⟩⟩
end
def wKept (K : PySem.W.Frag) (c : Value) (i : Nat) (ts : Addr → Value → Option Addr → TS) (Wo : WX) (D : Ends) : WX := fun cls d σ H =>
  ∃ b, PySem.W.exmOne K cls c = some b ∧ (b = true → ∀ a, H a = none → ts a cls d { nx := fun σ1 H1 => D.nx (σ1.set i none) (upd H1 a (keptO cls d a)), rt := fun _ _ => False } (σ.set i (some (.ref a))) H) ∧ (b = false → Wo cls d σ H)
section
variable {X : Cx} {x n : Str} {c : Value} {i : Nat} {bd su : List Stmt} {s1st : Stmt} {np pos ps' : Pos} {tb : WX → TS} {ts : Addr → Value → Option Addr → TS} {Wo : WX}
theorem ps_try_kept (hex : X.ex = []) (stk : X.stack = X.env :: X.outer) (frm : X.env.frame = some X.env.locals) (nd : X.N.Nodup) (hi : X.N[i]? = some n) (loc : X.env.kindOf n = some .local) (nm : Names X x c) (tk : Takes X Wo)
    (hb : ∀ (W : WX) (pn : List (Addr × Obj)) (xe : Value → Shared → Prop), Takes (X.tr pn xe) W → PSs (X.tr pn xe) bd (tb W))
    (hs : ∀ (a : Addr) (ob : Obj) (cls : Value) (d : Option Addr) (pn : List (Addr × Obj)), PSs (X.suite a ((a, ob) :: pn)) (s1st :: su) (ts a cls d)) :
    PS X (.Try bd [.ExceptHandler (some (.Name x np)) (some n) (s1st :: su) ps'] [] [] pos) (fun D σ H => tb (wKept X.K c i ts Wo D) D σ H) := by
  refine ⟨fun pins s σ H D I pre => ?_⟩
  have good := I.ok
  have frms : X.A.frames = some (X.env :: X.outer) := by rw [good.frames, stk]
  have lsc : Loc X.env.scope n := .inl loc
  let clauses : List ExceptHandler := [.ExceptHandler (some (.Name x np)) (some n) (s1st :: su) ps']
  let air : Value → Shared → Prop := fun e q1 => wpAny (model X.prog X.w) X.A (noteFrame e X.env) (fun _ q2 => wpAny (model X.prog X.w) X.A (setFlight e none) (fun _ q3 => wpAny (model X.prog X.w) X.A (handleBy e X.env clauses) (SP X pins D) X.xe q3) X.xe q2) X.xe q1
  refine wpAny_Try_except ?_
  have body := (hb (wKept X.K c i ts Wo D) (X.pn ++ pins) air (fun u t ht => ?tk)).run [] s σ H D (I.toTry _) pre
  refine wpAny_mono body (fun fl q1 hq => ?_) (fun e q1 he => he)
  · cases fl with
    | next => obtain ⟨σa, Ha, Ja, qa⟩ := hq; exact wpAny_execs_nil ⟨σa, Ha, Ja.ofTry good, qa⟩
    | brk => obtain ⟨σa, Ha, Ja, qa⟩ := hq; exact ⟨σa, Ha, Ja.ofTry good, qa⟩
    | cont => obtain ⟨σa, Ha, Ja, qa⟩ := hq; exact ⟨σa, Ha, Ja.ofTry good, qa⟩
    | ret u => obtain ⟨va, σa, Ha, Ja, ra, qa⟩ := hq; exact ⟨va, σa, Ha, Ja.ofTry good, ra, qa⟩
  case tk =>
    obtain ⟨a, B, sJ, pinJ, σJ, HJ, cls, d, rfl, I0, ground, ups, inSky, aN, oss, bare, b, eb, onYes, onNo⟩ := ht
    have IJ : Inv X pins σJ HJ sJ := I0.ofTry good
    have inSky2 : Sky B (X.env :: X.outer) a (Zc cls d) X.env.locals t.heap := by rw [← stk]; exact inSky
    show wpAny (model X.prog X.w) X.A (noteFrame (.ref a) X.env) _ _ _
    refine Sky.land Zc.steady frms frm inSky2 fun hA flA upA => ?_
    have IA : Inv X pins σJ HJ { t with heap := hA } := IJ.landed ground flA.1 (ups.trans upA) oss bare
    obtain ⟨obA, fsA, getA, zA, dA⟩ := flA.there
    have aFr : ∀ {h : Heap} {o : Obj} {vs : Array Value}, h.FunFrames B (X.env :: X.outer) → h.get? a = some o → o.data = .fields vs → a ∉ frs (X.env :: X.outer) := fun {h o vs} ff e1 e2 mem => by
      obtain ⟨_, o2, e3, no⟩ := ff.mem mem
      rw [e1] at e3; cases e3
      exact no _ e2
    have aNo := aFr flA.2.2.1 getA dA
    have aL : a ≠ X.env.locals := fun w => aNo (List.mem_filterMap.mpr ⟨X.env, List.mem_cons_self, by rw [frm, w]⟩)
    have aF : a ∉ X.fs := fun mem => by
      obtain ⟨e, e1, e2⟩ := List.mem_filterMap.mp mem
      exact aNo (List.mem_filterMap.mpr ⟨e, List.mem_cons_of_mem _ e1, e2⟩)
    -- what stood before the error is not the error
    have young : ∀ b o, sJ.heap.get? b = some o → b ∉ frs (X.env :: X.outer) → b ≠ a := fun b o e1 e2 w => by
      have e3 := ground b o e1 (by rw [show (X.tr (X.pn ++ pins) air).stack = X.env :: X.outer from stk]; exact e2)
      rw [w, flA.2.1] at e3
      cases e3
    have a0 : X.s_0.heap.get? a = none := by
      cases e0 : X.s_0.heap.get? a with
      | none => rfl
      | some o =>
        obtain ⟨o2, e1⟩ := IJ.base.there a o e0 (by rw [hex]; exact List.not_mem_nil)
        exact absurd rfl (young a o2 e1 aNo)
    have aP : ∀ p ∈ X.pn ++ pins, p.1 ≠ a := fun p hp => by
      obtain ⟨e1, _, e2, e3, _⟩ := IJ.pin p hp
      refine young p.1 p.2 e1 fun mem => ?_
      obtain ⟨e, m1, m2⟩ := List.mem_filterMap.mp mem
      rcases List.mem_cons.mp m1 with w | w
      · rw [w, frm] at m2; exact e2 (Option.some.inj m2).symm
      · exact e3 (List.mem_filterMap.mpr ⟨e, w, m2⟩)
    have SA := IA.suite getA dA aN aL aF
    refine wpAny_handleBy_cons (codeAny_handlers_test ?_) (by intro w; cases w)
    have tyL : PySem.W.Looks (model X.prog X.w) hA (typeOf (.ref a)) cls := fun A Q E s2 k q => wpAny_typeOf_ref (k _ _ getA) (by rw [zA.1]; exact q)
    have exL := PySem.W.exm_one (M := model X.prog X.w) (IA.kIn) tyL eb
    have read : ∀ {Q : Value → Shared → Prop} {E : Value → Shared → Prop}, Q c { t with heap := hA } → wpAny (model X.prog X.w) (X.A.mark (some (.ref a))) (eval (.Name x np) X.env) Q E { t with heap := hA } := fun {Q E} q => by
      obtain ⟨g1, g2, g3 | ⟨g3, g4, g5⟩⟩ := nm
      · exact ld_glob (X := X.suite a ((a, obA) :: (X.pn ++ pins))) SA g1 g3 q g2
      · exact ld_blt (X := X.suite a ((a, obA) :: (X.pn ++ pins))) SA g1 g3 g4 q g5 g2
    refine read (exL.here ?_)
    cases b with
    | true =>
      refine codeAny_handlers_suite_as ?_
      refine HandSPX.lands_againZ flA fun hB flB upB => ?_
      have IB : Inv X pins σJ HJ { t with heap := hB } := IJ.landed ground flB.1 ((ups.trans upA).trans upB) oss bare
      obtain ⟨obB, fsB, getB, zB, dB⟩ := flB.there
      have SB := IB.suite getB dB aN aL aF
      refine store_ok (X := X.suite a ((a, obB) :: (X.pn ++ pins))) (v := .ref a) SB nd hi lsc rfl (fun q5 SC => ?_) (.inr loc)
      refine wpAny_mono ((hs a obB cls d (X.pn ++ pins)).run [] q5 _ HJ _ SC (onYes rfl a aN)) (fun fl q6 hq => ?_) (fun _ _ w => False.elim w)
      cases fl with
      | next =>
        obtain ⟨σD, HD, SD, qD⟩ := hq
        obtain ⟨g1, g2, _⟩ := SD.pin (a, obB) (by rw [List.append_nil]; exact List.mem_cons_self)
        have ID : Inv X pins σD (upd HD a (keptO cls d a)) q6 := Inv.track (SD.unsuite good) g1 zB dB g2 a0 aL aP
        exact gone_ok ID nd hi loc fun q7 IE => ⟨_, _, IE, qD⟩
      | brk => obtain ⟨_, _, _, w⟩ := hq; exact w.elim
      | cont => obtain ⟨_, _, _, w⟩ := hq; exact w.elim
      | ret u => obtain ⟨_, _, _, _, _, w⟩ := hq; exact w.elim
    | false =>
      show wpAny _ X.A (handleBy (.ref a) X.env []) _ _ _
      refine wpAny_handleBy_nil ?_
      obtain ⟨_, _, _, ob, fs, T, oT, _, e1, _, e2, e3, _⟩ := id flA
      unfold PySem.passOn
      refine wpAny_bind (wpAny_field e1 e2 e3 ?_)
      rw [if_neg (show ¬ ((Value.ref T == Value.none) = true) from by simp)]
      have on : wpAny (model X.prog X.w) X.A (setFlight (.ref a) X.env.frame) (fun _ q4 => wpAny (model X.prog X.w) X.A (throw (.ref a) : Sem PySem.Flow) (SP X pins D) X.xe q4) X.xe { t with heap := hA } := by
        rw [frm]
        exact HandSPX.setFlight_upZ flA fun hB held upB => wpAny_throw (tk _ _ ⟨a, B, sJ, pins, σJ, HJ, cls, d, rfl, IJ, ground, (ups.trans upA).trans upB, .inr (.inr (by rw [stk]; exact held)), aN, oss, bare, onNo rfl⟩)
      first
        | exact wpAny_bind (wpAny_pure (wpAny_bind on))
        | exact wpAny_bind on
end
/-! ### isinstance of a kept error -/
/-- what is asked of the class c of a caught error -/
def errB (K : PySem.W.Frag) (c : Str) : Bool :=
  decide (PySem.W.findIn K (.ref (He.ga K c)) "__getattribute__" = some (some (.builtin "BaseException.__getattribute__"))) && (decide (PySem.W.findIn K (.ref (He.ga K c)) "__getattr__" = some none) &&
    (decide (PySem.W.subIn K (.ref (He.ga K c)) (.type "BaseException") = some true) && (PySem.W.hasDictIn K (He.ga K c) && (decide (PySem.W.findIn K (.ref (He.ga K c)) "__class__" = some (some (.builtin "object.__class__"))) &&
      (decide (PySem.W.specialIn K (.builtin "object.__class__") "__get__" = some (some (.builtin "getset_descriptor.__get__"))) && (decide (PySem.W.takesIn K (.builtin "object.__class__") = some true) && decide (PySem.W.mroIn K (He.ga K c) (.type "object") = some true)))))))
theorem errB_ok {K : PySem.W.Frag} {c : Str} (h : errB K c = true) : ExcC K (He.ga K c) := by
  unfold errB at h
  simp only [Bool.and_eq_true, decide_eq_true_eq] at h
  obtain ⟨h1, h2, h3, h4, h5, h6, h7, h8⟩ := h
  exact ⟨h1, h2, h3, h4, h5, h6, h7, h8⟩
/-- a class: an own one by its name, or a built-in one -/
inductive Cl where
  | own (x : Str)
  | blt (t : String)
def Cl.v (K : PySem.W.Frag) : Cl → V
  | .own x => .ref (He.ga K x)
  | .blt t => .ty t
def Cl.u (K : PySem.W.Frag) : Cl → Value
  | .own x => .ref (He.ga K x)
  | .blt t => .type t
theorem Cl.rel {K : PySem.W.Frag} : ∀ (x : Cl) {u : Value}, RelV (x.v K) u → u = x.u K
  | .own _, _, r => r
  | .blt _, _, r => r
theorem Cl.rel_ {K : PySem.W.Frag} : ∀ (x : Cl), RelV (x.v K) (x.u K)
  | .own _ => rfl
  | .blt _ => rfl
theorem Cl.rels {K : PySem.W.Frag} : ∀ (xs : List Cl) {us : List Value}, Vals (xs.map (Cl.v K)) us → us = xs.map (Cl.u K)
  | [], _, .nil => rfl
  | x :: xs, _, .cons r rs => by rw [Cl.rel x r, Cl.rels xs rs]; rfl
def Kept (K : PySem.W.Frag) (H : Hp) (a : Addr) (c : Str) : Prop := H a = some (keptO (.ref (He.ga K c)) none a)
def rKept (K : PySem.W.Frag) : List V → Hp → VK → Prop := fun vs H Q => ∃ (c : Str) (a : Addr) (b : Bool), Kept K H a c ∧ errB K c = true ∧
  ((∃ x : Cl, vs = [.ref a, x.v K] ∧ PySem.W.kitOne K (.ref (He.ga K c)) (x.u K) = some b) ∨ ∃ (t : Addr) (xs : List Cl), vs = [.ref a, .ref t] ∧ H t = some (.tup (xs.map (Cl.v K))) ∧ PySem.W.kitAny K (.ref (He.ga K c)) (xs.map (Cl.u K)) = some b) ∧ Q (.bl b) H
section
variable {X : Cx}
theorem call_kept : CallR X (.builtin "isinstance") (rKept X.K) := by
  intro pins s σ H vs us Q I r h
  obtain ⟨c, a, b, hk, hb, h, q⟩ := h
  have C := errB_ok hb
  obtain ⟨⟨⟨oc, od, oda, osl⟩, fs, get, ⟨z1, z2⟩, dat⟩, _⟩ := I.hok a _ hk
  dsimp only at z1 z2 dat
  subst z1 z2 dat
  have at_ : PySem.W.InstAt s.heap a ⟨.ref (He.ga X.K c), none, .fields fs, osl⟩ (He.ga X.K c) none := ⟨get, rfl, rfl, trivial⟩
  have Z := PySem.W.handS_kitx_exc (K := X.K) (x := a) (ox := ⟨.ref (He.ga X.K c), none, .fields fs, osl⟩) C.hg C.hk C.hs C.hd C.ha C.hn C.ht C.hm
  rcases h with ⟨x, rfl, e⟩ | ⟨t, xs, rfl, ht, e⟩
  · cases r with
    | cons r1 rr =>
      cases rr with
      | cons r2 rr =>
        cases rr
        cases r1
        rw [x.rel r2]
        exact PySem.W.kia_one Z I.kIn at_ e (fun z => nomatch z) fun tk => ⟨.bl b, H, I.kept (t' := tk) fun _ _ z => z, rfl, q⟩
  · cases r with
    | cons r1 rr =>
      cases rr with
      | cons r2 rr =>
        cases rr
        cases r1
        cases r2
        obtain ⟨_, its, rv, o, ho, hc, n, hd⟩ := I.hok t _ ht
        rw [Cl.rels xs rv] at hd
        obtain ⟨tc, td, tda, tsl⟩ := o
        dsimp only at hc hd
        subst hc hd
        exact PySem.W.kia_tup Z I.kIn at_ ho e (fun z => nomatch z) fun tk => ⟨.bl b, H, I.kept (t' := tk) fun _ _ z => z, rfl, q⟩
/-! ### tests of a kept error: slot j holds it, g knows some slots' truths -/
def Knows (g : List (Nat × Bool)) (σ : L2.St) : Prop := ∀ p ∈ g, σ[p.1]? = some (some (.bl p.2))
def ErrE (X : Cx) (e : Expr) (j : Nat) (c : Str) (g : List (Nat × Bool)) (r : Bool) : Prop := ∃ te, PE X e te ∧ ∀ (σ : L2.St) (H : Hp) (a : Addr) (Q : VK), σ[j]? = some (some (.ref a)) → Kept X.K H a c → Knows g σ → (∀ H', Le H H' → Q (.bl r) H') → te σ H Q
def ErrS (X : Cx) (ss : List Stmt) (j : Nat) (c : Str) (g : List (Nat × Bool)) (ks : List Nat) (r : Bool) : Prop := ∃ T, PSs X ss T ∧ ∀ (D : Ends) (σ : L2.St) (H : Hp) (a : Addr), σ[j]? = some (some (.ref a)) → Kept X.K H a c → Knows g σ → (∀ k ∈ ks, k < σ.length) →
  (∀ (σ' : L2.St) (H' : Hp), σ'.length = σ.length → (∀ i, i ∉ ks → σ'[i]? = σ[i]?) → Le H H' → D.rt (.bl r) H') → T D σ H
variable {e e2 : Expr} {rest : List Expr} {st : Stmt} {ss : List Stmt} {j k : Nat} {c m : Str} {g : List (Nat × Bool)} {ks : List Nat} {r r2 b : Bool} {pos p p2 p3 : Pos}
/-- the names of classes -/
inductive ClsE (X : Cx) : List Expr → List Cl → Prop
  | nil : ClsE X [] []
  | own {x : Str} {p : Pos} {es : List Expr} {xs : List Cl} (hm : X.mg x = some (.ref (He.ga X.K x))) (hg : Gl X x) (hd : (x == ("__debug__" : Str)) = false) (h : ClsE X es xs) : ClsE X (.Name x p :: es) (.own x :: xs)
  | blt {x : Str} {t : String} {p : Pos} {es : List Expr} {xs : List Cl} (hm : X.mg x = none) (hg : Gl X x) (hb : bootBuiltins x = some (.type t)) (hn : x ≠ "__name__") (hd : (x == ("__debug__" : Str)) = false) (h : ClsE X es xs) : ClsE X (.Name x p :: es) (.blt t :: xs)
theorem ClsE.pa {es : List Expr} {xs : List Cl} (h : ClsE X es xs) : ∃ t, PA X es t ∧ ∀ σ H Q, Q (xs.map (Cl.v X.K)) H → t σ H Q := by
  induction h with
  | nil => exact ⟨_, pa_nil, fun _ _ _ q => q⟩
  | own hm hg hd _ ih =>
    obtain ⟨t, h1, h2⟩ := ih
    exact ⟨_, pa_cons (pe_glob (v := Cl.v X.K (.own _)) hg hm rfl hd) h1, fun σ H Q q => h2 σ H _ q⟩
  | blt hm hg hb hn hd _ ih =>
    obtain ⟨t, h1, h2⟩ := ih
    exact ⟨_, pa_cons (pe_bltn (v := Cl.v X.K (.blt _)) hg hm hb rfl hn hd) h1, fun σ H Q q => h2 σ H _ q⟩
theorem err_one {x : Cl} (hj : X.N[j]? = some m) (hv : Vis X.env.scope m) (hd : (m == ("__debug__" : Str)) = false) (hcd : (m == ("__classdict__" : Str)) = false) (hI : Gl X "isinstance") (hm : X.mg "isinstance" = none) (hc : ClsE X [e2] [x]) (hb : errB X.K c = true)
    (ho : PySem.W.kitOne X.K (.ref (He.ga X.K c)) (x.u X.K) = some r) : ErrE X (.Call (.Name "isinstance" p) [.Name m p2, e2] [] pos) j c g r := by
  obtain ⟨t, h1, h2⟩ := hc.pa
  cases hc <;> exact ⟨_, pe_callB call_kept hI hm (by rfl) (pa_cons (pe_var hj hv hd hcd) h1), fun σ H a Q hs hk _ q => ⟨_, hs, h2 σ H _ ⟨c, a, r, hk, hb, .inl ⟨_, rfl, ho⟩, q H (Le.refl H)⟩⟩⟩
theorem err_any {es : List Expr} {xs : List Cl} {kt : Nat} (hj : X.N[j]? = some m) (hv : Vis X.env.scope m) (hd : (m == ("__debug__" : Str)) = false) (hcd : (m == ("__classdict__" : Str)) = false) (hI : Gl X "isinstance") (hm : X.mg "isinstance" = none) (hc : ClsE X es xs) (hl : xs.length ≤ sizeLine) (hb : errB X.K c = true)
    (ho : PySem.W.kitAny X.K (.ref (He.ga X.K c)) (xs.map (Cl.u X.K)) = some r) : ErrE X (.Call (.Name "isinstance" p) [.Name m p2, .Tuple es kt p3] [] pos) j c g r := by
  obtain ⟨t, h1, h2⟩ := hc.pa
  refine ⟨_, pe_callB call_kept hI hm (by rfl) (pa_cons (pe_var hj hv hd hcd) (pa_cons (pe_tup h1) pa_nil)), fun σ H a Q hs hk _ q => ⟨_, hs, h2 σ H _ ⟨by rw [List.length_map]; exact hl, fun d hn => ?_⟩⟩⟩
  have up : Le H (upd H d (.tup (xs.map (Cl.v X.K)))) := fun b o e1 => by rw [upd_ne (ne_of_none e1 hn)]; exact e1
  exact ⟨c, a, r, up _ _ hk, hb, .inr ⟨d, xs, rfl, upd_same, ho⟩, q _ up⟩
theorem err_var (hk : X.N[k]? = some m) (hv : Vis X.env.scope m) (hd : (m == ("__debug__" : Str)) = false) (hcd : (m == ("__classdict__" : Str)) = false) (hg : (k, r) ∈ g) : ErrE X (.Name m p) j c g r :=
  ⟨_, pe_var hk hv hd hcd, fun σ H _ Q _ _ kn q => ⟨_, kn _ hg, q H (Le.refl H)⟩⟩
theorem err_not (h : ErrE X e j c g r) : ErrE X (.UnaryOp .Not e pos) j c g (!r) := by
  obtain ⟨t, h1, h2⟩ := h
  exact ⟨_, pe_not h1, fun σ H a Q hs hk kn q => h2 σ H a _ hs hk kn fun H' l => ⟨r, rfl, q H' l⟩⟩
theorem err_last (h : ErrE X e j c g r) : ErrE X (.BoolOp .And [e] pos) j c g r := by
  obtain ⟨t, h1, h2⟩ := h
  exact ⟨_, pe_one h1, h2⟩
theorem err_and (h : ErrE X e j c g true) (h' : ErrE X (.BoolOp .And (e2 :: rest) pos) j c g r) : ErrE X (.BoolOp .And (e :: e2 :: rest) pos) j c g r := by
  obtain ⟨t, h1, h2⟩ := h
  obtain ⟨t', h3, h4⟩ := h'
  exact ⟨_, pe_and h1 h3, fun σ H a Q hs hk kn q => h2 σ H a _ hs hk kn fun H' l => ⟨true, rfl, h4 σ H' a Q hs (l _ _ hk) kn fun H'' l2 => q H'' (l.trans l2)⟩⟩
theorem err_ret (h : ErrE X e j c g r) : ErrS X [.Return (some e) pos] j c g ks r := by
  obtain ⟨t, h1, h2⟩ := h
  exact ⟨_, pss_one (ps_ret h1), fun D σ H a hs hk kn _ q => h2 σ H a _ hs hk kn fun H' l => q σ H' rfl (fun _ _ => rfl) l⟩
theorem err_set (h : ErrE X e j c g b) (hN : X.N.Nodup) (hi : X.N[k]? = some m) (hx : Loc X.env.scope m) (hf : X.fn m = true ∨ X.env.scope.names.lookup m = some .local) (hkj : k ≠ j) (hkg : ∀ p ∈ g, p.1 ≠ k) (hks : k ∈ ks)
    (hsw : swapsWith e (some (.Name m p2)) pos.line X.env = pure false) (hr : ErrS X ss j c ((k, b) :: g) ks r) : ErrS X (.Assign [.Name m p2] e pos :: ss) j c g ks r := by
  obtain ⟨t, h1, h2⟩ := h
  obtain ⟨T, h3, h4⟩ := hr
  refine ⟨_, pss_cons (ps_set hN hi hx h1 hsw hf) h3, fun D σ H a hs hk kn len q => h2 σ H a _ hs hk kn fun H' l => ?_⟩
  refine h4 D (σ.set k (some (.bl b))) H' a (by rw [List.getElem?_set_ne hkj]; exact hs) (l _ _ hk) (fun p hp => ?_) (fun i hi => by rw [List.length_set]; exact len i hi) fun σ' H'' e1 e2 l2 => ?_
  · rcases List.mem_cons.mp hp with w | w
    · subst w
      exact List.getElem?_set_self (len k hks)
    · rw [List.getElem?_set_ne (Ne.symm (hkg p w))]; exact kn p w
  · refine q σ' H'' (by rw [e1, List.length_set]) (fun i hi => ?_) (l.trans l2)
    rw [e2 i hi, List.getElem?_set_ne fun w => hi (by rw [← w]; exact hks)]
end
/-! ### the statement, with what follows it -/
namespace S
def wipes (ks : List Nat) (η : Env) : Env := ks.foldl (fun e k => e.set k .no) η
/-- try: b, except cl as n: a name = n; then tests of the error of class c that b raises, that end with r; ks: the slots that hold other than plain things after -/
def refd (tb : List (Str × Str × Bool)) (b : SS) (cl c : Str) (ks : List Nat) (r : Bool) : SS := fun η => match b η with
  | .exc c' η' => if c' = c ∧ sub tb c cl = some true ∧ ks.all (fun k => stores k η') = true then .ok (.rt 0 (.bl r)) (wipes ks η') else .bad
  | _ => .bad
end S
section
variable {L : Lents} {σ : Sig} {G H H' : Hp} {η : Env} {Fs : Feet}
theorem stores_set {k i : Nat} (h : S.stores k η = true) : S.stores k (η.set i .no) = true := by
  unfold S.stores at h ⊢
  by_cases e : k = i
  · subst e
    have hk : k < η.length := by
      cases q : η[k]? with
      | none => rw [q] at h; cases h
      | some sl => exact (List.getElem?_eq_some_iff.mp q).1
    rw [get_set_self hk]
  · rw [get_set_ne e]; exact h
theorem stores_len {k : Nat} (h : S.stores k η = true) : k < η.length := by
  unfold S.stores at h
  cases q : η[k]? with
  | none => rw [q] at h; cases h
  | some sl => exact (List.getElem?_eq_some_iff.mp q).1
theorem Rel.wipes (R : Rel L G η σ H Fs) {ks : List Nat} (h : ∀ k ∈ ks, S.stores k η = true) : ∃ Fs', Rel L G (S.wipes ks η) σ H Fs' ∧ ∀ a, foot Fs' a → foot Fs a := by
  induction ks generalizing η Fs with
  | nil => exact ⟨Fs, R, fun _ q => q⟩
  | cons k ks ih =>
    have h1 := h k List.mem_cons_self
    have R1 := R.forget (i := k) fun n d e => by unfold S.stores at h1; rw [e] at h1; cases h1
    obtain ⟨Fs', R2, f⟩ := ih R1 fun i hi => stores_set (h i (List.mem_cons_of_mem _ hi))
    refine ⟨Fs', R2, fun a q => ?_⟩
    obtain ⟨i, m⟩ := f a q
    by_cases e : i = k
    · subst e; rw [setF_same] at m; cases m
    · rw [setF_ne e] at m; exact ⟨i, m⟩
theorem wipes_no {ks : List Nat} {i : Nat} (h : η[i]? = some .no) : (S.wipes ks η)[i]? = some .no := by
  induction ks generalizing η with
  | nil => exact h
  | cons k ks ih =>
    refine ih ?_
    by_cases e : i = k
    · subst e; exact get_set_self (List.getElem?_eq_some_iff.mp h).1
    · rw [get_set_ne e]; exact h
theorem wipes_at {ks : List Nat} {i : Nat} (hi : i ∈ ks) (h : i < η.length) : (S.wipes ks η)[i]? = some .no := by
  induction ks generalizing η with
  | nil => cases hi
  | cons k ks ih =>
    rcases List.mem_cons.mp hi with e | e
    · subst e; exact wipes_no (η := η.set i .no) (get_set_self h)
    · exact ih e (by rw [List.length_set]; exact h)
theorem Rel.sigma (R : Rel L G η σ H Fs) {σ' : Sig} (hl : σ'.length = σ.length) (h : ∀ i : Nat, η[i]? ≠ some Slot.no → σ'[i]? = σ[i]?) : Rel L G η σ' H Fs where
  sub := R.sub
  len := R.len.trans hl.symm
  wid := R.wid
  slot := fun i k l d e => by rw [h i (by rw [e]; intro w; cases w)]; exact R.slot i k l d e
  emp := R.emp
  nod := R.nod
  dis := R.dis
  sep := R.sep
  lnt := fun p hp => by
    obtain ⟨k, d, e1, e2⟩ := R.lnt p hp
    exact ⟨k, d, e1, by rw [h p.1 (by rw [e1]; intro w; cases w)]; exact e2⟩
end
section
variable {X : Cx} {L : Lents} {W : WX}
theorem js_refd {body ss : List Stmt} {x n m c : Str} {i j : Nat} {ks : List Nat} {r : Bool} {tb : List (Str × Str × Bool)} {b : SS} {np p1 p2 p3 pos pos' : Pos} (st : X.stack = X.env :: X.outer) (fr : X.env.frame = some X.env.locals) (hex : X.ex = []) (nd : X.N.Nodup) (hi : X.N[i]? = some n) (hj : X.N[j]? = some m) (hij : i ≠ j)
    (loc : X.env.kindOf n = some .local) (vn : Vis X.env.scope n) (dn : (n == ("__debug__" : Str)) = false) (cn : (n == ("__classdict__" : Str)) = false) (lm : Loc X.env.scope m) (fm : X.fn m = true ∨ X.env.scope.names.lookup m = some .local)
    (hm : X.mg x = some (.ref (He.ga X.K x))) (hg : Gl X x) (hdb : (x == ("__debug__" : Str)) = false) (tk : Takes X W) (hT : SubOk X.K tb) (hik : i ∈ ks) (hjk : j ∈ ks)
    (hsw : swapsWith (.Name n p2) (some (.Name m p1)) p3.line X.env = pure false)
    (hb : ∀ (W' : WX) (pn : List (Addr × Obj)) (xe : Value → Shared → Prop), Takes (X.tr pn xe) W' → PSs (X.tr pn xe) body (tS X.K L W' b)) (hr : ErrS X ss j c [] ks r) :
    PSs X (.Try body [.ExceptHandler (some (.Name x np)) (some n) [.Assign [.Name m p1] (.Name n p2) p3] pos'] [] [] pos :: ss) (tS X.K L W (S.refd tb b x c ks r)) := by
  obtain ⟨T, h3, h4⟩ := hr
  refine PSs.imp (pss_cons (ps_try_kept (ts := fun _ _ _ => tAsg (tVar i) (gName j)) (c := .ref (He.ga X.K x)) (tb := fun W' => tS X.K L W' b) hex st fr nd hi loc ⟨hg, hdb, .inl hm⟩ tk (fun W' pn xe tk' => hb W' pn xe tk') fun a ob cls d pn => pss_one (ps_set (X := X.suite a ((a, ob) :: pn)) nd hj lm (pe_var (X := X.suite a ((a, ob) :: pn)) hi vn dn cn) hsw fm)) h3) fun D σ H ⟨G, η, Fs, R, q⟩ => ⟨G, η, Fs, R, ?_⟩
  unfold S.refd at q
  cases e : b η with
  | bad => rw [e] at q; exact q.elim
  | ok fl η' => rw [e] at q; exact q.elim
  | exc c' η' =>
    rw [e] at q
    dsimp only at q
    split at q
    · rename_i cond
      obtain ⟨rfl, hsub, hst⟩ := cond
      intro σ' G' H' Fs' R' E'
      refine ⟨true, hT _ (S.sub_mem hsub), fun _ a na => ?_, fun w => by cases w⟩
      have st' : ∀ k ∈ ks, S.stores k η' = true := fun k hk => List.all_eq_true.mp hst k hk
      have hil : i < σ'.length := by rw [← R'.len]; exact stores_len (st' i hik)
      have hjl : j < σ'.length := by rw [← R'.len]; exact stores_len (st' j hjk)
      refine ⟨.ref a, List.getElem?_set_self hil, ?_⟩
      refine h4 D _ (upd H' a (keptO (.ref (He.ga X.K c')) none a)) a ?_ upd_same (fun p hp => by cases hp) (fun k hk => ?_) fun σ2 H2 e1 e2 l => ?_
      · rw [List.getElem?_set_ne hij]
        exact List.getElem?_set_self (by rw [List.length_set]; exact hjl)
      · rw [List.length_set, List.length_set, List.length_set, ← R'.len]
        exact stores_len (st' k hk)
      · have up : Le H' H2 := fun d o z => l d o (by rw [upd_ne (ne_of_none z na)]; exact z)
        obtain ⟨F2, R2, f2⟩ := R'.wipes st'
        have R3 := R2.reH (R2.sub.trans up.sub) fun d hd => by
          obtain ⟨k, mm⟩ := hd
          obtain ⟨u, z, _⟩ := R2.mem mm
          rw [z]; exact up _ _ z
        have R4 := R3.sigma (σ' := σ2) (by rw [e1, List.length_set, List.length_set, List.length_set]) fun k hk => by
          have nk : k ∉ ks := fun w => hk (wipes_at w (stores_len (st' k w)))
          rw [e2 k nk, List.getElem?_set_ne fun w => nk (by rw [← w]; exact hik), List.getElem?_set_ne fun w => nk (by rw [← w]; exact hjk), List.getElem?_set_ne fun w => nk (by rw [← w]; exact hik)]
        have E2 : Ext G' H' Fs' G' H2 F2 := ⟨Le.refl _, fun d o z _ => up d o z, fun d z => .inl z, fun d z => .inl (f2 d z), fun d z w => by
          cases z2 : H' d with
          | none => exact z z2
          | some o => rw [up d o z2] at w; cases w⟩
        exact q σ2 G' H2 F2 (.bl r) [] R4 (E'.trans E2) (Apart.zero (.bl r)) fun d hd => by cases hd
    · exact q.elim
@[simp] theorem v_refd {tb : List (Str × Str × Bool)} {b : SS} {cl c : Str} {ks : List Nat} {r : Bool} {η : Env} : S.refd tb b cl c ks r η = match b η with
  | .exc c' η' => if c' = c ∧ S.sub tb c cl = some true ∧ ks.all (fun k => S.stores k η') = true then .ok (.rt 0 (.bl r)) (S.wipes ks η') else .bad
  | _ => .bad := rfl
end
/-! ### the head's hook, with a test of one's own -/
def obsE (n : Nat) (fa : List He.Fa) (fn : List He.DefD) (ex : PySem.W.Frag → Bool) (g : Addr → Option Obj) : He.AlD :=
  ((He.obsD fa fn (He.frG (noL g) (He.asD g n))).1 && ex (He.frG (noL g) (He.asD g n)), (He.obsD fa fn (He.frG (noL g) (He.asD g n))).2)
def hookE (n : Nat) (fa : List He.Fa) (fn : List He.DefD) (ex : PySem.W.Frag → Bool) : PySem.W.Hook where
  α := He.AlD
  obs := fun s => obsE n fa fn ex s.heap.get?
  val := fun _ => He.valD fn
  says := fun _ h => ∃ K : PySem.W.Frag, (K.In h ∧ ∀ a o, K.lookup a = some o → o.cls ≠ .type "list") ∧ He.SaysD fa fn K ∧ ex K = true
  of := fun _ _ e => by
    obtain ⟨e1, e2⟩ := Prod.mk.inj e
    obtain ⟨e3, e4⟩ := Bool.and_eq_true_iff.mp e1
    exact ⟨_, ⟨fun a o q => (noL_get (He.frG_at _ q)).1, fun a o q => (noL_get (He.frG_at _ q)).2⟩, Prod.ext e3 e2, e4⟩
  keeps := fun _ _ _ ⟨K, ⟨hK, hl⟩, c, x⟩ k => ⟨K, ⟨PySem.W.Frag.In.keeps hK k, hl⟩, c, x⟩
theorem obsE_eq {n : Nat} {fa : List He.Fa} {fn : List He.DefD} {ex : PySem.W.Frag → Bool} {g : Addr → Option Obj} {s : Shared} (h : ∀ a, g a = s.heap.get? a) : obsE n fa fn ex g = (hookE n fa fn ex).obs s := by
  have e : g = s.heap.get? := funext h
  rw [e] <;> rfl
/-- a class is or isn't a class's -/
def oneB (K : PySem.W.Frag) (c : Str) (x : Cl) (b : Bool) : Bool := decide (PySem.W.kitOne K (.ref (He.ga K c)) (x.u K) = some b)
def anyB (K : PySem.W.Frag) (c : Str) (xs : List Cl) (b : Bool) : Bool := decide (PySem.W.kitAny K (.ref (He.ga K c)) (xs.map (Cl.u K)) = some b)
theorem oneB_ok {K : PySem.W.Frag} {c : Str} {x : Cl} {b : Bool} (h : oneB K c x b = true) : PySem.W.kitOne K (.ref (He.ga K c)) (x.u K) = some b := of_decide_eq_true h
theorem anyB_ok {K : PySem.W.Frag} {c : Str} {xs : List Cl} {b : Bool} (h : anyB K c xs b = true) : PySem.W.kitAny K (.ref (He.ga K c)) (xs.map (Cl.u K)) = some b := of_decide_eq_true h
end DV

/-! DV31: a law that takes str() of plain data: the law's own frame, in which no repr is under way. -/
namespace DV
open PySem PySem.Spec PyProof.Rows L2 RZ
/-! ### a def, called where A stands -/
def FnAt (A : Around) (P : Program) (w : World) (K : PySem.W.Frag) (mg : Str → Option Value) (base : Heap) (CX : CXT) (f : Addr) (fd : FuncData) (ps : List Str) (sp : Sp) : Prop :=
  ∀ (ou : List PySem.Env) (st : Shared) (H : Hp) (as : Args) (us : List Value) (vs : List V) (Q : VK) (E : XK), Env0 P w K mg base A ou st H → BindsTo st fd as (ps.zip us) → Vals vs us → sp vs H Q E →
    codeAny (model P w) A (.call (.ref f) as) (CR CX ou P w H st Q E) st
theorem fn_at {A : Around} {CX : CXT} {P : Program} {w : World} {K : PySem.W.Frag} {mg : Str → Option Value} {base : Heap} {k : Nat} {f : Addr} {name qual : Str} {params : Arguments} {body : List Stmt} {scope : Scope} {fd : FuncData} {N ps : List Str} {sp : Sp}
    (F : FunD K name qual params body scope [] [] f fd) (sc : FnScope N ps scope) (ln : ∀ vs H Q E, sp vs H Q E → vs.length = ps.length) (room : Room (k + 1) A)
    (bd : ∀ (cdv : Value) (ou : List PySem.Env) (st : Shared) (H : Hp) (vs : List V) (Q : VK) (E : XK), Room k (A.deeper (envOfC qual scope st.heap.objs.size f cdv)) → sp vs H Q E →
      ∃ t, PSs (cxOf CX P w K mg base N qual scope f cdv A ou st H E) body t ∧ t { nx := fun _ H' => Q .non H', rt := Q } (start N vs) H) : FnAt A P w K mg base CX f fd ps sp := by
  obtain ⟨_, _, _, _, _, _, _, cdv, _, _, rfl, look, code, _, _⟩ := F.ex
  intro ou st H as us vs Q E env bnd rel spq
  have keep : ∀ b o, base.get? b = some o → st.heap.get? b = some o := fun b o e => (env.bs b o e).1
  have inK : K.In st.heap := env.mod.kin.keeps keep
  have kinds : ∀ z ∈ ps.zip us, scope.names.lookup z.1 = some .local ∨ (scope.names.lookup z.1 = some .cell ∧ ((cellsFrom (st.heap.objs.size + 1) scope.names []).lookup z.1).isSome = true) := by
    rintro ⟨n, v⟩ hz
    have h1 := sc.par n (List.of_mem_zip hz).1
    exact h1.imp id fun h2 => ⟨h2, PySem.W.cellsFrom_some _ _ _ (.inl h2)⟩
  refine codeAny_call_function room.depth (inK _ _ look) rfl sc.co sc.gen rfl (PySem.W.codeRec_of inK code) (bnd _ _ _ _ (wpAny_newFunctionEnv_cells sc.kind kinds fun en en2 st1 got => ?_))
  subst en2
  obtain ⟨t, run, pre⟩ := bd cdv ou st H vs Q E (room.deeper _) spq
  have J : Inv (cxOf CX P w K mg base N qual scope f cdv A ou st H E) [] (start N vs) H st1 := inv_start sc room.hd env (ln _ _ _ _ spq) rel got
  refine ⟨(env.mod.nolimit.keeps keep).keeps got.toInCall.keep, codeAny_func (wpAny_mono (run.run [] st1 (start N vs) H _ J pre) (fun fl st2 q => ?_) fun _ _ q => q)⟩
  have done : ∀ {σ2 : L2.St} {H2 : Hp} {v : V} {u : Value}, Inv (cxOf CX P w K mg base N qual scope f cdv A ou st H E) [] σ2 H2 st2 → RelV v u → Q v H2 → CE ou P w H st Q u st2 :=
    fun {_ H2 v _} J2 r2 q2 => ⟨v, H2, J2.os, J2.bare, J2.base, J2.hok, r2, q2⟩
  match fl, q with
  | .ret u, ⟨v, σ2, H2, J2, r2, q2⟩ => exact done J2 r2 q2
  | .next, ⟨σ2, H2, J2, q2⟩ => exact done (v := V.non) (u := Value.none) J2 rfl q2
  | .brk, ⟨_, _, _, q2⟩ => exact q2.elim
  | .cont, ⟨_, _, _, q2⟩ => exact q2.elim
section
variable {P : Program} {w : World} {K : PySem.W.Frag} {mg : Str → Option Value} {base : Heap} {x qual : Str} {params : Arguments} {body : List Stmt} {scope : Scope} {f : Addr} {fd : FuncData}
theorem fn_sem_at {A : Around} {N ps : List Str} {io : List Bool} {k : Nat} {sem : SS} (F : FunD K x qual params body scope [] [] f fd) (S' : FnScope N ps scope) (hio : io.length = ps.length) (room : Room (k + 1) A)
    (hbody : ∀ (cdv : Value) (outer : List PySem.Env) (s : Shared) (H : Hp) (E : XK) (L : Lents), Room k (A.deeper (envOfC qual scope s.heap.objs.size f cdv)) →
      PSs (cxOf (L2.CX P w) P w K mg base N qual scope f cdv A outer s H E) body (tS K L (fun cls d _ H' => E cls d H') sem)) :
    FnAt A P w K mg base (L2.CX P w) f fd ps (spF K (S.run sem N.length io) io) := by
  refine fn_at F S' (fun vs H Q E h => by rw [h.1, hio]) room fun cdv outer s H vs Q E hr h => ?_
  obtain ⟨hv, G, args, Fs, ha, R, q⟩ := h
  refine ⟨_, hbody cdv outer s H E (io.length + (N.length - vs.length), lentsAt 0 io vs) hr, G, _, Fs, R.pad (N.length - vs.length), ?_⟩
  have hps : ps.length ≤ N.length := by have := congrArg List.length S'.pre; rw [List.length_take] at this; omega
  have en : N.length - vs.length = N.length - args.length := by rw [hv, ha]
  unfold S.run at q
  rw [if_pos ha, ← en] at q
  cases z : sem (S.mkEnv args io ++ List.replicate (N.length - vs.length) Slot.no) with
  | bad => rw [z] at q; exact q
  | exc c η' =>
    rw [z] at q
    intro σ' G' H' Fs' R' E'
    obtain ⟨Fs2, R2, f2⟩ := R'.toBack hv (Nat.le_add_right _ _)
    exact q G' H' Fs2 R2 (E'.feet fun a ha => E'.f a (f2 a ha))
  | ok fl η' =>
    rw [z] at q
    cases fl with
    | nx =>
      intro σ' G' H' Fs' R' E'
      obtain ⟨Fs2, R2, f2⟩ := R'.toBack hv (Nat.le_add_right _ _)
      exact q G' H' Fs2 .non [] R2 (E'.feet fun a ha => E'.f a (f2 a ha)) (Apart.zero .non) fun a z => by simp at z
    | bk => exact q.elim
    | ct => exact q.elim
    | rt k d =>
      intro σ' G' H' Fs' v F R' E' y o
      obtain ⟨Fs2, R2, f2⟩ := R'.toBack hv (Nat.le_add_right _ _)
      exact q G' H' Fs2 v F R2 (E'.feet fun a ha => E'.f a (f2 a ha)) (y.feet f2) o
end
/-! ### the law, called by its caller -/
theorem law_callC {P : Program} {w : World} {K : PySem.W.Frag} {mg mb : Str → Option Value} {CX : CXT} {f a : Addr} {fd : FuncData} {x : Str} {sp : Sp} {st : Shared} {vs : List Value} {ns : List Int}
    (inK : K.In st.heap) (glob : st.heap.Ns mainGlobals mg) (bns : st.heap.Ns builtinsNs mb) (bbt : ∀ x : Str, x ≠ "__name__" → mb x = bootBuiltins x) (lim : st.heap.NoLimit) (gens : st.gens = #[])
    (scr : st.heap.get? a = some { cls := .type "list", data := .seq vs.toArray }) (itI : IntsAre vs ns) (len : ns.length ≤ sizeLine)
    (F : ∀ base : Heap, K.In base → base.Ns mainGlobals mg → FnAt callerA P w K mg base CX f fd [x] sp) (bnd : ∀ (s : Shared) (u : Value), BindsTo s fd ⟨[u], []⟩ [(x, u)])
    (nl : ∀ o, K.lookup a = some o → o.cls ≠ .type "list")
    (spq : ∀ H : Hp, Only H → SqL K H a (ns.map V.int) → sp [.ref a] H (fun v _ => v = .bl true) fun _ _ _ => False)
    (noX : ∀ H e s', CX [] H st (fun _ _ _ => False) e s' → False) :
    codeAny (model P w) callerA (.call (.ref f) ⟨[.ref a], []⟩) (fun r s' => r = .ok (.ret (.bool true)) ∧ OldK st.heap s'.heap ∧ s'.os = st.os ∧ AllBare s'.gens) st := by
  have notK : K.lookup a = none := by
    cases e : K.lookup a with
    | none => rfl
    | some o =>
      have e2 := inK a o e
      rw [scr] at e2
      exact absurd (by rw [← Option.some.inj e2]) (nl o e)
  -- the script alone is tracked, frozen
  let fz : HO := .frz { cls := .type "list", data := .seq vs.toArray } (.lst (ns.map V.int))
  let H : Hp := fun b => if b = a then some fz else none
  have Ha : H a = some fz := if_pos rfl
  have Hb : ∀ {b : Addr}, b ≠ a → H b = none := fun h => if_neg h
  have only : Only H := fun b => by
    by_cases h : b = a
    · exact .inr ⟨_, _, if_pos h⟩
    · exact .inl (Hb h)
  have okH : HOk P w H st.heap := fun b o e => by
    by_cases h : b = a
    · subst h
      rw [Ha] at e
      cases e
      exact ⟨scr, by rw [List.length_map]; exact len, vs, _, vals_ints itI, scr⟩
    · rw [Hb h] at e; cases e
  have under : ∀ {b : Addr} {o : Obj}, st.heap.get? b = some o → H b = none → (hidT st.heap H).get? b = some o := fun e n => hidT_get e n
  have dictB : ∀ {b : Addr} {o : Obj} {es : Array DictEntry} {n : Nat}, st.heap.get? b = some o → o.data = .dict es n → H b = none := fun {b o es n} e e2 => Hb fun h => by
    rw [h, scr] at e
    rw [← Option.some.inj e] at e2
    cases e2
  have nsB : ∀ {b : Addr} {m : Str → Option Value}, st.heap.Ns b m → (hidT st.heap H).Ns b m := fun {b m} ⟨o, es, n, e, e2, r⟩ => ⟨o, es, n, under e (dictB e e2), e2, r⟩
  have inB : K.In (hidT st.heap H) := fun b o e => under (inK b o e) (Hb fun h => by rw [h, notK] at e; cases e)
  obtain ⟨ml, l1, l2⟩ := lim
  have env : Env0 P w K mg (hidT st.heap H) callerA [] st H := ⟨rfl, ⟨inB, nsB glob, ⟨mb, nsB bns, bbt⟩, ⟨ml, nsB l1, l2⟩⟩, fun b o e => of_hidT e, Nat.le_of_eq (hidT_size _ _), trivial, fun b h => (List.not_mem_nil h).elim, okH, .of_eq gens⟩
  refine codeAny_mono (F _ inB (nsB glob) [] st H ⟨[.ref a], []⟩ [.ref a] [.ref a] _ _ env (bnd st (.ref a)) (.cons rfl .nil) (spq H only (.inl (.inr ⟨_, Ha⟩)))) fun r s' got => ?_
  match r, got with
  | .error e, got => exact (noX H e s' got).elim
  | .ok (.ret u), ⟨v, H', os, bare, un, okH', rv, q⟩ =>
    subst q
    cases rv
    refine ⟨rfl, OldK.of_keep fun b o e => ?_, os, bare⟩
    by_cases h : b = a
    · subst h
      have z := un.frzs b _ _ Ha
      rw [(okH' b _ z).1]
      rw [scr] at e
      exact e
    · exact un.keep b o e (Hb h) (fun z => List.not_mem_nil z) (fun z => List.not_mem_nil z)
theorem law_endC {l : PySem.W.OpenLaw} {n : Nat} {q : Program} {loose : List Str} {XP : (Str → Option Value) → Heap → Prop} {YP : World → Heap → Prop} {d : DefRec} {x : Str} {F : FnSem}
    (hn : l.most = some n) (hn2 : n ≤ sizeLine) (hdf : d.params.defaults = [])
    (hF : ∀ (w : World) (mg : Str → Option Value) (fa : Addr) (h : Heap), YP w h → h.Ns mainGlobals mg → mg d.name = some (.ref fa) →
      ∃ (K : PySem.W.Frag) (fd : FuncData), K.In h ∧ (∀ a o, K.lookup a = some o → o.cls ≠ .type "list") ∧ (∀ (s : Shared) (u : Value), BindsTo s fd ⟨[u], []⟩ [(x, u)]) ∧
        ∀ base : Heap, K.In base → base.Ns mainGlobals mg → FnAt callerA l.prog w K mg base (L2.CX l.prog w) fa fd [x] (spF K F [false]))
    (hM : ∀ ns : List Int, ns.length ≤ n → ∃ k bk, F [(0, .lst (ns.map .int))] = .ok k (.bl true) bk) :
    PySem.W.WalkO q loose XP YP l.row.toRowW d [] (fun f vs => PySem.call f vs) := by
  refine Att.attach_call hn hdf fun w s₀ s₁ mg mb fa o pm cd doc a vs ns G Y ho hd hcd hmg hobj hints hlen hg => ?_
  obtain ⟨K, fd, KX, nl, hb, hFk⟩ := hF w mg fa _ Y G.T.g hmg
  refine law_callC KX G.T.g G.T.b G.T.builtins G.T.nolimit hg hobj hints (Nat.le_trans hlen hn2) hFk hb (nl a) (fun H hO hS => law_sp nl hS (hM ns hlen)) fun H e s' z => ?_
  obtain ⟨_, _, _, _, _, _, _, _, _, _, _, _, _, f⟩ := z
end DV

/-! DV32: str() of lists and tuples of plain data, where no repr is under way. -/
namespace DV
open PySem PySem.Spec PyProof.Rows L2 RZ
def strD : List D → Option D
  | [.tup ds] => if okD 16 (.tup ds) = true ∧ (py (.tup ds)).showable = true ∧ (py (.tup ds)).hasDict = false ∧ (py (.tup ds)).shown.length ≤ sizeLine then some (.str (py (.tup ds)).shown) else none
  | [.lst ds] => if okD 16 (.lst ds) = true ∧ (py (.lst ds)).showable = true ∧ (py (.lst ds)).hasDict = false ∧ (py (.lst ds)).shown.length ≤ sizeLine then some (.str (py (.lst ds)).shown) else none
  | _ => none
def rStrD (K : PySem.W.Frag) : List V → Hp → VK → Prop := fun vs H Q => ∃ (a : Addr) (d : PyData), vs = [V.ref a] ∧ Dp K H (.ref a) d ∧ d.showable = true ∧ d.hasDict = false ∧ d.depth ≤ 16 ∧ d.shown.length ≤ sizeLine ∧ Q (.str d.shown) H
theorem cr_str {X : Cx} (hg : X.A.guards = some []) (hu : X.A.units + 65 < cLine) : CallR X (.type "str") (rStrD X.K) := by
  intro pins s σ H vs us Q I r h
  obtain ⟨a, d, rfl, dp, h1, h2, h3, h4, q⟩ := h
  rw [Vals.ref1 r]
  obtain ⟨as, ra⟩ := Dp.reads I d _ _ dp rfl
  exact str_of_reads ra h1 (fun z => by rw [h2] at z; cases z) hg (by omega) (fun _ _ e => e) (fun h' u tk hk => ⟨.str d.shown, H, I.kept (t' := tk) hk, ⟨u, rfl⟩, q⟩) h4
theorem cd_str {K : PySem.W.Frag} : CallD (rStrD K) strD := by
  intro H vs ds d Q rl e fin
  unfold strD at e
  split at e
  · rename_i es
    split at e <;> cases e
    rename_i c
    cases rl with
    | cons r1 r2 =>
      cases r2
      have dep := (okD_lay 16 _ c.1).2
      have dp := Rep.dp (K := K) 16 _ _ r1 c.1
      cases r1 with
      | tup g rr => exact ⟨_, _, rfl, dp, c.2.1, c.2.2.1, dep, c.2.2.2, fin _ fun G => .str _⟩
  · rename_i es
    split at e <;> cases e
    rename_i c
    cases rl with
    | cons r1 r2 =>
      cases r2
      have dep := (okD_lay 16 _ c.1).2
      have dp := Rep.dp (K := K) 16 _ _ r1 c.1
      cases r1 with
      | lst g rr => exact ⟨_, _, rfl, dp, c.2.1, c.2.2.1, dep, c.2.2.2, fin _ fun G => .str _⟩
  · cases e
/-! ### how long a text is -/
theorem shownAll_map : ∀ ds : List D, PyData.shownAll (pyL ds) = ds.map fun d => (py d).shown
  | [] => by simp [pyL, PyData.shownAll]
  | d :: ds => by simp [pyL, PyData.shownAll, shownAll_map ds]
theorem showableAll_map : ∀ {ds : List D}, (∀ d ∈ ds, (py d).showable = true) → PyData.showableAll (pyL ds) = true
  | [], _ => by simp [pyL, PyData.showableAll]
  | d :: ds, h => by simp [pyL, PyData.showableAll, h d List.mem_cons_self, showableAll_map fun x hx => h x (List.mem_cons_of_mem _ hx)]
theorem piled_le {B : Nat} : ∀ {ts : List Str}, (∀ t ∈ ts, t.length ≤ B) → piled ts ≤ (B + 2) * ts.length
  | [], _ => by simp [piled]
  | t :: ts, h => by
    have h1 := h t List.mem_cons_self
    have h2 := piled_le fun x hx => h x (List.mem_cons_of_mem t hx)
    rw [piled_cons, List.length_cons, Nat.mul_succ]
    omega
theorem tupleText_le {B : Nat} {ts : List Str} (h : ∀ t ∈ ts, t.length ≤ B) : (tupleText ts).length ≤ (B + 2) * ts.length + 3 := by
  have h1 := piled_le h
  unfold tupleText
  rw [strLen_append, strLen_append]
  have e1 : ((("(" : String) : Str)).length = 1 := rfl
  have e2 : (((if ts.length == 1 then ",)" else ")" : String) : Str)).length ≤ 2 := by split <;> decide
  by_cases z : ts = []
  · subst z
    have e3 : (Str.join ", " []).length = 0 := rfl
    rw [e3]; omega
  · have := join_length_add ts z
    omega
theorem listText_le {B : Nat} {ts : List Str} (h : ∀ t ∈ ts, t.length ≤ B) : (listText ts).length ≤ (B + 2) * ts.length + 3 := by
  have h1 := piled_le h
  unfold listText
  rw [strLen_append]
  have e1 : ((("]" : String) : Str)).length = 1 := rfl
  have e2 : ((("[" : String) : Str)).length = 1 := rfl
  cases ts with
  | nil => show ((("[" : String) : Str)).length + _ ≤ _; omega
  | cons t ts =>
    show (textFrom 1 (("[" : Str) ++ (if 0 > 0 then ", " else "" : String) ++ t) ts).length + _ ≤ _
    rw [textFrom_length_pos _ _ _ (by decide), strLen_append, strLen_append]
    have e3 : (((if 0 > 0 then ", " else "" : String) : Str)).length = 0 := rfl
    rw [piled_cons] at h1
    omega
/-- plain data with a text of at most B -/
structure Shw (n B : Nat) (d : D) : Prop where
  ok : okD n d = true
  sh : (py d).showable = true
  ln : (py d).shown.length ≤ B
theorem Shw.int {n : Nat} {i : Int} (h : i.natAbs < 10 ^ 500) : Shw n 501 (.int i) where
  ok := by cases n <;> rfl
  sh := by
    show decide (i.natAbs.log2 < 1920) = true
    rw [decide_eq_true_eq]
    by_cases z : i.natAbs = 0
    · rw [z]; decide
    · exact (Nat.log2_lt z).mpr (Nat.lt_trans h (by decide +kernel))
  ln := by
    have e := int_text_length_le10 (k := 500) (by decide) h
    show (Str.ofString (toString i)).length ≤ 501
    rw [PySem.ofString_length]; exact e
theorem Shw.tup {n B k : Nat} {ds : List D} (h : ∀ d ∈ ds, Shw n B d) (hk : ds.length ≤ k) : Shw (n + 1) ((B + 2) * k + 3) (.tup ds) where
  ok := by
    show okL n ds = true
    exact okL_all fun d hd => (h d hd).ok
  sh := by
    show (PyData.tuple (pyL ds)).showable = true
    rw [PyData.showable]
    exact showableAll_map fun d hd => (h d hd).sh
  ln := by
    show (PyData.tuple (pyL ds)).shown.length ≤ _
    rw [PyData.shown, shownAll_map]
    refine Nat.le_trans (tupleText_le (B := B) fun t ht => ?_) ?_
    · obtain ⟨d, hd, rfl⟩ := List.mem_map.mp ht
      exact (h d hd).ln
    · rw [List.length_map]
      exact Nat.add_le_add_right (Nat.mul_le_mul_left _ hk) _
theorem Shw.lst {n B k : Nat} {ds : List D} (h : ∀ d ∈ ds, Shw n B d) (hk : ds.length ≤ k) : Shw (n + 1) ((B + 2) * k + 3) (.lst ds) where
  ok := by
    show okL n ds = true
    exact okL_all fun d hd => (h d hd).ok
  sh := by
    show (PyData.list (pyL ds)).showable = true
    rw [PyData.showable]
    exact showableAll_map fun d hd => (h d hd).sh
  ln := by
    show (PyData.list (pyL ds)).shown.length ≤ _
    rw [PyData.shown, shownAll_map]
    refine Nat.le_trans (listText_le (B := B) fun t ht => ?_) ?_
    · obtain ⟨d, hd, rfl⟩ := List.mem_map.mp ht
      exact (h d hd).ln
    · rw [List.length_map]
      exact Nat.add_le_add_right (Nat.mul_le_mul_left _ hk) _
theorem Shw.mono {n B B' : Nat} {d : D} (h : Shw n B d) (hb : B ≤ B') : Shw n B' d := ⟨h.ok, h.sh, Nat.le_trans h.ln hb⟩
theorem Shw.str_lst {B : Nat} {ds : List D} (h : Shw 16 B (.lst ds)) (hb : B ≤ 16777216) : ∃ x, strD [.lst ds] = some (.str x) := by
  refine ⟨(py (.lst ds)).shown, if_pos ⟨h.ok, h.sh, PyData.hasDict_of_canLay _ (okD_lay 16 _ h.ok).1, ?_⟩⟩
  have := h.ln
  rw [sizeLine_eq]; omega
/-! ### texts compared -/
def neS : D → D → Option Bool
  | .str x, .str y => some (!decide (x = y))
  | a, b => neD a b
theorem cz_neS {K : PySem.W.Frag} : Cmp2 (fun x y H Q => rNe x y H Q ∨ rNeD K x y H Q) neS := by
  intro H v w dx dy b Q rx ry h q
  unfold neS at h
  split at h
  · cases h
    cases rx
    cases ry
    refine .inl ⟨rfl, ?_⟩
    rename_i x y
    have e : decide (V.str x = V.str y) = decide (x = y) := by
      rw [Bool.eq_iff_iff]; simp
    rw [e]; exact q
  · exact .inr (cz_ne H v w dx dy b Q rx ry h q)
@[simp] theorem v_neS {x : Str} : neS (.str x) (.str x) = some false := by
  show some (!decide (x = x)) = _
  simp
end DV

/-! DV33: a display of one pair, its key a tuple. -/
namespace DV
open PySem PySem.Spec PyProof.Rows L2 RZ
def tDispT (tk tv : TE) : TE := fun σ H Q => ∀ p, H p = none → tk σ (upd H p (.dT [])) fun x H1 => tv σ H1 fun y H2 => ∃ (b : Addr) (ks : List Key), x = .ref b ∧ H2 p = some (.dT []) ∧ H2 b = some (.tup (ks.map kV)) ∧ Q (.ref p) (upd H2 p (.dT [(ks, y)]))
section
variable {X : Cx} {k v : Expr} {tk tv : TE} {pos : Pos}
theorem pe_dispT (hu : X.A.units + 1 < cLine) (hk : PE X k tk) (hv : PE X v tv) : PE X (.Dict [some k] [v] pos) (tDispT tk tv) := by
  refine ⟨fun pins s σ H Q I q => ?_⟩
  have none0 := I.hok.fresh (Nat.le_refl s.heap.objs.size)
  have I1 := I.laid (a := s.heap.objs.size) (o := .dT []) (h' := s.heap.push { cls := .type "dict", data := .dict #[] }) (t' := s.toks) (fun _ _ e => Heap.get?_push_of_some _ e) (Nat.le_refl _) (dt_empty s.heap I.big)
  refine wpAny_Dict_any rfl rfl (by simp) (by simp) ?_
  refine pairTrees_cons_walk (thn (hk.run pins _ σ _ _ I1 (q _ none0)) fun u s1 ⟨x, H1, J1, rx, q1⟩ => thn (hv.run pins s1 σ H1 _ J1 q1) fun w2 s2 ⟨y, H2, J2, ry, q2⟩ => pairTrees_nil_walk ?_)
  obtain ⟨b, ks, rfl, e1, e2, q3⟩ := q2
  cases rx
  obtain ⟨z, hd, xs, rel, dd⟩ := dt_of J2.hok e1
  have hx : xs = [] := by
    have := Paired.length rel
    exact List.length_eq_zero_iff.mp this.symm
  subst hx
  unfold storeAll
  rw [List.forIn_cons]
  refine wpAny_bind (wpAny_bind (wpAny_dictSet_heap (hsz := Nat.zero_le _) (knd := tupleKind (mixKind X.prog X.w)) (by exact (show X.A.units < cLine by omega)) (key_of J2.hok e2) dd fun h' dd' same => wpAny_pure ?_))
  show wpAny _ _ (forIn [] _ _) _ _ _
  rw [List.forIn_nil]
  refine wpAny_pure ⟨.ref s.heap.objs.size, upd H2 s.heap.objs.size (.dT [(ks, y)]), ?_, rfl, q3⟩
  obtain ⟨o, es, ep, ho, h2, h3, h4, _, h5⟩ := dd'
  refine d_write J2 (by rw [e1]; exact True.intro) same ⟨o, ho⟩ ⟨Nat.le_trans (by decide : 1 ≤ 64) (by rw [sizeLine_eq]; decide), hd, _, (rel.put ks e2 ry).keeps fun c ys ec => ?_, o, es, ep, ho, h2, h3, h4, h5⟩
  rw [upd_ne (ne_of ec e1 (fun z => nomatch z))]
  exact ec
end
namespace S
/-- {k: v}, k a tuple -/
def disp (fk fv : SE) : SF := fun η => (fk η).bind fun kd η1 => (fv η1).bind fun d η2 => match kd with
  | .tup ks => match keysD ks with
    | some k => .ok (1, .dT [(k, d)]) η2
    | none => .bad
  | _ => .bad
end S
section
variable {X : Cx} {L : Lents} {W : WX} {k v : Expr} {fk fv : SE} {pos : Pos}
theorem jf_disp (hu : X.A.units + 1 < cLine) (hk : PE X k (tE X.K L W fk)) (hv : PE X v (tE X.K L W fv)) : PE X (.Dict [some k] [v] pos) (tF X.K L W (S.disp fk fv)) := by
  refine PE.imp (pe_dispT hu hk hv) fun σ H Q ⟨G, η, Fs, R, q⟩ p hp => ?_
  have gp := R.sub.free hp
  have nf := R.noFoot hp
  have R0 : Rel L G η σ (upd H p (.dT [])) Fs := R.updN gp nf
  have E0 : Ext G H Fs G (upd H p (.dT [])) Fs := (New.own (o := .dT []) R.sub hp).ext
  unfold S.disp at q
  refine ⟨G, η, Fs, R0, ?_⟩
  cases e1 : fk η with
  | bad => rw [e1] at q; exact q.elim
  | exc c η1 => rw [e1] at q; exact fun G1 H1 Fs1 R1 E1 => q G1 H1 Fs1 R1 (E0.trans E1)
  | ok kd η1 =>
    rw [e1] at q
    intro G1 H1 Fs1 R1 E1 x rx
    refine ⟨G1, η1, Fs1, R1, ?_⟩
    simp only [bind_ok] at q
    cases e2 : fv η1 with
    | bad => rw [e2] at q; exact q.elim
    | exc c η2 => rw [e2] at q; exact fun G2 H2 Fs2 R2 E2 => q G2 H2 Fs2 R2 (E0.trans (E1.trans E2))
    | ok d η2 =>
      rw [e2] at q
      simp only [bind_ok] at q
      intro G2 H2 Fs2 R2 E2 y ry
      have E12 := E1.trans E2
      match kd, rx, q with
      | .tup ks, .tup (a := b) (xs := xs) g rl, q =>
        simp only at q
        cases e : keysD ks with
        | none => simp only [e] at q; exact q.elim
        | some key =>
          simp only [e] at q
          have hx := keys_rep rl e
          subst hx
          have hp2 : H2 p = some (.dT []) := E12.h p _ upd_same nf
          have gp2 : G2 p = none := by
            cases z : G2 p with
            | none => rfl
            | some u =>
              rcases E12.n p (by rw [z]; exact fun w => nomatch w) with w | w | w
              · exact absurd gp w
              · exact absurd w nf
              · rw [upd_same] at w; exact w.elim
          have nf2 : ¬ foot Fs2 p := fun w => by
            rcases E12.f p w with w | w
            · exact nf w
            · rw [upd_same] at w; cases w
          refine ⟨b, key, rfl, hp2, R2.sub.tp _ _ (E2.g _ _ g), ?_⟩
          have ap : Apart G2 (upd H2 p (.dT [(key, y)])) Fs2 1 (.ref p) (.dT [(key, d)]) [p] := ⟨⟨p, [(key, y)], [], rfl, upd_same, rfl, rfl, .cons (F := []) (Fs := []) ⟨ry, rfl⟩ .nil⟩, by simp, fun a ha => by rw [List.mem_singleton.mp ha]; exact gp2, fun a ha => by rw [List.mem_singleton.mp ha]; exact nf2⟩
          exact q G2 (upd H2 p (.dT [(key, y)])) Fs2 (R2.updN gp2 nf2) ((E0.trans E12).updN hp) (.ref p) [p] ap fun a ha => .inr (by rw [List.mem_singleton.mp ha]; exact hp)
@[simp] theorem v_disp {η : Env} : S.disp fk fv η = (fk η).bind fun kd η1 => (fv η1).bind fun d η2 => (match kd with
  | .tup ks => (match keysD ks with
    | some k => Out.ok (1, D.dT [(k, d)]) η2
    | none => .bad)
  | _ => .bad : Out (Nat × D)) := rfl
end
end DV

/-! DV34: sorted(d.items()), d with tuples as keys and whole numbers as values. -/
namespace DV
open PySem PySem.Spec PyProof.Rows L2 RZ
open L2.DX (itemsO takeT pget)
open PySem.W (EachIs dataLe)
def pairT (e : List Key × Int) : D := .tup [keyT e.1, .int e.2]
def rSortIt2 : List V → Hp → VK → Prop := fun vs H Q => ∃ (p a : Addr) (ks : List (List Key × Int)), vs = [V.ref p] ∧ H p = some (itemsO p a) ∧ H a = some (.dT (ks.map fun e => (e.1, V.int e.2))) ∧ sortOk (ks.map pairT) = true ∧
  ∀ (H' : Hp) (l : Addr) (bs : List ((List Key × Int) × Addr)), bs.map (·.1) = ks → (∀ b o, H b = some o → H' b = some o) → H l = none → H' l = some (.lst ((bs.mergeSort fun x y => leDat (pairT x.1) (pairT y.1)).map fun b => V.ref b.2)) →
    (∀ b ∈ bs, H b.2 = none ∧ b.2 ≠ l ∧ ∃ q, H q = some (.tup (b.1.1.map kV)) ∧ H' b.2 = some (.tup [.ref q, .int b.1.2])) → Q (.ref l) H'
section
variable {X : Cx}
theorem cr_sortIt2 (hc : X.calm = true) (hu : X.A.units + 65 < cLine) : CallR X (.builtin "sorted") rSortIt2 := by
  intro pins s σ H xs us Q I r h
  obtain ⟨p, a, ks, rfl, hp, ha, hso, q⟩ := h
  obtain rfl := Vals.ref1 r
  have view : s.heap.IsItemsView p a := (show ObjOk X.prog X.w H s.heap p (itemsO p a) from I.hok p _ hp).1
  obtain ⟨z, hd, xs', rel, o, es, ep, ho, hx, hdat, hes, his, hn⟩ := dt_of I.hok ha
  have l1 : ks.length = xs'.length := by
    have e := Paired.length rel
    rw [List.length_map] at e; exact e
  have l2 : es.size = xs'.length := size_of_entries hes
  rw [List.length_map] at z
  refine DT.sortedI (es := es) (ep := ep) (I.ok.hd hc) view ⟨o, ho, hx, hdat⟩ (by omega) fun h' tk as hk hlt hl hG => ?_
  have lak : as.length = ks.length := by omega
  have nd : as.Nodup := List.Pairwise.imp (fun h => Nat.ne_of_lt h) hG.rise
  have m1 : (ks.zip as).map (·.1) = ks := List.map_fst_zip (by omega)
  have m2 : (ks.zip as).map (·.2) = as := List.map_snd_zip (by omega)
  generalize hbs : ks.zip as = bs at m1 m2
  have lb : bs.length = ks.length := by rw [← m1, List.length_map]
  -- the pairs that were made
  have pr : ∀ b ∈ bs, ∃ (kq : Addr) (t : Tok), H kq = some (.tup (b.1.1.map kV)) ∧ h'.get? b.2 = some { cls := .type "tuple", data := .seq #[Value.ref kq, Value.int b.1.2 t] } := by
    intro b hb
    obtain ⟨j, hj⟩ := List.mem_iff_getElem?.mp hb
    rw [← hbs] at hj
    obtain ⟨k1, k2⟩ := List.getElem?_zip_eq_some.mp hj
    obtain ⟨en, he, hg⟩ := hG.pairs j b.2 k2
    rw [entry_at hes j] at he
    cases hxj : xs'[j]? with
    | none => rw [hxj] at he; exact nomatch (show (none : Option DictEntry) = some en from he)
    | some x =>
      rw [hxj] at he
      have een : entryOfKey (tupleKind (mixKind X.prog X.w)) x = en := Option.some.inj he
      obtain ⟨e0, he0, r1, r2, r3⟩ := pget rel hxj
      rw [List.getElem?_map, k1] at he0
      have ee : ((b.1.1, V.int b.1.2) : List Key × V) = e0 := Option.some.inj he0
      rw [← ee] at r2 r3
      obtain ⟨t, r3⟩ := r3
      refine ⟨x.2.1, t, r2, ?_⟩
      rw [hg, ← een, ← r3]
      rfl
  have above : ∀ b ∈ bs, s.heap.objs.size < b.2 := fun b hb => hG.above b.2 (by rw [← m2]; exact List.mem_map_of_mem hb)
  have I1 : Inv X pins σ H { s with heap := h', toks := tk } := I.kept hk
  have cover : ∀ c ∈ as, ∃ b ∈ bs, b.2 = c := fun c hc => by
    rw [← m2] at hc
    obtain ⟨b, hb, e⟩ := List.mem_map.mp hc
    exact ⟨b, hb, e⟩
  obtain ⟨H2, I2, grow, took⟩ := takeT (P := fun c vs => ∀ b ∈ bs, b.2 = c → ∃ kq, H kq = some (.tup (b.1.1.map kV)) ∧ vs = [.ref kq, .int b.1.2]) I as H I1 nd fun c hc => by
    obtain ⟨b, hb, rfl⟩ := cover c hc
    obtain ⟨kq, t, hq, hg⟩ := pr b hb
    refine ⟨Nat.le_of_lt (above b hb), I.hok.fresh (Nat.le_of_lt (above b hb)), [.ref kq, .int b.1.2], fun b' hb' e => ?_, fun H3 => ⟨by show 2 ≤ sizeLine; rw [sizeLine_eq]; decide, [Value.ref kq, Value.int b.1.2 t], .cons rfl (.cons ⟨t, rfl⟩ .nil), ⟨_, hg, rfl, 0, rfl⟩⟩⟩
    have same : b' = b := by
      obtain ⟨i, hi⟩ := List.mem_iff_getElem?.mp hb'
      obtain ⟨j, hj⟩ := List.mem_iff_getElem?.mp hb
      rw [← hbs] at hi hj
      have i2 := (List.getElem?_zip_eq_some.mp hi).2
      have j2 := (List.getElem?_zip_eq_some.mp hj).2
      rw [e] at i2
      have eij : i = j := (List.getElem?_inj (List.getElem?_eq_some_iff.mp i2).1 nd).mp (i2.trans j2.symm)
      subst eij
      exact Option.some.inj (hi.symm.trans hj)
    subst same
    exact ⟨kq, hq, rfl⟩
  have tp : ∀ b ∈ bs, ∃ kq, H kq = some (.tup (b.1.1.map kV)) ∧ H2 b.2 = some (.tup [.ref kq, .int b.1.2]) := fun b hb => by
    obtain ⟨vs, hP, hH⟩ := took b.2 (by rw [← m2]; exact List.mem_map_of_mem hb)
    obtain ⟨kq, hq, e⟩ := hP b hb rfl
    exact ⟨kq, hq, by rw [hH, e]⟩
  -- the sort
  have ho2 : sortOk (bs.map fun b => pairT b.1) = true := by
    have : (bs.map fun b => pairT b.1) = ks.map pairT := by rw [← m1, List.map_map]; rfl
    rw [this]; exact hso
  obtain ⟨p1, p2, p3⟩ := sort_premises ho2
  have rd : ∀ b ∈ bs, ∃ rs, Reads h' (.ref b.2) (py (pairT b.1)) rs := fun b hb => by
    obtain ⟨kq, hq, e⟩ := tp b hb
    have rp : Rep H2 (.ref b.2) (pairT b.1) := .tup e (.cons (.tup (grow _ _ hq) (keyVs_rep b.1.1)) (.cons (.int _) .nil))
    have ok : okD 16 (pairT b.1) = true := by
      unfold sortOk at ho2
      rw [Bool.and_eq_true] at ho2
      exact List.all_eq_true.mp ho2.2 _ (List.mem_map_of_mem hb)
    exact Dp.reads I2 _ _ _ (rp.dp 16 _ _ ok) rfl
  have hoL : (h'.push { cls := .type "list", data := .seq (as.map Value.ref).toArray }).get? h'.objs.size = some (seqObj "list" (as.map Value.ref).toArray 0) := Heap.get?_push_size _ rfl
  have ea : as.map Value.ref = bs.map fun b => Value.ref b.2 := by rw [← m2, List.map_map]; rfl
  have e1 : EachIs (fun u (b : (List Key × Int) × Addr) => u = Value.ref b.2) (as.map Value.ref) bs := by
    rw [ea]
    have gen : ∀ l : List ((List Key × Int) × Addr), EachIs (fun u (b : (List Key × Int) × Addr) => u = Value.ref b.2) (l.map fun b => Value.ref b.2) l := fun l => by
      induction l with
      | nil => exact .nil
      | cons b l ih => exact .cons rfl ih
    exact gen bs
  have e2 : EachIs (fun u (b : (List Key × Int) × Addr) => ∃ rs, Reads (h'.push { cls := .type "list", data := .seq (as.map Value.ref).toArray }) u (py (pairT b.1)) rs ∧ h'.objs.size ∉ rs) (as.map Value.ref) bs := by
    have : ∀ (l : List ((List Key × Int) × Addr)) (us : List Value), (∀ b ∈ l, b ∈ bs) → EachIs (fun u (b : (List Key × Int) × Addr) => u = Value.ref b.2) us l → EachIs (fun u (b : (List Key × Int) × Addr) => ∃ rs, Reads (h'.push { cls := .type "list", data := .seq (as.map Value.ref).toArray }) u (py (pairT b.1)) rs ∧ h'.objs.size ∉ rs) us l := by
      intro l us hl e
      induction e with
      | nil => exact .nil
      | @cons u b us l hu t ih =>
        refine .cons ?_ (ih fun x hx => hl x (List.mem_cons_of_mem _ hx))
        obtain ⟨rs, ra⟩ := rd b (hl b List.mem_cons_self)
        subst hu
        refine ⟨rs, PyProof.Rows.Reads.keeps (fun _ _ q => Heap.get?_push_of_some _ q) ra, fun hm => ?_⟩
        obtain ⟨ob, hob⟩ := PyProof.On.reads_mem_get ra _ hm
        exact absurd (Heap.lt_size hob) (Nat.lt_irrefl _)
    exact this bs _ (fun _ h => h) e1
  refine PySem.W.list_sort_data (A := X.A.in1) (s := { s with heap := h'.push { cls := .type "list", data := .seq (as.map Value.ref).toArray }, toks := tk }) hoL e1 e2 p1 p2 (by omega) (fun b hb => ?_) fun out hout ho => ?_
  · have := p3 b hb
    show X.A.units + 1 + 1 + _ < _
    omega
  · obtain ⟨e', he'⟩ := PyProof.Rows.sortedHeap_at (vs := as.map Value.ref) (out := List.toArray out) hoL
    have hle : (fun x y : (List Key × Int) × Addr => leDat (pairT x.1) (pairT y.1)) = dataLe false fun b : (List Key × Int) × Addr => py (pairT b.1) := by
      funext x y; rfl
    have rv : Vals ((bs.mergeSort fun x y => leDat (pairT x.1) (pairT y.1)).map fun b => V.ref b.2) out := by
      rw [hle]
      clear hout he'
      generalize (bs.mergeSort (dataLe false fun b : (List Key × Int) × Addr => py (pairT b.1))) = l at ho
      induction ho with
      | nil => exact .nil
      | cons h t ih => exact .cons h ih
    have fr := I2.hok.fresh (Nat.le_refl h'.objs.size)
    have kept : ∀ b o, h'.get? b = some o → (sortedHeap (h'.push { cls := .type "list", data := .seq (as.map Value.ref).toArray }) h'.objs.size (as.map Value.ref) (List.toArray out)).get? b = some o := fun b o e => by
      have hb : b < h'.objs.size := Heap.lt_size e
      rw [PyProof.Rows.sortedHeap_old (Nat.ne_of_lt hb) (by rw [size_push']; exact Nat.lt_succ_of_lt hb)]
      exact Heap.get?_push_of_some _ e
    refine ⟨.ref h'.objs.size, upd H2 h'.objs.size (.lst ((bs.mergeSort fun x y => leDat (pairT x.1) (pairT y.1)).map fun b => V.ref b.2)), I2.laid (t' := tk) (fun b u e => kept b u e) (Nat.le_refl _) ⟨?_, out, e', rv, he'⟩, rfl, ?_⟩
    · rw [List.length_map, (List.mergeSort_perm bs _).length_eq, lb]; omega
    · refine q _ _ bs m1 (fun b o e => ?_) (I.hok.fresh (Nat.le_of_lt hlt)) upd_same fun b hb => ?_
      · rw [upd_ne (fun w => by rw [w, I.hok.fresh (Nat.le_of_lt hlt)] at e; cases e)]
        exact grow b o e
      · obtain ⟨kq, hq, e⟩ := tp b hb
        have ne : b.2 ≠ h'.objs.size := fun w => by rw [w] at e; rw [fr] at e; cases e
        exact ⟨I.hok.fresh (Nat.le_of_lt (above b hb)), ne, kq, hq, by rw [upd_ne ne]; exact e⟩
end
end DV
namespace DV
open PySem PySem.Spec PyProof.Rows L2 RZ
open L2.DX (itemsO mt_itemsT rItemsT)
/-- all tuples that stand come to be known -/
def tupG (G H : Hp) : Hp := fun c => match H c with
  | some (.tup xs) => some (.tup xs)
  | _ => G c
theorem tupG_in {G H : Hp} {c : Addr} {xs : List V} (h : H c = some (.tup xs)) : tupG G H c = some (.tup xs) := by unfold tupG; rw [h]
theorem tupG_out {G H : Hp} {c : Addr} (h : ∀ xs, H c ≠ some (.tup xs)) : tupG G H c = G c := by
  unfold tupG
  split
  · rename_i xs e; exact absurd e (h xs)
  · rfl
theorem tupG_cases (G H : Hp) (c : Addr) : (∃ xs, H c = some (.tup xs) ∧ tupG G H c = some (.tup xs)) ∨ ((∀ xs, H c ≠ some (.tup xs)) ∧ tupG G H c = G c) := by
  by_cases h : ∃ xs, H c = some (.tup xs)
  · obtain ⟨xs, h⟩ := h
    exact .inl ⟨xs, h, tupG_in h⟩
  · have h' : ∀ xs, H c ≠ some (.tup xs) := fun xs e => h ⟨xs, e⟩
    exact .inr ⟨h', tupG_out h'⟩
theorem tupG_le {G H : Hp} (s : Sub G H) : Le G (tupG G H) := fun c o z => by
  rcases tupG_cases G H c with ⟨xs, h1, h2⟩ | ⟨_, h2⟩
  · rw [h2]
    cases o with
    | tup ys => rw [← h1]; exact s.tp c ys z
    | frz o' u =>
      have y := s.fz c o' u z
      rw [h1] at y; cases y
    | _ =>
      rcases s.rd c _ (.inl z) with y | ⟨o', y⟩
      · rw [h1] at y; cases y
      · rw [h1] at y; cases y
  · rw [h2]; exact z
theorem tupG_sub {G H : Hp} (s : Sub G H) : Sub (tupG G H) H where
  rd := fun a u r => by
    rcases tupG_cases G H a with ⟨xs, h1, h2⟩ | ⟨_, h2⟩
    · rcases r with r | ⟨o, r⟩
      · rw [h2] at r; cases r; exact .inl h1
      · rw [h2] at r; cases r
    · refine s.rd a u ?_
      rcases r with r | ⟨o, r⟩
      · rw [h2] at r; exact .inl r
      · rw [h2] at r; exact .inr ⟨o, r⟩
  tp := fun a xs r => by
    rcases tupG_cases G H a with ⟨ys, h1, h2⟩ | ⟨_, h2⟩
    · rw [h2] at r; rw [h1]; exact r
    · rw [h2] at r; exact s.tp a xs r
  fz := fun a o u r => by
    rcases tupG_cases G H a with ⟨ys, h1, h2⟩ | ⟨_, h2⟩
    · rw [h2] at r; cases r
    · rw [h2] at r; exact s.fz a o u r
def intKV : List (List Key × D) → Option (List (List Key × Int))
  | [] => some []
  | (k, .int i) :: r => (intKV r).map ((k, i) :: ·)
  | _ => none
theorem intKV_own {G H : Hp} : ∀ {kvs : List (List Key × D)} {vs : List (List Key × V)} {ks : List (List Key × Int)} {Fs : List Addr}, intKV kvs = some ks → vs.map (·.1) = kvs.map (·.1) → OwnL (Own G H 0) (vs.map (·.2)) (kvs.map (·.2)) Fs → vs = ks.map fun e => (e.1, V.int e.2)
  | [], [], _, _, e, _, _ => by cases e; rfl
  | [], _ :: _, _, _, _, e, _ => by cases e
  | _ :: _, [], _, _, _, e, _ => by cases e
  | (k, d) :: kvs, (k', v) :: vs, ks, Fs, e, e1, o => by
    cases d with
    | int i =>
      unfold intKV at e
      cases q : intKV kvs with
      | none => rw [q] at e; cases e
      | some r =>
        rw [q] at e
        cases e
        simp only [List.map_cons, List.cons.injEq] at e1 o
        cases o with
        | cons h t =>
          obtain ⟨rp, _⟩ := h
          cases rp
          rw [intKV_own q e1.2 t, e1.1]
          rfl
    | _ => unfold intKV at e; cases e
namespace S
def sortIt (f : SF) : SF := fun η => (f η).bind fun p η1 => match p with
  | (1, .dT kvs) => match intKV kvs with
    | some ks => if sortOk (ks.map pairT) = true then .ok (1, .lst ((ks.map pairT).mergeSort leDat)) η1 else .bad
    | none => .bad
  | _ => .bad
end S
section
variable {X : Cx} {L : Lents} {W : WX} {o : Expr} {f : SF} {p1 apos cpos pos : Pos}
theorem jf_sortIt (hc : X.calm = true) (hu : X.A.units + 65 < cLine) (hg : Gl X "sorted") (hm : X.mg "sorted" = none) (ho : PE X o (tF X.K L W f)) (hbase : attributeBase o "items" X.env (eval o X.env) = eval o X.env := by rfl) (hline : (apos.endLine == cpos.line) = true := by rfl)
    (he : starEach [.Call (.Attribute o "items" apos) [] [] cpos] X.env = (false, eval (.Call (.Attribute o "items" apos) [] [] cpos) X.env) :: starEach [] X.env := by rfl) :
    PE X (.Call (.Name "sorted" p1) [.Call (.Attribute o "items" apos) [] [] cpos] [] pos) (tF X.K L W (S.sortIt f)) := by
  refine PE.imp (pe_callB (cr_sortIt2 hc hu) hg hm (by decide +kernel) (pa_cons (pe_bm0 PySem.F.plainAttrs_dict PySem.F.slot_dict_items PySem.F.type_dict_items mt_itemsT ho hbase hline) pa_nil he) (by decide) (by decide) he (by rfl)) fun σ H Q ⟨G, η, Fs, R, q⟩ => ?_
  refine ⟨G, η, Fs, R, q.bind.mono fun p η1 G1 H1 Fs1 R1 E1 q1 v F ap sep => ?_⟩
  obtain ⟨k, d⟩ := p
  match k, d, q1, ap with
  | 1, .dT kvs, q1, ap =>
    simp only at q1
    cases e : intKV kvs with
    | none => simp only [e] at q1; exact q1.elim
    | some ks =>
      simp only [e] at q1
      split at q1
      · rename_i hso
        obtain ⟨a, vs, Fl, rfl, ha, hF, hk, ho'⟩ := ap.own
        have hvs := intKV_own e hk ho'
        subst hvs
        refine ⟨.inr (.inr (.inl ⟨rfl, .inr ⟨_, ha⟩⟩)), a, _, rfl, rfl, ha, fun pv hpv => ?_⟩
        refine ⟨pv, a, ks, rfl, upd_same, by rw [upd_ne (ne_of_none ha hpv)]; exact ha, hso, fun H' l bs m1 grow hl hL tp => ?_⟩
        have hl1 : H1 l = none := by
          by_cases w : l = pv
          · rw [w, upd_same] at hl; cases hl
          · rw [upd_ne w] at hl; exact hl
        have grow1 : Le H1 H' := fun b o z => grow b o (by rw [upd_ne (ne_of_none z hpv)]; exact z)
        have s2 : Sub G1 H' := R1.sub.trans grow1.sub
        have tup1 : ∀ b ∈ bs, H1 b.2 = none ∧ ∃ kq, H1 kq = some (.tup (b.1.1.map kV)) ∧ H' b.2 = some (.tup [.ref kq, .int b.1.2]) := fun b hb => by
          obtain ⟨t1, t2, kq, t3, t4⟩ := tp b hb
          refine ⟨?_, kq, ?_, t4⟩
          · by_cases w : b.2 = pv
            · rw [w, upd_same] at t1; cases t1
            · rw [upd_ne w] at t1; exact t1
          · by_cases w : kq = pv
            · rw [w, upd_same] at t3; cases t3
            · rw [upd_ne w] at t3; exact t3
        have N : New G1 H1 (tupG G1 H') H' := ⟨tupG_le s2, grow1, tupG_sub s2, fun c z => by
          rcases tupG_cases G1 H' c with ⟨xs, h1, h2⟩ | ⟨_, h2⟩
          · refine .inr ?_
            cases w : H1 c with
            | none => trivial
            | some o =>
              have := grow1 c o w
              rw [h1] at this
              cases this
              trivial
          · rw [h2] at z; exact .inl z⟩
        have gl : tupG G1 H' l = none := by
          rw [tupG_out fun xs z => by rw [hL] at z; cases z]
          exact R1.sub.free hl1
        have rl : ∀ zs : List ((List Key × Int) × Addr), (∀ b ∈ zs, b ∈ bs) → RepL (tupG G1 H') (zs.map fun b => V.ref b.2) (zs.map fun b => pairT b.1) := by
          intro zs
          induction zs with
          | nil => exact fun _ => .nil
          | cons b zs ih =>
            intro hz
            obtain ⟨_, kq, t3, t4⟩ := tup1 b (hz b List.mem_cons_self)
            exact .cons (.tup (tupG_in t4) (.cons (.tup (tupG_in (grow1 _ _ t3)) (keyVs_rep b.1.1)) (.cons (.int _) .nil))) (ih fun x hx => hz x (List.mem_cons_of_mem _ hx))
        have es : (ks.map pairT).mergeSort leDat = (bs.mergeSort fun x y => leDat (pairT x.1) (pairT y.1)).map fun b => pairT b.1 := by
          rw [List.map_mergeSort (s := leDat) (fun _ _ _ _ => rfl), ← m1, List.map_map]; rfl
        rw [es] at q1
        have ap2 : Apart (tupG G1 H') H' Fs1 1 (.ref l) (.lst ((bs.mergeSort fun x y => leDat (pairT x.1) (pairT y.1)).map fun b => pairT b.1)) [l] := ⟨⟨l, _, [], rfl, hL, rfl, OwnL.of0 (rl _ fun b hb => (List.mergeSort_perm _ _).mem_iff.mp hb)⟩, by simp, fun c hc => by rw [List.mem_singleton.mp hc]; exact gl, fun c hc => by rw [List.mem_singleton.mp hc]; exact R1.noFoot hl1⟩
        exact q1 (tupG G1 H') H' Fs1 (R1.new N) N.ext (.ref l) [l] ap2 fun c hc => .inr (by rw [List.mem_singleton.mp hc]; exact E1.noneOf hl1)
      · exact q1.elim
@[simp] theorem v_sortIt {η : Env} : S.sortIt f η = (f η).bind fun p η1 => (match p with
  | (1, .dT kvs) => (match intKV kvs with
    | some ks => if sortOk (ks.map pairT) = true then Out.ok (1, D.lst ((ks.map pairT).mergeSort leDat)) η1 else .bad
    | none => .bad)
  | _ => .bad : Out (Nat × D)) := rfl
end
end DV

/-! # d.get(k, x) -/
namespace DV
open PySem PySem.Spec PyProof.Rows L2 RZ
def dctQ : D → Option Unit
  | .dK _ => some ()
  | .dT _ => some ()
  | _ => none
/-- d.get(k, x): x is frozen -/
def dget2D (x y z : D) : Option (Nat × D) := (getD' x y).map fun o => (0, o.getD z)
namespace S
def dget2 (oa ob : Opd) (fd : SE) : SF := fun η => (oa.pre η).bind fun p η1 => match (oa.fin p η1).bind dctQ with
  | none => .bad
  | some _ => (ob.pre η1).bind fun q η2 => ((Opd.ex fd).pre η2).bind fun r η3 =>
    lift ((oa.fin p η3).bind fun x => (ob.fin q η3).bind fun y => r.bind fun z => dget2D x y z) η3
end S
section
variable {X : Cx} {L : Lents} {W : WX} {a e f : Expr} {apos cpos : Pos} {oa ob : Opd} {fd : SE}
theorem isD_bor {G H : Hp} {v : V} {d : D} (s : Sub G H) (b : Bor G H v d) {u : Unit} (h : dctQ d = some u) : ∃ a, v = .ref a ∧ IsD H a := by
  cases d <;> first | (cases h; done) | skip
  · obtain ⟨a, vs, rfl, h1, _⟩ := b.dK s; exact ⟨a, rfl, .inl ⟨vs, h1⟩⟩
  · obtain ⟨a, vs, rfl, h1, _⟩ := b.dT s; exact ⟨a, rfl, .inr ⟨vs, h1⟩⟩
theorem jf_dget2 (hu : X.A.units + 1 < cLine) (ha : PE X a (tO X.K L W oa)) (hk : PE X e (tO X.K L W ob)) (hd : PE X f (tE X.K L W fd)) (m : M2 X a "get" apos e f cpos) :
    PE X (.Call (.Attribute a "get" apos) [e, f] [] cpos) (tF X.K L W (S.dget2 oa ob fd)) := by
  refine PE.imp (pe_dget2 hu ha hk hd m) fun σ H Q ⟨G, η, Fs, R, q⟩ => ?_
  refine tO_use R q fun v p η1 G1 H1 Fs1 R1 E1 k1 q1 => ?_
  cases hx : oa.fin p η1 with
  | none => simp only [hx, Option.bind_none] at q1; exact q1.elim
  | some x0 =>
    cases hx2 : dctQ x0 with
    | none => simp only [hx, Option.bind_some, hx2] at q1; exact q1.elim
    | some u0 =>
      simp only [hx, Option.bind_some, hx2] at q1
      obtain ⟨a0, rfl, isd⟩ := isD_bor R1.sub (k1.bor R1 hx) hx2
      refine ⟨a0, rfl, isd, ?_⟩
      refine tO_use R1 q1 fun w p2 η2 G2 H2 Fs2 R2 E2 k2 q2 => ?_
      refine tO_use (o := .ex fd) R2 q2 fun z p3 η3 G3 H3 Fs3 R3 E3 k3 q3 => ?_
      obtain ⟨⟨k, d⟩, e', q4⟩ := q3.lift
      obtain ⟨dz, rfl, rz⟩ := k3
      cases hy : oa.fin p η3 with
      | none => rw [hy] at e'; cases e'
      | some x =>
        cases hz : ob.fin p2 η3 with
        | none => rw [hy, Option.bind_some, hz] at e'; cases e'
        | some y =>
          rw [hy, Option.bind_some, hz, Option.bind_some, Option.bind_some] at e'
          unfold dget2D at e'
          cases hg : getD' x y with
          | none => rw [hg] at e'; cases e'
          | some o =>
            rw [hg] at e'; cases e'
            obtain ⟨a1, ea, g⟩ := dget_rep R3.sub ((k1.mono (E2.trans E3).g.sub).bor R3 hy) ((k2.mono E3.g.sub).bor R3 hz) hg
            cases ea
            have fin : Fin2 G3 H3 0 (o.getD dz) Q := fin_tF (P := fun _ _ _ _ _ => True) R3 fun G' H' Fs' R' E' u F x o => q4 G' H' Fs' R' E' u F x fun a ha => .inr (((E1.trans E2).trans E3).noneOf (o a ha))
            cases o with
            | none => exact ⟨none, g, fin.same R3.sub rz⟩
            | some d => obtain ⟨u, g, r⟩ := g; exact ⟨some u, g, fin.same R3.sub r⟩
@[simp] theorem v_dget2 {η : Env} : S.dget2 oa ob fd η = (oa.pre η).bind fun p η1 => (match (oa.fin p η1).bind dctQ with
  | none => .bad
  | some _ => (ob.pre η1).bind fun q η2 => ((Opd.ex fd).pre η2).bind fun r η3 =>
    lift ((oa.fin p η3).bind fun x => (ob.fin q η3).bind fun y => r.bind fun z => dget2D x y z) η3 : Out (Nat × D)) := rfl
end
end DV

/-! # xs[::-1], xs a list -/
namespace DV
open PySem PySem.Spec PyProof.Rows L2 RZ
def revD : D → Option (Nat × D)
  | .lst ds => some (1, .lst ds.reverse)
  | _ => none
@[simp] theorem revD_lst {ds : List D} : revD (.lst ds) = some (1, .lst ds.reverse) := rfl
theorem repL_app {G : Hp} : ∀ {xs : List V} {ds : List D}, RepL G xs ds → ∀ {ys : List V} {es : List D}, RepL G ys es → RepL G (xs ++ ys) (ds ++ es)
  | _, _, .nil, _, _, h => h
  | _, _, .cons r t, _, _, h => .cons r (repL_app t h)
theorem repL_rev {G : Hp} : ∀ {xs : List V} {ds : List D}, RepL G xs ds → RepL G xs.reverse ds.reverse
  | _, _, .nil => .nil
  | _, _, .cons r t => by rw [List.reverse_cons, List.reverse_cons]; exact repL_app (repL_rev t) (.cons r .nil)
theorem gc_int {mg : Str → Option Value} {x : Str} {i : Int} (h : ∃ t, mg x = some (.int i t)) : ∃ u, mg x = some u ∧ RelV (V.int i) u := by
  obtain ⟨t, e⟩ := h; exact ⟨_, e, ⟨t, rfl⟩⟩
theorem gc_str {mg : Str → Option Value} {x : Str} {i : Str} (h : ∃ t, mg x = some (.str i t)) : ∃ u, mg x = some u ∧ RelV (V.str i) u := by
  obtain ⟨t, e⟩ := h; exact ⟨_, e, ⟨t, rfl⟩⟩
section
variable {X : Cx} {L : Lents} {W : WX} {a : Expr} {k : Nat} {p1 p2 p3 pos : Pos} {oa : Opd}
theorem jf_revL (ha : PE X a (tO X.K L W oa)) : PE X (.Subscript a (.Slice none none (some (.UnaryOp .USub (.Constant (.int 1) k p1) p2)) p3) pos) (tF X.K L W (S.un revD oa)) := by
  refine PE.imp (pe_revL ha) fun σ H Q ⟨G, η, Fs, R, q⟩ => ?_
  refine tO_use R q fun v p η1 G1 H1 Fs1 R1 E1 k1 q1 => ?_
  obtain ⟨⟨k, d⟩, e, q4⟩ := q1.lift
  cases hx : oa.fin p η1 with
  | none => rw [hx] at e; cases e
  | some x =>
    rw [hx, Option.bind_some] at e
    cases x <;> first | (cases e; done) | skip
    rename_i ds
    cases e
    obtain ⟨a, xs, rfl, h1, r1⟩ := (k1.bor R1 hx).lst R1.sub
    have fin : Fin2 G1 H1 1 (.lst ds.reverse) Q := fin_tF (P := fun _ _ _ _ _ => True) R1 fun G' H' Fs' R' E' w F y o => q4 G' H' Fs' R' E' w F y fun a ha => .inr (E1.noneOf (o a ha))
    exact ⟨a, xs, rfl, .inl h1, fun p hp => fin.lstN R1.sub hp (repL_rev r1)⟩
end
end DV

/-! DV37: > <= >= of tuples. -/
namespace DV
open PySem PySem.Spec PyProof.Rows L2
def ordX (f : PyData → PyData → Bool) (a b : D) : Option Bool := if okD 16 a = true ∧ okD 16 b = true ∧ PySem.W.alike (py a) (py b) = true then some (f (py a) (py b)) else none
def gtX : D → D → Option Bool
  | .int i, .int j => some (decide (j < i))
  | .tup xs, .tup ys => ordX (fun x y => PySem.W.dataLt y x) (.tup xs) (.tup ys)
  | _, _ => none
def leX : D → D → Option Bool
  | .int i, .int j => some (decide (i ≤ j))
  | .tup xs, .tup ys => ordX (fun x y => !PySem.W.dataLt y x) (.tup xs) (.tup ys)
  | _, _ => none
def geX : D → D → Option Bool
  | .int i, .int j => some (decide (j ≤ i))
  | .tup xs, .tup ys => ordX (fun x y => !PySem.W.dataLt x y) (.tup xs) (.tup ys)
  | _, _ => none
@[simp] theorem v_gtX {a b : Int} : gtX (.int a) (.int b) = some (decide (b < a)) := rfl
@[simp] theorem v_leX {a b : Int} : leX (.int a) (.int b) = some (decide (a ≤ b)) := rfl
@[simp] theorem v_geX {a b : Int} : geX (.int a) (.int b) = some (decide (b ≤ a)) := rfl
def rOrd (K : PySem.W.Frag) (f : PyData → PyData → Bool) : R2 := fun x y H Q => ∃ d e, Dp K H x d ∧ Dp K H y e ∧ SeqAt.shaped d = true ∧ PySem.W.alike d e = true ∧ d ≠ .none ∧ Q (.bl (f d e)) H
theorem room_min {A : Around} {d e : PyData} (sd : SeqAt.shaped d = true) (hu : A.units + 65 < cLine) : A.units + min d.depth e.depth < cLine := by
  unfold SeqAt.shaped at sd
  have := (Bool.and_eq_true_iff.mp sd).2
  have := of_decide_eq_true this
  have := Nat.min_le_left d.depth e.depth
  omega
section
variable {X : Cx}
theorem op_gtX (hu : X.A.units + 65 < cLine) : OpR X (compareOp .Gt) (fun x y H Q => rI0 (fun i j => .bl (decide (j < i))) x y H Q ∨ rOrd X.K (fun x y => PySem.W.dataLt y x) x y H Q) := by
  refine op_gt.or ?_
  intro pins s σ H x y v u Q I rx ry h
  obtain ⟨d, e, hd, he, sd, al, nn, q⟩ := h
  obtain ⟨as, r1⟩ := Dp.reads I d x v hd rx
  obtain ⟨bs, r2⟩ := Dp.reads I e y u he ry
  exact PySem.W.gt_data r1 r2 al nn (room_min sd hu) ⟨.bl _, H, I, rfl, q⟩
theorem op_leX (hu : X.A.units + 65 < cLine) : OpR X (compareOp .LtE) (fun x y H Q => rI0 (fun i j => .bl (decide (i ≤ j))) x y H Q ∨ rOrd X.K (fun x y => !PySem.W.dataLt y x) x y H Q) := by
  refine op_le.or ?_
  intro pins s σ H x y v u Q I rx ry h
  obtain ⟨d, e, hd, he, sd, al, nn, q⟩ := h
  obtain ⟨as, r1⟩ := Dp.reads I d x v hd rx
  obtain ⟨bs, r2⟩ := Dp.reads I e y u he ry
  exact PySem.W.le_data r1 r2 al nn (room_min sd hu) ⟨.bl _, H, I, rfl, q⟩
theorem op_geX (hu : X.A.units + 65 < cLine) : OpR X (compareOp .GtE) (fun x y H Q => rI0 (fun i j => .bl (decide (j ≤ i))) x y H Q ∨ rOrd X.K (fun x y => !PySem.W.dataLt x y) x y H Q) := by
  refine op_ge.or ?_
  intro pins s σ H x y v u Q I rx ry h
  obtain ⟨d, e, hd, he, sd, al, nn, q⟩ := h
  obtain ⟨as, r1⟩ := Dp.reads I d x v hd rx
  obtain ⟨bs, r2⟩ := Dp.reads I e y u he ry
  exact PySem.W.ge_data r1 r2 al nn (room_min sd hu) ⟨.bl _, H, I, rfl, q⟩
variable {K : PySem.W.Frag}
theorem ordX_rep {H : Hp} {v w : V} {xs ys : List D} {b : Bool} {f : PyData → PyData → Bool} {Q : VK} (rx : Rep H v (.tup xs)) (ry : Rep H w (.tup ys)) (h : ordX f (.tup xs) (.tup ys) = some b) (q : Q (.bl b) H) : rOrd K f v w H Q := by
  unfold ordX at h
  split at h <;> cases h
  rename_i z
  exact ⟨_, _, rx.dp 16 _ _ z.1, ry.dp 16 _ _ z.2.1, shaped_ok z.1, z.2.2, (by unfold py; simp), q⟩
theorem cz_gtX : Cmp2 (fun x y H Q => rI0 (fun i j => .bl (decide (j < i))) x y H Q ∨ rOrd K (fun x y => PySem.W.dataLt y x) x y H Q) gtX := by
  intro H v w dx dy b Q rx ry h q
  cases dx <;> cases dy <;> simp only [gtX] at h <;> try cases h
  · cases rx; cases ry; exact .inl ⟨_, _, rfl, rfl, q⟩
  · exact .inr (ordX_rep rx ry h q)
theorem cz_leX : Cmp2 (fun x y H Q => rI0 (fun i j => .bl (decide (i ≤ j))) x y H Q ∨ rOrd K (fun x y => !PySem.W.dataLt y x) x y H Q) leX := by
  intro H v w dx dy b Q rx ry h q
  cases dx <;> cases dy <;> simp only [leX] at h <;> try cases h
  · cases rx; cases ry; exact .inl ⟨_, _, rfl, rfl, q⟩
  · exact .inr (ordX_rep rx ry h q)
theorem cz_geX : Cmp2 (fun x y H Q => rI0 (fun i j => .bl (decide (j ≤ i))) x y H Q ∨ rOrd K (fun x y => !PySem.W.dataLt x y) x y H Q) geX := by
  intro H v w dx dy b Q rx ry h q
  cases dx <;> cases dy <;> simp only [geX] at h <;> try cases h
  · cases rx; cases ry; exact .inl ⟨_, _, rfl, rfl, q⟩
  · exact .inr (ordX_rep rx ry h q)
end
theorem gt_tupI (a b : List Int) : gtX (tupI a) (tupI b) = some (PySem.W.dataLt (py (tupI b)) (py (tupI a))) := by
  have ok : ∀ (t : List Int), okD 16 (tupI t) = true := fun t => ok_tupI (by decide)
  have al : PySem.W.alike (py (tupI a)) (py (tupI b)) = true := by
    rw [py_tupI, py_tupI]
    exact PySem.W.alike_ints a b
  exact if_pos ⟨ok a, ok b, al⟩
end DV

/-! DV38: the order by which things are sorted. -/
namespace DV
open PySem PySem.Spec PyProof.Rows L2
theorem leDat_trans (a b c : D) : leDat a b = true → leDat b c = true → leDat a c = true :=
  (PySem.W.sortLe_total (PyProof.Rows.listOrd PyProof.Rows.itemOrd) false fun d : D => PySem.W.keyToks (py d)).trans a b c
theorem leDat_total (a b : D) : (leDat a b || leDat b a) = true :=
  Bool.or_eq_true_iff.mpr ((PySem.W.sortLe_total (PyProof.Rows.listOrd PyProof.Rows.itemOrd) false fun d : D => PySem.W.keyToks (py d)).total a b)
theorem leDat_anti {a b : D} (h : leDat a b = true) (h' : leDat b a = true) : PySem.W.keyToks (py a) = PySem.W.keyToks (py b) := by
  have e1 : (PyProof.Rows.listOrd PyProof.Rows.itemOrd).blt (PySem.W.keyToks (py b)) (PySem.W.keyToks (py a)) = false := by
    have : (!(PyProof.Rows.listOrd PyProof.Rows.itemOrd).blt (PySem.W.keyToks (py b)) (PySem.W.keyToks (py a))) = true := h
    simpa using this
  have e2 : (PyProof.Rows.listOrd PyProof.Rows.itemOrd).blt (PySem.W.keyToks (py a)) (PySem.W.keyToks (py b)) = false := by
    have : (!(PyProof.Rows.listOrd PyProof.Rows.itemOrd).blt (PySem.W.keyToks (py a)) (PySem.W.keyToks (py b))) = true := h'
    simpa using this
  exact (PyProof.Rows.listOrd PyProof.Rows.itemOrd).total _ _ e2 e1
/-- things alike but in their order are sorted alike -/
theorem sort_perm {l1 l2 : List D} (inj : ∀ a ∈ l1, ∀ b ∈ l2, PySem.W.keyToks (py a) = PySem.W.keyToks (py b) → a = b) (p : l1.Perm l2) : l1.mergeSort leDat = l2.mergeSort leDat := by
  refine List.Perm.eq_of_pairwise (le := fun a b => leDat a b = true) (fun a b ha hb h h' => ?_) (List.pairwise_mergeSort leDat_trans leDat_total l1) (List.pairwise_mergeSort leDat_trans leDat_total l2) ?_
  · exact inj a ((List.mergeSort_perm _ _).mem_iff.mp ha) b ((List.mergeSort_perm _ _).mem_iff.mp hb) (leDat_anti h h')
  · exact (List.mergeSort_perm _ _).trans (p.trans (List.mergeSort_perm _ _).symm)
end DV

/-! DV39: meanings of defs that the kernel doesn't open. -/
namespace DV
theorem shut_ex (F : FnSem) : ∃ G : FnSem, G = F := ⟨F, rfl⟩
noncomputable def Shut (F : FnSem) : FnSem := Classical.choose (shut_ex F)
theorem shut_eq (F : FnSem) : Shut F = F := Classical.choose_spec (shut_ex F)
end DV

/-! DV40: try: .., except C as e: tests of e by isinstance that end with a text returned. -/
namespace DV
open PySem PySem.Spec PyProof.Rows L2 RZ
def rErr (K : PySem.W.Frag) (a : Addr) (c : Str) : List V → Hp → VK → Prop := fun vs H Q => ∃ b : Bool, errB K c = true ∧
  ((∃ x : Cl, vs = [.ref a, x.v K] ∧ PySem.W.kitOne K (.ref (He.ga K c)) (x.u K) = some b) ∨ ∃ (t : Addr) (xs : List Cl), vs = [.ref a, .ref t] ∧ H t = some (.tup (xs.map (Cl.v K))) ∧ PySem.W.kitAny K (.ref (He.ga K c)) (xs.map (Cl.u K)) = some b) ∧ Q (.bl b) H
theorem call_err {X : Cx} {a : Addr} {c : Str} {oe : Obj} {pn : List (Addr × Obj)} (hz : Zc (.ref (He.ga X.K c)) none oe) (hf : ∃ vs, oe.data = .fields vs) : CallR (X.suite a ((a, oe) :: pn)) (.builtin "isinstance") (rErr X.K a c) := by
  intro pins s σ H vs us Q I r h
  obtain ⟨b, hb, h, q⟩ := h
  have C := errB_ok hb
  obtain ⟨get, _⟩ := I.pin (a, oe) (List.mem_append.mpr (.inl List.mem_cons_self))
  obtain ⟨fs, hv⟩ := hf
  have at_ : PySem.W.InstAt s.heap a oe (He.ga X.K c) none := by
    obtain ⟨oc, od, oda, osl⟩ := oe
    obtain ⟨h1, h2⟩ := hz
    dsimp only at h1 h2 hv
    subst h1 h2 hv
    exact ⟨get, rfl, rfl, trivial⟩
  have Z := PySem.W.handS_kitx_exc (K := X.K) (x := a) (ox := oe) C.hg C.hk C.hs C.hd C.ha C.hn C.ht C.hm
  rcases h with ⟨x, rfl, e⟩ | ⟨t, xs, rfl, ht, e⟩
  · cases r with
    | cons r1 rr =>
      cases rr with
      | cons r2 rr =>
        cases rr
        cases r1
        rw [x.rel r2]
        exact PySem.W.kia_one Z I.kIn at_ e (fun z => nomatch z) fun tk => ⟨.bl b, H, I.kept (t' := tk) fun _ _ z => z, rfl, q⟩
  · cases r with
    | cons r1 rr =>
      cases rr with
      | cons r2 rr =>
        cases rr
        cases r1
        cases r2
        obtain ⟨_, its, rv, o, ho, hc, n, hd⟩ := I.hok t _ ht
        rw [Cl.rels xs rv] at hd
        obtain ⟨tc, td, tda, tsl⟩ := o
        dsimp only at hc hd
        subst hc hd
        exact PySem.W.kia_tup Z I.kIn at_ ho e (fun z => nomatch z) fun tk => ⟨.bl b, H, I.kept (t' := tk) fun _ _ z => z, rfl, q⟩
section
variable {X : Cx} {e e2 : Expr} {rest : List Expr} {st : Stmt} {ss : List Stmt} {j k : Nat} {c m : Str} {g : List (Nat × Bool)} {ks : List Nat} {r r2 b : Bool} {pos p p2 p3 : Pos} {a : Addr} {oe : Obj} {pn : List (Addr × Obj)}
/-- an expression that asks the error at a, which slot j holds -/
def ErX (X : Cx) (a : Addr) (e : Expr) (j : Nat) (g : List (Nat × Bool)) (r : Bool) : Prop := ∃ te, PE X e te ∧ ∀ (σ : L2.St) (H : Hp) (Q : VK), σ[j]? = some (some (.ref a)) → Knows g σ → (∀ H', Le H H' → Q (.bl r) H') → te σ H Q
def ErT (X : Cx) (a : Addr) (e : Expr) (j : Nat) (g : List (Nat × Bool)) (r : Bool) : Prop := ∃ te, PT X e te ∧ ∀ (σ : L2.St) (H : Hp) (Q : Bool → Hp → Prop), σ[j]? = some (some (.ref a)) → Knows g σ → (∀ H', Le H H' → Q r H') → te σ H Q
def ErW (X : Cx) (a : Addr) (e : Expr) (j : Nat) (g : List (Nat × Bool)) (r : Bool) : Prop := ∃ te, PW X e te ∧ ∀ (σ : L2.St) (H : Hp) (Q : Bool → Hp → Prop), σ[j]? = some (some (.ref a)) → Knows g σ → (∀ H', Le H H' → Q r H') → te σ H Q
/-- statements that end with a text returned -/
def ErS (X : Cx) (a : Addr) (ss : List Stmt) (j : Nat) (g : List (Nat × Bool)) (ks : List Nat) (r : Str) : Prop := ∃ T, PSs X ss T ∧ ∀ (D : Ends) (σ : L2.St) (H : Hp), σ[j]? = some (some (.ref a)) → Knows g σ → (∀ k ∈ ks, k < σ.length) →
  (∀ (σ' : L2.St) (H' : Hp), σ'.length = σ.length → (∀ i, i ∉ ks → σ'[i]? = σ[i]?) → Le H H' → D.rt (.str r) H') → T D σ H
/-- the suite's frame -/
abbrev suX (X : Cx) (a : Addr) (oe : Obj) (pn : List (Addr × Obj)) : Cx := X.suite a ((a, oe) :: pn)
theorem ClsE.suite {es : List Expr} {xs : List Cl} (h : ClsE X es xs) : ClsE (suX X a oe pn) es xs := by
  induction h with
  | nil => exact .nil
  | own hm hg hd _ ih => exact .own (X := suX X a oe pn) hm hg hd ih
  | blt hm hg hb hn hd _ ih => exact .blt (X := suX X a oe pn) hm hg hb hn hd ih
variable (hz : Zc (.ref (He.ga X.K c)) none oe) (hf : ∃ vs, oe.data = .fields vs)
include hz hf
theorem er_one {x : Cl} (hj : X.N[j]? = some m) (hv : Vis X.env.scope m) (hd : (m == ("__debug__" : Str)) = false) (hcd : (m == ("__classdict__" : Str)) = false) (hI : Gl X "isinstance") (hm : X.mg "isinstance" = none) (hc : ClsE X [e2] [x]) (hb : errB X.K c = true)
    (ho : PySem.W.kitOne X.K (.ref (He.ga X.K c)) (x.u X.K) = some r) : ErX (suX X a oe pn) a (.Call (.Name "isinstance" p) [.Name m p2, e2] [] pos) j g r := by
  obtain ⟨t, h1, h2⟩ := (hc.suite (a := a) (oe := oe) (pn := pn)).pa
  cases hc <;> exact ⟨_, pe_callB (X := suX X a oe pn) (call_err hz hf) hI hm (by rfl) (pa_cons (pe_var (X := suX X a oe pn) hj hv hd hcd) h1), fun σ H Q hs _ q => ⟨_, hs, h2 σ H _ ⟨r, hb, .inl ⟨_, rfl, ho⟩, q H (Le.refl H)⟩⟩⟩
theorem er_any {es : List Expr} {xs : List Cl} {kt : Nat} (hj : X.N[j]? = some m) (hv : Vis X.env.scope m) (hd : (m == ("__debug__" : Str)) = false) (hcd : (m == ("__classdict__" : Str)) = false) (hI : Gl X "isinstance") (hm : X.mg "isinstance" = none) (hc : ClsE X es xs) (hl : xs.length ≤ sizeLine) (hb : errB X.K c = true)
    (ho : PySem.W.kitAny X.K (.ref (He.ga X.K c)) (xs.map (Cl.u X.K)) = some r) : ErX (suX X a oe pn) a (.Call (.Name "isinstance" p) [.Name m p2, .Tuple es kt p3] [] pos) j g r := by
  obtain ⟨t, h1, h2⟩ := (hc.suite (a := a) (oe := oe) (pn := pn)).pa
  refine ⟨_, pe_callB (X := suX X a oe pn) (call_err hz hf) hI hm (by rfl) (pa_cons (pe_var (X := suX X a oe pn) hj hv hd hcd) (pa_cons (pe_tup h1) pa_nil)), fun σ H Q hs _ q => ⟨_, hs, h2 σ H _ ⟨by rw [List.length_map]; exact hl, fun d hn => ?_⟩⟩⟩
  have up : Le H (upd H d (.tup (xs.map (Cl.v X.K)))) := fun b o e1 => by rw [upd_ne (ne_of_none e1 hn)]; exact e1
  exact ⟨r, hb, .inr ⟨d, xs, rfl, upd_same, ho⟩, q _ up⟩
omit hz hf
theorem er_var (hk : X.N[k]? = some m) (hv : Vis X.env.scope m) (hd : (m == ("__debug__" : Str)) = false) (hcd : (m == ("__classdict__" : Str)) = false) (hg : (k, r) ∈ g) : ErX X a (.Name m p) j g r :=
  ⟨_, pe_var hk hv hd hcd, fun σ H Q _ kn q => ⟨_, kn _ hg, q H (Le.refl H)⟩⟩
theorem er_orF (h : ErX X a e j g false) (h' : ErX X a (.BoolOp .Or (e2 :: rest) pos) j g r) : ErX X a (.BoolOp .Or (e :: e2 :: rest) pos) j g r := by
  obtain ⟨t, h1, h2⟩ := h
  obtain ⟨t', h3, h4⟩ := h'
  exact ⟨_, pe_or h1 h3, fun σ H Q hs kn q => h2 σ H _ hs kn fun H' l => ⟨false, rfl, h4 σ H' Q hs kn fun H'' l2 => q H'' (l.trans l2)⟩⟩
theorem er_last (h : ErX X a e j g r) : ErX X a (.BoolOp .Or [e] pos) j g r := by
  obtain ⟨t, h1, h2⟩ := h
  exact ⟨_, pe_one h1, h2⟩
theorem et_val (h : ErX X a e j g r) (he : ∀ whole, isTrue e X.env whole = (do let v ← whole; standAt e.pos; holding [v] (truthy v)) := by intro _; rfl) : ErT X a e j g r := by
  obtain ⟨t, h1, h2⟩ := h
  exact ⟨_, pt_val h1 he, fun σ H Q hs kn q => h2 σ H _ hs kn fun H' l => ⟨r, rfl, q H' l⟩⟩
theorem et_not (h : ErT X a e j g r) : ErT X a (.UnaryOp .Not e pos) j g (!r) := by
  obtain ⟨t, h1, h2⟩ := h
  exact ⟨_, pt_not h1, fun σ H Q hs kn q => h2 σ H _ hs kn fun H' l => q H' l⟩
theorem ew_last (h : ErT X a e j g r) : ErW X a (.BoolOp .And [e] pos) j g r := by
  obtain ⟨t, h1, h2⟩ := h
  exact ⟨_, pw_and1 h1, h2⟩
theorem ew_and (h : ErT X a e j g true) (h' : ErW X a (.BoolOp .And (e2 :: rest) pos) j g r) : ErW X a (.BoolOp .And (e :: e2 :: rest) pos) j g r := by
  obtain ⟨t, h1, h2⟩ := h
  obtain ⟨t', h3, h4⟩ := h'
  refine ⟨_, pw_and h1 h3, fun σ H Q hs kn q => h2 σ H _ hs kn fun H' l => ?_⟩
  show if true = true then _ else _
  rw [if_pos rfl]
  exact h4 σ H' Q hs kn fun H'' l2 => q H'' (l.trans l2)
theorem et_w (h : ErW X a e j g r) : ErT X a e j g r := by
  obtain ⟨t, h1, h2⟩ := h
  exact ⟨_, h1.pt, h2⟩
theorem es_if {x : Str} {els : List Stmt} {jj : Nat} {U : TS} (h : ErT X a e j g true) (hu : PSs X els U) : ErS X a [.If e [.Return (some (.Constant (.str x) jj p)) p2] els pos] j g ks x := by
  obtain ⟨t, h1, h2⟩ := h
  refine ⟨_, pss_one (ps_if h1 (pss_one (ps_ret pe_str)) hu), fun D σ H hs kn _ q => h2 σ H _ hs kn fun H' l => ?_⟩
  show if true = true then _ else _
  rw [if_pos rfl]
  exact q σ H' rfl (fun _ _ => rfl) l
theorem es_set {x : Str} (h : ErX X a e j g b) (hN : X.N.Nodup) (hi : X.N[k]? = some m) (hx : Loc X.env.scope m) (hf : X.fn m = true ∨ X.env.scope.names.lookup m = some .local) (hkj : k ≠ j) (hks : k ∈ ks)
    (hsw : swapsWith e (some (.Name m p2)) pos.line X.env = pure false) (hr : ErS X a ss j ((k, b) :: g.filter fun q => q.1 != k) ks x) : ErS X a (.Assign [.Name m p2] e pos :: ss) j g ks x := by
  obtain ⟨t, h1, h2⟩ := h
  obtain ⟨T, h3, h4⟩ := hr
  refine ⟨_, pss_cons (ps_set hN hi hx h1 hsw hf) h3, fun D σ H hs kn len q => h2 σ H _ hs kn fun H' l => ?_⟩
  refine h4 D (σ.set k (some (.bl b))) H' (by rw [List.getElem?_set_ne hkj]; exact hs) (fun p hp => ?_) (fun i hi => by rw [List.length_set]; exact len i hi) fun σ' H'' e1 e2 l2 => ?_
  · rcases List.mem_cons.mp hp with w | w
    · subst w
      exact List.getElem?_set_self (len k hks)
    · obtain ⟨w1, w2⟩ := List.mem_filter.mp w
      rw [List.getElem?_set_ne (Ne.symm (by simpa using w2))]; exact kn p w1
  · refine q σ' H'' (by rw [e1, List.length_set]) (fun i hi => ?_) (l.trans l2)
    rw [e2 i hi, List.getElem?_set_ne fun w => hi (by rw [← w]; exact hks)]
end
/-! ### the statement -/
namespace S
/-- try: b, except cl as ..: what returns the text r where b raises c; ks: the slots that hold other than plain things after -/
def refe (tb : List (Str × Str × Bool)) (b : SS) (cl c : Str) (ks : List Nat) (r : Str) : SS := fun η => match b η with
  | .exc c' η' => if c' = c ∧ sub tb c cl = some true ∧ ks.all (fun k => stores k η') = true then .ok (.rt 0 (.str r)) (wipes ks η') else .bad
  | o => o
end S
section
variable {X : Cx} {L : Lents} {W : WX}
def tsErr (K : PySem.W.Frag) (c : Str) (i : Nat) (ks : List Nat) (r : Str) : Addr → Value → Option Addr → TS := fun a cls d D σ H => cls = .ref (He.ga K c) ∧ d = none ∧ σ[i]? = some (some (.ref a)) ∧ (∀ k ∈ ks, k < σ.length) ∧
  ∀ (σ' : L2.St) (H' : Hp), σ'.length = σ.length → (∀ i, i ∉ ks → σ'[i]? = σ[i]?) → Le H H' → D.rt (.str r) H'
theorem js_refe {body su : List Stmt} {s0 : Stmt} {x n c : Str} {i : Nat} {ks : List Nat} {r : Str} {tb : List (Str × Str × Bool)} {b : SS} {np pos pos' : Pos} (st : X.stack = X.env :: X.outer) (fr : X.env.frame = some X.env.locals) (nd : X.N.Nodup) (hi : X.N[i]? = some n)
    (loc : X.env.kindOf n = some .local) (hm : X.mg x = some (.ref (He.ga X.K x))) (hg : Gl X x) (hdb : (x == ("__debug__" : Str)) = false) (tk : Takes X W) (hT : SubOk X.K tb) (hik : i ∈ ks)
    (hb : ∀ (W' : WX) (pn : List (Addr × Obj)) (xe : Value → Shared → Prop), Takes (X.tr pn xe) W' → PSs (X.tr pn xe) body (tS X.K L W' b))
    (hr : ∀ (a : Addr) (oe : Obj) (pn : List (Addr × Obj)), Zc (.ref (He.ga X.K c)) none oe → (∃ vs, oe.data = .fields vs) → ErS (suX X a oe pn) a (s0 :: su) i [] ks r) :
    PS X (.Try body [.ExceptHandler (some (.Name x np)) (some n) (s0 :: su) pos'] [] [] pos) (tS X.K L W (S.refe tb b x c ks r)) := by
  refine PS.imp (ps_try_as (ts := tsErr X.K c i ks r) (c := .ref (He.ga X.K x)) (tb := fun W' => tS X.K L W' b) st fr nd hi loc ⟨hg, hdb, .inl hm⟩ tk (fun W' pn xe tk' _ => hb W' pn xe tk') fun a oe cls d pn hz hf => ⟨fun pins s σ H D I h => ?_⟩) fun D σ H ⟨G, η, Fs, R, q⟩ => ⟨G, η, Fs, R, ?_⟩
  · obtain ⟨rfl, rfl, h1, h2, h3⟩ := h
    obtain ⟨T, h4, h5⟩ := hr a oe pn hz hf
    exact h4.run pins s σ H D I (h5 D σ H h1 (fun p hp => by cases hp) h2 h3)
  · unfold S.refe at q
    cases e : b η with
    | bad => rw [e] at q; exact q.elim
    | ok fl η' =>
      rw [e] at q
      cases fl <;> exact q
    | exc c' η' =>
      rw [e] at q
      dsimp only at q
      split at q
      · rename_i cond
        obtain ⟨rfl, hsub, hst⟩ := cond
        intro σ' G' H' Fs' R' E'
        refine ⟨true, hT _ (S.sub_mem hsub), fun _ a na => ?_, fun w => by cases w⟩
        have st' : ∀ k ∈ ks, S.stores k η' = true := fun k hk => List.all_eq_true.mp hst k hk
        have hil : i < σ'.length := by rw [← R'.len]; exact stores_len (st' i hik)
        refine ⟨rfl, rfl, List.getElem?_set_self hil, fun k hk => ?_, fun σ2 H2 e1 e2 l => ?_⟩
        · rw [List.length_set, ← R'.len]; exact stores_len (st' k hk)
        · obtain ⟨F2, R2, f2⟩ := R'.wipes st'
          have R3 := R2.reH (R2.sub.trans l.sub) fun d hd => by
            obtain ⟨k, mm⟩ := hd
            obtain ⟨u, z, _⟩ := R2.mem mm
            rw [z]; exact l _ _ z
          have R4 := R3.sigma (σ' := σ2) (by rw [e1, List.length_set]) fun k hk => by
            have nk : k ∉ ks := fun w => hk (wipes_at w (stores_len (st' k w)))
            rw [e2 k nk, List.getElem?_set_ne fun w => nk (by rw [← w]; exact hik)]
          have E2 : Ext G' H' Fs' G' H2 F2 := ⟨Le.refl _, fun d o z _ => l d o z, fun d z => .inl z, fun d z => .inl (f2 d z), fun d z w => by
            cases z2 : H' d with
            | none => exact z z2
            | some o => rw [l d o z2] at w; cases w⟩
          exact q σ2 G' H2 F2 (.str r) [] R4 (E'.trans E2) (Apart.zero (.str r)) fun d hd => by cases hd
      · exact q.elim
@[simp] theorem v_refe {tb : List (Str × Str × Bool)} {b : SS} {cl c : Str} {ks : List Nat} {r : Str} {η : Env} : S.refe tb b cl c ks r η = match b η with
  | .exc c' η' => if c' = c ∧ S.sub tb c cl = some true ∧ ks.all (fun k => S.stores k η') = true then .ok (.rt 0 (.str r)) (S.wipes ks η') else .bad
  | o => o := rfl
end
end DV

/-! DV41: bit_length, isinstance of one of two classes. -/
namespace DV
open PySem PySem.Spec PyProof.Rows L2 RZ
namespace S
def bits (f : SE) : SE := fun η => (f η).bind fun d η1 => match d with
  | .int i => .ok (.int (Builtin.Int.intBits i : Nat)) η1
  | _ => .bad
def isi2 (T U : String) (o : Opd) : SE := fun η => (o.pre η).bind fun p η1 => lift ((o.deep p η1).bind fun d => (isiD T d).bind fun a => (isiD U d).map fun b => D.bl (a || b)) η1
end S
section
variable {X : Cx} {L : Lents} {W : WX} {e a b c tg it : Expr} {es : List Expr} {pos : Pos} {ss : List Stmt}
theorem je_bits {f : SE} {apos pos : Pos} (h : PE X a (tE X.K L W f)) (hbase : attributeBase a "bit_length" X.env (eval a X.env) = eval a X.env := by rfl) (hline : (apos.endLine == pos.line) = true := by rfl) :
    PE X (.Call (.Attribute a "bit_length" apos) [] [] pos) (tE X.K L W (S.bits f)) := by
  refine PE.imp (pe_bits h hbase hline) fun σ H Q ⟨G, η, Fs, R, q⟩ => ⟨G, η, Fs, R, q.bind.mono fun d η1 G1 H1 Fs1 R1 E1 q1 v rv => ?_⟩
  cases d <;> try exact (show False from q1).elim
  rename_i i
  cases rv
  exact ⟨i, rfl, q1 G1 H1 Fs1 R1 Ext.refl _ (.int _)⟩
theorem je_isi2 {o : Opd} {T U : String} {N M : Str} {p p3 pT pU : Pos} {kt : Nat} (ha : PE X a (tO X.K L W o)) (hg : Gl X "isinstance") (hm : X.mg "isinstance" = none) (hgT : Gl X N) (hmT : X.mg N = none) (hvT : bootBuiltins N = some (.type T)) (hgU : Gl X M) (hmU : X.mg M = none) (hvU : bootBuiltins M = some (.type U))
    (hnT : N ≠ "__name__" := by decide) (hdT : (N == ("__debug__" : Str)) = false := by decide) (hnU : M ≠ "__name__" := by decide) (hdU : (M == ("__debug__" : Str)) = false := by decide)
    (he : starEach (a :: [.Tuple [.Name N pT, .Name M pU] kt p3]) X.env = (false, eval a X.env) :: starEach [.Tuple [.Name N pT, .Name M pU] kt p3] X.env := by rfl) :
    PE X (.Call (.Name "isinstance" p) [a, .Tuple [.Name N pT, .Name M pU] kt p3] [] pos) (tE X.K L W (S.isi2 T U o)) := by
  refine PE.imp (pe_callB (call_isiT (X := X)) hg hm (by decide +kernel) (pa_cons ha (pa_cons (pe_tup (pa_cons (pe_bltn (v := .ty T) hgT hmT hvT rfl hnT hdT) (pa_cons (pe_bltn (v := .ty U) hgU hmU hvU rfl hnU hdU) pa_nil))) pa_nil) he) (by decide) (by decide) he) fun σ H Q ⟨G, η, Fs, R, q⟩ => ?_
  refine tO_use R q fun v p η1 G1 H1 Fs1 R1 E1 k1 q1 => ?_
  obtain ⟨d, e, q3⟩ := q1.lift
  cases hx : o.deep p η1 with
  | none => rw [hx] at e; cases e
  | some x =>
    rw [hx] at e
    have e : ((isiD T x).bind fun a => (isiD U x).map fun b => D.bl (a || b)) = some d := e
    cases hb : isiD T x with
    | none => rw [hb] at e; cases e
    | some b1 =>
      cases hc : isiD U x with
      | none => rw [hb, hc] at e; cases e
      | some b2 =>
        rw [hb, hc] at e; cases e
        have rp := k1.rep R1 hx
        obtain ⟨t1, t2⟩ := rp.ty (K := X.K) hb
        obtain ⟨_, t3⟩ := rp.ty (K := X.K) hc
        refine ⟨(small_ok (by decide) : (2 : Nat) ≤ sizeLine), fun a ha => ?_⟩
        have up : Le H1 (upd H1 a (.tup [.ty T, .ty U])) := upd_le ha
        obtain ⟨t4, _⟩ := (rp.mono up.sub).ty (K := X.K) hb
        refine ⟨v, a, [.ty T, .ty U], _, [.type T, .type U], (b1 || b2), rfl, upd_same, .cons (.ty T) (.cons (.ty U) .nil), t4, kitAny_cons (kit_ty t2) (fun hh => kitAny_cons (kit_ty t3) (fun hh2 => ?_) fun hh2 => ?_) (fun hh => ?_), ?_⟩
        · rw [hh, hh2]; exact kitAny_nil
        · rw [hh, hh2]; rfl
        · rw [hh]; rfl
        · exact q3 _ _ _ (R1.reH (R1.sub.trans up.sub) fun d hd => by
            obtain ⟨k, mm⟩ := hd
            obtain ⟨u, z, _⟩ := R1.mem mm
            rw [z]; exact up _ _ z) ⟨Le.refl _, fun d o z _ => up d o z, fun d z => .inl z, fun d z => .inl z, fun d z w => by
            cases z2 : H1 d with
            | none => exact z z2
            | some o => rw [up d o z2] at w; cases w⟩ _ (.bl _)
@[simp] theorem v_bits {f : SE} {η : Env} : S.bits f η = (f η).bind fun d η1 => (match d with
  | .int i => .ok (.int (Builtin.Int.intBits i : Nat)) η1
  | _ => .bad : Out D) := rfl
@[simp] theorem v_isi2 {T U : String} {o : Opd} {η : Env} : S.isi2 T U o η = (o.pre η).bind fun p η1 => lift ((o.deep p η1).bind fun d => (isiD T d).bind fun a => (isiD U d).map fun b => D.bl (a || b)) η1 := rfl
end
end DV

/-! DV42: str() of anything plain. -/
namespace DV
open PySem PySem.Spec PyProof.Rows L2 RZ
def strX : List D → Option D
  | [.non] => some (.str "None")
  | [.bl b] => some (.str (if b = true then "True" else "False"))
  | [.int i] => if i.natAbs.log2 < 1920 then some (.str (toString i)) else none
  | [.str x] => some (.str x)
  | [.dK []] => some (.str (PyData.dict []).shown)
  | ds => strD ds
def rStrX (K : PySem.W.Frag) : List V → Hp → VK → Prop := fun vs H Q => rStrD K vs H Q ∨ (vs = [.non] ∧ Q (.str "None") H) ∨ (∃ b, vs = [.bl b] ∧ Q (.str (if b = true then "True" else "False")) H) ∨ (∃ i, vs = [.int i] ∧ i.natAbs.log2 < 1920 ∧ Q (.str (toString i)) H) ∨
  (∃ x, vs = [.str x] ∧ Q (.str x) H) ∨ ∃ a, vs = [.ref a] ∧ Rd H a (.dK []) ∧ Q (.str (PyData.dict []).shown) H
theorem cr_strX {X : Cx} (hg : X.A.guards = some []) (hu : X.A.units + 65 < cLine) : CallR X (.type "str") (rStrX X.K) := by
  intro pins s σ H vs us Q I r h
  rcases h with h | ⟨rfl, q⟩ | ⟨b, rfl, q⟩ | h | h | ⟨a, rfl, ha, q⟩
  · exact cr_str hg hu pins s σ H vs us Q I r h
  · obtain ⟨u, rfl, r1⟩ := vals1 r
    cases r1
    exact PySem.P.str_of_none ⟨.str _, H, I.tok _, ⟨_, rfl⟩, q⟩
  · obtain ⟨u, rfl, r1⟩ := vals1 r
    cases r1
    refine PySem.P.str_of_bool ⟨.str _, H, I.tok _, ?_, q⟩
    cases b <;> exact ⟨_, rfl⟩
  · obtain ⟨i, rfl, h1, q⟩ := h
    exact call_str_int pins s σ H _ us Q I r ⟨i, rfl, h1, q⟩
  · obtain ⟨x, rfl, q⟩ := h
    exact SkE.call_str_str pins s σ H _ us Q I r ⟨x, rfl, q⟩
  · obtain ⟨z1, z2, vs, kv, o, es, ep, e1, ex, e2, _, e3, _⟩ := dk_rd I.hok ha
    cases kv
    rw [Vals.ref1 r]
    have hes : es.toList = [] := List.eq_nil_of_length_eq_zero e3.length
    have ra : Reads s.heap (.ref a) (.dict []) (a :: [] ++ []) := .dict e1 ex.1 e2 (by rw [hes]; exact .nil) (by rw [hes]; exact .nil)
    exact str_of_reads ra (by decide) (fun _ m => by
      have : sysModules = a := by simpa using m
      rw [← this] at z2
      simp at z2) hg (by show X.A.units + ((PyData.dict []).depth + 3) < cLine; have : (PyData.dict []).depth ≤ 16 := by decide
                         omega) (fun _ _ e => e) (fun h' u tk hk => ⟨.str (PyData.dict []).shown, H, I.kept (t' := tk) hk, ⟨u, rfl⟩, q⟩) (by rw [sizeLine_eq]; decide)
theorem cd_strX {K : PySem.W.Frag} : CallD (rStrX K) strX := by
  intro H vs ds d Q rl e fin
  unfold strX at e
  split at e
  · cases e
    cases rl with
    | cons r1 r2 =>
      cases r2
      cases r1
      exact .inr (.inl ⟨rfl, fin _ fun G => .str _⟩)
  · cases e
    cases rl with
    | cons r1 r2 =>
      cases r2
      cases r1
      exact .inr (.inr (.inl ⟨_, rfl, fin _ fun G => .str _⟩))
  · split at e <;> cases e
    rename_i c
    cases rl with
    | cons r1 r2 =>
      cases r2
      cases r1
      exact .inr (.inr (.inr (.inl ⟨_, rfl, c, fin _ fun G => .str _⟩)))
  · cases e
    cases rl with
    | cons r1 r2 =>
      cases r2
      cases r1
      exact .inr (.inr (.inr (.inr (.inl ⟨_, rfl, fin _ fun G => .str _⟩))))
  · cases e
    cases rl with
    | cons r1 r2 =>
      cases r2
      cases r1 with
      | dK h1 h2 h3 =>
        rename_i vs0
        have : vs0 = [] := by simpa using h2
        subst this
        exact .inr (.inr (.inr (.inr (.inr ⟨_, rfl, h1, fin _ fun G => .str _⟩))))
  · exact .inl (cd_str H vs ds d Q rl e fin)
@[simp] theorem v_strN : strX [.non] = some (.str "None") := rfl
@[simp] theorem v_strS {x : Str} : strX [.str x] = some (.str x) := rfl
theorem strX_tup {ds : List D} : strX [.tup ds] = strD [.tup ds] := rfl
theorem strX_lst {ds : List D} : strX [.lst ds] = strD [.lst ds] := rfl
end DV

/-! DV43: extend by a tuple. -/
namespace DV
open PySem PySem.Spec PyProof.Rows L2 RZ
open PySem.AutoSeq1 (wpAny_loadPart')
open PySem.MeetsSeq PySem.MeetsSeq2 PySem.MeetsSeq3
open PySem.F
theorem list_extend_tup (l : Addr) (items : Array Value) (n : Nat) (b : Addr) (items2 : Array Value) (n2 : Nat) (dd : Option Addr) (sl : Array (Option Value)) (hs0 : ¬(!items.isEmpty && Builtin.List.listTooLong (items.size + items2.size)) = true) (hs1 : items.size ≤ sizeLine) (hs2 : items.size + items2.size ≤ sizeLine + 1) :
    Meets (Builtin.«list.extend» ⟨[.ref l, .ref b], []⟩) (fun _ R s => s.heap.get? l = some { cls := .type "list", dict := none, data := .seq items n, slots := #[] } ∧ s.heap.get? b = some { cls := .type "tuple", dict := dd, data := .seq items2 n2, slots := sl } ∧ R (.ok (.ret Value.none)) { s with heap := s.heap.update l (Obj.mapSeq fun x => x ++ items2), toks := s.toks }) :=
  .of_wp fun prog w A R s h => by
    obtain ⟨hp, g, d, tk, os⟩ := s; obtain ⟨hl, hb, h⟩ := h; have f1 := AutoSeq1.idx_int; have f2 := AutoSeq1.sub_tuple_tuple; have f3 := AutoSeq1.sub_list_list; have f4 := AutoSeq1.sub_tuple_list; have f5 := AutoSeq1.sub_list_tuple;
    have hz' : (items ++ items2).size ≤ sizeLine + 1 := by rw [Array.size_append]; exact hs2
    wp_walk using (wpAny_updateSeq hl rfl (hz := hs1) (_hz' := hz')), wpAny_loadPart' hl, wpAny_loadPart' hb; exact ⟨_, rfl, h⟩
def extendX : List D → List D → Option (D × List D)
  | ds, [.tup es] => if ds.length + es.length ≤ sizeLine then some (.non, ds ++ es) else none
  | ds, as => extendD ds as
def rExtT : V → List V → Hp → VK → Prop := fun x vs H Q => ∃ l b xs zs, x = .ref l ∧ vs = [.ref b] ∧ H l = some (.lst xs) ∧ H b = some (.tup zs) ∧ xs.length + zs.length ≤ sizeLine ∧ Q .non (upd H l (.lst (xs ++ zs)))
theorem mt_extT {X : Cx} : MtR X "list.extend" rExtT := by
  intro pins s σ H x vs v us Q I rx rv h
  obtain ⟨l, b, xs, zs, rfl, rfl, hH, hB, hz, q⟩ := h
  cases rx
  obtain ⟨u, rfl, ru⟩ := rv.one
  cases ru
  obtain ⟨z, its, n, r, hl, e⟩ := I.lstM hH
  obtain ⟨its2, r2, ⟨⟨oc, od, oda, osl⟩, e2, hc, n2, hd⟩, hl2⟩ := I.tuple (.of hB)
  dsimp only at hc hd
  subst hc hd
  have l2 := r2.length
  have hsz : its.toArray.size + its2.toArray.size ≤ sizeLine := by rw [List.size_toArray, List.size_toArray]; omega
  have hlong : ¬ (!its.toArray.isEmpty && Builtin.List.listTooLong (its.toArray.size + its2.toArray.size)) = true := by
    rw [notLongL hsz, Bool.and_false]
    exact Bool.false_ne_true
  refine call_meets F.slot_list_extend ⟨_, e, rfl⟩ F.entry_list_extend (F.args_list_extend_2 _ _)
    (list_extend_tup l its.toArray n b its2.toArray n2 od osl hlong (by rw [List.size_toArray]; omega) (by omega)) ⟨e, e2, ?_⟩
  refine ⟨.non, _, I.lset (its' := its ++ its2) hH e (by simp) (r.append r2) ?_, rfl, q⟩
  rw [List.length_append]
  omega
theorem mt_extendX {X : Cx} : MtR X "list.extend" (fun x xs H Q => rExtT x xs H Q ∨ rExtend2 x xs H Q) := mt_extT.or mt_extend2
theorem md_extendX : MethD (fun x xs H Q => rExtT x xs H Q ∨ rExtend2 x xs H Q) extendX := by
  intro G H a vs ds ws as d ds' Q hH r s rw' h q
  unfold extendX at h
  split at h
  · split at h <;> cases h
    rename_i es hz
    cases rw' with
    | cons r1 r2 =>
      cases r2
      cases r1 with
      | tup h1 h2 => exact .inl ⟨a, _, vs, _, rfl, rfl, hH, s.tp _ _ h1, by rw [r.length, h2.length]; exact hz, q .non _ .non (r.append h2)⟩
  · exact .inr (md_extend G H a vs ds ws as d ds' Q hH r s rw' h q)
end DV

/-! DV44: list.count, list.index. -/
namespace DV
open PySem PySem.Spec PyProof.Rows L2 RZ
def rCntD (K : PySem.W.Frag) : V → List V → Hp → VK → Prop := fun x xs H Q => ∃ (a : Addr) (y : V) (d : PyData) (ds : List PyData), x = V.ref a ∧ xs = [y] ∧ Dp K H (V.ref a) (.list ds) ∧ Dp K H y d ∧
  SeqAt.shaped (.list ds) = true ∧ SeqAt.shaped d = true ∧ Q (.int ((ds.countP fun z => PyData.eqv z d : Nat) : Int)) H
theorem mt_cntD {X : Cx} (hu : X.A.units + 65 < cLine) : MtR X "list.count" (rCntD X.K) := by
  intro pins s σ H x xs v us Q I rx rxs h
  obtain ⟨a, y, d, ds, rfl, rfl, hl, hy, sl, sd, q⟩ := h
  cases rx
  cases rxs with
  | cons ry rt =>
    rename_i uy ut
    cases rt
    obtain ⟨bs, r1⟩ := Dp.reads I d y uy hy ry
    have hxs : PyData.canLayAll0 ds = true := SeqAt.canLay_of_shaped sl
    have hroom : X.A.units + 1 + min (PyData.depthAll ds) d.depth < cLine := room_in_shaped sd hu
    cases hl with
    | lst hs ha =>
      obtain ⟨its, rv, ⟨⟨cls, dd, data, sls⟩, n, ho, hc, hdn, hdt⟩, hlen⟩ := I.list hs
      simp only at hc hdt
      subst hc hdt
      obtain ⟨as, h4⟩ := Dp.readsAll I ds _ its ha rv
      have hmap : its.map (SeqAt.readOf s.heap) = ds := SeqAt.readsAll_map ds its as hxs h4
      refine call_meets PySem.F.slot_list_count ⟨_, ho, rfl⟩ PySem.F.entry_list_count (PySem.F.args_list_count_2 _ _)
        (SeqAt.list_countAt a its.toArray n dd sls uy (fun u => PyData.eqv (SeqAt.readOf s.heap u) d)) ⟨ho, SeqAt.items_eqAt (vs := its.toArray) (show ReadsAll s.heap its.toArray.toList ds as from h4) r1 hxs (SeqAt.canLay_of_shaped sd) hroom, ?_⟩
      refine ⟨.int _, H, I.tok _, ⟨_, rfl⟩, ?_⟩
      have e : its.toArray.toList.countP (fun u => PyData.eqv (SeqAt.readOf s.heap u) d) = ds.countP fun z => PyData.eqv z d := by
        rw [← hmap, List.countP_map]; rfl
      rw [e]; exact q
def cntD : D → D → Option D
  | .lst ds, x => if okD 16 x = true ∧ okD 16 (.lst ds) = true then some (.int ((ds.countP fun z => eqv z x : Nat) : Int)) else none
  | _, _ => none
def idxD : D → D → Option D
  | .lst ds, x => if okD 16 x = true ∧ okD 16 (.lst ds) = true then (ds.findIdx? fun z => eqv z x).map fun j => .int (j : Nat) else none
  | _, _ => none
def RMd (r : V → List V → Hp → VK → Prop) (g : D → D → Option D) : Prop := ∀ (H : Hp) (v w : V) (dx dy d : D) (Q : VK), Rep H v dx → Rep H w dy → g dx dy = some d → (∀ i, d = .int i → Q (.int i) H) → r v [w] H Q
theorem pyL_cnt : ∀ {ds : List D} {x : D}, (pyL ds).countP (fun z => PyData.eqv z (py x)) = ds.countP fun z => eqv z x
  | [], _ => rfl
  | d :: ds, x => by
    have ih := pyL_cnt (ds := ds) (x := x)
    simp only [pyL, List.countP_cons] at ih ⊢
    rw [ih]; rfl
theorem pyL_get : ∀ {ds : List D} {j : Nat}, (pyL ds)[j]? = ds[j]?.map py
  | [], _ => by simp [pyL]
  | d :: ds, 0 => by simp [pyL]
  | d :: ds, j + 1 => by simp [pyL, pyL_get (ds := ds) (j := j)]
theorem rm_cnt {K : PySem.W.Frag} : RMd (rCntD K) cntD := by
  intro H v w dx dy d Q rx ry h q
  unfold cntD at h
  split at h <;> try cases h
  split at h <;> cases h
  rename_i ho
  rename_i ds
  have d1 := rx.dp (K := K) 16 _ _ ho.2
  cases rx with
  | lst h1 h2 =>
    refine ⟨_, w, py dy, pyL ds, rfl, rfl, d1, ry.dp 16 _ _ ho.1, shaped_ok ho.2, shaped_ok ho.1, ?_⟩
    rw [pyL_cnt]; exact q _ rfl
theorem rm_idx {K : PySem.W.Frag} : RMd (rIndexD K) idxD := by
  intro H v w dx dy d Q rx ry h q
  unfold idxD at h
  split at h <;> try cases h
  split at h <;> try cases h
  rename_i ho
  rename_i ds
  have d1 := rx.dp (K := K) 16 _ _ ho.2
  cases hj : ds.findIdx? (fun z => eqv z dy) with
  | none => rw [hj] at h; cases h
  | some j =>
    rw [hj] at h
    cases h
    obtain ⟨hlt, hx, hno⟩ := List.findIdx?_eq_some_iff_getElem.mp hj
    cases rx with
    | lst h1 h2 =>
      refine ⟨_, w, py dy, pyL ds, j, py ds[j], rfl, rfl, d1, ry.dp 16 _ _ ho.1, shaped_ok ho.2, shaped_ok ho.1, ?_, hx, ?_, q _ rfl⟩
      · rw [pyL_get, List.getElem?_eq_getElem hlt]; rfl
      · intro m z' hm hz
        rw [pyL_get, List.getElem?_eq_getElem (by omega)] at hz
        cases hz
        have := hno m hm
        have this : eqv ds[m] dy = false := by simpa using this
        exact this
namespace S
def rm (g : D → D → Option D) (oa ob : Opd) : SE := fun η => (oa.pre η).bind fun p η1 => match oa.deep p η1 with
  | some (.lst _) => (ob.pre η1).bind fun q η2 => lift (((oa.deep p η2).bind fun x => (ob.deep q η2).bind fun y => g x y).bind fun d => match d with
    | .int i => some (.int i)
    | _ => none) η2
  | _ => .bad
end S
section
variable {X : Cx} {L : Lents} {W : WX} {a b o e : Expr} {pos apos cpos : Pos} {id : String} {name : Str} {r : V → List V → Hp → VK → Prop} {g : D → D → Option D}
theorem je_rm {oa ob : Opd} (hd : RMd r g) (slot : PySem.Slot "list" name id) (hty : typeOf (.builtin id) = pure (.type "method_descriptor")) (hm : MtR X id r) (ho : PE X o (tO X.K L W oa)) (he : PE X e (tO X.K L W ob))
    (hbase : attributeBase o name X.env (eval o X.env) = eval o X.env := by rfl)
    (hfew : ((backTo cpos (starEach [e] X.env)).all (fun x => !x.1) && (backToKw cpos (keywordEach [] X.env)).all (fun x => x.1.isSome)
      && decide ([e].length + ([] : List Keyword).length + (if ([] : List Keyword).isEmpty then 0 else 1) < 30)) = true := by rfl)
    (hline : (apos.endLine == cpos.line) = true := by rfl) (hs : starEach [e] X.env = (false, eval e X.env) :: starEach [] X.env := by rfl) (hplain : (backTo cpos (starEach [] X.env)).any (·.1) = false := by rfl) :
    PE X (.Call (.Attribute o name apos) [e] [] cpos) (tE X.K L W (S.rm g oa ob)) := by
  refine PE.imp (pe_bm PySem.F.plainAttrs_list slot hty hm ho (pa_cons he pa_nil hs) hbase hfew hline hs hplain) fun σ H Q ⟨G, η, Fs, R, q⟩ => ?_
  refine tO_use R q fun v p η1 G1 H1 Fs1 R1 E1 k1 q1 => ?_
  split at q1
  · rename_i ds hx
    have ty := k1.rep R1 hx
    cases ty with
    | lst t1 t2 =>
      refine ⟨.inl ⟨rfl, _, .inl t1⟩, ?_⟩
      refine tO_use R1 q1 fun w p2 η2 G2 H2 Fs2 R2 E2 k2 q2 => ?_
      obtain ⟨d, e', q4⟩ := q2.lift
      cases hy : oa.deep p η2 with
      | none => rw [hy] at e'; cases e'
      | some x =>
        cases hz : ob.deep p2 η2 with
        | none => rw [hy, Option.bind_some, hz] at e'; cases e'
        | some y =>
          rw [hy, Option.bind_some, hz, Option.bind_some] at e'
          cases hg : g x y with
          | none => rw [hg] at e'; cases e'
          | some z =>
            rw [hg] at e'
            refine hd H2 _ _ x y z Q ((k1.mono E2.g.sub).rep R2 hy) (k2.rep R2 hz) hg fun i hi => ?_
            subst hi
            cases e'
            exact q4 _ _ _ R2 Ext.refl _ (.int _)
  · exact q1.elim
@[simp] theorem v_rm {oa ob : Opd} {η : Env} : S.rm g oa ob η = (oa.pre η).bind fun p η1 => (match oa.deep p η1 with
  | some (.lst _) => (ob.pre η1).bind fun q η2 => lift (((oa.deep p η2).bind fun x => (ob.deep q η2).bind fun y => g x y).bind fun d => (match d with
    | .int i => some (.int i)
    | _ => none)) η2
  | _ => .bad : Out D) := rfl
end
end DV

/-! DV45: o[i] as one of several targets. -/
namespace DV
open PySem PySem.Spec PyProof.Rows L2 RZ
namespace S
def gset (j : Nat) (g : SE) : SG := fun d η => match η[j]? with
  | some (.val _ _ _) => (g η).bind fun y η2 => match η2[j]? with
    | some (.val 1 l c) => (match stD c y d with
      | some c' => .ok () (η2.set j (.val 1 l c'))
      | none => .bad)
    | _ => .bad
  | _ => .bad
end S
section
variable {X : Cx} {L : Lents} {W : WX} {e a b c tg it : Expr} {es : List Expr} {pos : Pos} {ss : List Stmt}
theorem jg_sub {o i : Expr} {j : Nat} {g : SE} {p : Pos} (hu : X.A.units + 1 < cLine) (ho : PE X o (tVar j)) (hi : PE X i (tE X.K L W g))
    (hst : ∀ v, assign (.Subscript o i p) X.env v = (do
      let ov ← holding [v] (eval o X.env)
      let iv ← holding [v, ov] (eval i X.env)
      standAt p
      holding [v, ov, iv] (setItem ov iv v)
      release [v, ov, iv] []) := by intro _; rfl) : PG X (.Subscript o i p) (tG L (S.gset j g)) := by
  refine PG.imp (pg_sub ho hi (set_any hu) hst) fun v σ H Q ⟨G, η, Fs, d, η', R, rv, e, q⟩ => ?_
  unfold S.gset at e
  cases z : η[j]? with
  | none => simp only [z] at e; cases e
  | some sl =>
    cases sl with
    | no => simp only [z] at e; cases e
    | val k l d0 =>
      simp only [z] at e
      obtain ⟨x, hx, _⟩ := R.slot j k l d0 z
      refine ⟨x, hx, G, η, Fs, R, ?_⟩
      cases z1 : g η with
      | bad => rw [z1] at e; cases e
      | exc c η2 => rw [z1] at e; cases e
      | ok y η2 =>
        rw [z1] at e
        refine fun G2 H2 Fs2 R2 E2 w rw' => ?_
        have e : (match η2[j]? with
          | some (.val 1 l c) => (match stD c y d with
            | some c' => Out.ok () (η2.set j (.val 1 l c'))
            | none => .bad)
          | _ => .bad) = .ok () η' := e
        cases z2 : η2[j]? with
        | none => simp only [z2] at e; cases e
        | some sl2 =>
          rw [z2] at e
          split at e
          · rename_i l2 c y2
            have z2 := z2.trans y2
            cases hc : stD c y d with
            | none => rw [hc] at e; cases e
            | some c' =>
              rw [hc] at e
              cases e
              have rv2 := rv.mono E2.g.sub
              cases c <;> first | (cases hc; done) | skip
              · rename_i ds
                cases y <;> first | (cases hc; done) | skip
                rename_i i
                cases hm : ixN ds.length i with
                | none => simp only [stD, hm] at hc; cases hc
                | some m =>
                  simp only [stD, hm, Option.map_some] at hc
                  cases hc
                  cases rw'
                  obtain ⟨a, vs, s1, s2, s3, s4⟩ := R2.write1 z2
                  rw [hx] at s1; cases s1
                  obtain ⟨r1, r2⟩ := s4 (vs.set m v) (ds.set m d) (RepL.set rv2 m s3)
                  exact .inl ⟨a, vs, i, m, rfl, rfl, s2, by rw [s3.length]; exact hm, q σ G2 _ Fs2 r1 (E2.trans r2)⟩
              · rename_i kvs
                have hc : (if kvs.length < sizeLine then (keyD y).map fun k => DV.D.dK (putD kvs k d) else none) = some c' := hc
                split at hc
                · rename_i hz
                  cases hk : keyD y with
                  | none => rw [hk] at hc; cases hc
                  | some k =>
                    rw [hk] at hc; cases hc
                    obtain ⟨a, vs, s1, s2, s3, s4, s5⟩ := R2.writeK z2
                    rw [hx] at s1; cases s1
                    obtain ⟨r1, r2⟩ := s5 (putK vs k v) (putD kvs k d) (put_keys s3) (put_rep rv2 s3 s4)
                    exact .inr ⟨a, _, rfl, .inl ⟨vs, k, s2, key_rep rw' hk, by rw [map_len s3]; exact hz, rfl⟩, q σ G2 _ Fs2 r1 (E2.trans r2)⟩
                · cases hc
              · rename_i kvs
                cases y <;> first | (cases hc; done) | skip
                rename_i ks
                have hc : (if kvs.length < sizeLine then (keysD ks).map fun k => DV.D.dT (putD kvs k d) else none) = some c' := hc
                split at hc
                · rename_i hz
                  cases hk : keysD ks with
                  | none => rw [hk] at hc; cases hc
                  | some k =>
                    rw [hk] at hc; cases hc
                    obtain ⟨a, vs, s1, s2, s3, s4, s5⟩ := R2.writeT z2
                    rw [hx] at s1; cases s1
                    cases rw' with
                    | tup t1 t2 =>
                      have ew := keys_rep t2 hk
                      subst ew
                      obtain ⟨r1, r2⟩ := s5 (putK vs k v) (putD kvs k d) (put_keys s3) (put_rep rv2 s3 s4)
                      exact .inr ⟨a, _, rfl, .inr ⟨vs, k, _, s2, rfl, R2.sub.tp _ _ t1, by rw [map_len s3]; exact hz, rfl⟩, q σ G2 _ Fs2 r1 (E2.trans r2)⟩
                · cases hc
          · cases e
@[simp] theorem v_gset {j : Nat} {g : SE} {d : D} {η : Env} : S.gset j g d η = (match η[j]? with
  | some (.val _ _ _) => (g η).bind fun y η2 => (match η2[j]? with
    | some (.val 1 l c) => (match stD c y d with
      | some c' => .ok () (η2.set j (.val 1 l c'))
      | none => .bad)
    | _ => .bad)
  | _ => .bad : Out Unit) := rfl
end
/-! ### divmod, calls without arguments -/
def divmodD : List D → Option (Nat × D)
  | [.int i, .int j] => if 0 < j ∧ j.natAbs.log2 < 9000 then some (0, .tup [.int (i / j), .int (i % j)]) else none
  | _ => none
@[simp] theorem v_divmod {i j : Int} (h : 0 < j ∧ j.natAbs.log2 < 9000) : divmodD [.int i, .int j] = some (0, .tup [.int (i / j), .int (i % j)]) := if_pos h
theorem cf_divmod : CallF (fun xs H Q => ∃ i j, xs = [.int i, .int j] ∧ CDivP i j ∧ ∀ p, H p = none → Q (.ref p) (upd H p (.tup [.int (i / j), .int (i % j)]))) divmodD := by
  intro G H vs ds k d Q s r h fin
  unfold divmodD at h
  split at h
  · rename_i i j
    split at h <;> cases h
    rename_i hj
    cases r with
    | cons b1 t =>
      cases t with
      | cons b2 t =>
        cases t
        refine ⟨i, j, by rw [b1.int, b2.int], ⟨hj.1, PyProof.noPylong_of_log2 hj.2⟩, fun p hp => fin.tupN s hp (.cons (.int _) (.cons (.int _) .nil))⟩
  · cases h
section
variable {X : Cx} {L : Lents} {W : WX} {x : Str} {p pos : Pos} {ps : List Str} {k : Nat} {F : FnSem}
theorem jf_callH0 (h : Has X.prog X.w X.K X.mg X.base x ps k F []) (hr : Room k X.A) (hg : Gl X x) (tk : Takes X W) (hdb : (x == ("__debug__" : Str)) = false := by decide) :
    PE X (.Call (.Name x p) [] [] pos) (tF X.K L W (S.call F [])) := by
  obtain ⟨fd, hm, hk, hb, Fk⟩ := h
  refine ⟨fun pins s σ H Q I h => ?_⟩
  refine wpAny_Call_Name_kw (ld_glob I hg hm ?_ hdb)
  exact PySem.W.callWith_K0 I.kIn hk (run_fnS Fk hr hb (passAt tk σ) I .nil (call_use (as := []) rfl h))
end
end DV

/-! DV46: for x in xs, xs a list of lists: each x is owned in its turn; xs is gone behind the loop. -/
namespace DV
open PySem PySem.Spec PyProof.Rows L2 RZ
namespace S
def nameO (i : Nat) : SG := fun d η => if stores i η = true then .ok () (η.set i (.val 1 false d)) else .bad
def forsM (j i : Nat) (body : SS) : SS := fun η => match η[j]? with
  | some (.val 2 false (.lst ds)) => forL (nameO i) body ds (η.set j .no)
  | _ => .bad
end S
@[simp] theorem v_nameO {i : Nat} {d : D} {η : Env} : S.nameO i d η = if S.stores i η = true then .ok () (η.set i (.val 1 false d)) else .bad := rfl
/-- the feet of each -/
theorem feet_each {R : V → D → List Addr → Prop} : ∀ {vs : List V} {ds : List D} {F : List Addr}, OwnL R vs ds F → F.Nodup → ∃ Fm : Nat → List Addr, vs.length = ds.length ∧
    (∀ (m : Nat) (h : m < vs.length) (h2 : m < ds.length), R vs[m] ds[m] (Fm m)) ∧ (∀ m, ∀ a ∈ Fm m, a ∈ F) ∧ (∀ m, (Fm m).Nodup) ∧ ∀ m m' a, a ∈ Fm m → a ∈ Fm m' → m = m'
  | _, _, _, .nil, _ => ⟨fun _ => [], rfl, fun m h => absurd h (by simp), fun _ _ h => by simp at h, fun _ => List.nodup_nil, fun _ _ _ h => by simp at h⟩
  | _, _, _, .cons (F := F) (Fs := Fs) r t, nd => by
    obtain ⟨n1, n2, n3⟩ := List.nodup_append.mp nd
    obtain ⟨Fm, e, h1, h2, h3, h4⟩ := feet_each t n2
    refine ⟨fun m => match m with | 0 => F | m + 1 => Fm m, by simp [e], fun m h h' => ?_, fun m a ha => ?_, fun m => ?_, fun m m' a ha ha' => ?_⟩
    · cases m with
      | zero => exact r
      | succ m => exact h1 m (by simpa using h) (by simpa using h')
    · cases m with
      | zero => exact List.mem_append_left _ ha
      | succ m => exact List.mem_append_right _ (h2 m a ha)
    · cases m with
      | zero => exact n1
      | succ m => exact h3 m
    · cases m with
      | zero =>
        cases m' with
        | zero => rfl
        | succ m' => exact absurd rfl (n3 a ha a (h2 m' a ha'))
      | succ m =>
        cases m' with
        | zero => exact absurd rfl (n3 a ha' a (h2 m a ha))
        | succ m' => rw [h4 m m' a ha ha']
section
variable {X : Cx} {L : Lents} {W : WX} {e a b c tg it : Expr} {es : List Expr} {pos : Pos} {ss : List Stmt}
theorem js_forM {i j : Nat} {x : Str} {px : Pos} {body : SS} (hp : PassesOwn (model X.prog X.w) X.A X.env X.xe) (hc : X.calm = true) (ho : PE X e (tVar j)) (hN : X.N.Nodup) (hi : X.N[i]? = some x) (hx : Loc X.env.scope x) (hf : X.fn x = true ∨ X.env.scope.names.lookup x = some .local) (hb : PSs X ss (tS X.K L W body)) (hs : ∀ x, foldedSetIterable e X.env x = pure x) :
    PS X (.For (.Name x px) e ss [] pos) (tS X.K L W (S.forsM j i body)) := by
  refine PS.imp (ps_for hp hc (pi_list ho) (pg_name hN hi hx hf) hb hs) fun D σ H ⟨G, η, Fs, R, q⟩ => ?_
  unfold S.forsM at q
  split at q
  · rename_i ds hj
    obtain ⟨v, hv, R1, ap⟩ := R.drop hj
    obtain ⟨y, vs, Fl, e1, e2, e3, e4⟩ := ap.own
    subst e1
    have nd := ap.nod
    rw [e3] at nd
    obtain ⟨yn, nd2⟩ := List.nodup_cons.mp nd
    obtain ⟨Fm, hl, o1, o2, o3, o4⟩ := feet_each e4 nd2
    have inF : ∀ m, ∀ a ∈ Fm m, a ∈ Fs j := fun m a ha => by rw [e3]; exact List.mem_cons_of_mem _ (o2 m a ha)
    have sub : ∀ w, foot (setF Fs j []) w → foot Fs w := fun w hw => by
      rcases foot_setF hw with z | ⟨i, _, z⟩
      · simp at z
      · exact ⟨i, z⟩
    have yF : y ∈ Fs j := by rw [e3]; exact List.mem_cons_self
    refine ⟨.ref y, hv, y, rfl, ⟨vs, .inl (.inl e2)⟩, fun k m σ2 H2 => m = ds.length - k ∧ k ≤ ds.length ∧ ∃ G2 η2 Fs2, Ext G H Fs G2 H2 Fs2 ∧ Rel L G2 η2 σ2 H2 Fs2 ∧ H2 y = some (.lst vs) ∧ ¬ foot Fs2 y ∧
      (∀ (m : Nat) (h : m < vs.length) (h2 : m < ds.length), k ≤ m → Apart G2 H2 Fs2 1 vs[m] ds[m] (Fm m)) ∧ ResS X.K L W D G H Fs (S.forL (S.nameO i) body (ds.drop k) η2), ?_, ?_⟩
    · refine ⟨_, rfl, Nat.zero_le _, G, η.set j .no, setF Fs j [], Ext.refl.feet fun a ha => .inl (sub a ha), R1, e2, fun z => ap.sep y yF z, fun m h h2 _ => ⟨o1 m h h2, o3 m, fun a ha => ap.dis a (inF m a ha), fun a ha => ap.sep a (inF m a ha)⟩, by rw [List.drop_zero]; exact q⟩
    · rintro k m σ2 H2 ⟨rfl, hk, G2, η2, Fs2, E2, R2, hy, ny, aps, q2⟩
      have sq : SqL X.K H2 y vs := .inl (.inl hy)
      by_cases hlt : k < ds.length
      · have hlv : k < vs.length := by omega
        refine .inr ⟨⟨vs, vs[k], sq, by simp [hlv]⟩, fun σ' H' => k + 1 ≤ ds.length ∧ ∃ G3 η3 Fs3, Ext G H Fs G3 H' Fs3 ∧ Rel L G3 η3 σ' H' Fs3 ∧ H' y = some (.lst vs) ∧ ¬ foot Fs3 y ∧
          (∀ (m : Nat) (h : m < vs.length) (h2 : m < ds.length), k + 1 ≤ m → Apart G3 H' Fs3 1 vs[m] ds[m] (Fm m)) ∧ ResS X.K L W D G H Fs (S.forL (S.nameO i) body (ds.drop (k + 1)) η3), fun σ' H' p => ⟨ds.length - (k + 1), by omega, rfl, p⟩, fun z H3 yx => ?_⟩
        obtain ⟨e, yy⟩ := yx
        subst e
        have ez : vs[k]? = some z := yy vs sq
        have ez : z = vs[k] := by rw [List.getElem?_eq_getElem hlv] at ez; exact (Option.some.inj ez).symm
        subst ez
        have ed : ds.drop k = ds[k] :: ds.drop (k + 1) := List.drop_eq_getElem_cons hlt
        rw [ed] at q2
        unfold S.forL at q2
        cases hst : S.stores i η2 with
        | false =>
          have : S.nameO i ds[k] η2 = .bad := by unfold S.nameO; rw [hst]; rfl
          simp only [this] at q2
          exact q2.elim
        | true =>
          have z : S.nameO i ds[k] η2 = .ok () (η2.set i (.val 1 false ds[k])) := by unfold S.nameO; rw [hst]; rfl
          simp only [z] at q2
          obtain ⟨Fs3, R3, f3⟩ := R2.stored (aps k hlv hlt (Nat.le_refl _)) hst fun _ _ => .inr (.inr trivial)
          have E3 : Ext G H Fs G2 H3 Fs3 := E2.feet fun a ha => by
            rcases f3 a ha with z | z
            · exact .inl ⟨j, inF k a z⟩
            · exact E2.f a z
          have ny3 : ¬ foot Fs3 y := fun z => by
            rcases f3 y z with z | z
            · exact yn (o2 k y z)
            · exact ny z
          have aps3 : ∀ (m : Nat) (h : m < vs.length) (h2 : m < ds.length), k + 1 ≤ m → Apart G2 H3 Fs3 1 vs[m] ds[m] (Fm m) := fun m h h2 hm => by
            have p := aps m h h2 (by omega)
            refine ⟨p.own, p.nod, p.dis, fun a ha z => ?_⟩
            rcases f3 a z with z | z
            · have := o4 m k a ha z; omega
            · exact p.sep a ha z
          refine ⟨G2, η2.set i (.val 1 false ds[k]), Fs3, R3, ?_⟩
          cases y' : body (η2.set i (.val 1 false ds[k])) with
          | bad => rw [y'] at q2; exact q2
          | exc c η4 => rw [y'] at q2; exact ResS.later (show ResS X.K L W D G H Fs (.exc c η4) from q2) E3
          | ok fl η4 =>
            rw [y'] at q2
            have nxt : ∀ σ5 G5 H5 Fs5, Rel L G5 η4 σ5 H5 Fs5 → Ext G2 H3 Fs3 G5 H5 Fs5 → ResS X.K L W D G H Fs (S.forL (S.nameO i) body (ds.drop (k + 1)) η4) → k + 1 ≤ ds.length ∧ ∃ G3 η3 Fs3, Ext G H Fs G3 H5 Fs3 ∧ Rel L G3 η3 σ5 H5 Fs3 ∧ H5 y = some (.lst vs) ∧ ¬ foot Fs3 y ∧
              (∀ (m : Nat) (h : m < vs.length) (h2 : m < ds.length), k + 1 ≤ m → Apart G3 H5 Fs3 1 vs[m] ds[m] (Fm m)) ∧ ResS X.K L W D G H Fs (S.forL (S.nameO i) body (ds.drop (k + 1)) η3) := fun σ5 G5 H5 Fs5 R5 E5 q5 =>
              ⟨hlt, G5, η4, Fs5, E3.trans E5, R5, E5.h y _ hy ny3, (fun z => (E5.f y z).elim (fun z => ny3 z) fun z => by rw [hy] at z; cases z), fun m h h2 hm => (aps3 m h h2 hm).ext E5, q5⟩
            cases fl with
            | nx => exact fun σ5 G5 H5 Fs5 R5 E5 => nxt σ5 G5 H5 Fs5 R5 E5 q2
            | ct => exact fun σ5 G5 H5 Fs5 R5 E5 => nxt σ5 G5 H5 Fs5 R5 E5 q2
            | bk => exact ResS.later (show ResS X.K L W D G H Fs (.ok .nx η4) from q2) E3
            | rt kk d => exact ResS.later (show ResS X.K L W D G H Fs (.ok (.rt kk d) η4) from q2) E3
      · have ei : k = ds.length := by omega
        subst ei
        rw [List.drop_length] at q2
        exact .inl ⟨⟨vs, sq, by omega⟩, q2 σ2 G2 H2 Fs2 R2 E2⟩
  · exact q.elim
end
end DV

/-! DV47: ts[::-1], ts a tuple. -/
namespace HT
open PySem PySem.Spec PyProof.Rows PySem.Calls L2
section
variable {prog : Program} {w : World} {A : Around} {E : Value → Shared → Prop} {s : Shared}
theorem sliceApplied_rev {sl : Addr} {vs : Value} {n : Nat} {Q : Int × Int × Nat → Shared → Prop} (hs : s.heap.IsSliceOf sl .none .none vs) (ps : IsPart vs (some (-1)))
    (h : Q ((n : Int) - 1, -1, n) s) : wpAny (model prog w) A (Builtin.Slice.sliceApplied (.ref sl) (pure (n : Int))) Q E s := by
  obtain ⟨os, hos, hcs, hds⟩ := id hs
  unfold Builtin.Slice.sliceApplied Builtin.Slice.sliceFields
  refine wpAny_bind (wpAny_bind (wpAny_field hos hds (x := .none) rfl (wpAny_bind (wpAny_field hos hds (x := .none) rfl (wpAny_bind (wpAny_field hos hds (x := vs) rfl (wpAny_pure ?_)))))))
  refine wpAny_bind (slicePart_ ps ?_)
  show wpAny _ _ (if ((-1 : Int) == 0) = true then _ else _) _ _ s
  rw [if_neg (by decide)]
  refine wpAny_bind (slicePart_none (wpAny_bind (slicePart_none (wpAny_bind (wpAny_pure ?_)))))
  have e2 : Builtin.Slice.slicePlaces ((n : Int) - 1) (-1) (-1) = n := by
    unfold Builtin.Slice.slicePlaces
    rw [if_neg (by decide)]
    by_cases hn : (n : Int) - 1 > -1
    · rw [if_pos hn, show (- -1 : Int) = 1 by decide, Int.ediv_one]; omega
    · rw [if_neg hn]; omega
  show wpAny _ _ (pure ((n : Int) - 1, (-1 : Int), Builtin.Slice.slicePlaces ((n : Int) - 1) (-1) (-1))) _ _ s
  rw [e2]
  exact wpAny_pure h
theorem fm_congr {α β : Type} {f g : α → Option β} : ∀ {l : List α}, (∀ a ∈ l, f a = g a) → l.filterMap f = l.filterMap g
  | [], _ => rfl
  | a :: l, h => by
    rw [List.filterMap_cons, List.filterMap_cons, h a List.mem_cons_self, fm_congr fun b hb => h b (List.mem_cons_of_mem _ hb)]
theorem pick_rev (xs : Array Value) : ((List.range xs.size).filterMap fun (m : Nat) => xs[(((xs.size : Int) - 1) + (m : Int) * (-1)).toNat]?).toArray = xs.toList.reverse.toArray := by
  congr 1
  have e : (List.range xs.size).filterMap (fun (m : Nat) => xs[(((xs.size : Int) - 1) + (m : Int) * (-1)).toNat]?) = ((List.range xs.size).map fun k => xs.size - 1 - k).filterMap (xs[·]?) := by
    rw [List.filterMap_map]
    refine fm_congr fun m hm => ?_
    have := List.mem_range.mp hm
    have e : ((xs.size : Int) - 1 + (m : Int) * -1).toNat = xs.size - 1 - m := by omega
    show xs[((xs.size : Int) - 1 + (m : Int) * -1).toNat]? = xs[xs.size - 1 - m]?
    rw [e]
  rw [e, PySem.W.krv_range, List.filterMap_reverse, PySem.W.krv_all]
theorem getItem_tuple_rev {t sl : Addr} {items : Array Value} {vs : Value} {Q : Value → Shared → Prop} (ht : IsTup s.heap t items) (hs : s.heap.IsSliceOf sl .none .none vs) (ps : IsPart vs (some (-1)))
    (h : Q (.ref s.heap.objs.size) { s with heap := s.heap.push { cls := .type "tuple", data := .seq (items.toList.reverse).toArray } })
    (hsz : items.size ≤ sizeLine) : wpAny (model prog w) A (getItem (.ref t) (.ref sl)) Q E s := by
  have htake : sizeOk (.seq (items.toList.reverse).toArray) := by
    show (items.toList.reverse).toArray.size ≤ sizeLine
    rw [List.size_toArray, List.length_reverse, Array.length_toList]
    omega
  obtain ⟨os, hos, hcs, hds⟩ := id hs
  have hTs : s.TypeIs (.ref sl) "slice" := ⟨os, hos, hcs⟩
  unfold getItem
  try with_reducible refine wpAny_holding ?_
  first | refine wpAny_bind (wpAny_pure ?_) | skip
  refine wpAny_bind (wpAny_sequenceKey ht.typeIs (by decide) ?_)
  refine wpAny_bind (wpAny_callSpecial?_slot (name := Str.ofString "__getitem__") ht.typeIs PyProof.Rows.slot_tuple_getitem
    (wpAny_call_entry PyProof.Rows.slot_tuple_getitem ht.typeIs entry_tuple_getitem ?_ (args_tuple_getitem _ _)))
  show wpAny _ _ (Builtin.Tuple.tupleItemsOf (.ref t) >>= _) _ _ s
  refine wpAny_bind (tupleItemsOf_ ht ?_)
  refine wpAny_bind (wpAny_typeOf hTs ?_)
  rw [if_pos (by decide)]
  refine wpAny_bind (sliceApplied_rev hs ps ?_)
  have hno : ¬ ((((items.size : Int) - 1) == 0 && (-1 : Int) == 1 && items.size == items.size) = true) := by
    intro q
    rw [Bool.and_eq_true, Bool.and_eq_true] at q
    exact absurd q.1.2 (by decide)
  show wpAny _ _ (if (((items.size : Int) - 1) == 0 && (-1 : Int) == 1 && items.size == items.size) = true then _ else _) _ _ s
  rw [if_neg hno, pick_rev]
  first
    | exact wpAny_bind (m := Builtin.Tuple.tupleExact _) (wpAny_newObj_type (wpAny_pure ⟨_, rfl, wpAny_pure h⟩) htake)
    | exact wpAny_bind (m := Builtin.Tuple.tupleExact _) (wpAny_newObj_type (wpAny_bind (wpAny_pure (wpAny_pure ⟨_, rfl, wpAny_pure h⟩))) htake)
    | exact wpAny_bind (wpAny_bind (m := Builtin.Tuple.tupleExact _) (wpAny_newObj_type (wpAny_pure (wpAny_pure ⟨_, rfl, wpAny_pure h⟩)) htake))
    | exact wpAny_bind (wpAny_bind (m := Builtin.Tuple.tupleExact _) (wpAny_newObj_type (wpAny_pure ⟨_, rfl, wpAny_pure h⟩) htake))
end
end HT
namespace DV
open PySem PySem.Spec PyProof.Rows PySem.Calls L2 RZ
section
variable {X : Cx}
def tRevT (K : PySem.W.Frag) (te : TE) : TE := fun σ H Q => te σ H fun x H1 => ∃ a xs, x = .ref a ∧ SqT K H1 a xs ∧ ∀ p, H1 p = none → Q (.ref p) (upd H1 p (.tup xs.reverse))
theorem pe_revT {e : Expr} {te : TE} {k : Nat} {p1 p2 p3 pos : Pos} (he : PE X e te) : PE X (.Subscript e (.Slice none none (some (.UnaryOp .USub (.Constant (.int 1) k p1) p2)) p3) pos) (tRevT X.K te) := by
  refine ⟨fun pins s σ H Q I h => ?_⟩
  refine Subscript_ (thn (he.run pins s σ H _ I h) fun v s1 ⟨x, H1, I1, r1, q1⟩ => ?_)
  obtain ⟨a, xs, ex, hx, q⟩ := q1
  subst ex
  cases r1
  have hst : PO X (some (.UnaryOp .USub (.Constant (.int 1) k p1) p2)) (tPart (tUn (rU fun i => .int (-i)) (tC (.int 1)))) := po_some (pe_un un_neg pe_int)
  refine wpAny_Slice (thn (po_none.run pins s1 σ H1 (fun o H2 => o = none ∧ H2 = H1) I1 ⟨rfl, rfl⟩) fun vl s2 ⟨l, H2, I2, pl, el, e2⟩ => ?_)
  subst el e2
  refine thn (po_none.run pins s2 σ H2 (fun o H3 => o = none ∧ H3 = H2) I2 ⟨rfl, rfl⟩) fun vu s3 ⟨u, H3, I3, pu, eu, e3⟩ => ?_
  subst eu e3
  refine thn (hst.run pins s3 σ H3 (fun o H4 => o = some (-1) ∧ H4 = H3) I3 ⟨1, rfl, -1, rfl, rfl, rfl⟩) fun vs s4 ⟨o, H4, I4, ps, eo, e4⟩ => ?_
  subst eo e4
  cases pl
  cases pu
  have I5 : Inv X pins σ H4 { s4 with heap := s4.heap.push { cls := .type "slice", data := .fields #[.none, .none, vs] } } := I4.kept (t' := s4.toks) fun b ob q => Heap.get?_push_of_some _ q
  obtain ⟨its, r, ht, hz⟩ := I5.tuple hx
  have hlen := r.length
  show wpAny (model X.prog X.w) X.A (subscriptTail e (.Slice none none (some (.UnaryOp .USub (.Constant (.int 1) k p1) p2)) p3) (.ref a) (.ref s4.heap.objs.size)) (EP X pins σ Q) X.xe { s4 with heap := s4.heap.push { cls := .type "slice", data := .fields #[.none, .none, vs] } }
  refine tail_any (ops := [.ref a, .ref s4.heap.objs.size]) ht.typeIs (PyProof.Rows.slot_tuple_getitem.lookup) ?_ (by with_unfolding_all rfl)
  refine HT.getItem_tuple_rev ht (Heap.IsSliceOf.new _ .none .none vs) ps ?_ (by rw [List.size_toArray]; omega)
  refine ⟨.ref _, _, I5.laid (t' := s4.toks) (o := .tup xs.reverse) (fun b ob q => Heap.get?_push_of_some _ q) (Nat.le_refl _) ?_, rfl, q _ (I5.hok.fresh (Nat.le_refl _))⟩
  exact ⟨by rw [List.length_reverse]; omega, _, r.reverse, ⟨_, Heap.get?_push_size _ rfl, rfl, 0, rfl⟩⟩
end
def revTD : D → Option (Nat × D)
  | .tup ds => some (0, .tup ds.reverse)
  | _ => none
@[simp] theorem revTD_tup {ds : List D} : revTD (.tup ds) = some (0, .tup ds.reverse) := rfl
section
variable {X : Cx} {L : Lents} {W : WX} {a : Expr} {k : Nat} {p1 p2 p3 pos : Pos} {oa : Opd}
theorem jf_revT (ha : PE X a (tO X.K L W oa)) : PE X (.Subscript a (.Slice none none (some (.UnaryOp .USub (.Constant (.int 1) k p1) p2)) p3) pos) (tF X.K L W (S.un revTD oa)) := by
  refine PE.imp (pe_revT ha) fun σ H Q ⟨G, η, Fs, R, q⟩ => ?_
  refine tO_use R q fun v p η1 G1 H1 Fs1 R1 E1 k1 q1 => ?_
  obtain ⟨⟨k, d⟩, e, q4⟩ := q1.lift
  cases hx : oa.fin p η1 with
  | none => rw [hx] at e; cases e
  | some x =>
    rw [hx, Option.bind_some] at e
    cases x <;> first | (cases e; done) | skip
    rename_i ds
    cases e
    obtain ⟨a, xs, rfl, h1, r1⟩ := (k1.bor R1 hx).tup R1.sub
    have fin : Fin2 G1 H1 0 (.tup ds.reverse) Q := fin_tF (P := fun _ _ _ _ _ => True) R1 fun G' H' Fs' R' E' w F y o => q4 G' H' Fs' R' E' w F y fun a ha => .inr (E1.noneOf (o a ha))
    exact ⟨a, xs, rfl, .of (R1.sub.tp _ _ h1), fun p hp => fin.tupN R1.sub hp (repL_rev r1)⟩
end
end DV

/-! DV48: a display of one pair, its key an int or a text. -/
namespace DV
open PySem PySem.Spec PyProof.Rows L2 RZ
namespace S
/-- {k: v}, k an int or a text -/
def dispK (fk fv : SE) : SF := fun η => (fk η).bind fun kd η1 => (fv η1).bind fun d η2 => match keyD kd with
  | some k => .ok (1, .dK [(k, d)]) η2
  | none => .bad
end S
section
variable {X : Cx} {L : Lents} {W : WX} {k v : Expr} {fk fv : SE} {pos : Pos}
theorem jf_dispK (hk : PE X k (tE X.K L W fk)) (hv : PE X v (tE X.K L W fv)) : PE X (.Dict [some k] [v] pos) (tF X.K L W (S.dispK fk fv)) := by
  refine PE.imp (pe_disp (pps_cons hk hv pps_nil) rfl rfl (by simp) (by simp)) fun σ H Q ⟨G, η, Fs, R, q⟩ p hp => ?_
  have gp := R.sub.free hp
  have nf := R.noFoot hp
  have R0 : Rel L G η σ (upd H p (.dK [])) Fs := R.updN gp nf
  have E0 : Ext G H Fs G (upd H p (.dK [])) Fs := (New.own (o := .dK []) R.sub hp).ext
  unfold S.dispK at q
  refine ⟨G, η, Fs, R0, ?_⟩
  cases e1 : fk η with
  | bad => rw [e1] at q; exact q.elim
  | exc c η1 => rw [e1] at q; exact fun G1 H1 Fs1 R1 E1 => q G1 H1 Fs1 R1 (E0.trans E1)
  | ok kd η1 =>
    rw [e1] at q
    intro G1 H1 Fs1 R1 E1 x rx
    refine ⟨G1, η1, Fs1, R1, ?_⟩
    simp only [bind_ok] at q
    cases e2 : fv η1 with
    | bad => rw [e2] at q; exact q.elim
    | exc c η2 => rw [e2] at q; exact fun G2 H2 Fs2 R2 E2 => q G2 H2 Fs2 R2 (E0.trans (E1.trans E2))
    | ok d η2 =>
      rw [e2] at q
      simp only [bind_ok] at q
      intro G2 H2 Fs2 R2 E2 y ry
      have E12 := E1.trans E2
      cases e : keyD kd with
      | none => simp only [e] at q; exact q.elim
      | some key =>
        simp only [e] at q
        have hx := key_rep rx e
        subst hx
        have hp2 : H2 p = some (.dK []) := E12.h p _ upd_same nf
        have gp2 : G2 p = none := by
          cases z : G2 p with
          | none => rfl
          | some u =>
            rcases E12.n p (by rw [z]; exact fun w => nomatch w) with w | w | w
            · exact absurd gp w
            · exact absurd w nf
            · rw [upd_same] at w; exact w.elim
        have nf2 : ¬ foot Fs2 p := fun w => by
          rcases E12.f p w with w | w
          · exact nf w
          · rw [upd_same] at w; cases w
        refine ⟨hp2, [(key, y)], rfl, by simp, ?_⟩
        have ap : Apart G2 (upd H2 p (.dK [(key, y)])) Fs2 1 (.ref p) (.dK [(key, d)]) [p] := ⟨⟨p, [(key, y)], [], rfl, upd_same, rfl, rfl, .cons (F := []) (Fs := []) ⟨ry, rfl⟩ .nil⟩, by simp, fun a ha => by rw [List.mem_singleton.mp ha]; exact gp2, fun a ha => by rw [List.mem_singleton.mp ha]; exact nf2⟩
        exact q G2 (upd H2 p (.dK [(key, y)])) Fs2 (R2.updN gp2 nf2) ((E0.trans E12).updN hp) (.ref p) [p] ap fun a ha => .inr (by rw [List.mem_singleton.mp ha]; exact hp)
@[simp] theorem v_dispK {η : Env} : S.dispK fk fv η = (fk η).bind fun kd η1 => (fv η1).bind fun d η2 => (match keyD kd with
  | some k => Out.ok (1, D.dK [(k, d)]) η2
  | none => .bad : Out (Nat × D)) := rfl
end
end DV

/-! DV49: list(range(..)). -/
namespace DV
open PySem PySem.Spec PyProof.Rows L2 RZ
namespace S
def lrg1 (f : SE) : SF := fun η => (f η).bind fun d η1 => match d with
  | .int j => if -(2 ^ 62) ≤ j ∧ j ≤ 16777216 then .ok (1, .lst (rangeL 0 j.toNat)) η1 else .bad
  | _ => .bad
def lrg2 (f g : SE) : SF := fun η => (f η).bind fun d η1 => (g η1).bind fun e η2 => match d, e with
  | .int i, .int j => if -(2 ^ 62) ≤ i ∧ i < 2 ^ 62 ∧ -(2 ^ 62) ≤ j ∧ j < 2 ^ 62 ∧ j - i ≤ 16777216 then .ok (1, .lst (rangeL i (j - i).toNat)) η2 else .bad
  | _, _ => .bad
end S
theorem repL_rg {G : Hp} {a : Int} : ∀ l : List Nat, RepL G (l.map fun (i : Nat) => V.int (a + i)) (l.map fun (i : Nat) => D.int (a + i))
  | [] => .nil
  | i :: l => .cons (.int _) (repL_rg l)
section
variable {X : Cx} {L : Lents} {W : WX} {e a b c tg it : Expr} {es : List Expr} {pos : Pos} {ss : List Stmt}
theorem jf_lrg1 {f : SE} {p p2 pos2 : Pos} (hc : X.calm = true) (hg : Gl X "list") (hm : X.mg "list" = none) (hgr : Gl X "range") (hmr : X.mg "range" = none) (h : PE X a (tE X.K L W f))
    (na : starEach [a] X.env = (false, eval a X.env) :: starEach [] X.env := by rfl) (nb : starEach [.Call (.Name "range" p2) [a] [] pos2] X.env = (false, eval (.Call (.Name "range" p2) [a] [] pos2) X.env) :: starEach [] X.env := by rfl) :
    PE X (.Call (.Name "list" p) [.Call (.Name "range" p2) [a] [] pos2] [] pos) (tF X.K L W (S.lrg1 f)) := by
  refine PE.imp (pe_listRg hc hg hm (prg_1 hgr hmr h na) nb) fun σ H Q ⟨G, η, Fs, R, q⟩ => ⟨G, η, Fs, R, q.bind.mono fun d η1 G1 H1 Fs1 R1 E1 q1 v rv => ?_⟩
  cases d <;> first | exact (show False from q1).elim | skip
  rename_i j
  cases rv
  have q1 : Res X.K L W σ G1 H1 Fs1 _ (if -(2 ^ 62) ≤ j ∧ j ≤ 16777216 then .ok (1, D.lst (S.rangeL 0 j.toNat)) η1 else .bad) := q1
  split at q1
  · rename_i hj
    have fin : Fin2 G1 H1 1 (.lst (S.rangeL 0 j.toNat)) Q := fin_tF (P := fun _ _ _ _ _ => True) R1 fun G' H' Fs' R' E' w F y o => q1 G' H' Fs' R' E' w F y fun a ha => .inr (E1.noneOf (o a ha))
    refine ⟨j, rfl, ⟨by omega, by omega, by omega, by omega, by omega⟩, fun p hp => ?_⟩
    refine fin.lstN R1.sub hp ?_
    unfold rgV S.rangeL
    rw [Int.sub_zero]
    exact repL_rg _
  · exact q1.elim
theorem jf_lrg2 {f g : SE} {p p2 pos2 : Pos} (hc : X.calm = true) (hg : Gl X "list") (hm : X.mg "list" = none) (hgr : Gl X "range") (hmr : X.mg "range" = none) (h : PE X a (tE X.K L W f)) (h' : PE X b (tE X.K L W g))
    (na : starEach [a, b] X.env = (false, eval a X.env) :: starEach [b] X.env := by rfl) (nc : starEach [b] X.env = (false, eval b X.env) :: starEach [] X.env := by rfl) (np : (backTo pos2 (starEach [b] X.env)).any (·.1) = false := by rfl)
    (nb : starEach [.Call (.Name "range" p2) [a, b] [] pos2] X.env = (false, eval (.Call (.Name "range" p2) [a, b] [] pos2) X.env) :: starEach [] X.env := by rfl) :
    PE X (.Call (.Name "list" p) [.Call (.Name "range" p2) [a, b] [] pos2] [] pos) (tF X.K L W (S.lrg2 f g)) := by
  refine PE.imp (pe_listRg hc hg hm (prg_2 hgr hmr h h' na nc np) nb) fun σ H Q ⟨G, η, Fs, R, q⟩ => ⟨G, η, Fs, R, q.bind.mono fun d η1 G1 H1 Fs1 R1 E1 q1 v rv => ⟨G1, η1, Fs1, R1, q1.bind.mono fun d2 η2 G2 H2 Fs2 R2 E2 q2 v2 rv2 => ?_⟩⟩
  cases d <;> first | exact (show False from q2).elim | skip
  rename_i i
  cases d2 <;> first | exact (show False from q2).elim | skip
  rename_i j
  cases rv
  cases rv2
  have q2 : Res X.K L W σ G2 H2 Fs2 _ (if -(2 ^ 62) ≤ i ∧ i < 2 ^ 62 ∧ -(2 ^ 62) ≤ j ∧ j < 2 ^ 62 ∧ j - i ≤ 16777216 then .ok (1, D.lst (S.rangeL i (j - i).toNat)) η2 else .bad) := q2
  split at q2
  · rename_i hj
    have fin : Fin2 G2 H2 1 (.lst (S.rangeL i (j - i).toNat)) Q := fin_tF (P := fun _ _ _ _ _ => True) R2 fun G' H' Fs' R' E' w F y o => q2 G' H' Fs' R' E' w F y fun a ha => .inr ((E1.trans E2).noneOf (o a ha))
    refine ⟨i, j, rfl, rfl, ⟨by omega, by omega, by omega, by omega, by omega⟩, fun p hp => ?_⟩
    exact fin.lstN R2.sub hp (repL_rg _)
  · exact q2.elim
@[simp] theorem v_lrg1 {f : SE} {η : Env} : S.lrg1 f η = (f η).bind fun d η1 => (match d with
  | .int j => if -(2 ^ 62) ≤ j ∧ j ≤ 16777216 then Out.ok (1, D.lst (S.rangeL 0 j.toNat)) η1 else .bad
  | _ => .bad : Out (Nat × D)) := rfl
@[simp] theorem v_lrg2 {f g : SE} {η : Env} : S.lrg2 f g η = (f η).bind fun d η1 => (g η1).bind fun e η2 => (match d, e with
  | .int i, .int j => if -(2 ^ 62) ≤ i ∧ i < 2 ^ 62 ∧ -(2 ^ 62) ≤ j ∧ j < 2 ^ 62 ∧ j - i ≤ 16777216 then Out.ok (1, D.lst (S.rangeL i (j - i).toNat)) η2 else .bad
  | _, _ => .bad : Out (Nat × D)) := rfl
end
end DV

/-! DV50: xs[i].append(..) and the like, xs a list of lists that is owned. -/
namespace DV
open PySem PySem.Spec PyProof.Rows L2 RZ
namespace S
def lmA (j : Nat) (g : List D → List D → Option (D × List D)) (ix : SE) (row : Env → Out (List D)) : SE := fun η => match η[j]? with
  | some (.val 2 false (.lst ds)) => match ix (η.set j .no) with
    | .ok (.int i) η1 => (match atI ds i, ixN ds.length i with
      | some (.lst es), some m => (match row η1 with
        | .ok as η2 => (match η2[j]? with
          | some .no => (match g es as with
            | some (d, es') => .ok d (η2.set j (.val 2 false (.lst (ds.set m (.lst es')))))
            | none => .bad)
          | _ => .bad)
        | _ => .bad)
      | _, _ => .bad)
    | _ => .bad
  | _ => .bad
end S
theorem ownL_keep {G H : Hp} {b : Addr} {o : HO} : ∀ {vs : List V} {ds : List D} {F : List Addr}, OwnL (Own G H 1) vs ds F → b ∉ F → OwnL (Own G (upd H b o) 1) vs ds F
  | _, _, _, .nil, _ => .nil
  | _, _, _, .cons r t, h => .cons (r.mono (Sub.refl G) 1 fun a ha => upd_ne fun e => h (by rw [← e]; exact List.mem_append_left _ ha)) (ownL_keep t fun z => h (List.mem_append_right _ z))
theorem ownL_upd {G H : Hp} {b : Addr} {es es' : List D} {ws : List V} (hr : RepL G ws es') : ∀ {vs : List V} {ds : List D} {F : List Addr} (m : Nat), OwnL (Own G H 1) vs ds F → F.Nodup → vs[m]? = some (.ref b) → ds[m]? = some (.lst es) →
    OwnL (Own G (upd H b (.lst ws)) 1) vs (ds.set m (.lst es')) F ∧ b ∈ F
  | _, _, _, _, .nil, _, h, _ => by simp at h
  | _, _, _, 0, .cons (F := F) (Fs := Fs) r t, nd, h1, h2 => by
    have h1 := Option.some.inj h1
    have h2 := Option.some.inj h2
    subst h1
    subst h2
    obtain ⟨n1, n2, n3⟩ := List.nodup_append.mp nd
    obtain ⟨a, vs0, F0, e1, e2, e3, e4⟩ := r
    cases e1
    obtain ⟨_, z⟩ := e4.to0
    subst z
    subst e3
    refine ⟨.cons ⟨b, ws, [], rfl, upd_same, rfl, OwnL.of0 hr⟩ (ownL_keep t fun z => n3 b (by simp) b z rfl), by simp⟩
  | _, _, _, m + 1, .cons (F := F) (Fs := Fs) r t, nd, h1, h2 => by
    obtain ⟨n1, n2, n3⟩ := List.nodup_append.mp nd
    obtain ⟨i1, i2⟩ := ownL_upd hr m t n2 h1 h2
    exact ⟨.cons (r.mono (Sub.refl G) 1 fun a ha => upd_ne fun e => n3 a ha b i2 e) i1, List.mem_append_right _ i2⟩
theorem ownL_get {R : V → D → List Addr → Prop} : ∀ {vs : List V} {ds : List D} {F : List Addr} {m : Nat} {d : D}, OwnL R vs ds F → ds[m]? = some d → ∃ v f, vs[m]? = some v ∧ R v d f
  | _, _, _, _, _, .nil, h => by simp at h
  | _, _, _, 0, d, .cons (v := v) (F := F) r t, h => by cases Option.some.inj h; exact ⟨v, F, rfl, r⟩
  | _, _, _, m + 1, d, .cons r t, h => ownL_get (m := m) t h
theorem ownL_len {R : V → D → List Addr → Prop} : ∀ {vs : List V} {ds : List D} {F : List Addr}, OwnL R vs ds F → vs.length = ds.length
  | _, _, _, .nil => rfl
  | _, _, _, .cons r t => by simp [ownL_len t]
section
variable {X : Cx} {L : Lents} {W : WX} {e a b c tg it : Expr} {es : List Expr} {pos : Pos} {ss : List Stmt}
theorem lmA_use {σ : Sig} {H : Hp} {Q : VK} {r : V → List V → Hp → VK → Prop} {j : Nat} {g : List D → List D → Option (D × List D)} {ix : SE} {row : Env → Out (List D)} (hd : MethD r g) (h : tE X.K L W (S.lmA j g ix row) σ H Q) :
    tBM X.K "list" r (tOp (rIxA X.K) (tVar j) (tE X.K L W ix)) (tL X.K L W row) σ H Q := by
  obtain ⟨G, η, Fs, R, q⟩ := h
  unfold S.lmA at q
  split at q
  · rename_i ds hj
    obtain ⟨v, hv, R1, ap⟩ := R.drop hj
    obtain ⟨y, vs, Fl, e1, e2, e3, e4⟩ := ap.own
    subst e1
    have nd := ap.nod
    rw [e3] at nd
    obtain ⟨yn, nd2⟩ := List.nodup_cons.mp nd
    have sub : ∀ w, foot (setF Fs j []) w → foot Fs w := fun w hw => by
      rcases foot_setF hw with z | ⟨i, _, z⟩
      · simp at z
      · exact ⟨i, z⟩
    split at q
    · rename_i i η1 hix
      split at q
      · rename_i es0 m hat hm
        split at q
        · rename_i as η2 hrow
          split at q
          · rename_i hno
            split at q
            · rename_i d es' hg
              refine ⟨.ref y, hv, G, η.set j .no, setF Fs j [], R1, ?_⟩
              rw [hix]
              intro G1 H1 Fs1 R2 E1 z rz
              cases rz
              have hdm : ds[m]? = some (.lst es0) := by
                unfold atI at hat
                rw [hm] at hat; exact hat
              obtain ⟨x, f, hx, ox⟩ := ownL_get e4 hdm
              obtain ⟨b, ws, Fb, eb, eb2, eb3, eb4⟩ := ox
              subst eb
              have bF : b ∈ Fs j := by
                rw [e3]
                exact List.mem_cons_of_mem _ (ownL_upd (es' := []) (ws := []) .nil m e4 nd2 hx hdm).2
              have yF : y ∈ Fs j := by rw [e3]; exact List.mem_cons_self
              have y1 : H1 y = some (.lst vs) := E1.h y _ e2 (ap.sep y yF)
              have b1 : H1 b = some (.lst ws) := E1.h b _ eb2 (ap.sep b bF)
              have hav : atI vs i = some (.ref b) := by
                unfold atI
                rw [ownL_len e4, hm]; exact hx
              refine .inl (.inl ⟨y, vs, i, .ref b, rfl, rfl, .inl (.inl y1), hav, .inl ⟨rfl, ws, .inl (.inl b1)⟩, G1, η1, Fs1, R2, ?_⟩)
              rw [hrow]
              intro G2 H2 Fs2 R3 E2 us ru
              have E12 := E1.trans E2
              have ap2 := ap.ext E12
              have y2 : H2 y = some (.lst vs) := E12.h y _ e2 (ap.sep y yF)
              have b2 : H2 b = some (.lst ws) := E12.h b _ eb2 (ap.sep b bF)
              have yb : y ≠ b := fun e => yn (by rw [e]; exact (ownL_upd (es' := []) (ws := []) .nil m e4 nd2 hx hdm).2)
              refine hd G2 H2 b ws es0 us as d es' Q b2 (eb4.to0.1.mono E12.g.sub) R3.sub ru hg fun w ws' rw' rws => ?_
              obtain ⟨y', vs', Fl', f1, f2, f3, f4⟩ := ap2.own
              cases f1
              rw [y2] at f2
              cases f2
              rw [e3] at f3
              cases f3
              have nl := (ownL_upd rws m f4 nd2 hx hdm).1
              have nf : ¬ foot Fs2 b := ap2.sep b bF
              have R4 := R3.updN (o := .lst ws') (ap2.dis b bF) nf
              have hlen : j < η2.length := (List.getElem?_eq_some_iff.mp hno).1
              have ap3 : Apart G2 (upd H2 b (.lst ws')) Fs2 2 (.ref y) (.lst (ds.set m (.lst es'))) (Fs j) :=
                ⟨⟨y, vs, Fl, rfl, by rw [upd_ne yb]; exact y2, e3, nl⟩, ap2.nod, ap2.dis, ap2.sep⟩
              have R5 := R4.put ap3 hlen hno
              have es : σ.set j (some (V.ref y)) = σ := by
                apply List.ext_getElem?
                intro i
                by_cases hi : i = j
                · subst hi; rw [get_set_self (List.getElem?_eq_some_iff.mp hv).1, hv]
                · rw [get_set_ne hi]
              rw [es] at R5
              refine q G2 _ _ R5 ⟨E12.g, fun w o e n => ?_, fun w e => ?_, fun w e => ?_, fun w e => ?_⟩ w rw'
              · rw [upd_ne fun z => n ⟨j, by rw [z]; exact bF⟩]
                exact E12.h w o e fun z => n (sub w z)
              · rcases E12.n w e with z | z | z
                · exact .inl z
                · exact .inr (.inl (sub w z))
                · exact .inr (.inr z)
              · rcases foot_setF e with z | ⟨i, hi, z⟩
                · exact .inl ⟨j, z⟩
                · exact (E12.f w ⟨i, z⟩).elim (fun y => .inl (sub w y)) .inr
              · by_cases h : w = b
                · rw [h, upd_same]; simp
                · rw [upd_ne h]; exact E12.d w e
            · exact q.elim
          · exact q.elim
        · exact q.elim
      · exact q.elim
    · exact q.elim
  · exact q.elim
theorem je_lmA {o i : Expr} {j : Nat} {p : Pos} {name : Str} {id : String} {apos cpos : Pos} {r : V → List V → Hp → VK → Prop} {g : List D → List D → Option (D × List D)} {ix : SE} {row : Env → Out (List D)} (hu : X.A.units + 1 < cLine) (hd : MethD r g) (slot : PySem.Slot "list" name id) (hty : typeOf (.builtin id) = pure (.type "method_descriptor")) (hm : MtR X id r) (ho : PE X o (tVar j)) (hi : PE X i (tE X.K L W ix)) (hix : PlainIx i) (ha : PA X (e :: es) (tL X.K L W row))
    (hbase : attributeBase (.Subscript o i p) name X.env (eval (.Subscript o i p) X.env) = eval (.Subscript o i p) X.env := by rfl)
    (hfew : ((backTo cpos (starEach (e :: es) X.env)).all (fun x => !x.1) && (backToKw cpos (keywordEach [] X.env)).all (fun x => x.1.isSome)
      && decide ((e :: es).length + ([] : List Keyword).length + (if ([] : List Keyword).isEmpty then 0 else 1) < 30)) = true := by rfl)
    (hline : (apos.endLine == cpos.line) = true := by rfl) (hs : starEach (e :: es) X.env = (false, eval e X.env) :: starEach es X.env := by rfl) (hplain : (backTo cpos (starEach es X.env)).any (·.1) = false := by rfl) :
    PE X (.Call (.Attribute (.Subscript o i p) name apos) (e :: es) [] cpos) (tE X.K L W (S.lmA j g ix row)) :=
  PE.imp (pe_bm PySem.F.plainAttrs_list slot hty hm (pe_ix (ix_all hu) ho hi hix) ha hbase hfew hline hs hplain) fun σ H Q h => lmA_use hd h
end
end DV

/-! DV51: a comprehension over a list of lists: each item is owned in its turn; the list is gone behind it. -/
namespace DV
open PySem PySem.Spec PyProof.Rows L2 RZ
namespace S
def compM (k : Nat) (vs : List Nat) (j i : Nat) (tt : ST) (f : SF) : SF := fun η => match η[j]? with
  | some (.val 2 false (.lst ds)) => if still vs (η.set j .no) = true then (match compL (nameO i) tt f k vs ds [] (η.set j .no) with
    | .ok es η2 => .ok (k + 1, .lst es) (mix (η.set j .no) η2 vs)
    | _ => .bad) else .bad
  | _ => .bad
end S
section
variable {X : Cx} {L : Lents} {W : WX} {e a b c tg it : Expr} {es : List Expr} {pos : Pos} {ss : List Stmt} {vs : List Nat}
theorem lcM_use {σ : Sig} {H : Hp} {Q : VK} {k j i : Nat} {tt : ST} {f : SF} (hiv : i ∈ vs) (h : tF X.K L W (S.compM k vs j i tt f) σ H Q) :
    tLc (iList X.K (tVar j)) (gName i) (tT X.K L WN tt) (tF X.K L WN f) vs σ H Q := by
  obtain ⟨G, η, Fs, R, q⟩ := h
  unfold S.compM at q
  split at q
  · rename_i ds hj
    split at q
    · rename_i hst
      cases z : S.compL (S.nameO i) tt f k vs ds [] (η.set j .no) with
      | bad => simp only [z] at q; exact q.elim
      | exc c η2 => simp only [z] at q; exact q.elim
      | ok es0 η0 =>
        simp only [z] at q
        obtain ⟨v, hv, R1, ap⟩ := R.drop hj
        obtain ⟨y, ws, Fl, e1, e2, e3, e4⟩ := ap.own
        subst e1
        have nd := ap.nod
        rw [e3] at nd
        obtain ⟨yn, nd2⟩ := List.nodup_cons.mp nd
        obtain ⟨Fm, hl, o1, o2, o3, o4⟩ := feet_each e4 nd2
        have inF : ∀ m, ∀ a ∈ Fm m, a ∈ Fs j := fun m a ha => by rw [e3]; exact List.mem_cons_of_mem _ (o2 m a ha)
        have sub : ∀ w, foot (setF Fs j []) w → foot Fs w := fun w hw => by
          rcases foot_setF hw with z | ⟨i, _, z⟩
          · simp at z
          · exact ⟨i, z⟩
        have yF : y ∈ Fs j := by rw [e3]; exact List.mem_cons_self
        have yS : ¬ foot (setF Fs j []) y := fun z => ap.sep y yF z
        have hL := still_lents R1 hst
        refine ⟨.ref y, hv, y, rfl, ⟨ws, .inl (.inl e2)⟩, fun D hD => ?_⟩
        have nD1 : G D = none := R1.sub.free hD
        have nfD : ¬ foot Fs D := R.noFoot hD
        have yD : y ≠ D := fun z => by rw [← z, e2] at hD; cases hD
        obtain ⟨Fs2, R2, f2⟩ := R1.hide hL
        have up2 : ∀ a, foot Fs2 a → foot Fs a := fun a ha => sub a (f2 a ha)
        refine ⟨fun n m H2 => m = ds.length - n ∧ n ≤ ds.length ∧ ∃ G2 η2 Fs2 acc F, Rel L G2 (S.hide η2 vs) (wipe σ vs) H2 Fs2 ∧ Ext G H Fs G2 H2 Fs2 ∧ Apart G2 H2 Fs2 (k + 1) (.ref D) (.lst acc) F ∧ (∀ a ∈ F, foot Fs a ∨ H a = none) ∧ H2 y = some (.lst ws) ∧ ¬ foot Fs2 y ∧ y ∉ F ∧
          (∀ (m : Nat) (h : m < ws.length) (h2 : m < ds.length), n ≤ m → Apart G2 H2 Fs2 1 ws[m] ds[m] (Fm m) ∧ ∀ a ∈ Fm m, a ∉ F) ∧ S.compL (S.nameO i) tt f k vs (ds.drop n) acc η2 = .ok es0 η0,
          ⟨_, rfl, Nat.zero_le _, G, η.set j .no, Fs2, [], [D], R2.updN nD1 fun z => nfD (up2 D z), (Ext.refl.feet fun a ha => .inl (up2 a ha)).updN hD, ⟨⟨D, [], [], rfl, upd_same, rfl, .nil⟩, by simp, fun a ha => ?_, fun a ha => ?_⟩, fun a ha => ?_, ?_, fun z => yS (f2 y z), by simpa using yD, fun m h h2 _ => ?_, by rw [List.drop_zero]; exact z⟩, ?_⟩
        · have e : a = D := by simpa using ha
          subst e; exact nD1
        · have e : a = D := by simpa using ha
          subst e; exact fun z => nfD (up2 a z)
        · have e : a = D := by simpa using ha
          subst e; exact .inr hD
        · rw [upd_ne yD]; exact e2
        · have nD : ∀ a ∈ Fm m, a ≠ D := fun a ha z => nfD ⟨j, by rw [← z]; exact inF m a ha⟩
          refine ⟨⟨(o1 m h h2).mono (Sub.refl G) 1 fun a ha => upd_ne (nD a ha), o3 m, fun a ha => ap.dis a (inF m a ha), fun a ha z => ap.sep a (inF m a ha) (f2 a z)⟩, fun a ha z => nD a ha (by simpa using z)⟩
        · rintro n m H2 ⟨rfl, hn, G2, η2, Fs2, acc, F, R2, E2, x2, fr, hy, ny, yF2, aps, e2⟩
          have sq : SqL X.K H2 y ws := .inl (.inl hy)
          by_cases hlt : n < ds.length
          · have hlv : n < ws.length := by omega
            refine .inr ⟨⟨ws, ws[n], sq, by simp [hlv]⟩, fun H' => n + 1 ≤ ds.length ∧ ∃ G2 η2 Fs2 acc F, Rel L G2 (S.hide η2 vs) (wipe σ vs) H' Fs2 ∧ Ext G H Fs G2 H' Fs2 ∧ Apart G2 H' Fs2 (k + 1) (.ref D) (.lst acc) F ∧ (∀ a ∈ F, foot Fs a ∨ H a = none) ∧ H' y = some (.lst ws) ∧ ¬ foot Fs2 y ∧ y ∉ F ∧
              (∀ (m : Nat) (h : m < ws.length) (h2 : m < ds.length), n + 1 ≤ m → Apart G2 H' Fs2 1 ws[m] ds[m] (Fm m) ∧ ∀ a ∈ Fm m, a ∉ F) ∧ S.compL (S.nameO i) tt f k vs (ds.drop (n + 1)) acc η2 = .ok es0 η0,
              fun H' p => ⟨ds.length - (n + 1), by omega, rfl, p⟩, fun x H3 yx => ?_⟩
            obtain ⟨e, yy⟩ := yx
            subst e
            have ez : ws[n]? = some x := yy ws sq
            have ez : x = ws[n] := by rw [List.getElem?_eq_getElem hlv] at ez; exact (Option.some.inj ez).symm
            subst ez
            have ed : ds.drop n = ds[n] :: ds.drop (n + 1) := List.drop_eq_getElem_cons hlt
            rw [ed] at e2
            unfold S.compL at e2
            cases hs : S.stores i (S.hide η2 vs) with
            | false =>
              have : S.nameO i ds[n] (S.hide η2 vs) = .bad := by unfold S.nameO; rw [hs]; rfl
              simp only [this] at e2
              cases e2
            | true =>
              have zz : S.nameO i ds[n] (S.hide η2 vs) = .ok () ((S.hide η2 vs).set i (.val 1 false ds[n])) := by unfold S.nameO; rw [hs]; rfl
              simp only [zz] at e2
              obtain ⟨apn, djn⟩ := aps n hlv hlt (Nat.le_refl _)
              obtain ⟨Fs3, R3, f3⟩ := R2.stored apn hs fun _ _ => .inr (.inr trivial)
              have E3 : Ext G H Fs G2 H3 Fs3 := E2.feet fun a ha => by
                rcases f3 a ha with z | z
                · exact .inl ⟨j, inF n a z⟩
                · exact E2.f a z
              have ny3 : ¬ foot Fs3 y := fun z => by
                rcases f3 y z with z | z
                · exact yn (o2 n y z)
                · exact ny z
              have x3 : Apart G2 H3 Fs3 (k + 1) (.ref D) (.lst acc) F := ⟨x2.own, x2.nod, x2.dis, fun a ha z => by
                rcases f3 a z with z | z
                · exact djn a z ha
                · exact x2.sep a ha z⟩
              have aps3 : ∀ (m : Nat) (h : m < ws.length) (h2 : m < ds.length), n + 1 ≤ m → Apart G2 H3 Fs3 1 ws[m] ds[m] (Fm m) ∧ ∀ a ∈ Fm m, a ∉ F := fun m h h2 hm => by
                obtain ⟨p, pd⟩ := aps m h h2 (by omega)
                refine ⟨⟨p.own, p.nod, p.dis, fun a ha z => ?_⟩, pd⟩
                rcases f3 a z with z | z
                · have := o4 m n a ha z; omega
                · exact p.sep a ha z
              have hw : wipe ((wipe σ vs).set i (some ws[n])) vs = wipe σ vs := by
                rw [show wipe ((wipe σ vs).set i (some ws[n])) vs = wipe (wipe σ vs) vs from wipe_ext (by rw [List.length_set]) fun l hl => get_set_ne fun z => hl (by rw [z]; exact hiv), wipe_wipe]
              refine ⟨hw, G2, (S.hide η2 vs).set i (.val 1 false ds[n]), Fs3, R3, ?_⟩
              cases zt : tt ((S.hide η2 vs).set i (.val 1 false ds[n])) with
              | bad => simp only [zt] at e2; cases e2
              | exc c η4 => simp only [zt] at e2; cases e2
              | ok b η4 =>
                simp only [zt] at e2
                intro G5 H5 Fs5 R5 E5
                have E05 := E3.trans E5
                have x5 := x3.ext E5
                have y5 : H5 y = some (.lst ws) := E5.h y _ hy ny3
                have ny5 : ¬ foot Fs5 y := fun z => (E5.f y z).elim ny3 fun z => by rw [hy] at z; cases z
                have aps5 : ∀ (m : Nat) (h : m < ws.length) (h2 : m < ds.length), n + 1 ≤ m → Apart G5 H5 Fs5 1 ws[m] ds[m] (Fm m) ∧ ∀ a ∈ Fm m, a ∉ F := fun m h h2 hm => by
                  obtain ⟨p, pd⟩ := aps3 m h h2 hm
                  exact ⟨p.ext E5, pd⟩
                cases b with
                | false =>
                  simp only at e2
                  obtain ⟨Fs6, R6, f6⟩ := R5.hide (vs := vs) hL
                  rw [hw] at R6
                  refine ⟨hlt, G5, η4, Fs6, acc, F, R6, E05.feet fun a ha => E05.f a (f6 a ha), x5.feet f6, fr, y5, fun z => ny5 (f6 y z), yF2, fun m h h2 hm => ?_, e2⟩
                  obtain ⟨p, pd⟩ := aps5 m h h2 hm
                  exact ⟨p.feet f6, pd⟩
                | true =>
                  simp only at e2
                  refine ⟨G5, η4, Fs5, R5, ?_⟩
                  cases zf : f η4 with
                  | bad => simp only [zf] at e2; cases e2
                  | exc c η5 => simp only [zf] at e2; cases e2
                  | ok p η5 =>
                    simp only [zf] at e2
                    split at e2
                    · rename_i hp
                      obtain ⟨hp1, hp2⟩ := hp
                      intro G6 H6 Fs6 R6 E6 v Fv xv ov
                      rw [hp1] at xv
                      have x6 := x5.ext E6
                      have dj : ∀ a ∈ Fv, a ∉ F := fun a ha hF => by
                        rcases ov a ha with z | z
                        · exact x5.sep a hF z
                        · exact x5.there a hF z
                      have y6 : H6 y = some (.lst ws) := E6.h y _ y5 ny5
                      have ny6 : ¬ foot Fs6 y := fun z => (E6.f y z).elim ny5 fun z => by rw [y5] at z; cases z
                      have yv : y ∉ Fv := fun ha => by
                        rcases ov y ha with z | z
                        · exact ny5 z
                        · rw [y5] at z; cases z
                      obtain ⟨us, s1, s2, s3, s4, s5⟩ := x6.push xv dj
                      have E06 := E05.trans E6
                      obtain ⟨Fs7, R7, f7⟩ := R6.hide (vs := vs) hL
                      rw [hw] at R7
                      refine ⟨us, s1, by rw [s2]; exact hp2, hlt, G6, η5, Fs7, acc ++ [p.2], F ++ Fv, R7.updN s3 fun z => s4 (f7 D z), (E06.feet fun a ha => E06.f a (f7 a ha)).updN hD, s5.feet f7, fun a ha => ?_, ?_, fun z => ny6 (f7 y z), fun z => (List.mem_append.mp z).elim yF2 yv, fun m h h2 hm => ?_, e2⟩
                      · rcases List.mem_append.mp ha with z | z
                        · exact fr a z
                        · rcases ov a z with y | y
                          · exact E05.f a y
                          · exact .inr (E05.noneOf y)
                      · rw [upd_ne yD]; exact y6
                      · obtain ⟨p5, pd⟩ := aps5 m h h2 hm
                        have p6 := p5.ext E6
                        have DF : D ∈ F := by
                          obtain ⟨a, _, _, q1, _, q3, _⟩ := x6.own
                          cases q1
                          rw [q3]; exact List.mem_cons_self
                        refine ⟨⟨p6.own.mono (Sub.refl _) 1 fun a ha => upd_ne fun q => pd a ha (by rw [q]; exact DF), p6.nod, p6.dis, fun a ha z => p6.sep a ha (f7 a z)⟩, fun a ha z => ?_⟩
                        rcases List.mem_append.mp z with z | z
                        · exact pd a ha z
                        · rcases ov a z with z | z
                          · exact p5.sep a ha z
                          · exact p5.there a ha z
                    · cases e2
          · have ei : n = ds.length := by omega
            subst ei
            rw [List.drop_length] at e2
            cases e2
            have R9 := Rel.unhide R1 hst E2.g R2
            exact .inl ⟨⟨ws, sq, by omega⟩, q G2 H2 Fs2 R9 E2 (.ref D) F x2 fr⟩
    · exact q.elim
  · exact q.elim
theorem jf_lcM {elt : Expr} {ifs : List Expr} {scope : Scope} {own : List (Str × Nat)} {j k i : Nat} {x : Str} {px : Pos} {tt : ST} {f : SF} (hc : X.calm = true) (hN : X.N.Nodup) (hi : PE X it (tVar j)) (ok : BlkOk X.N X.env.scope scope own) (hv : own.map (·.2) = vs) (hiv : i ∈ vs)
    (hg : ∀ (s : Shared) (H : Hp) (C : Addr) (cl : List (Str × Addr)) (fp : List Addr), PG (X.blk s H scope (compEnvC scope cl C X.env) fp) (.Name x px) (gName i)) (ht : ∀ (s : Shared) (H : Hp) (C : Addr) (cl : List (Str × Addr)) (fp : List Addr), PTs (X.blk s H scope (compEnvC scope cl C X.env) fp) ifs (tT X.K L WN tt))
    (he : ∀ (s : Shared) (H : Hp) (C : Addr) (cl : List (Str × Addr)) (fp : List Addr), PE (X.blk s H scope (compEnvC scope cl C X.env) fp) elt (tF X.K L WN f)) (hs : ∀ x, foldedSetIterable it X.env x = pure x := by intro _; rfl) :
    PE X (.ListComp elt [⟨.Name x px, it, ifs, 0⟩] scope pos) (tF X.K L W (S.compM k vs j i tt f)) := by
  subst hv
  exact PE.imp (pe_lc hc hN (pi_list hi) ok hg ht he hs) fun σ H Q h => lcM_use hiv h
end
end DV

/-! DV52: list(d) of a dict whose keys are tuples. -/
namespace DV
open PySem PySem.Spec PyProof.Rows L2 RZ
def listA : List D → Option (Nat × D)
  | [.dT kvs] => some (1, .lst (kvs.map fun p => keyT p.1))
  | ds => listD ds
def rListT : List V → Hp → VK → Prop := fun xs H Q => ∃ (d : Addr) (kvs : List (List Key × V)), xs = [V.ref d] ∧ Rd H d (.dT kvs) ∧ ∀ (p : Addr) (bs : List Addr), H p = none → IsKeys H kvs bs → Q (.ref p) (upd H p (.lst (bs.map V.ref)))
def rListO (K : PySem.W.Frag) : List V → Hp → VK → Prop := fun xs H Q => ∃ p ys, xs = [.ref p] ∧ (SqL K H p ys ∨ SqT K H p ys) ∧ ∀ l, H l = none → Q (.ref l) (upd H l (.lst ys))
def rListA (K : PySem.W.Frag) : List V → Hp → VK → Prop := fun vs H Q => rListO K vs H Q ∨ rListT vs H Q
theorem cr_listA {X : Cx} (hc : X.calm = true) : CallR X (.type "list") (rListA X.K) := CallR.or' call_list_of (call_list_dT hc)
theorem keysT_tup {H : Hp} : ∀ {kvs : List (List Key × V)} {bs : List Addr}, IsKeys H kvs bs → ∀ c ∈ bs, ∃ xs, H c = some (.tup xs)
  | _, _, .nil, c, h => by simp at h
  | _, _, .cons r t, c, h => by
    rcases List.mem_cons.mp h with e | h
    · subst e; exact ⟨_, r⟩
    · exact keysT_tup t c h
theorem keysT_rep {H G : Hp} : ∀ {kvs : List (List Key × V)} {bs : List Addr}, IsKeys H kvs bs → (∀ b ∈ bs, G b = H b) → RepL G (bs.map V.ref) (kvs.map fun p => keyT p.1)
  | _, _, .nil, _ => .nil
  | _, _, .cons (a := a) r t, h => .cons (.tup ((h _ List.mem_cons_self).trans r) (keyVs_rep a.1)) (keysT_rep t fun b hb => h b (List.mem_cons_of_mem _ hb))
theorem cf_listA {K : PySem.W.Frag} : CallF (rListA K) listA := by
  intro G H vs ds k d Q s r h fin
  unfold listA at h
  split at h
  · rename_i kvs
    cases h
    obtain ⟨v, rfl, b⟩ := r.one
    obtain ⟨a, ws, rfl, h1, h2, h3⟩ := b.dT s
    have hk : (ws.map fun p => keyT p.1) = kvs.map fun p => keyT p.1 := by
      rw [show (ws.map fun p => keyT p.1) = (ws.map (·.1)).map keyT by rw [List.map_map]; rfl, h2, List.map_map]; rfl
    refine .inr ⟨a, ws, rfl, h1, fun p bs hp ik => ?_⟩
    have tp := keysT_tup ik
    have np : G p = none := s.free hp
    have nb' : p ∉ bs := fun hc => by
      obtain ⟨xs, hx⟩ := tp p hc
      rw [hp] at hx; cases hx
    have N : New G H (frz G H bs) (upd H p (.lst (bs.map V.ref))) := by
      refine ⟨learn s tp, upd_le hp, (frz_sub s).trans (upd_le hp).sub, fun c z => ?_⟩
      by_cases hc : c ∈ bs
      · obtain ⟨xs, hx⟩ := tp c hc
        exact .inr (by rw [hx]; trivial)
      · rw [frz_out hc] at z; exact .inl z
    have rl : RepL (frz G H bs) (bs.map V.ref) (ws.map fun p => keyT p.1) := keysT_rep ik fun b hb => frz_in hb
    rw [hk] at rl
    refine fin _ _ _ [p] N ⟨p, _, [], rfl, upd_same, rfl, OwnL.of0 rl⟩ (by simp) fun c hc => ?_
    have ec : c = p := by simpa using hc
    subst ec
    exact ⟨by rw [frz_out nb']; exact np, hp⟩
  · exact .inl (cf_list G H vs ds k d Q s r h fin)
@[simp] theorem v_listAL {ds : List D} : listA [.lst ds] = some (1, .lst ds) := rfl
@[simp] theorem v_listAT {ds : List D} : listA [.tup ds] = some (1, .lst ds) := rfl
theorem list_dI {kvs : List (List Int × D)} : listA [dI kvs] = some (1, .lst (kvs.map fun p => tupI p.1)) := by
  show some (1, D.lst ((kvs.map fun p => (keyI p.1, p.2)).map fun p => keyT p.1)) = _
  rw [List.map_map]
  congr 4
  funext p
  exact keyT_I p.1
end DV

/-! DV53: isinstance(x, (T, U)) and str(x) where x may be a dict whose keys are tuples. -/
namespace DV
open PySem PySem.Spec PyProof.Rows L2 RZ
/-! ### isinstance -/
def isiE (T : String) : D → Option Bool
  | .dT _ => kitB "dict" T
  | d => isiD T d
def S.isi2E (T U : String) (o : Opd) : SE := fun η => (o.pre η).bind fun p η1 => lift ((o.deep p η1).bind fun d => (isiE T d).bind fun a => (isiE U d).map fun b => D.bl (a || b)) η1
def TyE (K : PySem.W.Frag) (H : Hp) (x : V) (t : Value) : Prop := TyX K H x t ∨ ∃ (a : Addr) (ob : Obj) (kvs : List (List Key × V)), x = .ref a ∧ H a = some (.frz ob (.dT kvs)) ∧ t = .type "dict"
def rIsiTE (K : PySem.W.Frag) : List V → Hp → VK → Prop := fun xs H Q => ∃ (x : V) (tp : Addr) (cs : List V) (t : Value) (us : List Value) (b : Bool), xs = [x, .ref tp] ∧ H tp = some (.tup cs) ∧ Paired ClsV cs us ∧ TyE K H x t ∧ PySem.W.kitAny K t us = some b ∧ Q (.bl b) H
section
variable {X : Cx}
theorem kit_ofE {pins : List (Addr × Obj)} {σ : L2.St} {H : Hp} {s : Shared} {x : V} {u t : Value} (I : Inv X pins σ H s) (rx : RelV x u) (ty : TyE X.K H x t) : ∃ P : Heap → Prop, PySem.W.KitX X.K u t P ∧ P s.heap ∧ u ≠ .builtin "__main__.__loader__#opaque" := by
  rcases ty with ty | ⟨a, ob, kvs, rfl, ea, rfl⟩
  · exact kit_of I rx ty
  · cases (show u = Value.ref a from rx)
    obtain ⟨_, _, _, xs, _, o, es, ep, h1, h2, _⟩ := (show ObjOk X.prog X.w H s.heap a (.frz ob (.dT kvs)) from I.hok a _ ea)
    exact ⟨_, PySem.W.kitx_dict, ⟨o, h1, h2.1⟩, fun z => nomatch z⟩
theorem call_isiTE : CallR X (.builtin "isinstance") (rIsiTE X.K) := by
  intro pins s σ H xs us Q I r h
  obtain ⟨x, tp, cs, t, ws, b, rfl, hT, k, ty, e, q⟩ := h
  obtain ⟨u1, u2, rfl, r1, r2⟩ := vals2 r
  cases (show u2 = Value.ref tp from r2)
  obtain ⟨P, Z, p, hx⟩ := kit_ofE I r1 ty
  obtain ⟨_, its, rv, o, h1, h2, n, h3⟩ := (show ObjOk X.prog X.w H s.heap tp (.tup cs) from I.hok tp _ hT)
  have e3 := ClsV.all k rv
  subst e3
  obtain ⟨oc, od, dt, sl⟩ := o
  simp only at h2 h3
  subst h2 h3
  exact PySem.W.kia_tup Z I.kIn p h1 e hx fun tk => ⟨.bl b, H, I.tok tk, rfl, q⟩
end
theorem Rep.tyE {K : PySem.W.Frag} {H : Hp} {v : V} {d : D} {T : String} {b : Bool} (r : Rep H v d) (h : isiE T d = some b) : TyE K H v (.type (tyD d)) ∧ kitB (tyD d) T = some b := by
  cases r with
  | dT h1 h2 h3 =>
    rcases h1 with h1 | ⟨o, h1⟩
    · exact ⟨.inl (.base (.dT h1)), h⟩
    · exact ⟨.inr ⟨_, o, _, rfl, h1, rfl⟩, h⟩
  | non => exact ⟨.inl (.base .non), h⟩
  | bl b => exact ⟨.inl (.base (.bl b)), h⟩
  | int i => exact ⟨.inl (.base (.int i)), h⟩
  | str x => exact ⟨.inl (.base (.str x)), h⟩
  | tup h1 h2 => exact ⟨.inl (.base (.tup h1)), h⟩
  | lst h1 h2 =>
    rcases h1 with h1 | ⟨o, h1⟩
    · exact ⟨.inl (.base (.lst h1)), h⟩
    · exact ⟨.inl (.base (.frz h1)), h⟩
  | dK h1 h2 h3 =>
    rcases h1 with h1 | ⟨o, h1⟩
    · exact ⟨.inl (.base (.dK h1)), h⟩
    · exact ⟨.inl (.fDict h1), h⟩
section
variable {X : Cx} {L : Lents} {W : WX} {e a b c tg it : Expr} {es : List Expr} {pos : Pos} {ss : List Stmt}
theorem je_isi2E {o : Opd} {T U : String} {N M : Str} {p p3 pT pU : Pos} {kt : Nat} (ha : PE X a (tO X.K L W o)) (hg : Gl X "isinstance") (hm : X.mg "isinstance" = none) (hgT : Gl X N) (hmT : X.mg N = none) (hvT : bootBuiltins N = some (.type T)) (hgU : Gl X M) (hmU : X.mg M = none) (hvU : bootBuiltins M = some (.type U))
    (hnT : N ≠ "__name__" := by decide) (hdT : (N == ("__debug__" : Str)) = false := by decide) (hnU : M ≠ "__name__" := by decide) (hdU : (M == ("__debug__" : Str)) = false := by decide)
    (he : starEach (a :: [.Tuple [.Name N pT, .Name M pU] kt p3]) X.env = (false, eval a X.env) :: starEach [.Tuple [.Name N pT, .Name M pU] kt p3] X.env := by rfl) :
    PE X (.Call (.Name "isinstance" p) [a, .Tuple [.Name N pT, .Name M pU] kt p3] [] pos) (tE X.K L W (S.isi2E T U o)) := by
  refine PE.imp (pe_callB (call_isiTE (X := X)) hg hm (by decide +kernel) (pa_cons ha (pa_cons (pe_tup (pa_cons (pe_bltn (v := .ty T) hgT hmT hvT rfl hnT hdT) (pa_cons (pe_bltn (v := .ty U) hgU hmU hvU rfl hnU hdU) pa_nil))) pa_nil) he) (by decide) (by decide) he) fun σ H Q ⟨G, η, Fs, R, q⟩ => ?_
  refine tO_use R q fun v p η1 G1 H1 Fs1 R1 E1 k1 q1 => ?_
  obtain ⟨d, e, q3⟩ := q1.lift
  cases hx : o.deep p η1 with
  | none => rw [hx] at e; cases e
  | some x =>
    rw [hx] at e
    have e : ((isiE T x).bind fun a => (isiE U x).map fun b => D.bl (a || b)) = some d := e
    cases hb : isiE T x with
    | none => rw [hb] at e; cases e
    | some b1 =>
      cases hc : isiE U x with
      | none => rw [hb, hc] at e; cases e
      | some b2 =>
        rw [hb, hc] at e; cases e
        have rp := k1.rep R1 hx
        obtain ⟨t1, t2⟩ := rp.tyE (K := X.K) hb
        obtain ⟨_, t3⟩ := rp.tyE (K := X.K) hc
        refine ⟨(small_ok (by decide) : (2 : Nat) ≤ sizeLine), fun a ha => ?_⟩
        have up : Le H1 (upd H1 a (.tup [.ty T, .ty U])) := upd_le ha
        obtain ⟨t4, _⟩ := (rp.mono up.sub).tyE (K := X.K) hb
        refine ⟨v, a, [.ty T, .ty U], _, [.type T, .type U], (b1 || b2), rfl, upd_same, .cons (.ty T) (.cons (.ty U) .nil), t4, kitAny_cons (kit_ty t2) (fun hh => kitAny_cons (kit_ty t3) (fun hh2 => ?_) fun hh2 => ?_) (fun hh => ?_), ?_⟩
        · rw [hh, hh2]; exact kitAny_nil
        · rw [hh, hh2]; rfl
        · rw [hh]; rfl
        · exact q3 _ _ _ (R1.reH (R1.sub.trans up.sub) fun d hd => by
            obtain ⟨k, mm⟩ := hd
            obtain ⟨u, z, _⟩ := R1.mem mm
            rw [z]; exact up _ _ z) ⟨Le.refl _, fun d o z _ => up d o z, fun d z => .inl z, fun d z => .inl z, fun d z w => by
            cases z2 : H1 d with
            | none => exact z z2
            | some o => rw [up d o z2] at w; cases w⟩ _ (.bl _)
end
@[simp] theorem v_isi2E {T U : String} {o : Opd} {η : Env} : S.isi2E T U o η = (o.pre η).bind fun p η1 => lift ((o.deep p η1).bind fun d => (isiE T d).bind fun a => (isiE U d).map fun b => D.bl (a || b)) η1 := rfl
/-! ### str -/
def dtD (ks : List Int) (i : Int) : PyData := .dict [(.tuple (ks.map .int), .int i)]
def strY : List D → Option D
  | [.dT [(k, .int i)]] => match k with
    | [.inl a, .inl b, .inl c, .inl d] => if (dtD [a, b, c, d] i).showable = true ∧ (dtD [a, b, c, d] i).depth ≤ 16 ∧ (dtD [a, b, c, d] i).shown.length ≤ sizeLine then some (.str (dtD [a, b, c, d] i).shown) else none
    | _ => none
  | ds => strX ds
def rStrT : List V → Hp → VK → Prop := fun vs H Q => ∃ (a : Addr) (ks : List Int) (i : Int), vs = [.ref a] ∧ Rd H a (.dT [(keyI ks, .int i)]) ∧ (dtD ks i).showable = true ∧ (dtD ks i).depth ≤ 16 ∧ (dtD ks i).shown.length ≤ sizeLine ∧ Q (.str (dtD ks i).shown) H
theorem reads_ints {h : Heap} : ∀ {ks : List Int} {us : List Value}, Vals (ks.map V.int) us → ReadsAll h us (ks.map .int) []
  | [], _, .nil => .nil
  | k :: ks, _, .cons r t => by
    obtain ⟨tk, e⟩ := (show ∃ t, _ = Value.int k t from r)
    subst e
    exact .cons (.int k tk) (reads_ints t)
theorem kv_keyI (ks : List Int) : (keyI ks).map kV = ks.map V.int := by
  unfold keyI
  rw [List.map_map]; rfl
theorem cr_strT {X : Cx} (hg : X.A.guards = some []) (hu : X.A.units + 65 < cLine) : CallR X (.type "str") rStrT := by
  intro pins s σ H vs us Q I r h
  obtain ⟨a, ks, i, rfl, ha, hs, hd, hl, q⟩ := h
  obtain ⟨z, y, xs, rel, o, es, ep, h1, h2, h3, h4, h5⟩ := (show ObjOk X.prog X.w H s.heap a (.dT [(keyI ks, .int i)]) from ha.ok I.hok)
  rw [Vals.ref1 r]
  cases rel with
  | @cons p x ps xs hp t =>
    cases t
    obtain ⟨k1, k2, k3⟩ := hp
    obtain ⟨kk, b, v⟩ := x
    simp only at k1 k2 k3
    obtain ⟨tk, ev⟩ := (show ∃ t, v = Value.int i t from k3)
    subst ev
    obtain ⟨_, its, rv, ob, g1, g2, n, g3⟩ := (show ObjOk X.prog X.w H s.heap b (.tup ((keyI ks).map kV)) from I.hok b _ k2)
    rw [kv_keyI] at rv
    have rk : Reads s.heap (.ref b) (.tuple (ks.map .int)) [] := .tuple g1 g2 g3 (reads_ints (by simpa using rv))
    have ra : Reads s.heap (.ref a) (dtD ks i) (a :: ([] ++ []) ++ ([] ++ [])) := .dict h1 h2.1 h3 (by rw [h4]; exact .cons rk .nil) (by rw [h4]; exact .cons (.int i tk) .nil)
    exact str_of_reads ra hs (fun _ m => by
      have : sysModules = a := by simpa using m
      rw [← this] at y
      simp at y) hg (by show X.A.units + ((dtD ks i).depth + 3) < cLine; omega) (fun _ _ e => e) (fun h' u tk hk => ⟨.str (dtD ks i).shown, H, I.kept (t' := tk) hk, ⟨u, rfl⟩, q⟩) hl
def rStrY (K : PySem.W.Frag) : List V → Hp → VK → Prop := fun vs H Q => rStrX K vs H Q ∨ rStrT vs H Q
theorem cr_strY {X : Cx} (hg : X.A.guards = some []) (hu : X.A.units + 65 < cLine) : CallR X (.type "str") (rStrY X.K) := CallR.or' (cr_strX hg hu) (cr_strT hg hu)
theorem cd_strY {K : PySem.W.Frag} : CallD (rStrY K) strY := by
  intro H vs ds d Q rl e fin
  unfold strY at e
  split at e
  · rename_i k i
    split at e
    · rename_i a b c d'
      split at e <;> cases e
      rename_i hc
      cases rl with
      | cons r1 r2 =>
        cases r2
        cases r1 with
        | dT h1 h2 h3 =>
          rename_i vs0
          match vs0, h2, h3, h1 with
          | [(k0, v0)], h2, h3, h1 =>
            have hk : k0 = [.inl a, .inl b, .inl c, .inl d'] := by simpa using h2
            subst hk
            cases h3 with
            | cons r3 _ =>
              cases r3
              exact .inr ⟨_, [a, b, c, d'], i, rfl, h1, hc.1, hc.2.1, hc.2.2, fin _ fun G => .str _⟩
    · cases e
  · exact .inl (cd_strX H vs ds d Q rl e fin)
end DV

/-! DV54: dict(xs) of a list of pairs, a tuple of ints and texts and a value; each key once. -/
namespace DV
open PySem PySem.Spec PyProof.Rows L2 RZ
/-- where a pair stands, its key, what the key is, its value -/
structure PrAt where
  at' : Addr
  ka : Addr
  ks : List Key
  v : V
def rDictT (K : PySem.W.Frag) : List V → Hp → VK → Prop := fun xs H Q => ∃ (a : Addr) (ts : List PrAt), xs = [.ref a] ∧ SqL K H a (ts.map fun t => V.ref t.at') ∧ (∀ t ∈ ts, H t.at' = some (.tup [.ref t.ka, t.v]) ∧ H t.ka = some (.tup (t.ks.map kV))) ∧ (ts.map (·.ks)).Nodup ∧
  ∀ p, H p = none → Q (.ref p) (upd H p (.dT (ts.map fun t => (t.ks, t.v))))
theorem vals_pr {X : Cx} {pins : List (Addr × Obj)} {σ : L2.St} {H : Hp} {s : Shared} (I : Inv X pins σ H s) : ∀ {ts : List PrAt}, (∀ t ∈ ts, H t.at' = some (.tup [.ref t.ka, t.v]) ∧ H t.ka = some (.tup (t.ks.map kV))) →
    ∃ ps : List (List Key × Addr × Value), Paired (fun (t : PrAt) (q : List Key × Addr × Value) => t.ks = q.1 ∧ t.ka = q.2.1 ∧ RelV t.v q.2.2 ∧ IsTup s.heap t.at' #[.ref q.2.1, q.2.2]) ts ps
  | [], _ => ⟨[], .nil⟩
  | t :: ts, h => by
    obtain ⟨ps, r⟩ := vals_pr I (ts := ts) fun x hx => h x (List.mem_cons_of_mem _ hx)
    obtain ⟨h1, h2⟩ := h t List.mem_cons_self
    obtain ⟨_, its, rv, tp⟩ := (show ObjOk X.prog X.w H s.heap t.at' (.tup [.ref t.ka, t.v]) from I.hok _ _ h1)
    obtain ⟨u, y, ei, ru, ry⟩ := vals2 rv
    cases (show u = Value.ref t.ka from ru)
    subst ei
    exact ⟨(t.ks, t.ka, y) :: ps, .cons ⟨rfl, rfl, ry, tp⟩ r⟩
theorem stored_all {ps : List (List Key × Addr × Value)} : ∀ {acc : List (List Key × Addr × Value)}, ((acc ++ ps).map (·.1)).Nodup → storedAllH acc ps = acc ++ ps := by
  induction ps with
  | nil => intro acc _; rw [List.append_nil]; rfl
  | cons p ps ih =>
    intro acc nd
    have n0 : atKey acc p.1 = none := by
      unfold atKey
      rw [Option.map_eq_none_iff, List.find?_eq_none]
      intro x hx z
      have e : x.1 = p.1 := by simpa using z
      rw [List.map_append, List.nodup_append] at nd
      exact nd.2.2 x.1 (List.mem_map_of_mem hx) p.1 (by simp) e
    show storedAllH (storedH acc p.1 p.2.1 p.2.2) ps = _
    rw [storedH_new n0, ih (by rw [List.append_assoc]; exact nd), List.append_assoc]
    rfl
theorem paired_get {α β : Type} {F : α → β → Prop} : ∀ {l : List α} {m : List β}, Paired F l m → ∀ {i : Nat} {b : β}, m[i]? = some b → ∃ a, l[i]? = some a ∧ F a b
  | _, _, .nil, i, b, h => by simp at h
  | _, _, .cons r t, 0, b, h => ⟨_, rfl, by simp at h; rw [← h]; exact r⟩
  | _, _, .cons r t, i + 1, b, h => by
    obtain ⟨a, e, f⟩ := paired_get t (i := i) (b := b) (by simpa using h)
    exact ⟨a, by simpa using e, f⟩
theorem paired_len {α β : Type} {F : α → β → Prop} : ∀ {l : List α} {m : List β}, Paired F l m → l.length = m.length
  | _, _, .nil => rfl
  | _, _, .cons _ t => by rw [List.length_cons, List.length_cons, paired_len t]
theorem paired_keys {h : Heap} : ∀ {ts : List PrAt} {ps : List (List Key × Addr × Value)}, Paired (fun (t : PrAt) (q : List Key × Addr × Value) => t.ks = q.1 ∧ t.ka = q.2.1 ∧ RelV t.v q.2.2 ∧ IsTup h t.at' #[.ref q.2.1, q.2.2]) ts ps → ts.map (·.ks) = ps.map (·.1)
  | _, _, .nil => rfl
  | _, _, .cons r t => by rw [List.map_cons, List.map_cons, paired_keys t, r.1]
theorem paired_KT {H' : Hp} {h : Heap} : ∀ {ts : List PrAt} {ps : List (List Key × Addr × Value)}, Paired (fun (t : PrAt) (q : List Key × Addr × Value) => t.ks = q.1 ∧ t.ka = q.2.1 ∧ RelV t.v q.2.2 ∧ IsTup h t.at' #[.ref q.2.1, q.2.2]) ts ps →
    (∀ t ∈ ts, H' t.ka = some (.tup (t.ks.map kV))) → Paired (fun (p : List Key × V) (q : List Key × Addr × Value) => p.1 = q.1 ∧ H' q.2.1 = some (.tup (p.1.map kV)) ∧ RelV p.2 q.2.2) (ts.map fun t => (t.ks, t.v)) ps
  | _, _, .nil, _ => .nil
  | _, _, .cons r t, h => .cons ⟨r.1, by rw [← r.2.1]; exact h _ List.mem_cons_self, r.2.2.1⟩ (paired_KT t fun x hx => h x (List.mem_cons_of_mem _ hx))
theorem cr_dictT {X : Cx} (hc : X.calm = true) (hu : X.A.units + 65 < cLine) : CallR X (.type "dict") (rDictT X.K) := by
  intro pins s σ H xs us Q I r h
  obtain ⟨a, ts, rfl, hq, ht, nd, q⟩ := h
  rw [Vals.ref1 r]
  obtain ⟨ps, rel⟩ := vals_pr I ht
  obtain ⟨its, rv, pl, hz⟩ := I.list hq
  have ei := refs_at (ps := ts.map (·.at')) (us := its) (by rw [List.map_map]; exact rv)
  have hlen := paired_len rel
  rw [List.length_map] at hz
  have ok : PlainSeq "list" s.heap a its.toArray ∧ PairItems s.heap its.toArray (fun j => (ts[j]?.map (·.at')).getD 0) (ps.map fun q => (Value.ref q.2.1, q.2.2)) := by
    refine ⟨?_, by rw [ei]; simp [hlen], fun j k v hj => ?_⟩
    · obtain ⟨o, n, e1, e2, e3, e4⟩ := pl
      exact ⟨o, n, e1, e2, e3, e4⟩
    · rw [List.getElem?_map] at hj
      cases z : ps[j]? with
      | none => rw [z] at hj; cases hj
      | some q =>
        rw [z] at hj
        cases hj
        obtain ⟨t, e, f⟩ := paired_get rel z
        refine ⟨by rw [ei]; simp [e], ?_⟩
        show PairAt s.heap ((ts[j]?.map (·.at')).getD 0) _ _
        rw [e]
        obtain ⟨o, e1, e2, n, e3⟩ := f.2.2.2
        exact .inl ⟨o, e1, e2, n, e3⟩
  have kOk : ∀ x ∈ ps, ∃ t ∈ ts, t.ks = x.1 ∧ t.ka = x.2.1 := fun x hx => by
    obtain ⟨i, hi, e⟩ := List.mem_iff_getElem.mp hx
    obtain ⟨t, e2, f⟩ := paired_get rel (i := i) (b := x) (by rw [List.getElem?_eq_getElem hi, e])
    exact ⟨t, List.mem_of_getElem? e2, f.1, f.2.1⟩
  have ndp : (ps.map (·.1)).Nodup := by rw [← paired_keys rel]; exact nd
  refine call_dict_pairsH (knd := tupleKind (mixKind X.prog X.w)) (ps := ps) (n := (ps.map fun q => (Value.ref q.2.1, q.2.2)).length) (PairArg.list a its.toArray _ _) (I.ok.hd hc) (by show X.A.in1.in1.units < cLine; show X.A.units + 1 + 1 < cLine; omega) ok ⟨by simp, fun i key v hk => ?_⟩ (fun h' hk x hx => ?_) (by rw [List.length_map, ← hlen]; exact hz) fun h' tk hd' k => ?_
  · have hk : (ps.map fun q => (Value.ref q.2.1, q.2.2))[i]? = some (key, v) := hk
    rw [List.getElem?_map] at hk
    cases z : ps[i]? with
    | none => rw [z] at hk; cases hk
    | some q => rw [z] at hk; cases hk; exact ⟨q.1, q.2.1, rfl, rfl⟩
  · obtain ⟨t, htm, e1, e2⟩ := kOk x hx
    have := key_of I.hok (ht t htm).2
    rw [e1, e2] at this
    obtain ⟨o, items, n, g1, g2, g3, g4⟩ := this
    exact ⟨o, items, n, hk _ _ (fun z => by
      have := Heap.lt_size g1
      rw [z] at this
      exact Nat.lt_irrefl _ this) (by simp) g1, g2, g3, g4⟩
  · rw [stored_all (acc := []) (by simpa using ndp), List.nil_append] at hd'
    have hm : (s.heap.objs.size == sysModules) = false := beq_eq_false_iff_ne.mpr (Nat.ne_of_gt I.big)
    have hS : H s.heap.objs.size = none := I.hok.fresh (Nat.le_refl _)
    obtain ⟨o, es, ep, g1, g2, g3, g4, _, g6⟩ := hd'
    have kt := paired_KT (H' := upd H s.heap.objs.size (.dT (ts.map fun t => (t.ks, t.v)))) rel fun t htm => by
      rw [upd_ne fun z => by have := (ht t htm).2; rw [z, hS] at this; cases this]
      exact (ht t htm).2
    exact ⟨.ref s.heap.objs.size, upd H s.heap.objs.size (.dT (ts.map fun t => (t.ks, t.v))), I.laid (t' := tk) (fun b u e => k b u (by simp) e) (Nat.le_refl _) (show ObjOk X.prog X.w _ _ _ (.dT (ts.map fun t => (t.ks, t.v))) from ⟨by rw [List.length_map]; exact hz, hm, ps, kt, o, es, ep, g1, g2, g3, g4, g6⟩), rfl, q _ hS⟩
/-! ### meaning -/
def prsOf : List D → Option (List (List Key × D))
  | [] => some []
  | .tup [.tup ks, v] :: ds => (keysD ks).bind fun k => (prsOf ds).map ((k, v) :: ·)
  | _ => none
def dictD : List D → Option (Nat × D)
  | [.lst ds] => (prsOf ds).bind fun kvs => if (kvs.map (·.1)).Nodup then some (1, .dT kvs) else none
  | _ => none
theorem keys_of_rep {G : Hp} : ∀ {vs : List V} {ds : List D} {ks : List Key}, RepL G vs ds → keysD ds = some ks → vs = ks.map kV
  | _, _, ks, .nil, h => by cases h; rfl
  | _, _, ks, .cons (d := d) (ds := ds) r t, h => by
    have h : (keyD d).bind (fun k => (keysD ds).map (k :: ·)) = some ks := h
    cases hk : keyD d with
    | none => rw [hk] at h; cases h
    | some k =>
      cases hks : keysD ds with
      | none => rw [hk, hks] at h; cases h
      | some ks' =>
        rw [hk, hks] at h; cases h
        rw [List.map_cons, ← keys_of_rep t hks]
        congr 1
        cases d <;> first | (cases hk; done) | skip
        · cases hk; cases r; rfl
        · cases hk; cases r; rfl
theorem prs_rep {G H : Hp} (s : Sub G H) : ∀ {vs : List V} {ds : List D} {kvs : List (List Key × D)}, RepL G vs ds → prsOf ds = some kvs → ∃ ts : List PrAt, vs = (ts.map fun t => V.ref t.at') ∧ (∀ t ∈ ts, H t.at' = some (.tup [.ref t.ka, t.v]) ∧ H t.ka = some (.tup (t.ks.map kV))) ∧ ts.map (·.ks) = kvs.map (·.1) ∧ RepL G (ts.map (·.v)) (kvs.map (·.2))
  | _, _, _, .nil, h => by
    cases h
    exact ⟨[], rfl, fun t h => by simp at h, rfl, .nil⟩
  | _, _, kvs, .cons (d := d) (ds := ds) r t, h => by
    unfold prsOf at h
    split at h
    · rename_i e; cases e
    · rename_i ks v ds' e
      cases e
      cases hk : keysD ks with
      | none => rw [hk] at h; cases h
      | some k =>
        cases hp : prsOf ds with
        | none => rw [hk, hp] at h; cases h
        | some kvs' =>
          rw [hk, hp] at h; cases h
          obtain ⟨ts, e1, e2, e3, e4⟩ := prs_rep s t hp
          cases r with
          | @tup b ws _ h1 r1 =>
            cases r1 with
            | cons r2 r3 =>
              cases r3 with
              | @cons v1 _ _ _ r4 r5 =>
                cases r5
                cases r2 with
                | @tup c us _ h2 r6 =>
                  refine ⟨⟨b, c, k, v1⟩ :: ts, by rw [List.map_cons, e1], fun x hx => ?_, by rw [List.map_cons, List.map_cons, e3], .cons r4 e4⟩
                  rcases List.mem_cons.mp hx with rfl | hx
                  · refine ⟨s.tp _ _ h1, ?_⟩
                    have := s.tp _ _ h2
                    rw [keys_of_rep r6 hk] at this
                    exact this
                  · exact e2 x hx
    · cases h
theorem cf_dict {K : PySem.W.Frag} : CallF (rDictT K) dictD := by
  intro G H vs ds k d Q s r h fin
  unfold dictD at h
  split at h
  · rename_i es
    cases hp : prsOf es with
    | none => rw [hp] at h; cases h
    | some kvs =>
      rw [hp] at h
      have h : (if (kvs.map (·.1)).Nodup then some (1, D.dT kvs) else none) = some (k, d) := h
      split at h <;> cases h
      rename_i nd
      obtain ⟨v, rfl, b⟩ := r.one
      obtain ⟨a, ws, rfl, h1, r1⟩ := b.lst s
      obtain ⟨ts, e1, e2, e3, e4⟩ := prs_rep s r1 hp
      refine ⟨a, ts, rfl, by rw [← e1]; exact .inl h1, e2, by rw [e3]; exact nd, fun p hp => ?_⟩
      have np : G p = none := s.free hp
      have N : New G H G (upd H p (.dT (ts.map fun t => (t.ks, t.v)))) := ⟨Le.refl G, upd_le hp, s.trans (upd_le hp).sub, fun c z => .inl z⟩
      refine fin _ _ _ [p] N ⟨p, _, [], rfl, upd_same, rfl, by rw [List.map_map]; exact e3, OwnL.of0 (by rw [List.map_map]; exact e4)⟩ (by simp) fun c hc => ?_
      have ec : c = p := by simpa using hc
      subst ec
      exact ⟨np, hp⟩
  · cases h
end DV

/-! DV55: list(d.values()) and sorted(d.items()) of a dict with tuples as keys that is read where it stands. -/
namespace DV
open PySem PySem.Spec PyProof.Rows L2 RZ
open L2.DX (itemsO takeT pget itemsO_ok)
open PySem.W (EachIs dataLe)
section
variable {X : Cx} {o : Expr} {to : TE} {name : Str} {apos cpos : Pos} {id : String} {r : V → List V → Hp → VK → Prop}
/-- a method without arguments of a dict, read where it stands -/
theorem pe_dm0 (slot : PySem.Slot "dict" name id) (hty : typeOf (.builtin id) = pure (.type "method_descriptor")) (hm : MtR X id r) (ho : PE X o to)
    (hbase : attributeBase o name X.env (eval o X.env) = eval o X.env := by rfl) (hline : (apos.endLine == cpos.line) = true := by rfl) : PE X (.Call (.Attribute o name apos) [] [] cpos) (fun σ H Q => to σ H fun x H1 => (∃ a, x = .ref a ∧ IsD H1 a) ∧ r x [] H1 Q) := by
  refine ⟨fun pins s σ H Q I h => ?_⟩
  refine wpAny_Call_method0_late hbase hline (thn (ho.run pins s σ H _ I h) fun v s1 ⟨x, H1, I1, r1, ⟨a, ea, ty⟩, q1⟩ => ?_)
  subst ea
  cases r1
  obtain ⟨h1, h2, _⟩ := isD_at I1 ty
  exact ⟨"dict", id, PySem.F.plainAttrs_dict, slot, hty, h1, h2, Calls.callWith_builtin rfl (PySem.evalArgs_none (hm pins s1 σ H1 (.ref a) [] (.ref a) [] Q I1 rfl .nil q1))⟩
/-- the view d.values() at p -/
def valuesO (p d : Addr) : HO := .ext fun h => h.IsValuesView p d
theorem valuesO_ok {P : Program} {w : World} {H : Hp} {h : Heap} {p d : Addr} (e : h.get? p = some { cls := .type "dict_values", data := .fields #[.ref d] }) : ObjOk P w H h p (valuesO p d) :=
  ⟨⟨_, e, rfl, rfl⟩, ⟨_, e⟩, fun h1 h2 x k => let ⟨o, ho, r⟩ := x; ⟨o, k o ho, r⟩⟩
def rValsT : V → List V → Hp → VK → Prop := fun x xs H Q => ∃ (a : Addr) (kvs : List (List Key × V)), x = .ref a ∧ xs = [] ∧ Rd H a (.dT kvs) ∧ ∀ p, H p = none → Q (.ref p) (upd H p (valuesO p a))
theorem mt_valsT : MtR X "dict.values" rValsT := by
  intro pins s σ H x xs v us Q I rx rxs h
  obtain ⟨a, kvs, rfl, rfl, ha, q⟩ := h
  cases rx
  cases rxs
  obtain ⟨z, hd, xs', rel, o, es, ep, ho, hx, hdat, _⟩ := dt_rd I.hok ha
  refine call_meetsIn PySem.F.slot_dict_values ⟨o, ho, hx.1⟩ PySem.F.entry_dict_values (PySem.F.args_dict_values_1 _) (meets_dict_values_raw a hd) ⟨⟨es, ep, o, ho, hx, hdat⟩, ?_⟩
  have hf : H s.heap.objs.size = none := I.hok.fresh (Nat.le_refl _)
  exact ⟨.ref s.heap.objs.size, upd H s.heap.objs.size (valuesO s.heap.objs.size a), I.laid (t' := s.toks) (fun b u e => Heap.get?_push_of_some _ e) (Nat.le_refl _) (valuesO_ok (Heap.get?_push_size _ rfl)), rfl, q _ hf⟩
def rItemsO : V → List V → Hp → VK → Prop := fun x xs H Q => ∃ (a : Addr) (kvs : List (List Key × V)), x = .ref a ∧ xs = [] ∧ Rd H a (.dT kvs) ∧ ∀ p, H p = none → Q (.ref p) (upd H p (itemsO p a))
theorem mt_itemsO : MtR X "dict.items" rItemsO := by
  intro pins s σ H x xs v us Q I rx rxs h
  obtain ⟨a, kvs, rfl, rfl, ha, q⟩ := h
  cases rx
  cases rxs
  obtain ⟨z, hd, xs', rel, o, es, ep, ho, hx, hdat, _⟩ := dt_rd I.hok ha
  refine DT.callItems (es := es) (ep := ep) hd ⟨o, ho, hx, hdat⟩ ?_
  have hf : H s.heap.objs.size = none := I.hok.fresh (Nat.le_refl _)
  exact ⟨.ref s.heap.objs.size, upd H s.heap.objs.size (itemsO s.heap.objs.size a), I.laid (t' := s.toks) (fun b u e => Heap.get?_push_of_some _ e) (Nat.le_refl _) (itemsO_ok (Heap.get?_push_size _ rfl)), rfl, q _ hf⟩
theorem KT_vals {H : Hp} : ∀ {kvs : List (List Key × V)} {xs : List (List Key × Addr × Value)}, KT H kvs xs → Vals (kvs.map (·.2)) (xs.map (·.2.2))
  | _, _, .nil => .nil
  | _, _, .cons h t => .cons h.2.2 (KT_vals t)
def rListV : List V → Hp → VK → Prop := fun vs H Q => ∃ (p a : Addr) (kvs : List (List Key × V)), vs = [V.ref p] ∧ H p = some (valuesO p a) ∧ Rd H a (.dT kvs) ∧ ∀ l, H l = none → Q (.ref l) (upd H l (.lst (kvs.map (·.2))))
theorem cr_listV (hc : X.calm = true) : CallR X (.type "list") rListV := by
  intro pins s σ H xs us Q I r h
  obtain ⟨p, a, kvs, rfl, hp, ha, q⟩ := h
  obtain rfl := Vals.ref1 r
  have view : s.heap.IsValuesView p a := (show ObjOk X.prog X.w H s.heap p (valuesO p a) from I.hok p _ hp).1
  obtain ⟨z, hd, ks, pr, o, es, ep, ho, hx, hdt, he, _, hn⟩ := dt_rd I.hok ha
  have l1 : es.size = ks.length := size_of_entries he
  have l2 : kvs.length = ks.length := Paired.length pr
  refine PySem.W.kdl_call (KdlSrc.rawValues (r := p) (d := a) (es := es) (ep := ep)) (I.ok.hd hc) ⟨view, o, ho, hx, hdt⟩ (by omega) fun h' tk acc' c' kp e it => ?_
  have ea : acc'.toList = ks.map fun x => x.2.2 := by
    have hl : acc'.toList.length = ks.length := by rw [Array.length_toList, it.1]; exact l1
    apply List.ext_getElem?
    intro j
    rw [List.getElem?_map]
    cases hj : acc'.toList[j]? with
    | none =>
      have h1 := List.getElem?_eq_none_iff.mp hj
      rw [List.getElem?_eq_none (by omega)]
      all_goals rfl
    | some v =>
      obtain ⟨hi, hv⟩ := it.2 j v (by rw [← Array.getElem?_toList]; exact hj)
      have qe := entry_at he j
      rw [Array.getElem?_eq_getElem hi] at qe
      cases hb : ks[j]? with
      | none =>
        rw [hb] at qe
        exact nomatch (show some es[j] = none from qe)
      | some b =>
        rw [hb] at qe
        have e2 : es[j] = entryOfKey (tupleKind (mixKind X.prog X.w)) b := Option.some.inj qe
        rw [hv, e2]
        all_goals rfl
  have rv : Vals (kvs.map (·.2)) acc'.toList := by rw [ea]; exact KT_vals pr
  have hz : (kvs.map (·.2)).length ≤ sizeLine := by rw [List.length_map]; omega
  refine ⟨.ref s.heap.objs.size, _, I.laid (t' := tk) (o := .lst (kvs.map (·.2))) kp (Nat.le_refl _) ?_, rfl, q _ (I.hok.fresh (Nat.le_refl _))⟩
  exact ⟨hz, acc'.toList, c', rv, by rw [Array.toArray_toList]; exact e⟩
end
namespace S
def valsL (oa : Opd) : SF := fun η => (oa.pre η).bind fun p η1 => match oa.fin p η1 with
  | some (.dT kvs) => .ok (1, .lst (kvs.map (·.2))) η1
  | _ => .bad
end S
section
variable {X : Cx} {L : Lents} {W : WX} {o : Expr} {oa : Opd} {p1 apos cpos pos : Pos}
theorem jf_valsL (hc : X.calm = true) (hg : Gl X "list") (hm : X.mg "list" = none) (ho : PE X o (tO X.K L W oa)) (hbase : attributeBase o "values" X.env (eval o X.env) = eval o X.env := by rfl) (hline : (apos.endLine == cpos.line) = true := by rfl)
    (he : starEach [.Call (.Attribute o "values" apos) [] [] cpos] X.env = (false, eval (.Call (.Attribute o "values" apos) [] [] cpos) X.env) :: starEach [] X.env := by rfl) :
    PE X (.Call (.Name "list" p1) [.Call (.Attribute o "values" apos) [] [] cpos] [] pos) (tF X.K L W (S.valsL oa)) := by
  refine PE.imp (pe_callTy (cr_listV hc) hg hm (by decide +kernel) (pa_cons (pe_dm0 PySem.F.slot_dict_values PySem.F.type_dict_values mt_valsT ho hbase hline) pa_nil he) (by decide) (by decide) he (by rfl)) fun σ H Q ⟨G, η, Fs, R, q⟩ => ?_
  refine tO_use R q fun v p η1 G1 H1 Fs1 R1 E1 k1 q1 => ?_
  cases hx : oa.fin p η1 with
  | none => simp only [hx] at q1; exact q1.elim
  | some x =>
    cases x <;> first | (simp only [hx] at q1; exact q1.elim) | skip
    rename_i kvs
    simp only [hx] at q1
    obtain ⟨a, vs, rfl, ha, hk, rl⟩ := (k1.bor R1 hx).dT R1.sub
    refine ⟨⟨a, rfl, .inr ⟨_, ha⟩⟩, a, vs, rfl, rfl, ha, fun pv hpv => ?_⟩
    refine ⟨pv, a, vs, rfl, upd_same, (upd_le hpv).sub.rd _ _ ha, fun l hl => ?_⟩
    have hl1 : H1 l = none := by
      by_cases w : l = pv
      · rw [w, upd_same] at hl; cases hl
      · rw [upd_ne w] at hl; exact hl
    have le2 : Le H1 (upd (upd H1 pv (valuesO pv a)) l (.lst (vs.map (·.2)))) := fun b o z => upd_le hl b o (upd_le hpv b o z)
    have N : New G1 H1 G1 (upd (upd H1 pv (valuesO pv a)) l (.lst (vs.map (·.2)))) := ⟨Le.refl _, le2, R1.sub.trans le2.sub, fun c z => .inl z⟩
    have ap2 : Apart G1 (upd (upd H1 pv (valuesO pv a)) l (.lst (vs.map (·.2)))) Fs1 1 (.ref l) (.lst (kvs.map (·.2))) [l] := ⟨⟨l, _, [], rfl, upd_same, rfl, OwnL.of0 rl⟩, by simp, fun c hc => by rw [List.mem_singleton.mp hc]; exact R1.sub.free hl1, fun c hc => by rw [List.mem_singleton.mp hc]; exact R1.noFoot hl1⟩
    exact q1 G1 _ Fs1 (R1.new N) N.ext (.ref l) [l] ap2 fun c hc => .inr (by rw [List.mem_singleton.mp hc]; exact E1.noneOf hl1)
@[simp] theorem v_valsL {η : Env} : S.valsL oa η = (oa.pre η).bind fun p η1 => (match oa.fin p η1 with
  | some (.dT kvs) => .ok (1, .lst (kvs.map (·.2))) η1
  | _ => .bad : Out (Nat × D)) := rfl
end
/-! ### sorted(d.items()) -/
def rSortItO : List V → Hp → VK → Prop := fun vs H Q => ∃ (p a : Addr) (ks : List (List Key × Int)), vs = [V.ref p] ∧ H p = some (itemsO p a) ∧ Rd H a (.dT (ks.map fun e => (e.1, V.int e.2))) ∧ sortOk (ks.map pairT) = true ∧
  ∀ (H' : Hp) (l : Addr) (bs : List ((List Key × Int) × Addr)), bs.map (·.1) = ks → (∀ b o, H b = some o → H' b = some o) → H l = none → H' l = some (.lst ((bs.mergeSort fun x y => leDat (pairT x.1) (pairT y.1)).map fun b => V.ref b.2)) →
    (∀ b ∈ bs, H b.2 = none ∧ b.2 ≠ l ∧ ∃ q, H q = some (.tup (b.1.1.map kV)) ∧ H' b.2 = some (.tup [.ref q, .int b.1.2])) → Q (.ref l) H'
section
variable {X : Cx}
theorem cr_sortItO (hc : X.calm = true) (hu : X.A.units + 65 < cLine) : CallR X (.builtin "sorted") rSortItO := by
  intro pins s σ H xs us Q I r h
  obtain ⟨p, a, ks, rfl, hp, ha, hso, q⟩ := h
  obtain rfl := Vals.ref1 r
  have view : s.heap.IsItemsView p a := (show ObjOk X.prog X.w H s.heap p (itemsO p a) from I.hok p _ hp).1
  obtain ⟨z, hd, xs', rel, o, es, ep, ho, hx, hdat, hes, his, hn⟩ := dt_rd I.hok ha
  have l1 : ks.length = xs'.length := by
    have e := Paired.length rel
    rw [List.length_map] at e; exact e
  have l2 : es.size = xs'.length := size_of_entries hes
  rw [List.length_map] at z
  refine DT.sortedI (es := es) (ep := ep) (I.ok.hd hc) view ⟨o, ho, hx, hdat⟩ (by omega) fun h' tk as hk hlt hl hG => ?_
  have lak : as.length = ks.length := by omega
  have nd : as.Nodup := List.Pairwise.imp (fun h => Nat.ne_of_lt h) hG.rise
  have m1 : (ks.zip as).map (·.1) = ks := List.map_fst_zip (by omega)
  have m2 : (ks.zip as).map (·.2) = as := List.map_snd_zip (by omega)
  generalize hbs : ks.zip as = bs at m1 m2
  have lb : bs.length = ks.length := by rw [← m1, List.length_map]
  -- the pairs that were made
  have pr : ∀ b ∈ bs, ∃ (kq : Addr) (t : Tok), H kq = some (.tup (b.1.1.map kV)) ∧ h'.get? b.2 = some { cls := .type "tuple", data := .seq #[Value.ref kq, Value.int b.1.2 t] } := by
    intro b hb
    obtain ⟨j, hj⟩ := List.mem_iff_getElem?.mp hb
    rw [← hbs] at hj
    obtain ⟨k1, k2⟩ := List.getElem?_zip_eq_some.mp hj
    obtain ⟨en, he, hg⟩ := hG.pairs j b.2 k2
    rw [entry_at hes j] at he
    cases hxj : xs'[j]? with
    | none => rw [hxj] at he; exact nomatch (show (none : Option DictEntry) = some en from he)
    | some x =>
      rw [hxj] at he
      have een : entryOfKey (tupleKind (mixKind X.prog X.w)) x = en := Option.some.inj he
      obtain ⟨e0, he0, r1, r2, r3⟩ := pget rel hxj
      rw [List.getElem?_map, k1] at he0
      have ee : ((b.1.1, V.int b.1.2) : List Key × V) = e0 := Option.some.inj he0
      rw [← ee] at r2 r3
      obtain ⟨t, r3⟩ := r3
      refine ⟨x.2.1, t, r2, ?_⟩
      rw [hg, ← een, ← r3]
      rfl
  have above : ∀ b ∈ bs, s.heap.objs.size < b.2 := fun b hb => hG.above b.2 (by rw [← m2]; exact List.mem_map_of_mem hb)
  have I1 : Inv X pins σ H { s with heap := h', toks := tk } := I.kept hk
  have cover : ∀ c ∈ as, ∃ b ∈ bs, b.2 = c := fun c hc => by
    rw [← m2] at hc
    obtain ⟨b, hb, e⟩ := List.mem_map.mp hc
    exact ⟨b, hb, e⟩
  obtain ⟨H2, I2, grow, took⟩ := takeT (P := fun c vs => ∀ b ∈ bs, b.2 = c → ∃ kq, H kq = some (.tup (b.1.1.map kV)) ∧ vs = [.ref kq, .int b.1.2]) I as H I1 nd fun c hc => by
    obtain ⟨b, hb, rfl⟩ := cover c hc
    obtain ⟨kq, t, hq, hg⟩ := pr b hb
    refine ⟨Nat.le_of_lt (above b hb), I.hok.fresh (Nat.le_of_lt (above b hb)), [.ref kq, .int b.1.2], fun b' hb' e => ?_, fun H3 => ⟨by show 2 ≤ sizeLine; rw [sizeLine_eq]; decide, [Value.ref kq, Value.int b.1.2 t], .cons rfl (.cons ⟨t, rfl⟩ .nil), ⟨_, hg, rfl, 0, rfl⟩⟩⟩
    have same : b' = b := by
      obtain ⟨i, hi⟩ := List.mem_iff_getElem?.mp hb'
      obtain ⟨j, hj⟩ := List.mem_iff_getElem?.mp hb
      rw [← hbs] at hi hj
      have i2 := (List.getElem?_zip_eq_some.mp hi).2
      have j2 := (List.getElem?_zip_eq_some.mp hj).2
      rw [e] at i2
      have eij : i = j := (List.getElem?_inj (List.getElem?_eq_some_iff.mp i2).1 nd).mp (i2.trans j2.symm)
      subst eij
      exact Option.some.inj (hi.symm.trans hj)
    subst same
    exact ⟨kq, hq, rfl⟩
  have tp : ∀ b ∈ bs, ∃ kq, H kq = some (.tup (b.1.1.map kV)) ∧ H2 b.2 = some (.tup [.ref kq, .int b.1.2]) := fun b hb => by
    obtain ⟨vs, hP, hH⟩ := took b.2 (by rw [← m2]; exact List.mem_map_of_mem hb)
    obtain ⟨kq, hq, e⟩ := hP b hb rfl
    exact ⟨kq, hq, by rw [hH, e]⟩
  -- the sort
  have ho2 : sortOk (bs.map fun b => pairT b.1) = true := by
    have : (bs.map fun b => pairT b.1) = ks.map pairT := by rw [← m1, List.map_map]; rfl
    rw [this]; exact hso
  obtain ⟨p1, p2, p3⟩ := sort_premises ho2
  have rd : ∀ b ∈ bs, ∃ rs, Reads h' (.ref b.2) (py (pairT b.1)) rs := fun b hb => by
    obtain ⟨kq, hq, e⟩ := tp b hb
    have rp : Rep H2 (.ref b.2) (pairT b.1) := .tup e (.cons (.tup (grow _ _ hq) (keyVs_rep b.1.1)) (.cons (.int _) .nil))
    have ok : okD 16 (pairT b.1) = true := by
      unfold sortOk at ho2
      rw [Bool.and_eq_true] at ho2
      exact List.all_eq_true.mp ho2.2 _ (List.mem_map_of_mem hb)
    exact Dp.reads I2 _ _ _ (rp.dp 16 _ _ ok) rfl
  have hoL : (h'.push { cls := .type "list", data := .seq (as.map Value.ref).toArray }).get? h'.objs.size = some (seqObj "list" (as.map Value.ref).toArray 0) := Heap.get?_push_size _ rfl
  have ea : as.map Value.ref = bs.map fun b => Value.ref b.2 := by rw [← m2, List.map_map]; rfl
  have e1 : EachIs (fun u (b : (List Key × Int) × Addr) => u = Value.ref b.2) (as.map Value.ref) bs := by
    rw [ea]
    have gen : ∀ l : List ((List Key × Int) × Addr), EachIs (fun u (b : (List Key × Int) × Addr) => u = Value.ref b.2) (l.map fun b => Value.ref b.2) l := fun l => by
      induction l with
      | nil => exact .nil
      | cons b l ih => exact .cons rfl ih
    exact gen bs
  have e2 : EachIs (fun u (b : (List Key × Int) × Addr) => ∃ rs, Reads (h'.push { cls := .type "list", data := .seq (as.map Value.ref).toArray }) u (py (pairT b.1)) rs ∧ h'.objs.size ∉ rs) (as.map Value.ref) bs := by
    have : ∀ (l : List ((List Key × Int) × Addr)) (us : List Value), (∀ b ∈ l, b ∈ bs) → EachIs (fun u (b : (List Key × Int) × Addr) => u = Value.ref b.2) us l → EachIs (fun u (b : (List Key × Int) × Addr) => ∃ rs, Reads (h'.push { cls := .type "list", data := .seq (as.map Value.ref).toArray }) u (py (pairT b.1)) rs ∧ h'.objs.size ∉ rs) us l := by
      intro l us hl e
      induction e with
      | nil => exact .nil
      | @cons u b us l hu t ih =>
        refine .cons ?_ (ih fun x hx => hl x (List.mem_cons_of_mem _ hx))
        obtain ⟨rs, ra⟩ := rd b (hl b List.mem_cons_self)
        subst hu
        refine ⟨rs, PyProof.Rows.Reads.keeps (fun _ _ q => Heap.get?_push_of_some _ q) ra, fun hm => ?_⟩
        obtain ⟨ob, hob⟩ := PyProof.On.reads_mem_get ra _ hm
        exact absurd (Heap.lt_size hob) (Nat.lt_irrefl _)
    exact this bs _ (fun _ h => h) e1
  refine PySem.W.list_sort_data (A := X.A.in1) (s := { s with heap := h'.push { cls := .type "list", data := .seq (as.map Value.ref).toArray }, toks := tk }) hoL e1 e2 p1 p2 (by omega) (fun b hb => ?_) fun out hout ho => ?_
  · have := p3 b hb
    show X.A.units + 1 + 1 + _ < _
    omega
  · obtain ⟨e', he'⟩ := PyProof.Rows.sortedHeap_at (vs := as.map Value.ref) (out := List.toArray out) hoL
    have hle : (fun x y : (List Key × Int) × Addr => leDat (pairT x.1) (pairT y.1)) = dataLe false fun b : (List Key × Int) × Addr => py (pairT b.1) := by
      funext x y; rfl
    have rv : Vals ((bs.mergeSort fun x y => leDat (pairT x.1) (pairT y.1)).map fun b => V.ref b.2) out := by
      rw [hle]
      clear hout he'
      generalize (bs.mergeSort (dataLe false fun b : (List Key × Int) × Addr => py (pairT b.1))) = l at ho
      induction ho with
      | nil => exact .nil
      | cons h t ih => exact .cons h ih
    have fr := I2.hok.fresh (Nat.le_refl h'.objs.size)
    have kept : ∀ b o, h'.get? b = some o → (sortedHeap (h'.push { cls := .type "list", data := .seq (as.map Value.ref).toArray }) h'.objs.size (as.map Value.ref) (List.toArray out)).get? b = some o := fun b o e => by
      have hb : b < h'.objs.size := Heap.lt_size e
      rw [PyProof.Rows.sortedHeap_old (Nat.ne_of_lt hb) (by rw [size_push']; exact Nat.lt_succ_of_lt hb)]
      exact Heap.get?_push_of_some _ e
    refine ⟨.ref h'.objs.size, upd H2 h'.objs.size (.lst ((bs.mergeSort fun x y => leDat (pairT x.1) (pairT y.1)).map fun b => V.ref b.2)), I2.laid (t' := tk) (fun b u e => kept b u e) (Nat.le_refl _) ⟨?_, out, e', rv, he'⟩, rfl, ?_⟩
    · rw [List.length_map, (List.mergeSort_perm bs _).length_eq, lb]; omega
    · refine q _ _ bs m1 (fun b o e => ?_) (I.hok.fresh (Nat.le_of_lt hlt)) upd_same fun b hb => ?_
      · rw [upd_ne (fun w => by rw [w, I.hok.fresh (Nat.le_of_lt hlt)] at e; cases e)]
        exact grow b o e
      · obtain ⟨kq, hq, e⟩ := tp b hb
        have ne : b.2 ≠ h'.objs.size := fun w => by rw [w] at e; rw [fr] at e; cases e
        exact ⟨I.hok.fresh (Nat.le_of_lt (above b hb)), ne, kq, hq, by rw [upd_ne ne]; exact e⟩
end
theorem intKV_rep {G : Hp} : ∀ {kvs : List (List Key × D)} {vs : List (List Key × V)} {ks : List (List Key × Int)}, intKV kvs = some ks → vs.map (·.1) = kvs.map (·.1) → RepL G (vs.map (·.2)) (kvs.map (·.2)) → vs = ks.map fun e => (e.1, V.int e.2)
  | [], [], _, e, _, _ => by cases e; rfl
  | [], _ :: _, _, _, e, _ => by cases e
  | _ :: _, [], _, _, e, _ => by cases e
  | (k, d) :: kvs, (k', v) :: vs, ks, e, e1, o => by
    cases d with
    | int i =>
      unfold intKV at e
      cases q : intKV kvs with
      | none => rw [q] at e; cases e
      | some r =>
        rw [q] at e
        cases e
        simp only [List.map_cons, List.cons.injEq] at e1 o
        cases o with
        | cons h t =>
          cases h
          rw [intKV_rep q e1.2 t, e1.1]
          rfl
    | _ => unfold intKV at e; cases e
namespace S
def sortItO (oa : Opd) : SF := fun η => (oa.pre η).bind fun p η1 => match oa.fin p η1 with
  | some (.dT kvs) => match intKV kvs with
    | some ks => if sortOk (ks.map pairT) = true then .ok (1, .lst ((ks.map pairT).mergeSort leDat)) η1 else .bad
    | none => .bad
  | _ => .bad
end S
section
variable {X : Cx} {L : Lents} {W : WX} {o : Expr} {oa : Opd} {p1 apos cpos pos : Pos}
theorem jf_sortItO (hc : X.calm = true) (hu : X.A.units + 65 < cLine) (hg : Gl X "sorted") (hm : X.mg "sorted" = none) (ho : PE X o (tO X.K L W oa)) (hbase : attributeBase o "items" X.env (eval o X.env) = eval o X.env := by rfl) (hline : (apos.endLine == cpos.line) = true := by rfl)
    (he : starEach [.Call (.Attribute o "items" apos) [] [] cpos] X.env = (false, eval (.Call (.Attribute o "items" apos) [] [] cpos) X.env) :: starEach [] X.env := by rfl) :
    PE X (.Call (.Name "sorted" p1) [.Call (.Attribute o "items" apos) [] [] cpos] [] pos) (tF X.K L W (S.sortItO oa)) := by
  refine PE.imp (pe_callB (cr_sortItO hc hu) hg hm (by decide +kernel) (pa_cons (pe_dm0 PySem.F.slot_dict_items PySem.F.type_dict_items mt_itemsO ho hbase hline) pa_nil he) (by decide) (by decide) he (by rfl)) fun σ H Q ⟨G, η, Fs, R, q⟩ => ?_
  refine tO_use R q fun v p η1 G1 H1 Fs1 R1 E1 k1 q1 => ?_
  cases hx : oa.fin p η1 with
  | none => simp only [hx] at q1; exact q1.elim
  | some x =>
    cases x <;> first | (simp only [hx] at q1; exact q1.elim) | skip
    rename_i kvs
    simp only [hx] at q1
    cases e : intKV kvs with
    | none => simp only [e] at q1; exact q1.elim
    | some ks =>
      simp only [e] at q1
      split at q1
      · rename_i hso
        obtain ⟨a, vs, rfl, ha, hk, rl0⟩ := (k1.bor R1 hx).dT R1.sub
        have hvs := intKV_rep e hk rl0
        subst hvs
        refine ⟨⟨a, rfl, .inr ⟨_, ha⟩⟩, a, _, rfl, rfl, ha, fun pv hpv => ?_⟩
        refine ⟨pv, a, ks, rfl, upd_same, (upd_le hpv).sub.rd _ _ ha, hso, fun H' l bs m1 grow hl hL tp => ?_⟩
        have hl1 : H1 l = none := by
          by_cases w : l = pv
          · rw [w, upd_same] at hl; cases hl
          · rw [upd_ne w] at hl; exact hl
        have grow1 : Le H1 H' := fun b o z => grow b o (by rw [upd_ne (ne_of_none z hpv)]; exact z)
        have s2 : Sub G1 H' := R1.sub.trans grow1.sub
        have tup1 : ∀ b ∈ bs, H1 b.2 = none ∧ ∃ kq, H1 kq = some (.tup (b.1.1.map kV)) ∧ H' b.2 = some (.tup [.ref kq, .int b.1.2]) := fun b hb => by
          obtain ⟨t1, t2, kq, t3, t4⟩ := tp b hb
          refine ⟨?_, kq, ?_, t4⟩
          · by_cases w : b.2 = pv
            · rw [w, upd_same] at t1; cases t1
            · rw [upd_ne w] at t1; exact t1
          · by_cases w : kq = pv
            · rw [w, upd_same] at t3; cases t3
            · rw [upd_ne w] at t3; exact t3
        have N : New G1 H1 (tupG G1 H') H' := ⟨tupG_le s2, grow1, tupG_sub s2, fun c z => by
          rcases tupG_cases G1 H' c with ⟨xs, h1, h2⟩ | ⟨_, h2⟩
          · refine .inr ?_
            cases w : H1 c with
            | none => trivial
            | some o =>
              have := grow1 c o w
              rw [h1] at this
              cases this
              trivial
          · rw [h2] at z; exact .inl z⟩
        have gl : tupG G1 H' l = none := by
          rw [tupG_out fun xs z => by rw [hL] at z; cases z]
          exact R1.sub.free hl1
        have rl : ∀ zs : List ((List Key × Int) × Addr), (∀ b ∈ zs, b ∈ bs) → RepL (tupG G1 H') (zs.map fun b => V.ref b.2) (zs.map fun b => pairT b.1) := by
          intro zs
          induction zs with
          | nil => exact fun _ => .nil
          | cons b zs ih =>
            intro hz
            obtain ⟨_, kq, t3, t4⟩ := tup1 b (hz b List.mem_cons_self)
            exact .cons (.tup (tupG_in t4) (.cons (.tup (tupG_in (grow1 _ _ t3)) (keyVs_rep b.1.1)) (.cons (.int _) .nil))) (ih fun x hx => hz x (List.mem_cons_of_mem _ hx))
        have es : (ks.map pairT).mergeSort leDat = (bs.mergeSort fun x y => leDat (pairT x.1) (pairT y.1)).map fun b => pairT b.1 := by
          rw [List.map_mergeSort (s := leDat) (fun _ _ _ _ => rfl), ← m1, List.map_map]; rfl
        rw [es] at q1
        have ap2 : Apart (tupG G1 H') H' Fs1 1 (.ref l) (.lst ((bs.mergeSort fun x y => leDat (pairT x.1) (pairT y.1)).map fun b => pairT b.1)) [l] := ⟨⟨l, _, [], rfl, hL, rfl, OwnL.of0 (rl _ fun b hb => (List.mergeSort_perm _ _).mem_iff.mp hb)⟩, by simp, fun c hc => by rw [List.mem_singleton.mp hc]; exact gl, fun c hc => by rw [List.mem_singleton.mp hc]; exact R1.noFoot hl1⟩
        exact q1 (tupG G1 H') H' Fs1 (R1.new N) N.ext (.ref l) [l] ap2 fun c hc => .inr (by rw [List.mem_singleton.mp hc]; exact E1.noneOf hl1)
      · exact q1.elim
@[simp] theorem v_sortItO {η : Env} : S.sortItO oa η = (oa.pre η).bind fun p η1 => (match oa.fin p η1 with
  | some (.dT kvs) => (match intKV kvs with
    | some ks => if sortOk (ks.map pairT) = true then .ok (1, .lst ((ks.map pairT).mergeSort leDat)) η1 else .bad
    | none => .bad)
  | _ => .bad : Out (Nat × D)) := rfl
end
end DV

namespace Sem
open PySem PySem.Spec PyProof.Rows L2 DV
noncomputable def s_is_whole : SS := S.ret (S.up (S.band (S.isi "int" (.nm 0)) (S.bnot (S.isi "bool" (.nm 0)))))
noncomputable def f_is_whole : FnSem := Shut (S.run s_is_whole 1 [false])
theorem f_is_whole_eq : f_is_whole = S.run s_is_whole 1 [false] := shut_eq _
noncomputable def b1_steps_from : SS := S.seq (S.ifs (S.tst (S.cmp eqD (.nm 3) (.nm 1))) (S.drop (S.lm 2 appendD (S.cons (S.tup (S.cons (S.var 4) (S.cons (S.var 5) (S.cons (S.var 6) (S.nil))))) (S.nil)))) (S.pass)) (S.ifs (S.tst (S.cmp eqD (.nm 4) (.nm 1))) (S.drop (S.lm 2 appendD (S.cons (S.tup (S.cons (S.var 3) (S.cons (S.fz (S.bin subD (.ex (S.c (.int 0))) (.nm 5))) (S.cons (S.fz (S.bin subD (.ex (S.c (.int 0))) (.nm 6))) (S.nil))))) (S.nil)))) (S.pass))
noncomputable def l1_steps_from : SS := S.fors (S.items (S.fz (S.bin ixA (.nm 0) (.ex (S.c (.int 1)))))) (S.gtup [S.name 3, S.name 4, S.name 5, S.name 6]) b1_steps_from
noncomputable def s_steps_from : SS := S.seq (S.asg 2 (S.lst (S.nil))) (S.seq (l1_steps_from) (S.ret (S.mov 2)))
noncomputable def f_steps_from : FnSem := Shut (S.run s_steps_from 7 [false, false])
theorem f_steps_from_eq : f_steps_from = S.run s_steps_from 7 [false, false] := shut_eq _
noncomputable def b1__law_folded : SS := S.setA 2 (S.fz (S.bin addD (.ex (S.fz (S.bin mulD (.ex (S.fz (S.bin ixA (.nm 2) (.ex (S.fz (S.bin modD (.nm 3) (.ex (S.fnd lenD [.nm 2])))))))) (.ex (S.c (.int 7)))))) (.nm 4))) (S.fz (S.bin modD (.nm 3) (.ex (S.fnd lenD [.nm 2]))))
noncomputable def l1__law_folded : SS := S.fors (S.enum (S.var 0)) (S.gtup [S.name 3, S.name 4]) b1__law_folded
noncomputable def s__law_folded : SS := S.seq (S.asg 2 (S.bin mulD (.ex (S.fz (S.lst (S.cons (S.c (.int 0)) (S.nil))))) (.ex (S.fnd minA [.nm 1, .ex (S.fnd maxA [.ex (S.c (.int 1)), .ex (S.fnd lenD [.nm 0])])])))) (S.seq (l1__law_folded) (S.ret (S.mov 2)))
noncomputable def f__law_folded : FnSem := Shut (S.run s__law_folded 5 [false, false])
theorem f__law_folded_eq : f__law_folded = S.run s__law_folded 5 [false, false] := shut_eq _
noncomputable def s__law_begun : SS := S.seq (S.asg 1 (S.up (S.c (.int 0)))) (S.seq (S.ifs (S.tst (S.cmp geX (.ex (S.fnd absD [.nm 0])) (.ex (S.fz (S.bin powD (.ex (S.c (.int 10))) (.ex (S.c (.int 18)))))))) (S.asg 1 (S.bin addD (.ex (S.fz (S.bin subD (.ex (S.fnd absD [.nm 0])) (.ex (S.fz (S.bin powD (.ex (S.c (.int 10))) (.ex (S.c (.int 18))))))))) (.ex (S.c (.int 1))))) (S.pass)) (S.ret (S.lst (S.cons (S.var 1) (S.cons (S.c (.int 0)) (S.cons (S.fz (S.bin modD (.nm 0) (.ex (S.c (.int 2147483647))))) (S.nil)))))))
noncomputable def f__law_begun : FnSem := Shut (S.run s__law_begun 2 [false])
theorem f__law_begun_eq : f__law_begun = S.run s__law_begun 2 [false] := shut_eq _
noncomputable def s__law_take : SS := S.seq (S.ifs (S.tst (S.cmp gtX (.ex (S.fz (S.bin ixA (.nm 0) (.ex (S.c (.int 0)))))) (.ex (S.c (.int 0))))) (S.seq (S.asg 2 (S.bin modD (.ex (S.fz (S.bin ixA (.nm 0) (.ex (S.c (.int 0)))))) (.nm 1))) (S.seq (S.setA 0 (S.fz (S.bin fdivD (.ex (S.fz (S.bin ixA (.nm 0) (.ex (S.c (.int 0)))))) (.nm 1))) (S.c (.int 0))) (S.ret (S.mov 2)))) (S.pass)) (S.seq (S.setA 0 (S.fz (S.bin addD (.ex (S.fz (S.bin ixA (.nm 0) (.ex (S.c (.int 1)))))) (.ex (S.c (.int 1))))) (S.c (.int 1))) (S.seq (S.asg 3 (S.bin modD (.ex (S.fz (S.bin addD (.ex (S.fz (S.bin addD (.ex (S.fz (S.bin addD (.ex (S.fz (S.bin ixA (.nm 0) (.ex (S.c (.int 2)))))) (.ex (S.fz (S.bin mulD (.ex (S.fz (S.bin mulD (.ex (S.c (.int 977))) (.ex (S.fz (S.bin ixA (.nm 0) (.ex (S.c (.int 1))))))))) (.ex (S.fz (S.bin ixA (.nm 0) (.ex (S.c (.int 1)))))))))))) (.ex (S.fz (S.bin mulD (.ex (S.c (.int 40693))) (.ex (S.fz (S.bin ixA (.nm 0) (.ex (S.c (.int 1)))))))))))) (.ex (S.c (.int 1)))))) (.ex (S.c (.int 2147483647))))) (S.seq (S.asg 3 (S.bin modD (.ex (S.fz (S.bin mulD (.ex (S.fz (S.bin modD (.ex (S.fz (S.bin mulD (.nm 3) (.nm 3)))) (.ex (S.c (.int 1000000007)))))) (.ex (S.c (.int 48271)))))) (.ex (S.c (.int 998244353))))) (S.ret (S.bin modD (.ex (S.fz (S.bin fdivD (.nm 3) (.ex (S.c (.int 8)))))) (.nm 1))))))
noncomputable def f__law_take : FnSem := Shut (S.run s__law_take 4 [true, false])
theorem f__law_take_eq : f__law_take = S.run s__law_take 4 [true, false] := shut_eq _
noncomputable def s__law_turned : SS := S.ret (S.up (S.tup (S.cons (S.fz (S.bin ixA (.nm 0) (.ex (S.c (.int 1))))) (S.cons (S.fz (S.bin ixA (.nm 0) (.ex (S.c (.int 0))))) (S.cons (S.fz (S.bin subD (.ex (S.c (.int 0))) (.ex (S.fz (S.bin ixA (.nm 0) (.ex (S.c (.int 2)))))))) (S.cons (S.fz (S.bin subD (.ex (S.c (.int 0))) (.ex (S.fz (S.bin ixA (.nm 0) (.ex (S.c (.int 3)))))))) (S.nil)))))))
noncomputable def f__law_turned : FnSem := Shut (S.run s__law_turned 1 [false])
theorem f__law_turned_eq : f__law_turned = S.run s__law_turned 1 [false] := shut_eq _
noncomputable def b1__law_both_right : SS := S.seq (S.asgG (S.var 3) (S.gtup [S.name 5, S.name 6, S.name 7])) (S.ifs (S.tst (S.cmp neD (.ex (S.fz (S.dget2 (.ex (S.fz (S.bin ixA (.nm 0) (.nm 5)))) (.ex (S.tup (S.cons (S.var 1) (S.cons (S.fz (S.bin subD (.ex (S.c (.int 0))) (.nm 6))) (S.cons (S.fz (S.bin subD (.ex (S.c (.int 0))) (.nm 7))) (S.nil)))))) (S.fz (S.bin subD (.ex (S.c (.int 0))) (.ex (S.c (.int 1)))))))) (.nm 4))) (S.ret (S.up (S.c (.bl false)))) (S.pass))
noncomputable def l1__law_both_right : SS := S.fors (S.items (S.fz (S.sortItO (.ex (S.fz (S.bin ixA (.nm 0) (.nm 1))))))) (S.gtup [S.name 3, S.name 4]) b1__law_both_right
noncomputable def s__law_both_right : SS := S.seq (l1__law_both_right) (S.ret (S.up (S.c (.bl true))))
noncomputable def f__law_both_right : FnSem := Shut (S.run s__law_both_right 8 [false, false, false])
theorem f__law_both_right_eq : f__law_both_right = S.run s__law_both_right 8 [false, false, false] := shut_eq _
noncomputable def s_is_of : SS := S.ret (S.up (S.band (S.fz (S.call f_is_whole [.ex (S.var 1)])) (S.chain leX ltD (S.c (.int 0)) (S.var 1) (S.var 0))))
noncomputable def f_is_of : FnSem := Shut (S.run s_is_of 2 [false, false])
theorem f_is_of_eq : f_is_of = S.run s_is_of 2 [false, false] := shut_eq _
noncomputable def c1_beside : SF := S.comp 0 [5, 6, 7] (S.items (S.fz (S.call f_steps_from [.ex (S.var 0), .ex (S.var 2)]))) (S.gtup [S.name 5, S.name 6, S.name 7]) (S.ct true) (S.up (S.tup (S.cons (S.var 5) (S.cons (S.fz (S.bin addD (.nm 3) (.nm 6))) (S.cons (S.fz (S.bin addD (.nm 4) (.nm 7))) (S.nil))))))
noncomputable def s_beside : SS := S.seq (S.asgG (S.var 1) (S.gtup [S.name 2, S.name 3, S.name 4])) (S.ret (c1_beside))
noncomputable def f_beside : FnSem := Shut (S.run s_beside 8 [false, false])
theorem f_beside_eq : f_beside = S.run s_beside 8 [false, false] := shut_eq _
noncomputable def s__law_tie : SS := S.seq (S.asg 2 (S.call f__law_take [.lend 0, .ex (S.var 1)])) (S.seq (S.asg 3 (S.call f__law_take [.lend 0, .ex (S.var 1)])) (S.seq (S.asg 4 (S.bin subD (.ex (S.fz (S.call f__law_take [.lend 0, .ex (S.c (.int 3))]))) (.ex (S.c (.int 1))))) (S.seq (S.asg 5 (S.bin subD (.ex (S.fz (S.call f__law_take [.lend 0, .ex (S.c (.int 3))]))) (.ex (S.c (.int 1))))) (S.seq (S.ifs (S.tand (S.tst (S.cmp eqD (.nm 2) (.nm 3))) (S.tst (S.cmp eqD (.ex (S.tup (S.cons (S.var 4) (S.cons (S.var 5) (S.nil))))) (.ex (S.tup (S.cons (S.c (.int 0)) (S.cons (S.c (.int 0)) (S.nil)))))))) (S.asg 4 (S.bin subD (.ex (S.c (.int 1))) (.ex (S.fz (S.bin mulD (.ex (S.c (.int 2))) (.ex (S.fz (S.call f__law_take [.lend 0, .ex (S.c (.int 2))])))))))) (S.pass)) (S.ret (S.up (S.tup (S.cons (S.var 2) (S.cons (S.var 3) (S.cons (S.var 4) (S.cons (S.var 5) (S.nil))))))))))))
noncomputable def f__law_tie : FnSem := Shut (S.run s__law_tie 6 [true, false])
theorem f__law_tie_eq : f__law_tie = S.run s__law_tie 6 [true, false] := shut_eq _
noncomputable def s__law_written : SS := S.seq (S.ifs (S.tor (S.tst (S.cmp ltD (.ex (S.fz (S.bin ixA (.nm 0) (.ex (S.c (.int 0)))))) (.ex (S.fz (S.bin ixA (.nm 0) (.ex (S.c (.int 1)))))))) (S.tand (S.tst (S.cmp eqD (.ex (S.fz (S.bin ixA (.nm 0) (.ex (S.c (.int 0)))))) (.ex (S.fz (S.bin ixA (.nm 0) (.ex (S.c (.int 1)))))))) (S.tst (S.cmp gtX (.ex (S.fz (S.slc (.nm 0) (some (S.c (.int 2))) none))) (.ex (S.tup (S.cons (S.c (.int 0)) (S.cons (S.c (.int 0)) (S.nil))))))))) (S.ret (S.mov 0)) (S.pass)) (S.ret (S.call f__law_turned [.ex (S.var 0)]))
noncomputable def f__law_written : FnSem := Shut (S.run s__law_written 1 [false])
theorem f__law_written_eq : f__law_written = S.run s__law_written 1 [false] := shut_eq _
noncomputable def s__law_known : SS := S.seq (S.asg 1 (S.lst (S.cons (S.tup (S.cons (S.c (.int 1)) (S.cons (S.tup (S.cons (S.tup (S.cons (S.c (.int 0)) (S.cons (S.c (.int 0)) (S.cons (S.c (.int 0)) (S.cons (S.c (.int 1)) (S.nil)))))) (S.cons (S.tup (S.cons (S.c (.int 0)) (S.cons (S.c (.int 0)) (S.cons (S.c (.int 1)) (S.cons (S.c (.int 0)) (S.nil)))))) (S.nil)))) (S.nil)))) (S.cons (S.tup (S.cons (S.c (.int 1)) (S.cons (S.tup (S.cons (S.tup (S.cons (S.c (.int 0)) (S.cons (S.c (.int 0)) (S.cons (S.c (.int 0)) (S.cons (S.c (.int 1)) (S.nil)))))) (S.cons (S.tup (S.cons (S.c (.int 0)) (S.cons (S.c (.int 0)) (S.cons (S.c (.int 1)) (S.cons (S.c (.int 0)) (S.nil)))))) (S.cons (S.tup (S.cons (S.c (.int 0)) (S.cons (S.c (.int 0)) (S.cons (S.c (.int 1)) (S.cons (S.c (.int 1)) (S.nil)))))) (S.nil))))) (S.nil)))) (S.nil))))) (S.seq (S.drop (S.lm 1 appendD (S.cons (S.tup (S.cons (S.c (.int 1)) (S.cons (S.tup (S.cons (S.tup (S.cons (S.c (.int 0)) (S.cons (S.c (.int 0)) (S.cons (S.c (.int 0)) (S.cons (S.c (.int 1)) (S.nil)))))) (S.cons (S.tup (S.cons (S.c (.int 0)) (S.cons (S.c (.int 0)) (S.cons (S.c (.int 1)) (S.cons (S.fz (S.un negD (.ex (S.c (.int 1))))) (S.nil)))))) (S.cons (S.tup (S.cons (S.c (.int 0)) (S.cons (S.c (.int 0)) (S.cons (S.c (.int 1)) (S.cons (S.c (.int 0)) (S.nil)))))) (S.cons (S.tup (S.cons (S.c (.int 0)) (S.cons (S.c (.int 0)) (S.cons (S.c (.int 1)) (S.cons (S.c (.int 1)) (S.nil)))))) (S.nil)))))) (S.nil)))) (S.nil)))) (S.seq (S.drop (S.lm 1 appendD (S.cons (S.tup (S.cons (S.c (.int 2)) (S.cons (S.tup (S.cons (S.tup (S.cons (S.c (.int 0)) (S.cons (S.c (.int 1)) (S.cons (S.fz (S.un negD (.ex (S.c (.int 1))))) (S.cons (S.c (.int 0)) (S.nil)))))) (S.cons (S.tup (S.cons (S.c (.int 0)) (S.cons (S.c (.int 1)) (S.cons (S.c (.int 0)) (S.cons (S.fz (S.un negD (.ex (S.c (.int 1))))) (S.nil)))))) (S.cons (S.tup (S.cons (S.c (.int 0)) (S.cons (S.c (.int 1)) (S.cons (S.c (.int 0)) (S.cons (S.c (.int 0)) (S.nil)))))) (S.nil))))) (S.nil)))) (S.nil)))) (S.seq (S.drop (S.lm 1 appendD (S.cons (S.tup (S.cons (S.c (.int 3)) (S.cons (S.tup (S.cons (S.tup (S.cons (S.c (.int 0)) (S.cons (S.c (.int 1)) (S.cons (S.fz (S.un negD (.ex (S.c (.int 1))))) (S.cons (S.c (.int 0)) (S.nil)))))) (S.cons (S.tup (S.cons (S.c (.int 0)) (S.cons (S.c (.int 1)) (S.cons (S.c (.int 0)) (S.cons (S.c (.int 0)) (S.nil)))))) (S.cons (S.tup (S.cons (S.c (.int 0)) (S.cons (S.c (.int 2)) (S.cons (S.c (.int 0)) (S.cons (S.fz (S.un negD (.ex (S.c (.int 1))))) (S.nil)))))) (S.cons (S.tup (S.cons (S.c (.int 0)) (S.cons (S.c (.int 2)) (S.cons (S.c (.int 0)) (S.cons (S.c (.int 0)) (S.nil)))))) (S.cons (S.tup (S.cons (S.c (.int 1)) (S.cons (S.c (.int 2)) (S.cons (S.c (.int 0)) (S.cons (S.c (.int 0)) (S.nil)))))) (S.cons (S.tup (S.cons (S.c (.int 1)) (S.cons (S.c (.int 2)) (S.cons (S.c (.int 1)) (S.cons (S.fz (S.un negD (.ex (S.c (.int 1))))) (S.nil)))))) (S.nil)))))))) (S.nil)))) (S.nil)))) (S.seq (S.drop (S.lm 1 appendD (S.cons (S.tup (S.cons (S.c (.int 4)) (S.cons (S.tup (S.cons (S.tup (S.cons (S.c (.int 0)) (S.cons (S.c (.int 1)) (S.cons (S.c (.int 0)) (S.cons (S.c (.int 0)) (S.nil)))))) (S.cons (S.tup (S.cons (S.c (.int 0)) (S.cons (S.c (.int 2)) (S.cons (S.fz (S.un negD (.ex (S.c (.int 1))))) (S.cons (S.c (.int 0)) (S.nil)))))) (S.cons (S.tup (S.cons (S.c (.int 0)) (S.cons (S.c (.int 3)) (S.cons (S.c (.int 0)) (S.cons (S.c (.int 0)) (S.nil)))))) (S.cons (S.tup (S.cons (S.c (.int 1)) (S.cons (S.c (.int 2)) (S.cons (S.c (.int 0)) (S.cons (S.c (.int 0)) (S.nil)))))) (S.cons (S.tup (S.cons (S.c (.int 1)) (S.cons (S.c (.int 3)) (S.cons (S.c (.int 0)) (S.cons (S.c (.int 1)) (S.nil)))))) (S.cons (S.tup (S.cons (S.c (.int 2)) (S.cons (S.c (.int 3)) (S.cons (S.c (.int 0)) (S.cons (S.c (.int 0)) (S.nil)))))) (S.nil)))))))) (S.nil)))) (S.nil)))) (S.seq (S.drop (S.lm 1 appendD (S.cons (S.tup (S.cons (S.c (.int 1)) (S.cons (S.tup (S.cons (S.tup (S.cons (S.c (.int 0)) (S.cons (S.c (.int 0)) (S.cons (S.c (.int 0)) (S.cons (S.c (.int 1)) (S.nil)))))) (S.nil))) (S.nil)))) (S.nil)))) (S.seq (S.drop (S.lm 1 appendD (S.cons (S.tup (S.cons (S.c (.int 2)) (S.cons (S.tup (S.cons (S.tup (S.cons (S.c (.int 0)) (S.cons (S.c (.int 0)) (S.cons (S.c (.int 0)) (S.cons (S.c (.int 1)) (S.nil)))))) (S.cons (S.tup (S.cons (S.c (.int 0)) (S.cons (S.c (.int 0)) (S.cons (S.c (.int 1)) (S.cons (S.c (.int 0)) (S.nil)))))) (S.cons (S.tup (S.cons (S.c (.int 1)) (S.cons (S.c (.int 1)) (S.cons (S.c (.int 0)) (S.cons (S.c (.int 1)) (S.nil)))))) (S.cons (S.tup (S.cons (S.c (.int 1)) (S.cons (S.c (.int 1)) (S.cons (S.c (.int 1)) (S.cons (S.c (.int 1)) (S.nil)))))) (S.nil)))))) (S.nil)))) (S.nil)))) (S.ret (S.bin ixA (.nm 1) (.ex (S.fz (S.call f__law_take [.lend 0, .ex (S.c (.int 8))])))))))))))
noncomputable def f__law_known : FnSem := Shut (S.run s__law_known 2 [true])
theorem f__law_known_eq : f__law_known = S.run s__law_known 2 [true] := shut_eq _
noncomputable def b1__law_between : SS := S.seq (S.asgG (S.fz (S.bin ixA (.nm 4) (.ex (S.fz (S.call f__law_take [.lend 0, .ex (S.fnd lenD [.nm 4])]))))) (S.gtup [S.name 6, S.name 7, S.name 8])) (S.seq (S.asgG (S.fz (S.bin ixA (.nm 4) (.ex (S.fz (S.call f__law_take [.lend 0, .ex (S.fnd lenD [.nm 4])]))))) (S.gtup [S.name 9, S.name 10, S.name 11])) (S.seq (S.asg 12 (S.dget2 (.ex (S.fz (S.bin ixA (.nm 1) (.nm 6)))) (.ex (S.tup (S.cons (S.var 9) (S.cons (S.fz (S.bin subD (.nm 10) (.nm 7))) (S.cons (S.fz (S.bin subD (.nm 11) (.nm 8))) (S.nil)))))) (S.fz (S.bin addD (.nm 3) (.ex (S.c (.int 1))))))) (S.ifs (S.tst (S.cmp gtX (.ex (S.fz (S.bin ixA (.ex (S.fz (S.bin ixA (.nm 1) (.nm 2)))) (.ex (S.tup (S.cons (S.var 9) (S.cons (S.var 10) (S.cons (S.var 11) (S.nil))))))))) (.ex (S.fz (S.bin addD (.ex (S.fz (S.bin ixA (.ex (S.fz (S.bin ixA (.nm 1) (.nm 2)))) (.ex (S.tup (S.cons (S.var 6) (S.cons (S.var 7) (S.cons (S.var 8) (S.nil))))))))) (.nm 12)))))) (S.ret (S.up (S.c (.bl false)))) (S.pass))))
noncomputable def l1__law_between : SS := S.fors (S.range1 (S.c (.int 20))) (S.name 5) b1__law_between
noncomputable def s__law_between : SS := S.seq (S.asg 4 (S.fn sortedA [.ex (S.fz (S.bin ixA (.nm 1) (.nm 2)))])) (S.seq (l1__law_between) (S.ret (S.up (S.c (.bl true)))))
noncomputable def f__law_between : FnSem := Shut (S.run s__law_between 13 [true, false, false, false])
theorem f__law_between_eq : f__law_between = S.run s__law_between 13 [true, false, false, false] := shut_eq _
noncomputable def c1_is_place : SF := S.comp 0 [2] (S.items (S.fz (S.slc (.nm 1) (some (S.c (.int 1))) none))) (S.name 2) (S.ct true) (S.up (S.band (S.fz (S.call f_is_whole [.ex (S.var 2)])) (S.cmp ltD (.ex (S.fnd absD [.nm 2])) (.ex (S.c (.int 1000000000000000000000000000000))))))
noncomputable def s_is_place : SS := S.seq (S.ifs (S.tor (S.tnot (S.tst (S.isi "tuple" (.nm 1)))) (S.tor (S.tst (S.cmp neD (.ex (S.fnd lenD [.nm 1])) (.ex (S.c (.int 3))))) (S.tnot (S.tst (S.fz (S.call f_is_of [.ex (S.fz (S.bin ixA (.nm 0) (.ex (S.c (.int 0))))), .ex (S.fz (S.bin ixA (.nm 1) (.ex (S.c (.int 0)))))])))))) (S.ret (S.up (S.c (.bl false)))) (S.pass)) (S.ret (S.up (S.fnd allD [.ex (S.fz (c1_is_place))])))
noncomputable def f_is_place : FnSem := Shut (S.run s_is_place 3 [false, false])
theorem f_is_place_eq : f_is_place = S.run s_is_place 3 [false, false] := shut_eq _
noncomputable def b1_rings_from : SS := S.ifs (S.tst (S.cmp ninA (.nm 8) (.nm 3))) (S.seq (S.setA 3 (S.var 5) (S.var 8)) (S.drop (S.lm 6 appendD (S.cons (S.var 8) (S.nil))))) (S.pass)
noncomputable def l1_rings_from : SS := S.fors (S.items (S.fz (S.call f_beside [.ex (S.var 0), .ex (S.var 7)]))) (S.name 8) b1_rings_from
noncomputable def b2_rings_from : SS := l1_rings_from
noncomputable def l2_rings_from : SS := S.forsX 4 (S.name 7) b2_rings_from
noncomputable def b3_rings_from : SS := S.seq (S.asg 6 (S.lst (S.nil))) (S.seq (l2_rings_from) (S.asg 4 (S.up (S.var 6))))
noncomputable def l3_rings_from : SS := S.fors (S.range2 (S.c (.int 1)) (S.fz (S.bin addD (.nm 2) (.ex (S.c (.int 1)))))) (S.name 5) b3_rings_from
noncomputable def s_rings_from : SS := S.seq (S.asg 3 (S.disp (S.tup (S.cons (S.var 1) (S.cons (S.c (.int 0)) (S.cons (S.c (.int 0)) (S.nil))))) (S.c (.int 0)))) (S.seq (S.asg 4 (S.lst (S.cons (S.tup (S.cons (S.var 1) (S.cons (S.c (.int 0)) (S.cons (S.c (.int 0)) (S.nil))))) (S.nil)))) (S.seq (l3_rings_from) (S.ret (S.mov 3))))
noncomputable def f_rings_from : FnSem := Shut (S.run s_rings_from 9 [false, false, false])
theorem f_rings_from_eq : f_rings_from = S.run s_rings_from 9 [false, false, false] := shut_eq _
noncomputable def c1_one_nearer : SF := S.comp 0 [3] (S.items (S.fz (S.call f_beside [.ex (S.var 0), .ex (S.var 1)]))) (S.name 3) (S.ct true) (S.up (S.cmp eqD (.ex (S.fz (S.dget2 (.nm 2) (.nm 3) (S.fz (S.bin subD (.ex (S.c (.int 0))) (.ex (S.c (.int 9)))))))) (.ex (S.fz (S.bin subD (.ex (S.fz (S.bin ixA (.nm 2) (.nm 1)))) (.ex (S.c (.int 1))))))))
noncomputable def s_one_nearer : SS := S.ret (S.up (S.fnd anyD [.ex (S.fz (c1_one_nearer))]))
noncomputable def f_one_nearer : FnSem := Shut (S.run s_one_nearer 4 [false, false, false])
theorem f_one_nearer_eq : f_one_nearer = S.run s_one_nearer 4 [false, false, false] := shut_eq _
noncomputable def c1_all_beside : SF := S.comp 0 [3] (S.items (S.fz (S.call f_beside [.ex (S.var 0), .ex (S.var 1)]))) (S.name 3) (S.ct true) (S.up (S.band (S.cmp inA (.nm 3) (.nm 2)) (S.cmp leX (.ex (S.fnd absD [.ex (S.fz (S.bin subD (.ex (S.fz (S.bin ixA (.nm 2) (.nm 3)))) (.ex (S.fz (S.bin ixA (.nm 2) (.nm 1))))))])) (.ex (S.c (.int 1))))))
noncomputable def s_all_beside : SS := S.ret (S.up (S.fnd allD [.ex (S.fz (c1_all_beside))]))
noncomputable def f_all_beside : FnSem := Shut (S.run s_all_beside 4 [false, false, false])
theorem f_all_beside_eq : f_all_beside = S.run s_all_beside 4 [false, false, false] := shut_eq _
noncomputable def b1_rings_to : SS := S.ifs (S.tst (S.cmp ninA (.nm 7) (.nm 3))) (S.seq (S.setA 3 (S.fz (S.bin addD (.ex (S.fz (S.bin ixA (.nm 3) (.nm 6)))) (.ex (S.c (.int 1))))) (S.var 7)) (S.drop (S.lm 5 appendD (S.cons (S.var 7) (S.nil))))) (S.pass)
noncomputable def l1_rings_to : SS := S.fors (S.items (S.fz (S.call f_beside [.ex (S.var 0), .ex (S.var 6)]))) (S.name 7) b1_rings_to
noncomputable def b2_rings_to : SS := l1_rings_to
noncomputable def l2_rings_to : SS := S.forsX 4 (S.name 6) b2_rings_to
noncomputable def b3_rings_to : SS := S.seq (S.asg 5 (S.lst (S.nil))) (S.seq (l2_rings_to) (S.asg 4 (S.up (S.var 5))))
noncomputable def w1_rings_to : SS := S.whl (S.tand (S.tst (S.cmp ninA (.nm 2) (.nm 3))) (S.tand (S.tst (S.cmp gtX (.ex (S.fnd lenD [.nm 4])) (.ex (S.c (.int 0))))) (S.tst (S.cmp ltD (.ex (S.fz (S.bin ixA (.nm 3) (.ex (S.fz (S.bin ixA (.nm 4) (.ex (S.c (.int 0))))))))) (.ex (S.c (.int 12))))))) b3_rings_to
noncomputable def s_rings_to : SS := S.seq (S.asg 3 (S.disp (S.tup (S.cons (S.var 1) (S.cons (S.c (.int 0)) (S.cons (S.c (.int 0)) (S.nil))))) (S.c (.int 0)))) (S.seq (S.asg 4 (S.lst (S.cons (S.tup (S.cons (S.var 1) (S.cons (S.c (.int 0)) (S.cons (S.c (.int 0)) (S.nil))))) (S.nil)))) (S.seq (w1_rings_to) (S.ret (S.mov 3))))
noncomputable def f_rings_to : FnSem := Shut (S.run s_rings_to 8 [false, false, false])
theorem f_rings_to_eq : f_rings_to = S.run s_rings_to 8 [false, false, false] := shut_eq _
noncomputable def b1__law_grid : SS := S.seq (S.asg 4 (S.call f__law_written [.ex (S.fz (S.call f__law_tie [.lend 0, .ex (S.var 1)]))])) (S.ifs (S.tand (S.tst (S.cmp ninA (.nm 4) (.nm 2))) (S.tst (S.cmp ltD (.ex (S.fnd lenD [.nm 2])) (.ex (S.c (.int 16)))))) (S.drop (S.lm 2 appendD (S.cons (S.var 4) (S.nil)))) (S.pass))
noncomputable def l1__law_grid : SS := S.fors (S.range1 (S.fz (S.bin ixA (.ex (S.fz (S.lst (S.cons (S.fz (S.call f__law_take [.lend 0, .ex (S.c (.int 4))])) (S.cons (S.fz (S.bin addD (.ex (S.c (.int 2))) (.ex (S.fz (S.call f__law_take [.lend 0, .ex (S.c (.int 7))]))))) (S.cons (S.fz (S.call f__law_take [.lend 0, .ex (S.c (.int 21))])) (S.nil))))))) (.ex (S.fz (S.call f__law_take [.lend 0, .ex (S.c (.int 3))])))))) (S.name 3) b1__law_grid
noncomputable def s__law_grid : SS := S.seq (S.ifs (S.tst (S.cmp eqD (.ex (S.fz (S.call f__law_take [.lend 0, .ex (S.c (.int 3))]))) (.ex (S.c (.int 0))))) (S.ret (S.call f__law_known [.lend 0])) (S.pass)) (S.seq (S.asg 1 (S.bin addD (.ex (S.c (.int 1))) (.ex (S.fz (S.call f__law_take [.lend 0, .ex (S.c (.int 4))]))))) (S.seq (S.asg 2 (S.lst (S.nil))) (S.seq (l1__law_grid) (S.ret (S.up (S.tup (S.cons (S.var 1) (S.cons (S.fz (S.fn tupleD [.ex (S.fz (S.fn sortedA [.nm 2]))])) (S.nil)))))))))
noncomputable def f__law_grid : FnSem := Shut (S.run s__law_grid 5 [true])
theorem f__law_grid_eq : f__law_grid = S.run s__law_grid 5 [true] := shut_eq _
noncomputable def s_neighbours_of : SS := S.seq (S.ifs (S.tnot (S.tst (S.fz (S.call f_is_place [.ex (S.var 0), .ex (S.var 1)])))) (S.raise "NoPlace") (S.pass)) (S.ret (S.fn sortedA [.ex (S.fz (S.call f_beside [.ex (S.var 0), .ex (S.var 1)]))]))
noncomputable def f_neighbours_of : FnSem := Shut (S.run s_neighbours_of 2 [false, false])
theorem f_neighbours_of_eq : f_neighbours_of = S.run s_neighbours_of 2 [false, false] := shut_eq _
noncomputable def s_look_from : SS := S.ret (S.sortIt (S.call f_rings_from [.ex (S.var 0), .ex (S.var 1), .ex (S.var 2)]))
noncomputable def f_look_from : FnSem := Shut (S.run s_look_from 3 [false, false, false])
theorem f_look_from_eq : f_look_from = S.run s_look_from 3 [false, false, false] := shut_eq _
noncomputable def b1_look_right : SS := S.seq (S.ifs (S.tor (S.tnot (S.tst (S.chain leX ltD (S.c (.int 0)) (S.fz (S.bin ixA (.nm 5) (.ex (S.c (.int 0))))) (S.fz (S.bin ixA (.nm 0) (.ex (S.c (.int 0)))))))) (S.tst (S.cmp inA (.nm 5) (.nm 4)))) (S.ret (S.up (S.c (.bl false)))) (S.pass)) (S.setA 4 (S.var 6) (S.var 5))
noncomputable def l1_look_right : SS := S.forsX 3 (S.gtup [S.name 5, S.name 6]) b1_look_right
noncomputable def c1_look_right : SF := S.compX 0 [5] 4 (S.name 5) (S.tst (S.cmp neD (.nm 5) (.nm 7))) (S.up (S.chain leX leX (S.c (.int 1)) (S.fz (S.bin ixA (.nm 4) (.nm 5))) (S.var 2)))
noncomputable def c2_look_right : SF := S.comp 0 [8, 9] (S.zip2 (S.var 3) (S.fz (S.slc (.nm 3) (some (S.c (.int 1))) none))) (S.gtup [S.name 8, S.name 9]) (S.ct true) (S.up (S.cmp ltD (.ex (S.fz (S.bin ixA (.nm 8) (.ex (S.c (.int 0)))))) (.ex (S.fz (S.bin ixA (.nm 9) (.ex (S.c (.int 0))))))))
noncomputable def c3_look_right : SF := S.compX 0 [5] 4 (S.name 5) (S.tst (S.cmp neD (.nm 5) (.nm 7))) (S.call f_one_nearer [.ex (S.var 0), .ex (S.var 5), .ex (S.var 4)])
noncomputable def c4_look_right : SF := S.compX 0 [5] 4 (S.name 5) (S.tst (S.cmp ltD (.ex (S.fz (S.bin ixA (.nm 4) (.nm 5)))) (.nm 2))) (S.call f_all_beside [.ex (S.var 0), .ex (S.var 5), .ex (S.var 4)])
noncomputable def s_look_right : SS := S.seq (S.asg 4 (S.dnew (.dT []))) (S.seq (l1_look_right) (S.seq (S.asg 7 (S.up (S.tup (S.cons (S.var 1) (S.cons (S.c (.int 0)) (S.cons (S.c (.int 0)) (S.nil))))))) (S.seq (S.ifs (S.tor (S.tst (S.cmp neD (.ex (S.fz (S.dget2 (.nm 4) (.nm 7) (S.c (.int 1))))) (.ex (S.c (.int 0))))) (S.tnot (S.tst (S.fnd allD [.ex (S.fz (c1_look_right))])))) (S.ret (S.up (S.c (.bl false)))) (S.pass)) (S.seq (S.ifs (S.tnot (S.tst (S.fnd allD [.ex (S.fz (c2_look_right))]))) (S.ret (S.up (S.c (.bl false)))) (S.pass)) (S.seq (S.ifs (S.tnot (S.tst (S.fnd allD [.ex (S.fz (c3_look_right))]))) (S.ret (S.up (S.c (.bl false)))) (S.pass)) (S.ret (S.up (S.fnd allD [.ex (S.fz (c4_look_right))]))))))))
noncomputable def f_look_right : FnSem := Shut (S.run s_look_right 10 [false, false, false, false])
theorem f_look_right_eq : f_look_right = S.run s_look_right 10 [false, false, false, false] := shut_eq _
noncomputable def b1_shells_near : SS := S.setA 3 (S.fz (S.bin addD (.ex (S.fz (S.bin ixA (.nm 3) (.ex (S.fz (S.bin ixA (.nm 4) (.nm 5))))))) (.ex (S.c (.int 1))))) (S.fz (S.bin ixA (.nm 4) (.nm 5)))
noncomputable def l1_shells_near : SS := S.forsX 4 (S.name 5) b1_shells_near
noncomputable def s_shells_near : SS := S.seq (S.asg 3 (S.bin mulD (.ex (S.fz (S.lst (S.cons (S.c (.int 0)) (S.nil))))) (.ex (S.fz (S.bin addD (.nm 2) (.ex (S.c (.int 1)))))))) (S.seq (S.asg 4 (S.call f_rings_from [.ex (S.var 0), .ex (S.var 1), .ex (S.var 2)])) (S.seq (l1_shells_near) (S.ret (S.mov 3))))
noncomputable def f_shells_near : FnSem := Shut (S.run s_shells_near 6 [false, false, false])
theorem f_shells_near_eq : f_shells_near = S.run s_shells_near 6 [false, false, false] := shut_eq _
noncomputable def c1_way_holds : SF := S.compX 0 [2] 1 (S.name 2) (S.ct true) (S.call f_is_place [.ex (S.var 0), .ex (S.var 2)])
noncomputable def c2_way_holds : SF := S.comp 0 [3, 4] (S.zip2 (S.var 1) (S.fz (S.slc (.nm 1) (some (S.c (.int 1))) none))) (S.gtup [S.name 3, S.name 4]) (S.ct true) (S.up (S.cmp inA (.nm 4) (.ex (S.fz (S.call f_beside [.ex (S.var 0), .ex (S.var 3)])))))
noncomputable def s_way_holds : SS := S.seq (S.ifs (S.tor (S.tst (S.cmp eqD (.ex (S.fnd lenD [.nm 1])) (.ex (S.c (.int 0))))) (S.tnot (S.tst (S.fnd allD [.ex (S.fz (c1_way_holds))])))) (S.ret (S.up (S.c (.bl false)))) (S.pass)) (S.ret (S.up (S.fnd allD [.ex (S.fz (c2_way_holds))])))
noncomputable def f_way_holds : FnSem := Shut (S.run s_way_holds 5 [false, false])
theorem f_way_holds_eq : f_way_holds = S.run s_way_holds 5 [false, false] := shut_eq _
noncomputable def c1_way_to : SF := S.comp 0 [6] (S.items (S.fz (S.call f_beside [.ex (S.var 0), .ex (S.fz (S.bin ixA (.nm 4) (.ex (S.fz (S.un negD (.ex (S.c (.int 1))))))))]))) (S.name 6) (S.tst (S.cmp eqD (.ex (S.fz (S.dget2 (.nm 3) (.nm 6) (S.fz (S.bin addD (.ex (S.c (.int 12))) (.ex (S.c (.int 1)))))))) (.ex (S.fz (S.bin subD (.ex (S.fz (S.bin ixA (.nm 3) (.ex (S.fz (S.bin ixA (.nm 4) (.ex (S.fz (S.un negD (.ex (S.c (.int 1)))))))))))) (.ex (S.c (.int 1)))))))) (S.up (S.var 6))
noncomputable def b1_way_to : SS := S.seq (S.asg 5 (c1_way_to)) (S.drop (S.lm 4 appendD (S.cons (S.fz (S.bin ixA (.nm 5) (.ex (S.c (.int 0))))) (S.nil))))
noncomputable def w1_way_to : SS := S.whl (S.tst (S.cmp gtX (.ex (S.fz (S.bin ixA (.nm 3) (.ex (S.fz (S.bin ixA (.nm 4) (.ex (S.fz (S.un negD (.ex (S.c (.int 1)))))))))))) (.ex (S.c (.int 0))))) b1_way_to
noncomputable def s_way_to : SS := S.seq (S.ifs (S.tst (S.cmp gtX (.ex (S.fnd maxA [.ex (S.fnd absD [.ex (S.fz (S.bin ixA (.nm 2) (.ex (S.c (.int 1)))))]), .ex (S.fnd absD [.ex (S.fz (S.bin ixA (.nm 2) (.ex (S.c (.int 2)))))])])) (.ex (S.c (.int 12))))) (S.raise "TooFar") (S.pass)) (S.seq (S.asg 3 (S.call f_rings_to [.ex (S.var 0), .ex (S.var 1), .ex (S.var 2)])) (S.seq (S.ifs (S.tst (S.cmp ninA (.nm 2) (.nm 3))) (S.raise "TooFar") (S.pass)) (S.seq (S.asg 4 (S.lst (S.cons (S.var 2) (S.nil)))) (S.seq (w1_way_to) (S.ret (S.un revD (.nm 4)))))))
noncomputable def f_way_to : FnSem := Shut (S.run s_way_to 7 [false, false, false])
theorem f_way_to_eq : f_way_to = S.run s_way_to 7 [false, false, false] := shut_eq _
noncomputable def b1__law_ways_right : SS := S.seq (S.asg 6 (S.bin ixA (.nm 4) (.ex (S.fz (S.call f__law_take [.lend 0, .ex (S.fnd lenD [.nm 4])]))))) (S.seq (S.asg 7 (S.call f_way_to [.ex (S.var 1), .ex (S.var 3), .ex (S.var 6)])) (S.seq (S.ifs (S.tor (S.tst (S.cmp neD (.ex (S.fnd lenD [.nm 7])) (.ex (S.fz (S.bin addD (.ex (S.fz (S.bin ixA (.ex (S.fz (S.bin ixA (.nm 2) (.nm 3)))) (.nm 6)))) (.ex (S.c (.int 1)))))))) (S.tst (S.cmp isnD (.ex (S.fz (S.call f_way_holds [.ex (S.var 1), .ex (S.var 7)]))) (.ex (S.c (.bl true)))))) (S.ret (S.up (S.c (.bl false)))) (S.pass)) (S.ifs (S.tor (S.tst (S.cmp isnD (.ex (S.fz (S.call f_way_holds [.ex (S.var 1), .ex (S.fz (S.un revD (.nm 7)))]))) (.ex (S.c (.bl true))))) (S.tor (S.tst (S.cmp neD (.ex (S.fz (S.bin ixA (.nm 7) (.ex (S.c (.int 0)))))) (.ex (S.tup (S.cons (S.var 3) (S.cons (S.c (.int 0)) (S.cons (S.c (.int 0)) (S.nil)))))))) (S.tst (S.cmp neD (.ex (S.fz (S.bin ixA (.nm 7) (.ex (S.fz (S.un negD (.ex (S.c (.int 1))))))))) (.nm 6))))) (S.ret (S.up (S.c (.bl false)))) (S.pass))))
noncomputable def l1__law_ways_right : SS := S.fors (S.range1 (S.c (.int 3))) (S.name 5) b1__law_ways_right
noncomputable def s__law_ways_right : SS := S.seq (S.asg 4 (S.fn sortedA [.ex (S.fz (S.bin ixA (.nm 2) (.nm 3)))])) (S.seq (l1__law_ways_right) (S.ret (S.up (S.c (.bl true)))))
noncomputable def f__law_ways_right : FnSem := Shut (S.run s__law_ways_right 8 [true, false, false, false])
theorem f__law_ways_right_eq : f__law_ways_right = S.run s__law_ways_right 8 [true, false, false, false] := shut_eq _
noncomputable def c1_law : SF := S.comp 0 [6] (S.range1 (S.fz (S.bin ixA (.nm 4) (.ex (S.c (.int 0)))))) (S.name 6) (S.ct true) (S.up (S.fz (S.fn dictD [.ex (S.fz (S.call f_look_from [.ex (S.var 4), .ex (S.var 6), .ex (S.var 3)]))])))
noncomputable def b1_law : SS := S.ifs (S.tst (S.cmp gtX (.ex (S.fnd absD [.ex (S.fz (S.bin subD (.ex (S.fz (S.dget2 (.nm 7) (.nm 9) (S.fz (S.bin addD (.nm 3) (.ex (S.c (.int 1)))))))) (.ex (S.fz (S.bin ixA (.nm 7) (.nm 8))))))])) (.ex (S.c (.int 1))))) (S.ret (S.up (S.c (.bl false)))) (S.pass)
noncomputable def l1_law : SS := S.fors (S.items (S.fz (S.call f_neighbours_of [.ex (S.var 4), .ex (S.var 8)]))) (S.name 9) b1_law
noncomputable def b2_law : SS := l1_law
noncomputable def l2_law : SS := S.fors (S.items (S.fz (S.slc (.ex (S.fz (S.fn sortedA [.nm 7]))) none (some (S.c (.int 200)))))) (S.name 8) b2_law
noncomputable def c2_law : SF := S.comp 0 [12] (S.range1 (S.fz (S.bin addD (.nm 3) (.ex (S.c (.int 1)))))) (S.name 12) (S.ct true) (S.up (S.rm cntD (.ex (S.fz (S.valsL (.nm 7)))) (.nm 12)))
noncomputable def b3_law : SS := S.seq (S.asg 7 (S.bin ixA (.nm 5) (.nm 6))) (S.seq (l2_law) (S.seq (S.asg 10 (c2_law)) (S.seq (S.asg 11 (S.call f_look_from [.ex (S.var 4), .ex (S.var 6), .ex (S.var 3)])) (S.seq (S.ifs (S.tor (S.tst (S.cmp neD (.ex (S.fz (S.call f_shells_near [.ex (S.var 4), .ex (S.var 6), .ex (S.var 3)]))) (.nm 10))) (S.tst (S.cmp isnD (.ex (S.fz (S.call f_look_right [.ex (S.var 4), .ex (S.var 6), .ex (S.var 3), .ex (S.var 11)]))) (.ex (S.c (.bl true)))))) (S.ret (S.up (S.c (.bl false)))) (S.pass)) (S.seq (S.ifs (S.tnot (S.tst (S.fz (S.call f__law_both_right [.ex (S.var 5), .ex (S.var 6), .ex (S.var 3)])))) (S.ret (S.up (S.c (.bl false)))) (S.pass)) (S.seq (S.ifs (S.tnot (S.tst (S.fz (S.call f__law_between [.lend 2, .ex (S.var 5), .ex (S.var 6), .ex (S.var 3)])))) (S.ret (S.up (S.c (.bl false)))) (S.pass)) (S.ifs (S.tnot (S.tst (S.fz (S.call f__law_ways_right [.lend 2, .ex (S.var 4), .ex (S.var 5), .ex (S.var 6)])))) (S.ret (S.up (S.c (.bl false)))) (S.pass))))))))
noncomputable def l3_law : SS := S.fors (S.range1 (S.fz (S.bin ixA (.nm 4) (.ex (S.c (.int 0)))))) (S.name 6) b3_law
noncomputable def b4_law : SS := S.seq (S.asg 2 (S.call f__law_begun [.ex (S.var 1)])) (S.seq (S.asg 3 (S.bin addD (.ex (S.c (.int 1))) (.ex (S.fz (S.call f__law_take [.lend 2, .ex (S.c (.int 8))]))))) (S.seq (S.asg 4 (S.call f__law_grid [.lend 2])) (S.seq (S.asg 3 (S.up (S.fnd minA [.nm 3, .ex (S.fz (S.bin subD (.ex (S.c (.int 9))) (.ex (S.fz (S.bin ixA (.nm 4) (.ex (S.c (.int 0))))))))]))) (S.seq (S.asg 5 (c1_law)) (l3_law)))))
noncomputable def l4_law : SS := S.fors (S.items (S.fz (S.call f__law_folded [.ex (S.var 0), .ex (S.c (.int 2))]))) (S.name 1) b4_law
noncomputable def s_law : SS := S.seq (l4_law) (S.ret (S.up (S.c (.bl true))))
noncomputable def f_law : FnSem := Shut (S.run s_law 13 [false])
theorem f_law_eq : f_law = S.run s_law 13 [false] := shut_eq _
end Sem

namespace Maths
open DV L2 PySem
/-! ### grids -/
def gridD (p : Nat) (ts : List (List Int)) : D := .tup [.int p, .tup (ts.map tupI)]
structure Tie (p : Nat) (t : List Int) : Prop where
  ex : ∃ a b x y : Int, t = [a, b, x, y] ∧ 0 ≤ a ∧ a < p ∧ 0 ≤ b ∧ b < p ∧ -1 ≤ x ∧ x ≤ 1 ∧ -1 ≤ y ∧ y ≤ 1
structure Grid (p : Nat) (ts : List (List Int)) : Prop where
  pos : 1 ≤ p
  le : p ≤ 4
  len : ts.length ≤ 20
  tie : ∀ t ∈ ts, Tie p t
theorem tie_of {p : Nat} {a b x y : Int} (h : 0 ≤ a ∧ a < p ∧ 0 ≤ b ∧ b < p ∧ -1 ≤ x ∧ x ≤ 1 ∧ -1 ≤ y ∧ y ≤ 1) : Tie p [a, b, x, y] := ⟨a, b, x, y, rfl, h⟩
def tieB (p : Nat) : List Int → Bool
  | [a, b, x, y] => decide (0 ≤ a ∧ a < p ∧ 0 ≤ b ∧ b < p ∧ -1 ≤ x ∧ x ≤ 1 ∧ -1 ≤ y ∧ y ≤ 1)
  | _ => false
theorem tie_ofB {p : Nat} {t : List Int} (h : tieB p t = true) : Tie p t := by
  unfold tieB at h
  split at h
  · exact tie_of (of_decide_eq_true h)
  · cases h
def gridB (g : Nat × List (List Int)) : Bool := decide (1 ≤ g.1 ∧ g.1 ≤ 4 ∧ g.2.length ≤ 16) && g.2.all (tieB g.1)
theorem grid_ofB {g : Nat × List (List Int)} (h : gridB g = true) : Grid g.1 g.2 ∧ g.2.length ≤ 16 := by
  unfold gridB at h
  obtain ⟨h1, h2⟩ := Bool.and_eq_true_iff.mp h
  obtain ⟨a, b, c⟩ := of_decide_eq_true h1
  exact ⟨⟨a, b, by omega, fun t ht => tie_ofB (List.all_eq_true.mp h2 t ht)⟩, c⟩
def gridsD (gs : List (Nat × List (List Int))) : List D := gs.map fun g => gridD g.1 g.2
theorem at_grids {gs : List (Nat × List (List Int))} (h : gs.all gridB = true) {r : Nat} (hr : r < gs.length) : ∃ (p : Nat) (ts : List (List Int)), atI (gridsD gs) (r : Int) = some (gridD p ts) ∧ Grid p ts ∧ ts.length ≤ 16 := by
  obtain ⟨g, e, m⟩ := at_some (xs := gs) (i := (r : Int)) (by omega) (by omega)
  exact ⟨g.1, g.2, by unfold gridsD; rw [at_map, e]; rfl, grid_ofB (List.all_eq_true.mp h g m)⟩
theorem seq_ok {f g : SS} {η η1 : DV.Env} (h : f η = .ok .nx η1) : S.seq f g η = g η1 := by
  show (f η).bind _ = _
  rw [h]; rfl
theorem seq_at {f g : SS} {η : DV.Env} {r : Out DV.Flow} {P : Out DV.Flow → Prop} (h : f η = r) (k : P (r.bind fun fl η1 => S.flowThen fl g η1)) : P (S.seq f g η) := by
  show P ((f η).bind _)
  rw [h]; exact k
theorem seqs {f g : SS} {η η1 η2 : DV.Env} {o : DV.Flow} (h : f η = .ok .nx η1) (h2 : g η1 = .ok o η2) : S.seq f g η = .ok o η2 := by rw [seq_ok h, h2]
/-- a turn goes through, and keeps what is wanted -/
def Good (I : DV.Env → Prop) (r : Out DV.Flow) : Prop := ∃ η', (r = .ok .nx η' ∨ r = .ok .ct η') ∧ I η'
theorem good_seq {I : DV.Env → Prop} {f g : SS} {η η1 : DV.Env} (h : f η = .ok .nx η1) (k : Good I (g η1)) : Good I (S.seq f g η) := by
  rw [seq_ok h]; exact k
theorem good_end {I : DV.Env → Prop} {f : SS} {η η1 : DV.Env} (h : f η = .ok .nx η1) (k : I η1) : Good I (f η) := ⟨η1, .inl h, k⟩
theorem good_eq {I : DV.Env → Prop} {r s : Out DV.Flow} (h : r = s) (k : Good I s) : Good I r := by rw [h]; exact k
theorem add_tup' {xs ys : List D} (h : xs.length + ys.length ≤ 1000000) : addD (.tup xs) (.tup ys) = some (0, .tup (xs ++ ys)) := by
  have z : xs.length + ys.length ≤ sizeLine := small_ok (by omega)
  unfold addD
  exact if_pos z
theorem add_lst' {xs ys : List D} (h : xs.length + ys.length ≤ 1000000) : addD (.lst xs) (.lst ys) = some (1, .lst (xs ++ ys)) := by
  have z : xs.length + ys.length ≤ sizeLine := small_ok (by omega)
  unfold addD
  exact if_pos z
theorem append' {ds : List D} {d : D} (h : ds.length ≤ 1000000) : appendD ds [d] = some (.non, ds ++ [d]) := by
  have z : ds.length + 1 ≤ sizeLine := small_ok (by omega)
  have z : ds.length < sizeLine := by omega
  unfold appendD
  exact if_pos z
end Maths

namespace Maths
open DV L2 PySem
/-! ### neighbours -/
def step1 (q : Int) : List Int → List (List Int)
  | [a, b, x, y] => (if a = q then [[b, x, y]] else []) ++ (if b = q then [[a, -x, -y]] else [])
  | _ => []
def stepsL (ts : List (List Int)) (q : Int) : List (List Int) := ts.flatMap (step1 q)
def moved (u v : Int) : List Int → List Int
  | [r, x, y] => [r, u + x, v + y]
  | _ => []
def besideL (ts : List (List Int)) : List Int → List (List Int)
  | [q, u, v] => (stepsL ts q).map (moved u v)
  | _ => []
theorem step1_len {q : Int} {t : List Int} : (step1 q t).length ≤ 2 := by
  unfold step1
  split
  · rw [List.length_append]
    split <;> split <;> simp
  · simp
theorem stepsL_len {ts : List (List Int)} {q : Int} : (stepsL ts q).length ≤ 2 * ts.length := by
  unfold stepsL
  induction ts with
  | nil => simp
  | cons t ts ih =>
    rw [List.flatMap_cons, List.length_append, List.length_cons]
    have := step1_len (q := q) (t := t)
    omega
theorem besideL_len {ts : List (List Int)} {P : List Int} : (besideL ts P).length ≤ 2 * ts.length := by
  unfold besideL
  split
  · rw [List.length_map]; exact stepsL_len
  · simp
theorem steps_three {p : Nat} {ts : List (List Int)} (G : Grid p ts) {q : Int} {s : List Int} (h : s ∈ stepsL ts q) : ∃ r x y : Int, s = [r, x, y] ∧ 0 ≤ r ∧ r < p ∧ -1 ≤ x ∧ x ≤ 1 ∧ -1 ≤ y ∧ y ≤ 1 := by
  unfold stepsL at h
  obtain ⟨t, ht, hs⟩ := List.mem_flatMap.mp h
  obtain ⟨a, b, x, y, rfl, h1, h2, h3, h4, _⟩ := (G.tie t ht).ex
  unfold step1 at hs
  rcases List.mem_append.mp hs with hs | hs
  · split at hs
    · rw [List.mem_singleton] at hs
      exact ⟨b, x, y, hs, by omega⟩
    · cases hs
  · split at hs
    · rw [List.mem_singleton] at hs
      exact ⟨a, -x, -y, hs, by omega⟩
    · cases hs
/-- a place: three numbers -/
def Three (P : List Int) : Prop := ∃ q u v : Int, P = [q, u, v]
def InBox (p n : Nat) (P : List Int) : Prop := ∃ q u v : Int, P = [q, u, v] ∧ 0 ≤ q ∧ q < p ∧ -(n : Int) ≤ u ∧ u ≤ n ∧ -(n : Int) ≤ v ∧ v ≤ n
theorem InBox.three {p n : Nat} {P : List Int} (h : InBox p n P) : Three P := let ⟨q, u, v, e, _⟩ := h; ⟨q, u, v, e⟩
theorem InBox.mono {p n m : Nat} {P : List Int} (h : InBox p n P) (l : n ≤ m) : InBox p m P := let ⟨q, u, v, e, h⟩ := h; ⟨q, u, v, e, by omega⟩
theorem beside_box {p n : Nat} {ts : List (List Int)} (G : Grid p ts) {P O : List Int} (hP : InBox p n P) (h : O ∈ besideL ts P) : InBox p (n + 1) O := by
  obtain ⟨q, u, v, rfl, hb⟩ := hP
  obtain ⟨s, hs, rfl⟩ := List.mem_map.mp (show O ∈ (stepsL ts q).map (moved u v) from h)
  obtain ⟨r, x, y, rfl, hh⟩ := steps_three G hs
  exact ⟨r, u + x, v + y, rfl, by omega⟩
def boxL (p n : Nat) : List (List Int) := (List.range p).flatMap fun (q : Nat) => (List.range (2 * n + 1)).flatMap fun (i : Nat) => (List.range (2 * n + 1)).map fun (j : Nat) => [(q : Int), (i : Int) - (n : Int), (j : Int) - (n : Int)]
theorem flat_len {α β : Type} {f : α → List β} {k : Nat} : ∀ {l : List α}, (∀ a ∈ l, (f a).length = k) → (l.flatMap f).length = l.length * k
  | [], _ => by simp
  | a :: l, h => by
    rw [List.flatMap_cons, List.length_append, List.length_cons, h a List.mem_cons_self, flat_len (l := l) fun b hb => h b (List.mem_cons_of_mem _ hb), Nat.add_mul]
    omega
theorem box_len (p n : Nat) : (boxL p n).length = p * ((2 * n + 1) * (2 * n + 1)) := by
  unfold boxL
  rw [flat_len (k := (2 * n + 1) * (2 * n + 1)) fun q _ => ?_, List.length_range]
  rw [flat_len (k := 2 * n + 1) fun i _ => by rw [List.length_map, List.length_range], List.length_range]
theorem box_mem {p n : Nat} {P : List Int} (h : InBox p n P) : P ∈ boxL p n := by
  obtain ⟨q, u, v, rfl, hb⟩ := h
  unfold boxL
  refine List.mem_flatMap.mpr ⟨q.toNat, List.mem_range.mpr (by omega), List.mem_flatMap.mpr ⟨(u + n).toNat, List.mem_range.mpr (by omega), List.mem_map.mpr ⟨(v + n).toNat, List.mem_range.mpr (by omega), ?_⟩⟩⟩
  rw [show ((q.toNat : Nat) : Int) = q by omega, show (((u + n).toNat : Nat) : Int) - n = u by omega, show (((v + n).toNat : Nat) : Int) - n = v by omega]
theorem box_few {p n : Nat} {l : List (List Int)} (nd : l.Nodup) (h : ∀ P ∈ l, InBox p n P) : l.length ≤ p * ((2 * n + 1) * (2 * n + 1)) := by
  rw [← box_len]
  exact nd.length_le_of_subset fun P hP => box_mem (h P hP)
/-! ### rings -/
abbrev Far := List (List Int × Int)
def farD (kvs : Far) : D := dI (kvs.map fun e => (e.1, D.int e.2))
def hasP (kvs : Far) (O : List Int) : Bool := kvs.any fun e => decide (e.1 = O)
theorem hasP_iff {kvs : Far} {O : List Int} : hasP kvs O = true ↔ O ∈ kvs.map (·.1) := by
  unfold hasP
  rw [List.any_eq_true, List.mem_map]
  constructor
  · rintro ⟨e, h1, h2⟩; exact ⟨e, h1, of_decide_eq_true h2⟩
  · rintro ⟨e, h1, h2⟩; exact ⟨e, h1, decide_eq_true h2⟩
abbrev Bes := List Int → List (List Int)
def addP (d : Int) (st : Far × List (List Int)) (O : List Int) : Far × List (List Int) := if hasP st.1 O = true then st else (st.1 ++ [(O, d)], st.2 ++ [O])
def besP (bes : Bes) (d : Int) (st : Far × List (List Int)) (P : List Int) : Far × List (List Int) := (bes P).foldl (addP d) st
def roundL (bes : Bes) (d : Int) (kvs : Far) (ring : List (List Int)) : Far × List (List Int) := ring.foldl (besP bes d) (kvs, [])
def ringsL (bes : Bes) (start : Int) : Nat → Far × List (List Int)
  | 0 => ([([start, 0, 0], 0)], [[start, 0, 0]])
  | n + 1 => roundL bes ((n : Int) + 1) (ringsL bes start n).1 (ringsL bes start n).2
theorem look_has {kvs : Far} {O : List Int} : (lookI (kvs.map fun e => (e.1, D.int e.2)) O).isSome = hasP kvs O := by
  unfold lookI hasP
  rw [Option.isSome_map, List.find?_map, Option.isSome_map]
  induction kvs with
  | nil => rfl
  | cons e kvs ih =>
    rw [List.find?_cons, List.any_cons]
    by_cases h : e.1 = O
    · simp [h]
    · simp only [Function.comp, h, decide_false, Bool.false_or]
      exact ih
theorem put_new {kvs : Far} {O : List Int} {d : Int} (h : hasP kvs O = false) : putI (kvs.map fun e => (e.1, D.int e.2)) O (.int d) = (kvs ++ [(O, d)]).map fun e => (e.1, D.int e.2) := by
  unfold putI
  have e : ((kvs.map fun e => (e.1, D.int e.2)).any fun kv => decide (kv.1 = O)) = hasP kvs O := by
    rw [List.any_map]; rfl
  rw [e, h, List.map_append]
  rfl
theorem addP_len {d : Int} {st : Far × List (List Int)} {O : List Int} : (addP d st O).1.length ≤ st.1.length + 1 ∧ (addP d st O).2.length ≤ st.2.length + 1 := by
  unfold addP
  split
  · omega
  · simp
theorem foldA_len {d : Int} : ∀ {Os : List (List Int)} {st : Far × List (List Int)}, (Os.foldl (addP d) st).1.length ≤ st.1.length + Os.length ∧ (Os.foldl (addP d) st).2.length ≤ st.2.length + Os.length
  | [], st => by simp
  | O :: Os, st => by
    rw [List.foldl_cons, List.length_cons]
    have h1 := addP_len (d := d) (st := st) (O := O)
    have h2 := foldA_len (d := d) (Os := Os) (st := addP d st O)
    omega
theorem foldB_len {bes : Bes} {d : Int} (hb : ∀ P, (bes P).length ≤ 40) : ∀ {Ps : List (List Int)} {st : Far × List (List Int)}, (Ps.foldl (besP bes d) st).1.length ≤ st.1.length + 40 * Ps.length ∧ (Ps.foldl (besP bes d) st).2.length ≤ st.2.length + 40 * Ps.length
  | [], st => by simp
  | P :: Ps, st => by
    rw [List.foldl_cons, List.length_cons]
    have h0 := hb P
    have h1 := foldA_len (d := d) (Os := bes P) (st := st)
    have h2 := foldB_len (d := d) hb (Ps := Ps) (st := besP bes d st P)
    unfold besP at h2 ⊢
    omega
theorem foldB_flat {bes : Bes} {d : Int} : ∀ {Ps : List (List Int)} {st : Far × List (List Int)}, Ps.foldl (besP bes d) st = (Ps.flatMap bes).foldl (addP d) st
  | [], _ => rfl
  | P :: Ps, st => by
    rw [List.foldl_cons, List.flatMap_cons, List.foldl_append, foldB_flat]
    rfl
/-- what a round puts in -/
theorem foldA_mem {d : Int} : ∀ {Os : List (List Int)} {st : Far × List (List Int)}, (∀ e : List Int × Int, e ∈ (Os.foldl (addP d) st).1 ↔ e ∈ st.1 ∨ (e.2 = d ∧ e.1 ∈ Os ∧ e.1 ∉ st.1.map (·.1))) ∧
    (∀ P, P ∈ (Os.foldl (addP d) st).2 ↔ P ∈ st.2 ∨ (P ∈ Os ∧ P ∉ st.1.map (·.1)))
  | [], st => by simp
  | O :: Os, st => by
    rw [List.foldl_cons]
    obtain ⟨h1, h2⟩ := foldA_mem (d := d) (Os := Os) (st := addP d st O)
    unfold addP at h1 h2 ⊢
    by_cases h : hasP st.1 O = true
    · rw [if_pos h] at h1 h2 ⊢
      have hO := hasP_iff.mp h
      refine ⟨fun e => ?_, fun P => ?_⟩
      · rw [h1 e]
        constructor
        · rintro (z | ⟨a, b, c⟩)
          · exact .inl z
          · exact .inr ⟨a, List.mem_cons_of_mem _ b, c⟩
        · rintro (z | ⟨a, b, c⟩)
          · exact .inl z
          · rcases List.mem_cons.mp b with b | b
            · rw [b] at c; exact absurd hO c
            · exact .inr ⟨a, b, c⟩
      · rw [h2 P]
        constructor
        · rintro (z | ⟨b, c⟩)
          · exact .inl z
          · exact .inr ⟨List.mem_cons_of_mem _ b, c⟩
        · rintro (z | ⟨b, c⟩)
          · exact .inl z
          · rcases List.mem_cons.mp b with b | b
            · rw [b] at c; exact absurd hO c
            · exact .inr ⟨b, c⟩
    · rw [if_neg h] at h1 h2 ⊢
      have hO : O ∉ st.1.map (·.1) := fun z => h (hasP_iff.mpr z)
      refine ⟨fun e => ?_, fun P => ?_⟩
      · rw [h1 e, List.map_append, List.mem_append, List.mem_singleton]
        show (_ ∨ e = (O, d)) ∨ (_ ∧ _ ∧ ¬ e.1 ∈ st.1.map (·.1) ++ [O]) ↔ _
        rw [List.mem_append, List.mem_singleton, List.mem_cons]
        constructor
        · rintro ((z | z) | ⟨a, b, c⟩)
          · exact .inl z
          · subst z; exact .inr ⟨rfl, .inl rfl, hO⟩
          · exact .inr ⟨a, .inr b, fun z => c (.inl z)⟩
        · rintro (z | ⟨a, b | b, c⟩)
          · exact .inl (.inl z)
          · exact .inl (.inr (Prod.ext b a))
          · by_cases hq : e.1 = O
            · exact .inl (.inr (Prod.ext hq a))
            · exact .inr ⟨a, b, fun z => z.elim c hq⟩
      · rw [h2 P, List.map_append, List.mem_append, List.mem_singleton]
        show (_ ∨ P = O) ∨ (_ ∧ ¬ P ∈ st.1.map (·.1) ++ [O]) ↔ _
        rw [List.mem_append, List.mem_singleton, List.mem_cons]
        constructor
        · rintro ((z | z) | ⟨b, c⟩)
          · exact .inl z
          · subst z; exact .inr ⟨.inl rfl, hO⟩
          · exact .inr ⟨.inr b, fun z => c (.inl z)⟩
        · rintro (z | ⟨b | b, c⟩)
          · exact .inl (.inl z)
          · exact .inl (.inr b)
          · by_cases hq : P = O
            · exact .inl (.inr hq)
            · exact .inr ⟨b, fun z => z.elim c hq⟩
theorem foldA_nodup {d : Int} : ∀ {Os : List (List Int)} {st : Far × List (List Int)}, (st.1.map (·.1)).Nodup → st.2.Nodup → (∀ P ∈ st.2, P ∈ st.1.map (·.1)) →
    ((Os.foldl (addP d) st).1.map (·.1)).Nodup ∧ (Os.foldl (addP d) st).2.Nodup ∧ (∀ P ∈ (Os.foldl (addP d) st).2, P ∈ (Os.foldl (addP d) st).1.map (·.1))
  | [], st, h1, h2, h3 => ⟨h1, h2, h3⟩
  | O :: Os, st, h1, h2, h3 => by
    rw [List.foldl_cons]
    by_cases h : hasP st.1 O = true
    · have e : addP d st O = st := if_pos h
      rw [e]
      exact foldA_nodup h1 h2 h3
    · have e : addP d st O = (st.1 ++ [(O, d)], st.2 ++ [O]) := if_neg h
      have hO : O ∉ st.1.map (·.1) := fun z => h (hasP_iff.mpr z)
      rw [e]
      have ap : ∀ {l : List (List Int)}, l.Nodup → O ∉ l → (l ++ [O]).Nodup := fun hl hn => by
        rw [List.nodup_append]
        refine ⟨hl, by simp, fun a ha b hb q => ?_⟩
        rw [List.mem_singleton.mp hb] at q
        exact hn (q ▸ ha)
      refine foldA_nodup ?_ (ap h2 fun z => hO (h3 O z)) fun P hP => ?_
      · rw [List.map_append]; exact ap h1 hO
      · rw [List.map_append, List.mem_append]
        rcases List.mem_append.mp hP with hP | hP
        · exact .inl (h3 P hP)
        · exact .inr hP
theorem round_mem {bes : Bes} {d : Int} {kvs : Far} {ring : List (List Int)} : (∀ e : List Int × Int, e ∈ (roundL bes d kvs ring).1 ↔ e ∈ kvs ∨ (e.2 = d ∧ e.1 ∉ kvs.map (·.1) ∧ ∃ R ∈ ring, e.1 ∈ bes R)) ∧
    (∀ P, P ∈ (roundL bes d kvs ring).2 ↔ P ∉ kvs.map (·.1) ∧ ∃ R ∈ ring, P ∈ bes R) := by
  unfold roundL
  rw [foldB_flat]
  obtain ⟨h1, h2⟩ := foldA_mem (d := d) (Os := ring.flatMap bes) (st := (kvs, []))
  refine ⟨fun e => ?_, fun P => ?_⟩
  · rw [h1 e, List.mem_flatMap]
    constructor
    · rintro (z | ⟨a, b, c⟩)
      · exact .inl z
      · exact .inr ⟨a, c, b⟩
    · rintro (z | ⟨a, c, b⟩)
      · exact .inl z
      · exact .inr ⟨a, b, c⟩
  · rw [h2 P, List.mem_flatMap]
    constructor
    · rintro (z | ⟨b, c⟩)
      · cases z
      · exact ⟨c, b⟩
    · rintro ⟨c, b⟩; exact .inr ⟨b, c⟩
/-- the shape of rings -/
structure RingOk (bes : Bes) (p : Nat) (start : Int) (n : Nat) : Prop where
  nd : ((ringsL bes start n).1.map (·.1)).Nodup
  rnd : (ringsL bes start n).2.Nodup
  box : ∀ e ∈ (ringsL bes start n).1, InBox p n e.1 ∧ 0 ≤ e.2 ∧ e.2 ≤ n
  ring : ∀ P, P ∈ (ringsL bes start n).2 ↔ (P, (n : Int)) ∈ (ringsL bes start n).1
/-- neighbours of places are places -/
def Goes (bes : Bes) (p : Nat) : Prop := ∀ (n : Nat) (P O : List Int), InBox p n P → O ∈ bes P → InBox p (n + 1) O
theorem rings_shape {bes : Bes} {p : Nat} (hg : Goes bes p) {start : Int} (h0 : 0 ≤ start ∧ start < p) : ∀ n, RingOk bes p start n
  | 0 => by
    refine ⟨by simp [ringsL], by simp [ringsL], fun e he => ?_, fun P => ?_⟩
    · rw [List.mem_singleton.mp (show e ∈ [([start, 0, 0], (0 : Int))] from he)]
      exact ⟨⟨start, 0, 0, rfl, by omega⟩, Int.le_refl _, Int.le_refl _⟩
    · show P ∈ [[start, 0, 0]] ↔ (P, ((0 : Nat) : Int)) ∈ [([start, 0, 0], (0 : Int))]
      simp
  | n + 1 => by
    have ih := rings_shape hg h0 n
    obtain ⟨m1, m2⟩ := round_mem (bes := bes) (d := (n : Int) + 1) (kvs := (ringsL bes start n).1) (ring := (ringsL bes start n).2)
    have nd := foldA_nodup (d := (n : Int) + 1) (Os := (ringsL bes start n).2.flatMap bes) (st := ((ringsL bes start n).1, [])) ih.nd List.nodup_nil (fun P h => by cases h)
    rw [← foldB_flat] at nd
    refine ⟨nd.1, nd.2.1, fun e he => ?_, fun P => ?_⟩
    · rcases (m1 e).mp he with h | ⟨h1, _, R, hR, hb⟩
      · obtain ⟨b1, b2, b3⟩ := ih.box e h
        exact ⟨b1.mono (by omega), b2, by omega⟩
      · obtain ⟨b1, _⟩ := ih.box _ ((ih.ring R).mp hR)
        exact ⟨hg n R e.1 b1 hb, by omega, by omega⟩
    · show P ∈ (roundL bes ((n : Int) + 1) (ringsL bes start n).1 (ringsL bes start n).2).2 ↔ (P, ((n + 1 : Nat) : Int)) ∈ (roundL bes ((n : Int) + 1) (ringsL bes start n).1 (ringsL bes start n).2).1
      rw [m1, m2]
      constructor
      · rintro ⟨a, b⟩; exact .inr ⟨by simp, a, b⟩
      · rintro (h | ⟨_, a, b⟩)
        · have := (ih.box _ h).2.2
          simp only at this
          omega
        · exact ⟨a, b⟩
theorem RingOk.few {bes : Bes} {p : Nat} {start : Int} {n : Nat} (R : RingOk bes p start n) : (ringsL bes start n).1.length ≤ p * ((2 * n + 1) * (2 * n + 1)) ∧ (ringsL bes start n).2.length ≤ p * ((2 * n + 1) * (2 * n + 1)) := by
  constructor
  · have := box_few (p := p) (n := n) R.nd fun P hP => by
      obtain ⟨e, he, rfl⟩ := List.mem_map.mp hP
      exact (R.box e he).1
    rwa [List.length_map] at this
  · exact box_few R.rnd fun P hP => (R.box _ ((R.ring P).mp hP)).1
theorem nodup_of_keys {F : Far} (h : (F.map (·.1)).Nodup) : F.Nodup := List.Pairwise.of_map _ (fun a b hab e => hab (by rw [e])) h
/-- neighbours told alike: rings alike -/
theorem rings_alike {bes bes' : Bes} {start : Int} (h : ∀ P O, O ∈ bes P ↔ O ∈ bes' P) : ∀ n, (∀ e, e ∈ (ringsL bes start n).1 ↔ e ∈ (ringsL bes' start n).1) ∧ (∀ P, P ∈ (ringsL bes start n).2 ↔ P ∈ (ringsL bes' start n).2)
  | 0 => ⟨fun _ => Iff.rfl, fun _ => Iff.rfl⟩
  | n + 1 => by
    obtain ⟨i1, i2⟩ := rings_alike (start := start) h n
    obtain ⟨m1, m2⟩ := round_mem (bes := bes) (d := (n : Int) + 1) (kvs := (ringsL bes start n).1) (ring := (ringsL bes start n).2)
    obtain ⟨k1, k2⟩ := round_mem (bes := bes') (d := (n : Int) + 1) (kvs := (ringsL bes' start n).1) (ring := (ringsL bes' start n).2)
    have ks : ∀ P, P ∈ (ringsL bes start n).1.map (·.1) ↔ P ∈ (ringsL bes' start n).1.map (·.1) := fun P => by
      rw [List.mem_map, List.mem_map]
      constructor
      · rintro ⟨e, a, b⟩; exact ⟨e, (i1 e).mp a, b⟩
      · rintro ⟨e, a, b⟩; exact ⟨e, (i1 e).mpr a, b⟩
    have ex : ∀ P, (∃ R ∈ (ringsL bes start n).2, P ∈ bes R) ↔ ∃ R ∈ (ringsL bes' start n).2, P ∈ bes' R := fun P => by
      constructor
      · rintro ⟨R, a, b⟩; exact ⟨R, (i2 R).mp a, (h R P).mp b⟩
      · rintro ⟨R, a, b⟩; exact ⟨R, (i2 R).mpr a, (h R P).mpr b⟩
    refine ⟨fun e => ?_, fun P => ?_⟩
    · show e ∈ (roundL _ _ _ _).1 ↔ e ∈ (roundL _ _ _ _).1
      rw [m1, k1, i1, ks, ex]
    · show P ∈ (roundL _ _ _ _).2 ↔ P ∈ (roundL _ _ _ _).2
      rw [m2, k2, ks, ex]
theorem rings_perm {bes bes' : Bes} {p : Nat} {start : Int} (g : Goes bes p) (g' : Goes bes' p) (h0 : 0 ≤ start ∧ start < p) (h : ∀ P O, O ∈ bes P ↔ O ∈ bes' P) (n : Nat) : (ringsL bes start n).1.Perm (ringsL bes' start n).1 :=
  (List.perm_ext_iff_of_nodup (nodup_of_keys (rings_shape g h0 n).nd) (nodup_of_keys (rings_shape g' h0 n).nd)).mpr (rings_alike h n).1
/-! ### pairs of a place and a number -/
def prD (e : List Int × Int) : D := .tup [tupI e.1, .int e.2]
theorem py_prD (a : List Int × Int) : py (prD a) = .tuple [.tuple (a.1.map PyData.int), .int a.2] := by
  unfold prD
  rw [py, pyL, pyL, pyL, py_tupI]
  rfl
theorem alike_pr (a b : List Int × Int) : PySem.W.alike (py (prD a)) (py (prD b)) = true := by
  rw [py_prD a, py_prD b]
  have h : PySem.W.alikeAll (a.1.map PyData.int) (b.1.map PyData.int) = true := PySem.W.alike_ints a.1 b.1
  show PySem.W.alikeAll [.tuple (a.1.map PyData.int), .int a.2] [.tuple (b.1.map PyData.int), .int b.2] = true
  simp [PySem.W.alikeAll, h, PySem.W.alike]
theorem sortOk_pr (F : Far) : sortOk (F.map prD) = true := by
  unfold sortOk
  rw [Bool.and_eq_true, Bool.and_eq_true, Bool.or_eq_true]
  refine ⟨⟨List.all_eq_true.mpr fun a ha => List.all_eq_true.mpr fun b hb => ?_, .inl (List.all_eq_true.mpr fun a ha => ?_)⟩, List.all_eq_true.mpr fun a ha => ?_⟩
  · obtain ⟨x, _, rfl⟩ := List.mem_map.mp ha
    obtain ⟨y, _, rfl⟩ := List.mem_map.mp hb
    exact alike_pr x y
  · obtain ⟨x, hx, rfl⟩ := List.mem_map.mp ha
    rfl
  · obtain ⟨x, _, rfl⟩ := List.mem_map.mp ha
    unfold prD
    simp
theorem toks_inj {a b : List Int × Int} (ha : Three a.1) (hb : Three b.1) (h : PySem.W.keyToks (py (prD a)) = PySem.W.keyToks (py (prD b))) : a = b := by
  obtain ⟨a, d⟩ := a
  obtain ⟨b, d'⟩ := b
  obtain ⟨q, u, v, e⟩ := ha
  obtain ⟨q', u', v', e'⟩ := hb
  simp only at e e'
  subst e
  subst e'
  rw [py_prD, py_prD] at h
  simp [PySem.W.keyToks, PySem.W.keyToksAll] at h
  obtain ⟨h1, h2, h3, h4⟩ := h
  rw [h1, h2, h3, h4]
theorem sort_far {F F' : Far} (h : ∀ e ∈ F, Three e.1) (h' : ∀ e ∈ F', Three e.1) (p : F.Perm F') : (F.map prD).mergeSort leDat = (F'.map prD).mergeSort leDat := by
  refine sort_perm (fun a ha b hb e => ?_) (p.map prD)
  obtain ⟨x, hx, rfl⟩ := List.mem_map.mp ha
  obtain ⟨y, hy, rfl⟩ := List.mem_map.mp hb
  rw [toks_inj (h x hx) (h' y hy) e]
theorem intKV_far (F : Far) : intKV (F.map fun e => (keyI e.1, D.int e.2)) = some (F.map fun e => (keyI e.1, e.2)) := by
  induction F with
  | nil => rfl
  | cons e F ih =>
    show (intKV (F.map fun e => (keyI e.1, D.int e.2))).map ((keyI e.1, e.2) :: ·) = _
    rw [ih]; rfl
theorem farD_eq (F : Far) : farD F = .dT (F.map fun e => (keyI e.1, D.int e.2)) := by
  unfold farD dI
  rw [List.map_map]; rfl
theorem pairs_far (F : Far) : (F.map fun e => (keyI e.1, e.2)).map pairT = F.map prD := by
  rw [List.map_map]
  refine List.map_congr_left fun e _ => ?_
  show D.tup [keyT (keyI e.1), .int e.2] = _
  rw [keyT_I]; rfl
end Maths

namespace Maths
open DV L2 PySem
def lbes (ts : List (List Int)) (P : List Int) : List (List Int) := (besideL ts P).mergeSort leI
theorem lbes_mem {ts : List (List Int)} {P O : List Int} : O ∈ lbes ts P ↔ O ∈ besideL ts P := (List.mergeSort_perm _ _).mem_iff
theorem beside_three {p : Nat} {ts : List (List Int)} (G : Grid p ts) {P O : List Int} (h : O ∈ besideL ts P) : Three O := by
  unfold besideL at h
  split at h
  · obtain ⟨s, hs, rfl⟩ := List.mem_map.mp h
    obtain ⟨r, x, y, rfl, _⟩ := steps_three G hs
    exact ⟨r, _, _, rfl⟩
  · cases h
theorem goesL {p : Nat} {ts : List (List Int)} (G : Grid p ts) : Goes (besideL ts) p := fun _ _ _ hP h => beside_box G hP h
theorem goesB {p : Nat} {ts : List (List Int)} (G : Grid p ts) : Goes (lbes ts) p := fun _ _ _ hP h => beside_box G hP (lbes_mem.mp h)
/-- neighbours are neighbours of each other -/
theorem beside_sym {ts : List (List Int)} {P O : List Int} (hO : Three O) (h : O ∈ besideL ts P) : P ∈ besideL ts O := by
  unfold besideL at h
  split at h
  · rename_i q u v
    obtain ⟨s, hs, rfl⟩ := List.mem_map.mp h
    obtain ⟨t, ht, hs⟩ := List.mem_flatMap.mp hs
    unfold step1 at hs
    split at hs
    · rename_i a b x y
      rcases List.mem_append.mp hs with hs | hs
      · split at hs
        · rename_i ha
          rw [List.mem_singleton] at hs
          subst hs
          refine List.mem_map.mpr ⟨[a, -x, -y], List.mem_flatMap.mpr ⟨_, ht, ?_⟩, ?_⟩
          · show _ ∈ step1 b [a, b, x, y]
            unfold step1
            exact List.mem_append_right _ (by rw [if_pos rfl]; exact List.mem_singleton.mpr rfl)
          · show [a, u + x + -x, v + y + -y] = _
            rw [ha, show u + x + -x = u by omega, show v + y + -y = v by omega]
        · cases hs
      · split at hs
        · rename_i hb
          rw [List.mem_singleton] at hs
          subst hs
          refine List.mem_map.mpr ⟨[b, x, y], List.mem_flatMap.mpr ⟨_, ht, ?_⟩, ?_⟩
          · show _ ∈ step1 a [a, b, x, y]
            unfold step1
            exact List.mem_append_left _ (by rw [if_pos rfl]; exact List.mem_singleton.mpr rfl)
          · show [b, u + -x + x, v + -y + y] = _
            rw [hb, show u + -x + x = u by omega, show v + -y + y = v by omega]
        · cases hs
    · cases hs
  · cases h
end Maths

namespace Maths
open DV L2 PySem
/-! ### ties as written -/
def Norm (t : List Int) : Prop := ∃ a b x y : Int, t = [a, b, x, y] ∧ (a < b ∨ a = b ∧ (0 < x ∨ x = 0 ∧ 0 < y))
def Real (t : List Int) : Prop := ∃ a b x y : Int, t = [a, b, x, y] ∧ (a ≠ b ∨ x ≠ 0 ∨ y ≠ 0)
def flip : List Int → List Int
  | [a, b, x, y] => [b, a, -x, -y]
  | t => t
def wrt : List Int → List Int
  | [a, b, x, y] => if a < b ∨ a = b ∧ (0 < x ∨ x = 0 ∧ 0 < y) then [a, b, x, y] else [b, a, -x, -y]
  | t => t
theorem wrt_four (a b x y : Int) : wrt [a, b, x, y] = if a < b ∨ a = b ∧ (0 < x ∨ x = 0 ∧ 0 < y) then [a, b, x, y] else [b, a, -x, -y] := rfl
def normB : List Int → Bool
  | [a, b, x, y] => decide (a < b ∨ a = b ∧ (0 < x ∨ x = 0 ∧ 0 < y))
  | _ => false
theorem norm_ofB {t : List Int} (h : normB t = true) : Norm t := by
  unfold normB at h
  split at h
  · exact ⟨_, _, _, _, rfl, of_decide_eq_true h⟩
  · cases h
theorem Norm.real {t : List Int} (h : Norm t) : Real t := by
  obtain ⟨a, b, x, y, rfl, h⟩ := h
  exact ⟨a, b, x, y, rfl, by omega⟩
theorem Real.flip {t : List Int} (h : Real t) : Real (flip t) := by
  obtain ⟨a, b, x, y, rfl, h⟩ := h
  exact ⟨b, a, -x, -y, rfl, by omega⟩
theorem wrt_norm {t : List Int} (h : Real t) : Norm (wrt t) := by
  obtain ⟨a, b, x, y, rfl, h⟩ := h
  rw [wrt_four]
  by_cases c : a < b ∨ a = b ∧ (0 < x ∨ x = 0 ∧ 0 < y)
  · rw [if_pos c]; exact ⟨a, b, x, y, rfl, c⟩
  · rw [if_neg c]; exact ⟨b, a, -x, -y, rfl, by omega⟩
theorem wrt_self {t : List Int} (h : Norm t) : wrt t = t := by
  obtain ⟨a, b, x, y, rfl, h⟩ := h
  exact if_pos h
theorem wrt_flip {t : List Int} (h : Norm t) : wrt (flip t) = t := by
  obtain ⟨a, b, x, y, rfl, h⟩ := h
  show (if b < a ∨ b = a ∧ (0 < -x ∨ -x = 0 ∧ 0 < -y) then _ else [a, b, - -x, - -y]) = _
  rw [if_neg (by omega), Int.neg_neg, Int.neg_neg]
theorem Tie.flip {p : Nat} {t : List Int} (h : Tie p t) : Tie p (flip t) := by
  obtain ⟨a, b, x, y, rfl, h⟩ := h.ex
  exact tie_of (by omega)
theorem Tie.wrt {p : Nat} {t : List Int} (h : Tie p t) : Tie p (wrt t) := by
  obtain ⟨a, b, x, y, rfl, h⟩ := h.ex
  rw [wrt_four]
  by_cases c : a < b ∨ a = b ∧ (0 < x ∨ x = 0 ∧ 0 < y)
  · rw [if_pos c]; exact tie_of (by omega)
  · rw [if_neg c]; exact tie_of (by omega)
/-- a grid: ties as written, rising, each once -/
structure GS (p : Nat) (ts : List (List Int)) : Prop where
  grid : Grid p ts
  norm : ∀ t ∈ ts, Norm t
  nd : ts.Nodup
  up : ts.Pairwise fun a b => leI a b = true
  few : ts.length ≤ 16
def gsB (g : Nat × List (List Int)) : Bool := gridB g && g.2.all normB && decide g.2.Nodup && decide (g.2.Pairwise fun a b => a ≤ b)
theorem gs_ofB {g : Nat × List (List Int)} (h : gsB g = true) : GS g.1 g.2 := by
  unfold gsB at h
  simp only [Bool.and_eq_true, decide_eq_true_eq] at h
  obtain ⟨⟨⟨h1, h2⟩, h3⟩, h4⟩ := h
  obtain ⟨g1, g2⟩ := grid_ofB h1
  exact ⟨g1, fun t ht => norm_ofB (List.all_eq_true.mp h2 t ht), h3, h4.imp fun {a b} hab => by rw [leI_eq]; exact decide_eq_true hab, g2⟩
theorem at_gridsS {gs : List (Nat × List (List Int))} (h : gs.all gsB = true) {r : Nat} (hr : r < gs.length) : ∃ (p : Nat) (ts : List (List Int)), atI (gridsD gs) (r : Int) = some (gridD p ts) ∧ GS p ts := by
  obtain ⟨g, e, m⟩ := at_some (xs := gs) (i := (r : Int)) (by omega) (by omega)
  exact ⟨g.1, g.2, by unfold gridsD; rw [at_map, e]; rfl, gs_ofB (List.all_eq_true.mp h g m)⟩
theorem gs_sort {p : Nat} {us : List (List Int)} (h1 : 1 ≤ p) (h4 : p ≤ 4) (hl : us.length ≤ 16) (ht : ∀ t ∈ us, Tie p t) (hn : ∀ t ∈ us, Norm t) (nd : us.Nodup) : GS p (us.mergeSort leI) := by
  have pm := List.mergeSort_perm us leI
  exact ⟨⟨h1, h4, by rw [List.length_mergeSort]; omega, fun t h => ht t (pm.mem_iff.mp h)⟩, fun t h => hn t (pm.mem_iff.mp h), pm.symm.nodup nd, List.pairwise_mergeSort leI_trans leI_total _, by rw [List.length_mergeSort]; exact hl⟩
/-- a rising list is told by its members -/
theorem up_ext {l m : List (List Int)} (d1 : l.Nodup) (d2 : m.Nodup) (u1 : l.Pairwise fun a b => leI a b = true) (u2 : m.Pairwise fun a b => leI a b = true) (h : ∀ t, t ∈ l ↔ t ∈ m) : l = m :=
  ((List.perm_ext_iff_of_nodup d1 d2).mpr h).eq_of_pairwise (fun a b _ _ h1 h2 => leI_antisymm h1 h2) u1 u2
theorem sort_permI {l m : List (List Int)} (h : l.Perm m) : l.mergeSort leI = m.mergeSort leI :=
  (((List.mergeSort_perm l leI).trans h).trans (List.mergeSort_perm m leI).symm).eq_of_pairwise (fun a b _ _ h1 h2 => leI_antisymm h1 h2) (List.pairwise_mergeSort leI_trans leI_total _) (List.pairwise_mergeSort leI_trans leI_total _)
theorem gt0_ok (x y : Int) : gtX (.tup [.int x, .int y]) (.tup [.int 0, .int 0]) = some (decide (0 < x ∨ x = 0 ∧ 0 < y)) := by
  have e : gtX (.tup [.int x, .int y]) (.tup [.int 0, .int 0]) = _ := gt_tupI [x, y] [0, 0]
  rw [e]
  have l := leI_eq [x, y] [0, 0]
  have l : (!PySem.W.dataLt (py (tupI [0, 0])) (py (tupI [x, y]))) = decide ([x, y] ≤ [0, 0]) := l
  congr 1
  have : PySem.W.dataLt (py (tupI [0, 0])) (py (tupI [x, y])) = !decide ([x, y] ≤ [0, 0]) := by rw [← l, Bool.not_not]
  rw [this, ← decide_not]
  congr 1
  rw [List.not_le]
  simp only [List.cons_lt_cons_iff, List.not_lt_nil, and_false, or_false, eq_comm (a := (0 : Int))]
theorem lt0_ok (x y : Int) : ltD (.tup [.int x, .int y]) (.tup [.int 0, .int 0]) = some (decide (x < 0 ∨ x = 0 ∧ y < 0)) := by
  have e : ltD (.tup [.int x, .int y]) (.tup [.int 0, .int 0]) = _ := lt_tupI (a := [x, y]) (b := [0, 0])
  rw [e]
  congr 1
  rw [HT.lexLt_cons, HT.lexLt_cons]
  by_cases h : x = 0
  · by_cases h2 : y = 0 <;> simp [h, h2, HT.lexLt]
  · simp [h]
end Maths

namespace Maths
open DV L2 PySem
/-! ### neighbours of moved places, of ties more, counted -/
theorem steps_perm {ts us : List (List Int)} (h : ts.Perm us) (q : Int) : (stepsL ts q).Perm (stepsL us q) := h.flatMap_right (step1 q)
theorem beside_perm {ts us : List (List Int)} (h : ts.Perm us) (P : List Int) : (besideL ts P).Perm (besideL us P) := by
  unfold besideL
  split
  · exact (steps_perm h _).map _
  · exact .refl _
def mv (x y : Int) : List Int → List Int
  | [p, u, v] => [p, u + x, v + y]
  | t => t
theorem beside_mv {p : Nat} {ts : List (List Int)} (G : Grid p ts) (q u v x y : Int) : besideL ts [q, u + x, v + y] = (besideL ts [q, u, v]).map (mv x y) := by
  show (stepsL ts q).map (moved (u + x) (v + y)) = ((stepsL ts q).map (moved u v)).map (mv x y)
  rw [List.map_map]
  refine List.map_congr_left fun s hs => ?_
  obtain ⟨r, a, b, rfl, _⟩ := steps_three G hs
  show [r, u + x + a, v + y + b] = [r, u + a + x, v + b + y]
  rw [show u + x + a = u + a + x by omega, show v + y + b = v + b + y by omega]
theorem lbes_mv {p : Nat} {ts : List (List Int)} (G : Grid p ts) (q u v x y : Int) : lbes ts [q, u + x, v + y] = ((lbes ts [q, u, v]).map (mv x y)).mergeSort leI := by
  unfold lbes
  rw [beside_mv G]
  exact sort_permI ((List.mergeSort_perm _ _).symm.map _)
theorem step1_three {q : Int} {t : List Int} {s : List Int} (h : s ∈ step1 q t) : Three s := by
  unfold step1 at h
  split at h
  · rcases List.mem_append.mp h with h | h
    · split at h
      · rw [List.mem_singleton] at h; exact ⟨_, _, _, h⟩
      · cases h
    · split at h
      · rw [List.mem_singleton] at h; exact ⟨_, _, _, h⟩
      · cases h
  · cases h
theorem lbes_more {us ts : List (List Int)} {t : List Int} (h : us.Perm (ts ++ [t])) (q : Int) : lbes us [q, 0, 0] = (lbes ts [q, 0, 0] ++ step1 q t).mergeSort leI := by
  unfold lbes
  refine (sort_permI (beside_perm h [q, 0, 0])).trans (sort_permI ?_)
  have e : besideL (ts ++ [t]) [q, 0, 0] = besideL ts [q, 0, 0] ++ step1 q t := by
    show (stepsL (ts ++ [t]) q).map (moved 0 0) = (stepsL ts q).map (moved 0 0) ++ step1 q t
    unfold stepsL
    rw [List.flatMap_append, List.map_append, List.flatMap_cons, List.flatMap_nil, List.append_nil]
    congr 1
    have : (step1 q t).map (moved 0 0) = (step1 q t).map id := List.map_congr_left fun s hs => by
      obtain ⟨r, a, b, rfl⟩ := step1_three hs
      show [r, 0 + a, 0 + b] = [r, a, b]
      rw [Int.zero_add, Int.zero_add]
    rw [this, List.map_id]
  rw [e]
  exact (List.mergeSort_perm _ _).symm.append_right _
theorem sum_add {α : Type} (f g : α → Int) : ∀ l : List α, (l.map fun q => f q + g q).sum = (l.map f).sum + (l.map g).sum
  | [] => rfl
  | a :: l => by
    simp only [List.map_cons, List.sum_cons]
    rw [sum_add f g l]; omega
theorem sum_ind (a : Int) : ∀ n : Nat, ((List.range n).map fun q : Nat => if a = (q : Int) then (1 : Int) else 0).sum = if 0 ≤ a ∧ a < n then 1 else 0
  | 0 => by
    rw [if_neg (by omega)]; rfl
  | n + 1 => by
    rw [List.range_succ, List.map_append, List.sum_append, sum_ind a n]
    simp only [List.map_cons, List.map_nil, List.sum_cons, List.sum_nil]
    by_cases h : a = (n : Int)
    · rw [if_neg (by omega), if_pos h, if_pos (by omega)]; rfl
    · rw [if_neg h]
      by_cases h2 : 0 ≤ a ∧ a < n
      · rw [if_pos h2, if_pos (by omega)]; rfl
      · rw [if_neg h2, if_neg (by omega)]; rfl
theorem count_ok {p : Nat} : ∀ {ts : List (List Int)}, (∀ t ∈ ts, Tie p t) → ((List.range p).map fun q : Nat => ((stepsL ts (q : Int)).length : Int)).sum = 2 * (ts.length : Int)
  | [], _ => by
    have : ∀ n : Nat, ((List.range n).map fun q : Nat => ((stepsL [] (q : Int)).length : Int)).sum = 0 := fun n => by
      induction n with
      | zero => rfl
      | succ n ih => rw [List.range_succ, List.map_append, List.sum_append, ih]; rfl
    rw [this]; rfl
  | t :: ts, h => by
    have ih := count_ok (fun t ht => h t (List.mem_cons_of_mem _ ht))
    obtain ⟨a, b, x, y, rfl, hb⟩ := (h t List.mem_cons_self).ex
    have e : (fun q : Nat => ((stepsL ([a, b, x, y] :: ts) (q : Int)).length : Int)) = fun q : Nat => ((if a = (q : Int) then (1 : Int) else 0) + (if b = (q : Int) then (1 : Int) else 0)) + ((stepsL ts (q : Int)).length : Int) := by
      funext q
      have : stepsL ([a, b, x, y] :: ts) (q : Int) = step1 q [a, b, x, y] ++ stepsL ts q := by unfold stepsL; rw [List.flatMap_cons]
      rw [this, List.length_append]
      unfold step1
      rw [List.length_append]
      split <;> split <;> simp <;> omega
    rw [e, sum_add, sum_add, sum_ind, sum_ind, ih, if_pos (by omega), if_pos (by omega), List.length_cons]
    omega
theorem lbes_len {ts : List (List Int)} {q u v : Int} : (lbes ts [q, u, v]).length = (stepsL ts q).length := by
  unfold lbes
  rw [List.length_mergeSort]
  show ((stepsL ts q).map _).length = _
  rw [List.length_map]
end Maths

namespace Maths
open DV L2 PySem
/-! ### rings of a wrapped grid, pure -/
def wr (m n : Int) : List Int → List Int
  | [q, x, y] => [q, x % m, y % n]
  | t => t
def wbes (ts : List (List Int)) (m n : Int) (P : List Int) : List (List Int) := (besideL ts P).map (wr m n)
/-- a dict of places whose values are told by their numbers -/
def phD (φ : Int → D) (kvs : Far) : D := dI (kvs.map fun e => (e.1, φ e.2))
theorem look_hasF {φ : Int → D} {kvs : Far} {O : List Int} : (lookI (kvs.map fun e => (e.1, φ e.2)) O).isSome = hasP kvs O := by
  unfold lookI hasP
  rw [Option.isSome_map, List.find?_map, Option.isSome_map]
  induction kvs with
  | nil => rfl
  | cons e kvs ih =>
    rw [List.find?_cons, List.any_cons]
    by_cases h : e.1 = O
    · simp [h]
    · simp only [Function.comp, h, decide_false, Bool.false_or]
      exact ih
theorem put_newF {φ : Int → D} {kvs : Far} {O : List Int} {d : Int} (h : hasP kvs O = false) : putI (kvs.map fun e => (e.1, φ e.2)) O (φ d) = (kvs ++ [(O, d)]).map fun e => (e.1, φ e.2) := by
  unfold putI
  have e : ((kvs.map fun e => (e.1, φ e.2)).any fun kv => decide (kv.1 = O)) = hasP kvs O := by
    rw [List.any_map]; rfl
  rw [e, h, List.map_append]
  rfl
theorem nin_ph {φ : Int → D} {kvs : Far} {O : List Int} : ninA (tupI O) (phD φ kvs) = some (!hasP kvs O) := by
  unfold phD
  rw [nin_dI, look_hasF]
theorem st_ph {φ : Int → D} {kvs : Far} {O : List Int} {d : Int} (h : hasP kvs O = false) (hl : kvs.length ≤ 16000000) : stD (phD φ kvs) (tupI O) (φ d) = some (phD φ (kvs ++ [(O, d)])) := by
  unfold phD
  rw [st_dI (by rw [List.length_map]; omega), put_newF h]
/-- how far it grows -/
theorem foldA_grow {d : Int} : ∀ {Os : List (List Int)} {st : Far × List (List Int)}, (Os.foldl (addP d) st).1.length + st.2.length = st.1.length + (Os.foldl (addP d) st).2.length
  | [], st => by simp
  | O :: Os, st => by
    rw [List.foldl_cons]
    have h := foldA_grow (d := d) (Os := Os) (st := addP d st O)
    have g : (addP d st O).1.length + st.2.length = st.1.length + (addP d st O).2.length := by
      unfold addP
      split
      · rfl
      · simp only [List.length_append, List.length_singleton]; omega
    omega
theorem round_grow {bes : Bes} {d : Int} {kvs : Far} {ring : List (List Int)} : (roundL bes d kvs ring).1.length = kvs.length + (roundL bes d kvs ring).2.length := by
  unfold roundL
  rw [foldB_flat]
  have := foldA_grow (d := d) (Os := ring.flatMap bes) (st := (kvs, []))
  simpa using this
def InW (p m n : Nat) (P : List Int) : Prop := ∃ q u v : Int, P = [q, u, v] ∧ 0 ≤ q ∧ q < p ∧ 0 ≤ u ∧ u < m ∧ 0 ≤ v ∧ v < n
theorem InW.three {p m n : Nat} {P : List Int} (h : InW p m n P) : Three P := let ⟨q, u, v, e, _⟩ := h; ⟨q, u, v, e⟩
def wrapL (p m n : Nat) : List (List Int) := (List.range p).flatMap fun (q : Nat) => (List.range m).flatMap fun (i : Nat) => (List.range n).map fun (j : Nat) => [(q : Int), (i : Int), (j : Int)]
theorem wrap_len (p m n : Nat) : (wrapL p m n).length = p * (m * n) := by
  unfold wrapL
  rw [flat_len (k := m * n) fun q _ => ?_, List.length_range]
  rw [flat_len (k := n) fun i _ => by rw [List.length_map, List.length_range], List.length_range]
theorem wrap_mem {p m n : Nat} {P : List Int} (h : InW p m n P) : P ∈ wrapL p m n := by
  obtain ⟨q, u, v, rfl, hb⟩ := h
  unfold wrapL
  refine List.mem_flatMap.mpr ⟨q.toNat, List.mem_range.mpr (by omega), List.mem_flatMap.mpr ⟨u.toNat, List.mem_range.mpr (by omega), List.mem_map.mpr ⟨v.toNat, List.mem_range.mpr (by omega), ?_⟩⟩⟩
  rw [show ((q.toNat : Nat) : Int) = q by omega, show ((u.toNat : Nat) : Int) = u by omega, show ((v.toNat : Nat) : Int) = v by omega]
theorem wrap_few {p m n : Nat} {l : List (List Int)} (nd : l.Nodup) (h : ∀ P ∈ l, InW p m n P) : l.length ≤ p * (m * n) := by
  rw [← wrap_len]
  exact nd.length_le_of_subset fun P hP => wrap_mem (h P hP)
theorem wbes_in {p : Nat} {ts : List (List Int)} (G : Grid p ts) {m n : Nat} (hm : 0 < m) (hn : 0 < n) {P O : List Int} (h : O ∈ wbes ts m n P) : InW p m n O := by
  obtain ⟨s, hs, rfl⟩ := List.mem_map.mp h
  unfold besideL at hs
  split at hs
  · obtain ⟨r, hr, rfl⟩ := List.mem_map.mp hs
    obtain ⟨c, x, y, rfl, hh⟩ := steps_three G hr
    refine ⟨c, _, _, rfl, by omega, by omega, Int.emod_nonneg _ (by omega), Int.emod_lt_of_pos _ (by omega), Int.emod_nonneg _ (by omega), Int.emod_lt_of_pos _ (by omega)⟩
  · cases hs
theorem wbes_len {ts : List (List Int)} {m n : Int} {P : List Int} : (wbes ts m n P).length ≤ 2 * ts.length := by
  unfold wbes
  rw [List.length_map]
  exact besideL_len
structure WrapOk (bes : Bes) (p m n : Nat) (start : Int) (i : Nat) : Prop where
  nd : ((ringsL bes start i).1.map (·.1)).Nodup
  rnd : (ringsL bes start i).2.Nodup
  sub : ∀ P ∈ (ringsL bes start i).2, P ∈ (ringsL bes start i).1.map (·.1)
  box : ∀ e ∈ (ringsL bes start i).1, InW p m n e.1
theorem wrap_shape {p : Nat} {ts : List (List Int)} (G : Grid p ts) {m n : Nat} (hm : 0 < m) (hn : 0 < n) {start : Int} (h0 : 0 ≤ start ∧ start < p) : ∀ i, WrapOk (wbes ts m n) p m n start i
  | 0 => by
    refine ⟨by simp [ringsL], by simp [ringsL], fun P hP => ?_, fun e he => ?_⟩
    · rw [List.mem_singleton.mp (show P ∈ [[start, 0, 0]] from hP)]
      exact List.mem_map.mpr ⟨([start, 0, 0], 0), List.mem_singleton.mpr rfl, rfl⟩
    · rw [List.mem_singleton.mp (show e ∈ [([start, 0, 0], (0 : Int))] from he)]
      exact ⟨start, 0, 0, rfl, by omega⟩
  | i + 1 => by
    have ih := wrap_shape G hm hn h0 i
    have nd := foldA_nodup (d := (i : Int) + 1) (Os := (ringsL (wbes ts m n) start i).2.flatMap (wbes ts m n)) (st := ((ringsL (wbes ts m n) start i).1, [])) ih.nd List.nodup_nil (fun P h => by cases h)
    rw [← foldB_flat] at nd
    refine ⟨nd.1, nd.2.1, nd.2.2, fun e he => ?_⟩
    rcases ((round_mem (bes := wbes ts m n) (d := (i : Int) + 1) (kvs := (ringsL (wbes ts m n) start i).1) (ring := (ringsL (wbes ts m n) start i).2)).1 e).mp he with h | ⟨_, _, R, hR, hb⟩
    · exact ih.box e h
    · exact wbes_in G hm hn hb
theorem WrapOk.few {bes : Bes} {p m n : Nat} {start : Int} {i : Nat} (W : WrapOk bes p m n start i) : (ringsL bes start i).1.length ≤ p * (m * n) ∧ (ringsL bes start i).2.length ≤ p * (m * n) := by
  constructor
  · have := wrap_few (p := p) (m := m) (n := n) W.nd fun P hP => by
      obtain ⟨e, he, rfl⟩ := List.mem_map.mp hP
      exact W.box e he
    rwa [List.length_map] at this
  · exact wrap_few W.rnd fun P hP => by
      obtain ⟨e, he, rfl⟩ := List.mem_map.mp (W.sub P hP)
      exact W.box e he
theorem WrapOk.three {bes : Bes} {p m n : Nat} {start : Int} {i : Nat} (W : WrapOk bes p m n start i) {P : List Int} (h : P ∈ (ringsL bes start i).2) : Three P := by
  obtain ⟨e, he, rfl⟩ := List.mem_map.mp (W.sub P h)
  exact (W.box e he).three
theorem few_576 {p m n : Nat} (hp : p ≤ 4) (hm : m ≤ 12) (hn : n ≤ 12) : p * (m * n) ≤ 576 :=
  Nat.le_trans (Nat.mul_le_mul hp (Nat.mul_le_mul hm hn)) (by decide)
/-- how long each ring is, to ring i -/
def cntL (bes : Bes) (start : Int) (i : Nat) : List Int := (List.range i).map fun j => ((ringsL bes start j).2.length : Int)
theorem cnt_succ {bes : Bes} {start : Int} {i : Nat} : cntL bes start (i + 1) = cntL bes start i ++ [((ringsL bes start i).2.length : Int)] := by
  unfold cntL
  rw [List.range_succ, List.map_append]; rfl
theorem cnt_len {bes : Bes} {start : Int} {i : Nat} : (cntL bes start i).length = i := by simp [cntL]
/-- the first ring of none -/
def LastR (bes : Bes) (start : Int) (i : Nat) : Prop := (ringsL bes start i).2 = [] ∧ ∀ j < i, (ringsL bes start j).2 ≠ []
theorem lastR_one {bes : Bes} {start : Int} {i j : Nat} (h : LastR bes start i) (h' : LastR bes start j) : i = j := by
  rcases Nat.lt_trichotomy i j with c | c | c
  · exact absurd h.1 (h'.2 i c)
  · exact c
  · exact absurd h'.1 (h.2 j c)
/-- what goes down -/
def wmeas (bes : Bes) (start : Int) (i : Nat) : Nat := 2 * (1000 - (ringsL bes start i).1.length) + (if (ringsL bes start i).2 = [] then 0 else 1)
theorem wmeas_down {bes : Bes} {start : Int} {i : Nat} (h : (ringsL bes start (i + 1)).1.length ≤ 576) (hne : (ringsL bes start i).2 ≠ []) : wmeas bes start (i + 1) < wmeas bes start i := by
  have g := round_grow (bes := bes) (d := (i : Int) + 1) (kvs := (ringsL bes start i).1) (ring := (ringsL bes start i).2)
  change (ringsL bes start (i + 1)).1.length = (ringsL bes start i).1.length + (ringsL bes start (i + 1)).2.length at g
  unfold wmeas
  rw [if_neg hne]
  by_cases c : (ringsL bes start (i + 1)).2 = []
  · rw [if_pos c]; rw [c] at g; simp at g; omega
  · rw [if_neg c]
    have : 0 < (ringsL bes start (i + 1)).2.length := List.length_pos_iff.mpr c
    omega
/-- the number of rings is small -/
theorem ring_many {bes : Bes} {start : Int} : ∀ {i : Nat}, (∀ j ≤ i, (ringsL bes start j).2 ≠ []) → i + 1 ≤ (ringsL bes start i).1.length
  | 0, _ => by simp [ringsL]
  | i + 1, h => by
    have ih := ring_many (i := i) fun j hj => h j (by omega)
    have g := round_grow (bes := bes) (d := (i : Int) + 1) (kvs := (ringsL bes start i).1) (ring := (ringsL bes start i).2)
    change (ringsL bes start (i + 1)).1.length = (ringsL bes start i).1.length + (ringsL bes start (i + 1)).2.length at g
    have : 0 < (ringsL bes start (i + 1)).2.length := List.length_pos_iff.mpr (h (i + 1) (Nat.le_refl _))
    omega
theorem ring_few {bes : Bes} {start : Int} {i : Nat} (h : ∀ j < i, (ringsL bes start j).2 ≠ []) : i ≤ (ringsL bes start i).1.length := by
  cases i with
  | zero => simp
  | succ i =>
    have ih := ring_many (i := i) fun j hj => h j (by omega)
    have g := round_grow (bes := bes) (d := (i : Int) + 1) (kvs := (ringsL bes start i).1) (ring := (ringsL bes start i).2)
    change (ringsL bes start (i + 1)).1.length = (ringsL bes start i).1.length + (ringsL bes start (i + 1)).2.length at g
    omega
end Maths

namespace Maths
open DV L2 PySem
/-! ### FarG: what a dict of places tells; scans; comprehensions over mapped lists -/
def fget (F : Far) (P : List Int) : Option Int := (F.find? fun e => decide (e.1 = P)).map (·.2)
theorem look_fget {F : Far} {P : List Int} : lookI (F.map fun e => (e.1, D.int e.2)) P = (fget F P).map D.int := by
  unfold fget lookI
  rw [List.find?_map, Option.map_map, Option.map_map]
  rfl
theorem fget_mem {F : Far} (nd : (F.map (·.1)).Nodup) {P : List Int} {d : Int} : fget F P = some d ↔ (P, d) ∈ F := by
  induction F with
  | nil => simp [fget]
  | cons e F ih =>
    rw [List.map_cons, List.nodup_cons] at nd
    unfold fget
    rw [List.find?_cons]
    by_cases h : e.1 = P
    · simp only [h, decide_true, Option.map_some, List.mem_cons]
      constructor
      · intro z; left; rw [← h]; injection z with z; rw [← z]
      · rintro (z | z)
        · rw [← z]
        · exact absurd (List.mem_map.mpr ⟨_, z, rfl⟩) (by rw [← h] at *; exact nd.1)
    · simp only [h, decide_false, List.mem_cons]
      rw [show (F.find? fun e => decide (e.1 = P)).map (·.2) = fget F P from rfl, ih nd.2]
      constructor
      · exact .inr
      · rintro (z | z)
        · rw [← z] at h; exact absurd rfl h
        · exact z
theorem fget_none {F : Far} {P : List Int} : fget F P = none ↔ P ∉ F.map (·.1) := by
  unfold fget
  rw [Option.map_eq_none_iff, List.find?_eq_none, List.mem_map]
  constructor
  · rintro h ⟨e, he, z⟩; exact h e he (decide_eq_true z)
  · intro h e he z; exact h ⟨e, he, of_decide_eq_true z⟩
theorem fget_isSome {F : Far} {P : List Int} : (fget F P).isSome = hasP F P := by
  rw [← look_has, look_fget, Option.isSome_map]
theorem in_far {F : Far} {P : List Int} : inA (tupI P) (farD F) = some (fget F P).isSome := by
  unfold farD
  rw [in_dI, look_fget, Option.isSome_map]
theorem nin_far {F : Far} {P : List Int} : ninA (tupI P) (farD F) = some (!(fget F P).isSome) := by
  unfold farD
  rw [nin_dI, look_fget, Option.isSome_map]
theorem ix_far {F : Far} {P : List Int} {d : Int} (h : fget F P = some d) : ixA (farD F) (tupI P) = some (0, .int d) := by
  unfold farD
  exact ix_dI (by rw [look_fget, h]; rfl)
theorem get_far {F : Far} {P : List Int} {z : Int} : dget2D (farD F) (tupI P) (.int z) = some (0, .int ((fget F P).getD z)) := by
  unfold dget2D
  have e : getD' (farD F) (tupI P) = some ((fget F P).map D.int) := by
    unfold farD; rw [get_dI, look_fget]
  rw [e]
  cases fget F P <;> rfl
theorem keys_farD (F : Far) : keysOf (farD F) = some (F.map fun e => tupI e.1) := by
  rw [farD_eq]
  show some _ = _
  rw [List.map_map]
  congr 2
  funext e
  show D.tup ((keyI e.1).map keyV) = _
  exact keyT_I e.1
theorem dct_farD (F : Far) : isDct (some (farD F)) = true := rfl
theorem dctQ_farD (F : Far) : dctQ (farD F) = some () := rfl
theorem list_farD (F : Far) : listA [farD F] = some (1, .lst (F.map fun e => tupI e.1)) := by
  unfold farD
  rw [list_dI, List.map_map]
  rfl
theorem st_far {F : Far} {P : List Int} {d : Int} (h : hasP F P = false) (hl : F.length ≤ 16000000) : stD (farD F) (tupI P) (.int d) = some (farD (F ++ [(P, d)])) := st_ph (φ := .int) h hl
/-! order of rows -/
theorem lexLt_dec : ∀ a b : List Int, HT.lexLt a b = decide (a < b)
  | [], [] => by simp [HT.lexLt_nil_nil]
  | [], y :: ys => by simp [HT.lexLt_nil_cons]
  | x :: xs, [] => by simp [HT.lexLt_cons_nil]
  | x :: xs, y :: ys => by
    rw [HT.lexLt_cons, lexLt_dec xs ys]
    by_cases h : x = y
    · subst h; simp [List.cons_lt_cons_iff]
    · rw [if_neg h]; simp [List.cons_lt_cons_iff, h]
theorem lt_rows {a b : List Int} : ltD (tupI a) (tupI b) = some (decide (a < b)) := by rw [lt_tupI, lexLt_dec]
/-- rising, one behind the other -/
def Rising (l : List (List Int)) : Prop := ∀ i (h : i + 1 < l.length), l[i]'(by omega) < l[i + 1]
theorem rising_lt {l : List (List Int)} (h : Rising l) : ∀ {i j : Nat} (hi : i < j) (hj : j < l.length), l[i]'(by omega) < l[j] := by
  intro i j hi hj
  induction j with
  | zero => omega
  | succ j ih =>
    have s := h j hj
    by_cases c : i = j
    · subst c; exact s
    · exact List.lt_trans (ih (by omega) (by omega)) s
theorem rising_nodup {l : List (List Int)} (h : Rising l) : l.Nodup := by
  rw [List.nodup_iff_pairwise_ne, List.pairwise_iff_getElem]
  intro i j hi hj hij e
  have := rising_lt h hij hj
  rw [e] at this
  exact List.lt_irrefl _ this
/-! scans -/
def scanB {α : Type} (ok : List α → α → Bool) : List α → List α → Bool
  | _, [] => true
  | F1, a :: F2 => ok F1 a && scanB ok (F1 ++ [a]) F2
theorem scan_iff {α : Type} {ok : List α → α → Bool} : ∀ {F2 F1 : List α}, scanB ok F1 F2 = true ↔ ∀ pre a post, F2 = pre ++ a :: post → ok (F1 ++ pre) a = true
  | [], F1 => by
    constructor
    · intro _ pre a post e; simp at e
    · intro _; rfl
  | b :: F2, F1 => by
    unfold scanB
    rw [Bool.and_eq_true, scan_iff]
    constructor
    · rintro ⟨h1, h2⟩ pre a post e
      cases pre with
      | nil => simp at e; rw [← e.1, List.append_nil]; exact h1
      | cons c pre =>
        simp at e
        obtain ⟨rfl, e⟩ := e
        have := h2 pre a post e
        rwa [List.append_assoc] at this
    · intro h
      refine ⟨by simpa using h [] b F2 rfl, fun pre a post e => ?_⟩
      have := h (b :: pre) a post (by rw [e]; rfl)
      rwa [List.append_assoc]
/-- a loop that returns at the first item of which ok does not speak -/
theorem forL_scan {α : Type} {g : SG} {body : SS} (enc : α → D) (ok : List α → α → Bool) (r : D) (St : List α → DV.Env → Prop) (Q : DV.Env → Prop) {L : List α} (h : ∀ pre a post, pre ++ a :: post = L → ∀ η, St pre η → ∃ η', (ok pre a = true → S.turn g body (enc a) η = .ok .nx η' ∧ St (pre ++ [a]) η') ∧ (ok pre a = false → S.turn g body (enc a) η = .ok (.rt 0 r) η' ∧ Q η')) :
    ∀ {F2 F1 : List α} {η : DV.Env}, F1 ++ F2 = L → St F1 η → ∃ η', (scanB ok F1 F2 = true → S.forL g body (F2.map enc) η = .ok .nx η' ∧ St L η') ∧ (scanB ok F1 F2 = false → S.forL g body (F2.map enc) η = .ok (.rt 0 r) η' ∧ Q η')
  | [], F1, η, e, s => ⟨η, fun _ => ⟨rfl, by rw [List.append_nil] at e; rw [← e]; exact s⟩, fun z => by cases z⟩
  | a :: F2, F1, η, e, s => by
    obtain ⟨η1, h1, h2⟩ := h F1 a F2 e η s
    unfold scanB
    rw [List.map_cons, forL_cons]
    cases c : ok F1 a with
    | false =>
      refine ⟨η1, fun z => by simp at z, fun _ => ?_⟩
      rw [(h2 c).1]; exact ⟨rfl, (h2 c).2⟩
    | true =>
      obtain ⟨t1, t2⟩ := h1 c
      obtain ⟨η2, k1, k2⟩ := forL_scan enc ok r St Q h (F2 := F2) (F1 := F1 ++ [a]) (by rw [List.append_assoc]; exact e) t2
      refine ⟨η2, fun z => ?_, fun z => ?_⟩
      · rw [Bool.true_and] at z
        rw [t1]
        exact k1 z
      · rw [Bool.true_and] at z
        rw [t1]
        exact k2 z
/-! comprehensions over mapped lists -/
theorem comp_pureM {it : SI} {g : SG} {tt : ST} {f : SF} {k : Nat} {vs : List Nat} {η : DV.Env} {α : Type} (enc : α → D) (φ : α → Option D) {xs : List α} {η1 : DV.Env} (hit : it η = .ok (xs.map enc) η1) (hst : S.still vs η1 = true) (hs : xs.length ≤ sizeLine) (hv : ∀ i ∈ vs, i < η1.length)
    (h : ∀ a ∈ xs, ∃ η', S.step g tt f (enc a) (S.hide η1 vs) = .ok ((φ a).map fun x => (k, x)) η' ∧ S.hide η' vs = S.hide η1 vs) : S.comp k vs it g tt f η = .ok (k + 1, .lst (xs.filterMap φ)) η1 := by
  obtain ⟨es, η2, h1, ⟨h2, h3⟩, _⟩ := compL_run (g := g) (tt := tt) (f := f) (k := k) (vs := vs) (ds := xs.map enc) (fun i acc η => acc = (xs.take i).filterMap φ ∧ η = S.hide η1 vs) (fun i hi acc η ⟨e1, e2⟩ _ => by
    have hi' : i < xs.length := by rw [List.length_map] at hi; exact hi
    obtain ⟨η', h1, h2⟩ := h _ (List.getElem_mem hi')
    rw [e2, List.getElem_map]
    refine ⟨_, η', h1, fun p hp => ?_, ?_, h2⟩
    · cases q : φ xs[i] with
      | none => rw [q] at hp; cases hp
      | some x => rw [q] at hp; cases hp; rfl
    · rw [e1, List.take_succ_eq_append_getElem hi', List.filterMap_append]
      congr 1
      cases q : φ xs[i] <;> simp [q]) (by rw [List.length_map]; exact hs) (xs.map enc).length 0 [] η1 (by omega) (Nat.zero_le _) ⟨by simp, rfl⟩
  rw [List.drop_zero] at h1
  rw [List.length_map, List.take_length] at h2
  unfold S.comp
  rw [hit]
  simp only [bind_ok]
  rw [if_pos hst, h1]
  simp only
  rw [mix_same h3 hv, h2]
theorem filt_bls {α : Type} {c b : α → Bool} {xs : List α} : (xs.filterMap fun a => if c a = true then some (D.bl (b a)) else none) = ((xs.filter c).map b).map D.bl := by
  induction xs with
  | nil => rfl
  | cons a xs ih =>
    rw [List.filterMap_cons, List.filter_cons]
    cases h : c a with
    | true => simp [ih]
    | false => simp [ih]
theorem all_filt {α : Type} {c b : α → Bool} {xs : List α} : allD [.lst (xs.filterMap fun a => if c a = true then some (D.bl (b a)) else none)] = some (.bl (xs.all fun a => !c a || b a)) := by
  rw [filt_bls, all_bls]
  congr 2
  induction xs with
  | nil => rfl
  | cons a xs ih =>
    rw [List.filter_cons, List.all_cons, ← ih]
    cases h : c a <;> simp
theorem all_map1 {α : Type} {b : α → Bool} {xs : List α} : allD [.lst (xs.filterMap fun a => some (D.bl (b a)))] = some (.bl (xs.all b)) := by
  have e : (xs.filterMap fun a => some (D.bl (b a))) = (xs.map b).map D.bl := by
    rw [List.map_map, List.filterMap_eq_map']
    rfl
  rw [e, all_bls]
  congr 2
  induction xs with
  | nil => rfl
  | cons a xs ih => simp [ih]
theorem any_map1 {α : Type} {b : α → Bool} {xs : List α} : anyD [.lst (xs.filterMap fun a => some (D.bl (b a)))] = some (.bl (xs.any b)) := by
  have e : (xs.filterMap fun a => some (D.bl (b a))) = (xs.map b).map D.bl := by
    rw [List.map_map, List.filterMap_eq_map']
    rfl
  rw [e, any_bls]
  congr 2
  induction xs with
  | nil => rfl
  | cons a xs ih => simp [ih]
end Maths

namespace Maths
open DV L2 PySem
/-! ### how far: what rings tell -/
theorem far_up1 {bes : Bes} {start : Int} {n : Nat} {e : List Int × Int} (h : e ∈ (ringsL bes start n).1) : e ∈ (ringsL bes start (n + 1)).1 :=
  (round_mem.1 e).mpr (.inl h)
theorem far_up {bes : Bes} {start : Int} {n m : Nat} (l : n ≤ m) {e : List Int × Int} (h : e ∈ (ringsL bes start n).1) : e ∈ (ringsL bes start m).1 := by
  induction m with
  | zero => rw [show n = 0 by omega] at h; exact h
  | succ m ih =>
    by_cases q : n = m + 1
    · rw [← q]; exact h
    · exact far_up1 (ih (by omega))
theorem far_ring {bes : Bes} {start : Int} : ∀ {n : Nat} {P : List Int} {d : Int}, (P, d) ∈ (ringsL bes start n).1 → ∃ k : Nat, d = k ∧ k ≤ n ∧ P ∈ (ringsL bes start k).2
  | 0, P, d, h => by
    have h : (P, d) = ([start, 0, 0], (0 : Int)) := List.mem_singleton.mp h
    cases h
    exact ⟨0, rfl, Nat.le_refl _, List.mem_singleton.mpr rfl⟩
  | n + 1, P, d, h => by
    rcases (round_mem.1 (P, d)).mp h with h | ⟨h1, h2, h3⟩
    · obtain ⟨k, e, l, r⟩ := far_ring h
      exact ⟨k, e, by omega, r⟩
    · simp only at h1 h2 h3
      exact ⟨n + 1, by rw [h1]; rfl, Nat.le_refl _, (round_mem.2 P).mpr ⟨h2, h3⟩⟩
theorem ring_far {bes : Bes} {p : Nat} (hg : Goes bes p) {start : Int} (h0 : 0 ≤ start ∧ start < p) {k n : Nat} (l : k ≤ n) {P : List Int} (h : P ∈ (ringsL bes start k).2) : (P, (k : Int)) ∈ (ringsL bes start n).1 :=
  far_up l (((rings_shape hg h0 k).ring P).mp h)
/-- one number for each place -/
theorem far_one {bes : Bes} {p : Nat} (hg : Goes bes p) {start : Int} (h0 : 0 ≤ start ∧ start < p) {n m : Nat} {P : List Int} {d e : Int} (h : (P, d) ∈ (ringsL bes start n).1) (h' : (P, e) ∈ (ringsL bes start m).1) : d = e := by
  have a := far_up (show n ≤ max n m by omega) h
  have b := far_up (show m ≤ max n m by omega) h'
  have nd := (rings_shape hg h0 (max n m)).nd
  generalize (ringsL bes start (max n m)).1 = F at *
  induction F with
  | nil => cases a
  | cons f F ih =>
    rw [List.map_cons, List.nodup_cons] at nd
    rcases List.mem_cons.mp a with a | a
    · rcases List.mem_cons.mp b with b | b
      · rw [← b] at a; exact congrArg Prod.snd a
      · exact absurd (List.mem_map.mpr ⟨_, b, by rw [← a]⟩) nd.1
    · rcases List.mem_cons.mp b with b | b
      · exact absurd (List.mem_map.mpr ⟨_, a, by rw [← b]⟩) nd.1
      · exact ih a b nd.2
/-- a neighbour of a place is at most one farther -/
theorem far_step {bes : Bes} {p : Nat} (hg : Goes bes p) {start : Int} (h0 : 0 ≤ start ∧ start < p) {n : Nat} {P O : List Int} {d : Int} (h : (P, d) ∈ (ringsL bes start n).1) (hO : O ∈ bes P) {m : Nat} (hm : d + 1 ≤ m) :
    ∃ e : Int, 0 ≤ e ∧ e ≤ d + 1 ∧ (O, e) ∈ (ringsL bes start m).1 := by
  obtain ⟨k, rfl, _, r⟩ := far_ring h
  have R := rings_shape hg h0 k
  by_cases q : O ∈ (ringsL bes start k).1.map (·.1)
  · obtain ⟨⟨O', e⟩, he, rfl⟩ := List.mem_map.mp q
    obtain ⟨_, b1, b2⟩ := R.box _ he
    exact ⟨e, b1, by simp only at b2; omega, far_up (by omega) he⟩
  · have : (O, ((k : Int) + 1)) ∈ (ringsL bes start (k + 1)).1 := (round_mem.1 _).mpr (.inr ⟨rfl, q, P, r, hO⟩)
    exact ⟨(k : Int) + 1, by omega, Int.le_refl _, far_up (by omega) this⟩
/-- each place but the start has a neighbour one nearer -/
theorem far_pred {bes : Bes} {p : Nat} (hg : Goes bes p) {start : Int} (h0 : 0 ≤ start ∧ start < p) : ∀ {n : Nat} {P : List Int} {d : Int}, (P, d) ∈ (ringsL bes start n).1 → 1 ≤ d → ∃ R, (R, d - 1) ∈ (ringsL bes start n).1 ∧ P ∈ bes R
  | 0, P, d, h, hd => by
    have h : (P, d) = ([start, 0, 0], (0 : Int)) := List.mem_singleton.mp h
    cases h
    exact absurd hd (by decide)
  | n + 1, P, d, h, hd => by
    rcases (round_mem.1 (P, d)).mp h with h | ⟨h1, h2, R, h3, h4⟩
    · obtain ⟨R, a, b⟩ := far_pred hg h0 h hd
      exact ⟨R, far_up1 a, b⟩
    · simp only at h1
      refine ⟨R, ?_, h4⟩
      rw [h1, show (n : Int) + 1 - 1 = n by omega]
      exact ring_far hg h0 (by omega) h3
theorem far_zero {bes : Bes} {start : Int} {n : Nat} {P : List Int} (h : (P, (0 : Int)) ∈ (ringsL bes start n).1) : P = [start, 0, 0] := by
  obtain ⟨k, e, _, r⟩ := far_ring h
  have : k = 0 := by omega
  subst this
  exact List.mem_singleton.mp r
theorem far_start {bes : Bes} {start : Int} (n : Nat) : ([start, 0, 0], (0 : Int)) ∈ (ringsL bes start n).1 := far_up (Nat.zero_le n) (List.mem_singleton.mpr rfl)
/-- a list of places, each but the first a neighbour of the one ahead -/
def Walk (bes : Bes) (W : List (List Int)) : Prop := ∀ i (h : i + 1 < W.length), W[i + 1] ∈ bes (W[i]'(by omega))
theorem walk_far {bes : Bes} {p : Nat} (hg : Goes bes p) {start : Int} (h0 : 0 ≤ start ∧ start < p) {W : List (List Int)} (w : Walk bes W) (hs : W.head? = some [start, 0, 0]) : ∀ i (h : i < W.length) {m : Nat}, i ≤ m → ∃ e : Int, 0 ≤ e ∧ e ≤ i ∧ (W[i], e) ∈ (ringsL bes start m).1
  | 0, h, m, _ => by
    have : W[0] = [start, 0, 0] := by
      cases W with
      | nil => cases hs
      | cons a r => exact Option.some.inj hs
    rw [this]
    exact ⟨0, Int.le_refl _, Int.le_refl _, far_start m⟩
  | i + 1, h, m, hm => by
    obtain ⟨e, e0, e1, e2⟩ := walk_far hg h0 w hs i (by omega) (m := m) (by omega)
    obtain ⟨e', f0, f1, f2⟩ := far_step hg h0 e2 (w i h) (m := m) (by omega)
    exact ⟨e', f0, by omega, f2⟩
end Maths

namespace Maths
open DV L2 PySem
/-! ### places so many steps apart -/
inductive Steps (bes : Bes) : Nat → List Int → List Int → Prop
  | nil {P} : Steps bes 0 P P
  | snoc {k P Q R} : Steps bes k P Q → R ∈ bes Q → Steps bes (k + 1) P R
theorem Steps.trans {bes : Bes} {k m : Nat} {P Q R : List Int} (h : Steps bes k P Q) (h' : Steps bes m Q R) : Steps bes (k + m) P R := by
  induction h' with
  | nil => exact h
  | snoc a b ih => exact .snoc (ih h) b
theorem Steps.cons {bes : Bes} {k : Nat} {P Q R : List Int} (h : Q ∈ bes P) (h' : Steps bes k Q R) : Steps bes (k + 1) P R := by
  have := (Steps.snoc .nil h).trans h'
  rwa [Nat.add_comm] at this
section
variable {p : Nat} {ts : List (List Int)} (G : Grid p ts)
include G
theorem Steps.three {k : Nat} {P Q : List Int} (h : Steps (besideL ts) k P Q) (t : Three P) : Three Q := by
  cases h with
  | nil => exact t
  | snoc a b => exact beside_three G b
theorem Steps.sym {k : Nat} {P Q : List Int} (h : Steps (besideL ts) k P Q) : Steps (besideL ts) k Q P := by
  induction h with
  | nil => exact .nil
  | snoc a b ih => exact .cons (beside_sym (beside_three G b) b) ih
theorem Steps.move {k : Nat} {P Q : List Int} (x y : Int) (h : Steps (besideL ts) k P Q) (t : Three P) : Steps (besideL ts) k (mv x y P) (mv x y Q) := by
  induction h with
  | nil => exact .nil
  | snoc a b ih =>
    refine .snoc (ih t) ?_
    obtain ⟨q, u, v, rfl⟩ := a.three G t
    show _ ∈ besideL ts [q, u + x, v + y]
    rw [beside_mv G]
    exact List.mem_map_of_mem b
theorem far_steps {st : Int} (h0 : 0 ≤ st ∧ st < p) {n : Nat} : ∀ (d : Nat) {P : List Int}, (P, (d : Int)) ∈ (ringsL (besideL ts) st n).1 → Steps (besideL ts) d [st, 0, 0] P
  | 0, P, h => by rw [far_zero h]; exact .nil
  | d + 1, P, h => by
    obtain ⟨R, a, b⟩ := far_pred (goesL G) h0 h (by omega)
    rw [show ((d + 1 : Nat) : Int) - 1 = (d : Int) by omega] at a
    exact .snoc (far_steps h0 d a) b
theorem steps_far {st : Int} (h0 : 0 ≤ st ∧ st < p) {k : Nat} {P B : List Int} (h : Steps (besideL ts) k B P) (hB : B = [st, 0, 0]) {m : Nat} (hm : k ≤ m) : ∃ e : Int, 0 ≤ e ∧ e ≤ k ∧ (P, e) ∈ (ringsL (besideL ts) st m).1 := by
  induction h with
  | nil => rw [hB]; exact ⟨0, Int.le_refl _, Int.le_refl _, far_start m⟩
  | @snoc k P Q R a b ih =>
    obtain ⟨e, e0, e1, e2⟩ := ih hB (by omega)
    obtain ⟨e', f0, f1, f2⟩ := far_step (goesL G) h0 e2 b (m := m) (by omega)
    exact ⟨e', f0, by omega, f2⟩
theorem far_dist {st : Int} (h0 : 0 ≤ st ∧ st < p) {n : Nat} {P : List Int} {d : Int} (h : (P, d) ∈ (ringsL (besideL ts) st n).1) : ∃ k : Nat, d = k ∧ k ≤ n ∧ Steps (besideL ts) k [st, 0, 0] P := by
  obtain ⟨_, b1, b2⟩ := (rings_shape (goesL G) h0 n).box _ h
  obtain ⟨k, rfl⟩ : ∃ k : Nat, d = k := ⟨d.toNat, by simp only at b1; omega⟩
  exact ⟨k, rfl, by simp only at b2; omega, far_steps G h0 k h⟩
theorem dist_le {st : Int} (h0 : 0 ≤ st ∧ st < p) {n : Nat} {q x y : Int} {d : Int} (h : ([q, x, y], d) ∈ (ringsL (besideL ts) st n).1) : (0 ≤ q ∧ q < p) ∧ ∃ e : Int, e ≤ d ∧ ([st, -x, -y], e) ∈ (ringsL (besideL ts) q n).1 := by
  obtain ⟨⟨a, b, c, eq, c1, c2, _⟩, _⟩ := (rings_shape (goesL G) h0 n).box _ h
  simp only [List.cons.injEq, and_true] at eq
  obtain ⟨rfl, rfl, rfl⟩ := eq
  obtain ⟨k, rfl, hk, s⟩ := far_dist G h0 h
  have s2 := (s.sym G).move G (-x) (-y) ⟨_, _, _, rfl⟩
  have e1 : mv (-x) (-y) [q, x, y] = [q, 0, 0] := by show [q, x + -x, y + -y] = _; rw [show x + -x = 0 by omega, show y + -y = 0 by omega]
  have e2 : mv (-x) (-y) [st, 0, 0] = [st, -x, -y] := by show [st, 0 + -x, 0 + -y] = _; rw [Int.zero_add, Int.zero_add]
  rw [e1, e2] at s2
  obtain ⟨e, _, l, m⟩ := steps_far G ⟨c1, c2⟩ s2 rfl hk
  exact ⟨⟨c1, c2⟩, e, l, m⟩
/-- each place is as far as the start is from it -/
theorem dist_sym {st : Int} (h0 : 0 ≤ st ∧ st < p) {n : Nat} {q x y : Int} {d : Int} (h : ([q, x, y], d) ∈ (ringsL (besideL ts) st n).1) : ([st, -x, -y], d) ∈ (ringsL (besideL ts) q n).1 := by
  obtain ⟨hq, e, l, m⟩ := dist_le G h0 h
  obtain ⟨_, e', l', m'⟩ := dist_le G hq m
  rw [Int.neg_neg, Int.neg_neg] at m'
  have := far_one (goesL G) h0 h m'
  have : e = d := by omega
  rw [← this]; exact m
/-- a way by a place between is no shorter -/
theorem dist_tri {st : Int} (h0 : 0 ≤ st ∧ st < p) {n : Nat} {q x y r u v : Int} {d1 d2 e : Int} (h1 : ([q, x, y], d1) ∈ (ringsL (besideL ts) st n).1) (h2 : ([r, u, v], d2) ∈ (ringsL (besideL ts) st n).1) (h3 : ([r, u - x, v - y], e) ∈ (ringsL (besideL ts) q n).1) : d2 ≤ d1 + e := by
  obtain ⟨hq, _⟩ := dist_le G h0 h1
  obtain ⟨k, rfl, hk, s⟩ := far_dist G h0 h1
  obtain ⟨j, rfl, hj, s2⟩ := far_dist G hq h3
  have s3 := s2.move G x y ⟨_, _, _, rfl⟩
  have e1 : mv x y [q, 0, 0] = [q, x, y] := by show [q, 0 + x, 0 + y] = _; rw [Int.zero_add, Int.zero_add]
  have e2 : mv x y [r, u - x, v - y] = [r, u, v] := by show [r, u - x + x, v - y + y] = _; rw [Int.sub_add_cancel, Int.sub_add_cancel]
  rw [e1, e2] at s3
  obtain ⟨f, _, l, m⟩ := steps_far G h0 (s.trans s3) rfl (Nat.le_refl _)
  have := far_one (goesL G) h0 h2 m
  omega
theorem far_tells {st : Int} (h0 : 0 ≤ st ∧ st < p) {n : Nat} {L : Far} (pm : L.Perm (ringsL (besideL ts) st n).1) {P : List Int} {d : Int} : fget L P = some d ↔ (P, d) ∈ (ringsL (besideL ts) st n).1 := by
  have R := rings_shape (goesL G) h0 n
  rw [fget_mem ((pm.map _).symm.nodup R.nd), pm.mem_iff]
/-- neighbours differ by 1 at most -/
theorem near_one {st : Int} (h0 : 0 ≤ st ∧ st < p) {n : Nat} {L : Far} (pm : L.Perm (ringsL (besideL ts) st n).1) {P O : List Int} {d : Int} (h : (P, d) ∈ (ringsL (besideL ts) st n).1) (hO : O ∈ besideL ts P) : (((fget L O).getD ((n : Int) + 1) - d).natAbs : Int) ≤ 1 := by
  have R := rings_shape (goesL G) h0 n
  have bx := R.box _ h
  obtain ⟨tP, b1, b2⟩ := bx
  simp only at b1 b2
  have up : d < n → ∃ e : Int, e ≤ d + 1 ∧ fget L O = some e := fun l => by
    obtain ⟨x, x0, x1, x2⟩ := far_step (goesL G) h0 h hO (m := n) (by omega)
    exact ⟨x, x1, (far_tells G h0 pm).mpr x2⟩
  cases z : fget L O with
  | none =>
    have : ¬ d < n := fun l => by obtain ⟨e, _, w⟩ := up l; rw [z] at w; cases w
    simp only [Option.getD_none]
    omega
  | some e =>
    have me := (far_tells G h0 pm).mp z
    obtain ⟨_, c1, c2⟩ := R.box _ me
    simp only at c1 c2
    have l1 : e ≤ d + 1 := by
      by_cases l : d < n
      · obtain ⟨f, g, w⟩ := up l; rw [z] at w; cases w; exact g
      · omega
    have l2 : d ≤ e + 1 := by
      by_cases l : e < n
      · obtain ⟨x, x0, x1, x2⟩ := far_step (goesL G) h0 me (beside_sym (beside_three G hO) hO) (m := n) (by omega)
        have := far_one (goesL G) h0 h x2
        omega
      · omega
    simp only [Option.getD_some]
    omega
end
end Maths

namespace Maths
open DV L2 PySem
/-! ### draws -/
def potD (a c m : Int) : D := .lst [.int a, .int c, .int m]
def PotOk (n : Nat) (d : D) : Prop := ∃ a c m : Int, 0 ≤ a ∧ 0 ≤ c ∧ c ≤ n ∧ 0 ≤ m ∧ m < 2147483647 ∧ d = potD a c m
theorem begun_ok (cell : Int) : ∃ p : D, PotOk 0 p ∧ Sem.f__law_begun [(0, .int cell)] = .ok 1 p [.no] := by
  have z1 := Int.emod_nonneg cell (show (2147483647 : Int) ≠ 0 by decide)
  have z2 := Int.emod_lt_of_pos cell (show (0 : Int) < 2147483647 by decide)
  (rw [Sem.f__law_begun_eq]; unfold Sem.s__law_begun)
  by_cases h : (1000000000000000000 : Int) ≤ cell.natAbs
  · refine ⟨potD ((cell.natAbs : Int) - 1000000000000000000 + 1) 0 (cell % 2147483647), ⟨_, _, _, by omega, Int.le_refl _, by omega, z1, z2, rfl⟩, ?_⟩
    simp -implicitDefEqProofs [v_run, h, small_ok, potD]
  · refine ⟨potD 0 0 (cell % 2147483647), ⟨_, _, _, by omega, Int.le_refl _, by omega, z1, z2, rfl⟩, ?_⟩
    simp -implicitDefEqProofs [v_run, h, small_ok, potD]
theorem drawL {pot : D} {n : Nat} (hp : PotOk n pot) (hn : n ≤ 1000000) (m : Nat) (h0 : 0 < m) (hl : m.log2 < 9000) : ∃ (r : Nat) (p : D), r < m ∧ PotOk (n + 1) p ∧ Sem.f__law_take [(1, pot), (0, .int m)] = .ok 0 (.int r) [.val 1 true p, .no] := by
  obtain ⟨a, c, x, ha, hc, hc2, hx, hx2, rfl⟩ := hp
  have mp : (0 : Int) < m := by omega
  (rw [Sem.f__law_take_eq]; unfold Sem.s__law_take potD)
  by_cases h : 0 < a
  · obtain ⟨r, hr⟩ := Int.eq_ofNat_of_zero_le (Int.emod_nonneg a (show (m : Int) ≠ 0 by omega))
    have h2 := Int.emod_lt_of_pos a mp
    refine ⟨r, potD (a / m) c x, by omega, ⟨_, _, _, Int.ediv_nonneg ha (by omega), hc, by omega, hx, hx2, rfl⟩, ?_⟩
    simp -implicitDefEqProofs [v_run, h, h0, hl, potD, v_modI mp, hr]
  · obtain ⟨o1, e1⟩ : ∃ o, (x + 977 * (c + 1) * (c + 1) + 40693 * (c + 1) + 1) % 2147483647 = o := ⟨_, rfl⟩
    have b1 : 0 ≤ o1 ∧ o1 < 2147483647 := by rw [← e1]; exact ⟨Int.emod_nonneg _ (by decide), Int.emod_lt_of_pos _ (by decide)⟩
    obtain ⟨o2, e2⟩ : ∃ o, o1 * o1 % 1000000007 * 48271 % 998244353 = o := ⟨_, rfl⟩
    obtain ⟨r, hr⟩ := Int.eq_ofNat_of_zero_le (Int.emod_nonneg (o2 / 8) (show (m : Int) ≠ 0 by omega))
    have h2 := Int.emod_lt_of_pos (o2 / 8) mp
    have z1 : o1.natAbs < 18446744073709551616 := by omega
    have z2 : (c + 1).natAbs < 18446744073709551616 := by omega
    refine ⟨r, potD a (c + 1) x, by omega, ⟨_, _, _, ha, by omega, by omega, hx, hx2, rfl⟩, ?_⟩
    simp -implicitDefEqProofs [v_run, h, h0, hl, potD, v_modI mp, hr, e1, e2, z1, z2]
theorem draw {pot : D} {n : Nat} (hp : PotOk n pot) (hn : n ≤ 1000000) (m : Nat) (h0 : 0 < m) (h1 : m < 9000) : ∃ (r : Nat) (p : D), r < m ∧ PotOk (n + 1) p ∧ Sem.f__law_take [(1, pot), (0, .int m)] = .ok 0 (.int r) [.val 1 true p, .no] :=
  drawL hp hn m h0 (by have := Nat.log2_le_self m; omega)
theorem PotOk.mono {n m : Nat} {p : D} (h : PotOk n p) (l : n ≤ m) : PotOk m p := by
  obtain ⟨a, c, x, ha, hc, hc2, hx, hx2, rfl⟩ := h
  exact ⟨a, c, x, ha, hc, by omega, hx, hx2, rfl⟩
theorem tie_ok {pot : D} {n : Nat} (hp : PotOk n pot) (hn : n ≤ 900000) (P : Nat) (h0 : 0 < P) (h1 : P ≤ 4) : ∃ (t : List Int) (p : D), Tie P t ∧ PotOk (n + 5) p ∧ Sem.f__law_tie [(1, pot), (0, .int P)] = .ok 0 (tupI t) [.val 1 true p, .no] := by
  obtain ⟨a, p1, ha, q1, e1⟩ := draw hp (by omega) P h0 (by omega)
  obtain ⟨b, p2, hb, q2, e2⟩ := draw q1 (by omega) P h0 (by omega)
  obtain ⟨x, p3, hx, q3, e3⟩ := draw q2 (by omega) 3 (by decide) (by decide)
  obtain ⟨y, p4, hy, q4, e4⟩ := draw q3 (by omega) 3 (by decide) (by decide)
  obtain ⟨z, p5, hz, q5, e5⟩ := draw q4 (by omega) 2 (by decide) (by decide)
  have e3 : Sem.f__law_take [(1, p2), (0, .int 3)] = .ok 0 (.int x) [.val 1 true p3, .no] := e3
  have e4 : Sem.f__law_take [(1, p3), (0, .int 3)] = .ok 0 (.int y) [.val 1 true p4, .no] := e4
  have e5 : Sem.f__law_take [(1, p4), (0, .int 2)] = .ok 0 (.int z) [.val 1 true p5, .no] := e5
  (rw [Sem.f__law_tie_eq]; unfold Sem.s__law_tie)
  have eq0 : ∀ x y : Int, eqD (.tup [.int x, .int y]) (.tup [.int 0, .int 0]) = some (decide ([x, y] = [0, 0])) := fun x y => eq_tupI (a := [x, y]) (b := [0, 0])
  by_cases h : a = b ∧ (x : Int) - 1 = 0 ∧ (y : Int) - 1 = 0
  · obtain ⟨rfl, hx0, hy0⟩ := h
    refine ⟨[a, a, 1 - 2 * z, y - 1], p5, tie_of (by omega), q5, ?_⟩
    simp -implicitDefEqProofs [v_run, e1, e2, e3, e4, e5, eq0, hx0, hy0, tupI, small_ok]
  · refine ⟨[a, b, x - 1, y - 1], p4, tie_of (by omega), q4.mono (by omega), ?_⟩
    by_cases hab : a = b
    · subst hab
      have h' : ¬ ((x : Int) - 1 = 0 ∧ (y : Int) - 1 = 0) := fun z => h ⟨rfl, z⟩
      simp -implicitDefEqProofs [v_run, e1, e2, e3, e4, eq0, h', tupI, small_ok]
    · have hab : ¬ (a : Int) = b := by omega
      simp -implicitDefEqProofs [v_run, e1, e2, e3, e4, eq0, hab, tupI, small_ok]
theorem written_ok {P : Nat} {t : List Int} (T : Tie P t) : ∃ u : List Int, Tie P u ∧ Sem.f__law_written [(0, tupI t)] = .ok 0 (tupI u) [.no] := by
  obtain ⟨a, b, x, y, rfl, h⟩ := T.ex
  have et : Sem.f__law_turned [(0, tupI [a, b, x, y])] = .ok 0 (tupI [b, a, 0 - x, 0 - y]) [.no] := by
    (rw [Sem.f__law_turned_eq]; unfold Sem.s__law_turned)
    simp -implicitDefEqProofs [v_run, tupI, small_ok]
  have gt0 : gtX (.tup [.int x, .int y]) (.tup [.int 0, .int 0]) = _ := gt_tupI [x, y] [0, 0]
  have ct : ∀ a b : Int, cutD [D.int a, D.int b, D.int x, D.int y] (some 2) none = [.int x, .int y] := fun _ _ => rfl
  generalize PySem.W.dataLt (py (tupI [0, 0])) (py (tupI [x, y])) = hl0 at gt0
  (rw [Sem.f__law_written_eq]; unfold Sem.s__law_written)
  by_cases h1 : a < b
  · refine ⟨[a, b, x, y], T, ?_⟩
    simp -implicitDefEqProofs [v_run, tupI, h1, small_ok]
  · by_cases h2 : a = b
    · subst h2
      cases hl : hl0 with
      | true =>
        refine ⟨[a, a, x, y], T, ?_⟩
        simp -implicitDefEqProofs [v_run, tupI, ct, gt0, hl, small_ok]
      | false =>
        refine ⟨[a, a, 0 - x, 0 - y], tie_of (by omega), ?_⟩
        simp only [tupI, List.map_cons, List.map_nil] at et ⊢
        simp only [Int.zero_sub] at et ⊢
        simp -implicitDefEqProofs [v_run, ct, gt0, hl, et, small_ok]
    · refine ⟨[b, a, 0 - x, 0 - y], tie_of (by omega), ?_⟩
      simp only [tupI, List.map_cons, List.map_nil] at et ⊢
      simp only [Int.zero_sub] at et ⊢
      simp -implicitDefEqProofs [v_run, h1, h2, et, small_ok]
def knownG : List (Nat × List (List Int)) := [(1, [[0, 0, 0, 1], [0, 0, 1, 0]]), (1, [[0, 0, 0, 1], [0, 0, 1, 0], [0, 0, 1, 1]]), (1, [[0, 0, 0, 1], [0, 0, 1, -1], [0, 0, 1, 0], [0, 0, 1, 1]]), (2, [[0, 1, -1, 0], [0, 1, 0, -1], [0, 1, 0, 0]]),
  (3, [[0, 1, -1, 0], [0, 1, 0, 0], [0, 2, 0, -1], [0, 2, 0, 0], [1, 2, 0, 0], [1, 2, 1, -1]]), (4, [[0, 1, 0, 0], [0, 2, -1, 0], [0, 3, 0, 0], [1, 2, 0, 0], [1, 3, 0, 1], [2, 3, 0, 0]]), (1, [[0, 0, 0, 1]]), (2, [[0, 0, 0, 1], [0, 0, 1, 0], [1, 1, 0, 1], [1, 1, 1, 1]])]
theorem known_pre (pot : D) : Sem.s__law_known [.val 1 true pot, .no] = (S.ret (S.bin ixA (.nm 1) (.ex (S.fz (S.call Sem.f__law_take [.lend 0, .ex (S.c (.int 8))]))))) [.val 1 true pot, .val 1 false (.lst (gridsD knownG))] := by
  kernel_rfl
theorem known_ok {pot : D} {n : Nat} (hp : PotOk n pot) (hn : n ≤ 900000) : ∃ (p : Nat) (ts : List (List Int)) (pot' : D), Grid p ts ∧ ts.length ≤ 16 ∧ PotOk (n + 1) pot' ∧ Sem.f__law_known [(1, pot)] = .ok 0 (gridD p ts) [.val 1 true pot'] := by
  obtain ⟨r, p1, hr, q1, e1⟩ := draw hp (by omega) 8 (by decide) (by decide)
  have e1 : Sem.f__law_take [(1, pot), (0, .int 8)] = .ok 0 (.int r) [.val 1 true p1, .no] := e1
  obtain ⟨p, ts, e2, G, l16⟩ := at_grids (gs := knownG) (by decide) (r := r) hr
  refine ⟨p, ts, p1, G, l16, q1, ?_⟩
  have e3 := known_pre pot
  generalize gridsD knownG = K at *
  generalize gridD p ts = g at *
  (rw [Sem.f__law_known_eq])
  simp -implicitDefEqProofs [v_run, e3, e1, e2]
abbrev eGr (pot : D) (p : Nat) (ts : List (List Int)) (s3 s4 : DV.Slot) : DV.Env := [.val 1 true pot, .val 0 false (.int p), .val 1 false (.lst (ts.map tupI)), s3, s4]
theorem grid_turn {pot : D} {n p : Nat} {ts : List (List Int)} (hp : PotOk n pot) (hn : n ≤ 800000) (h1 : 1 ≤ p) (h4 : p ≤ 4) (hl : ts.length ≤ 16) (ht : ∀ t ∈ ts, Tie p t) (k : Int) (s3 s4 : DV.Slot) (f3 : s3.free = true) (f4 : s4.free = true) :
    ∃ (us : List (List Int)) (pot' : D) (t4 : DV.Slot), S.turn (S.name 3) Sem.b1__law_grid (.int k) (eGr pot p ts s3 s4) = .ok .nx (eGr pot' p us (.val 0 false (.int k)) t4) ∧ PotOk (n + 5) pot' ∧ us.length ≤ 16 ∧ (∀ t ∈ us, Tie p t) ∧ t4.free = true := by
  obtain ⟨t, p1, T, q1, e1⟩ := tie_ok hp (by omega) p h1 h4
  obtain ⟨u, U, e2⟩ := written_ok T
  have ok1 : okD 16 (tupI u) = true := ok_tupI (by decide)
  have ok2 : okD 16 (.lst (ts.map tupI)) = true := by
    rw [ok_lst (by decide)]
    refine okL_all fun d hd => ?_
    obtain ⟨x, _, rfl⟩ := List.mem_map.mp hd
    exact ok_tupI (by decide)
  have e3 : ninA (tupI u) (.lst (ts.map tupI)) = some (!memD (tupI u) (ts.map tupI)) := by
    have e : inA (tupI u) (.lst (ts.map tupI)) = inD (tupI u) (.lst (ts.map tupI)) := rfl
    unfold ninA
    rw [e, inL ok1 ok2]; rfl
  cases hm : memD (tupI u) (ts.map tupI) with
  | true =>
    rw [hm] at e3
    refine ⟨ts, p1, .val 0 false (tupI u), ?_, q1, hl, ht, rfl⟩
    unfold Sem.b1__law_grid
    simp only [eGr]
    generalize ts.map tupI = L at *
    generalize tupI u = u' at *
    generalize tupI t = t' at *
    simp -implicitDefEqProofs [f3, f4, e1, e2, e3]
  | false =>
    rw [hm] at e3
    by_cases h16 : ts.length < 16
    · have e4 : appendD (ts.map tupI) [tupI u] = some (.non, (ts ++ [u]).map tupI) := by
        show (if (ts.map tupI).length < sizeLine then some (D.non, ts.map tupI ++ [tupI u]) else none) = _
        have z : ts.length + 1 ≤ sizeLine := small_ok (by omega)
        rw [if_pos (by rw [List.length_map]; omega), List.map_append]
        rfl
      refine ⟨ts ++ [u], p1, .val 0 false (tupI u), ?_, q1, by simp; omega, fun x hx => ?_, rfl⟩
      · have e5 : lenD [.lst (ts.map tupI)] = some (.int ts.length) := by simp
        have h16 : (ts.length : Int) < 16 := by omega
        unfold Sem.b1__law_grid
        simp only [eGr]
        generalize (ts ++ [u]).map tupI = L2 at *
        generalize ts.map tupI = L at *
        generalize tupI u = u' at *
        generalize tupI t = t' at *
        simp -implicitDefEqProofs [f3, f4, e1, e2, e3, e4, e5, h16, -v_lenL]
      · rcases List.mem_append.mp hx with hx | hx
        · exact ht x hx
        · rw [List.mem_singleton.mp hx]; exact U
    · refine ⟨ts, p1, .val 0 false (tupI u), ?_, q1, hl, ht, rfl⟩
      have e5 : lenD [.lst (ts.map tupI)] = some (.int ts.length) := by simp
      have h16 : ¬ (ts.length : Int) < 16 := by omega
      unfold Sem.b1__law_grid
      simp only [eGr]
      generalize ts.map tupI = L at *
      generalize tupI u = u' at *
      generalize tupI t = t' at *
      simp -implicitDefEqProofs [f3, f4, e1, e2, e3, e5, h16, -v_lenL]
theorem pick3 {a b c : D} {r : Nat} (h : r < 3) : ∃ d, atI [a, b, c] (r : Int) = some d ∧ (d = a ∨ d = b ∨ d = c) := by
  have h : r = 0 ∨ r = 1 ∨ r = 2 := by omega
  rcases h with rfl | rfl | rfl
  · exact ⟨a, rfl, .inl rfl⟩
  · exact ⟨b, rfl, .inr (.inl rfl)⟩
  · exact ⟨c, rfl, .inr (.inr rfl)⟩
theorem grid_ok {pot : D} {n : Nat} (hp : PotOk n pot) (hn : n ≤ 700000) : ∃ (p : Nat) (ts : List (List Int)) (pot' : D), Grid p ts ∧ ts.length ≤ 16 ∧ PotOk (n + 200) pot' ∧ Sem.f__law_grid [(1, pot)] = .ok 0 (gridD p ts) [.val 1 true pot'] := by
  obtain ⟨r, p1, hr, q1, e1⟩ := draw hp (by omega) 3 (by decide) (by decide)
  have e1 : Sem.f__law_take [(1, pot), (0, .int 3)] = .ok 0 (.int r) [.val 1 true p1, .no] := e1
  by_cases hz : r = 0
  · subst hz
    obtain ⟨p, ts, p2, G, l16, q2, e2⟩ := known_ok q1 (by omega)
    refine ⟨p, ts, p2, G, l16, q2.mono (by omega), ?_⟩
    (rw [Sem.f__law_grid_eq]; unfold Sem.s__law_grid)
    generalize Sem.l1__law_grid = LL at *
    generalize gridD p ts = g at *
    simp -implicitDefEqProofs [v_run, e1, e2, small_ok]
  · obtain ⟨a, p2, ha, q2, e2⟩ := draw q1 (by omega) 4 (by decide) (by decide)
    obtain ⟨b, p3, hb, q3, e3⟩ := draw q2 (by omega) 4 (by decide) (by decide)
    obtain ⟨c, p4, hc, q4, e4⟩ := draw q3 (by omega) 7 (by decide) (by decide)
    obtain ⟨d, p5, hd, q5, e5⟩ := draw q4 (by omega) 21 (by decide) (by decide)
    obtain ⟨e, p6, he, q6, e6⟩ := draw q5 (by omega) 3 (by decide) (by decide)
    have e2 : Sem.f__law_take [(1, p1), (0, .int 4)] = .ok 0 (.int a) [.val 1 true p2, .no] := e2
    have e3 : Sem.f__law_take [(1, p2), (0, .int 4)] = .ok 0 (.int b) [.val 1 true p3, .no] := e3
    have e4 : Sem.f__law_take [(1, p3), (0, .int 7)] = .ok 0 (.int c) [.val 1 true p4, .no] := e4
    have e5 : Sem.f__law_take [(1, p4), (0, .int 21)] = .ok 0 (.int d) [.val 1 true p5, .no] := e5
    have e6 : Sem.f__law_take [(1, p5), (0, .int 3)] = .ok 0 (.int e) [.val 1 true p6, .no] := e6
    obtain ⟨m, em, hm⟩ : ∃ m : Nat, atI [D.int b, D.int (2 + c), D.int d] (e : Int) = some (.int m) ∧ m ≤ 20 := by
      obtain ⟨x, ex, hx⟩ := pick3 (a := D.int b) (b := D.int (2 + c)) (c := D.int d) he
      rcases hx with rfl | rfl | rfl
      · exact ⟨b, ex, by omega⟩
      · exact ⟨2 + c, ex, by omega⟩
      · exact ⟨d, ex, by omega⟩
    obtain ⟨P, hP⟩ : ∃ P : Nat, P = 1 + a := ⟨_, rfl⟩
    have hP' : 1 + (a : Int) = (P : Int) := by omega
    have lp := forL_all (g := S.name 3) (body := Sem.b1__law_grid) (ds := S.rangeL 0 m) (η := eGr p6 P [] .no .no)
      (fun i η => ∃ (us : List (List Int)) (pot' : D) (s3 s4 : DV.Slot), s3.free = true ∧ s4.free = true ∧ PotOk (n + 6 + 5 * i) pot' ∧ us.length ≤ 16 ∧ (∀ t ∈ us, Tie P t) ∧ η = eGr pot' P us s3 s4)
      ⟨[], p6, .no, .no, rfl, rfl, q6, by decide, by simp, rfl⟩ (by
      rintro i hi η ⟨us, pot', s3, s4, f3, f4, hq, hl, ht, rfl⟩
      rw [rangeL_len] at hi
      rw [rangeL_get]
      obtain ⟨us', pot'', t4, e, q, l, t, g4⟩ := grid_turn hq (by omega) (by omega) (by omega) hl ht (0 + (i : Int)) s3 s4 f3 f4
      exact ⟨_, .inl e, us', pot'', _, t4, rfl, g4, q.mono (by omega), l, t, rfl⟩)
    obtain ⟨η', el, us, pot', s3, s4, f3, f4, hq, hl, ht, rfl⟩ := lp
    rw [rangeL_len] at hq
    refine ⟨P, us.mergeSort leI, pot', ⟨by omega, by omega, by rw [List.length_mergeSort]; omega, fun t h => ht t ((List.mergeSort_perm _ _).mem_iff.mp h)⟩, by rw [List.length_mergeSort]; exact hl, hq.mono (by omega), ?_⟩
    have hz' : ¬ (r : Int) = 0 := by omega
    have so := sorted_tupI (n := 4) (by decide) (ts := us) fun t h => by
      obtain ⟨a, b, x, y, rfl, _⟩ := (ht t h).ex
      rfl
    have el2 : Sem.l1__law_grid (eGr p2 P [] .no .no) = .ok .nx (eGr pot' P us s3 s4) := by
      unfold Sem.l1__law_grid
      rw [v_fors]
      simp only [eGr, List.map_nil] at el ⊢
      have mb : (m : Int) < 4611686018427387904 := by omega
      simp -implicitDefEqProofs [e3, e4, e5, e6, em, el, mb, small_ok]
    (rw [Sem.f__law_grid_eq]; unfold Sem.s__law_grid)
    generalize Sem.l1__law_grid = LL at *
    unfold gridD
    simp only [eGr, List.map_nil] at el2
    simp -implicitDefEqProofs [v_run, e1, hz, e2, hP', el2, so, small_ok]
end Maths

namespace Maths
open DV L2 PySem
theorem tie_okR {pot : D} {n : Nat} (hp : PotOk n pot) (hn : n ≤ 900000) (P : Nat) (h0 : 0 < P) (h1 : P ≤ 4) : ∃ (t : List Int) (p : D), Tie P t ∧ Real t ∧ PotOk (n + 5) p ∧ Sem.f__law_tie [(1, pot), (0, .int P)] = .ok 0 (tupI t) [.val 1 true p, .no] := by
  obtain ⟨a, p1, ha, q1, e1⟩ := draw hp (by omega) P h0 (by omega)
  obtain ⟨b, p2, hb, q2, e2⟩ := draw q1 (by omega) P h0 (by omega)
  obtain ⟨x, p3, hx, q3, e3⟩ := draw q2 (by omega) 3 (by decide) (by decide)
  obtain ⟨y, p4, hy, q4, e4⟩ := draw q3 (by omega) 3 (by decide) (by decide)
  obtain ⟨z, p5, hz, q5, e5⟩ := draw q4 (by omega) 2 (by decide) (by decide)
  have e3 : Sem.f__law_take [(1, p2), (0, .int 3)] = .ok 0 (.int x) [.val 1 true p3, .no] := e3
  have e4 : Sem.f__law_take [(1, p3), (0, .int 3)] = .ok 0 (.int y) [.val 1 true p4, .no] := e4
  have e5 : Sem.f__law_take [(1, p4), (0, .int 2)] = .ok 0 (.int z) [.val 1 true p5, .no] := e5
  (rw [Sem.f__law_tie_eq]; unfold Sem.s__law_tie)
  have eq0 : ∀ x y : Int, eqD (.tup [.int x, .int y]) (.tup [.int 0, .int 0]) = some (decide ([x, y] = [0, 0])) := fun x y => eq_tupI (a := [x, y]) (b := [0, 0])
  by_cases h : a = b ∧ (x : Int) - 1 = 0 ∧ (y : Int) - 1 = 0
  · obtain ⟨rfl, hx0, hy0⟩ := h
    refine ⟨[a, a, 1 - 2 * z, y - 1], p5, tie_of (by omega), ⟨_, _, _, _, rfl, by omega⟩, q5, ?_⟩
    simp -implicitDefEqProofs [v_run, e1, e2, e3, e4, e5, eq0, hx0, hy0, tupI, small_ok]
  · refine ⟨[a, b, x - 1, y - 1], p4, tie_of (by omega), ⟨_, _, _, _, rfl, by omega⟩, q4.mono (by omega), ?_⟩
    by_cases hab : a = b
    · subst hab
      have h' : ¬ ((x : Int) - 1 = 0 ∧ (y : Int) - 1 = 0) := fun z => h ⟨rfl, z⟩
      simp -implicitDefEqProofs [v_run, e1, e2, e3, e4, eq0, h', tupI, small_ok]
    · have hab : ¬ (a : Int) = b := by omega
      simp -implicitDefEqProofs [v_run, e1, e2, e3, e4, eq0, hab, tupI, small_ok]
theorem turned_ok (a b x y : Int) : Sem.f__law_turned [(0, tupI [a, b, x, y])] = .ok 0 (tupI [b, a, -x, -y]) [.no] := by
  (rw [Sem.f__law_turned_eq]; unfold Sem.s__law_turned)
  simp -implicitDefEqProofs [v_run, tupI, small_ok]
theorem turned_flip {t : List Int} (h : Real t) : Sem.f__law_turned [(0, tupI t)] = .ok 0 (tupI (flip t)) [.no] := by
  obtain ⟨a, b, x, y, rfl, _⟩ := h
  exact turned_ok a b x y
theorem written_okR {t : List Int} (R : Real t) : Sem.f__law_written [(0, tupI t)] = .ok 0 (tupI (wrt t)) [.no] := by
  obtain ⟨a, b, x, y, rfl, h⟩ := R
  have et := turned_ok a b x y
  have gt0 := gt0_ok x y
  have ct : ∀ a b : Int, cutD [D.int a, D.int b, D.int x, D.int y] (some 2) none = [.int x, .int y] := fun _ _ => rfl
  rw [wrt_four]
  by_cases h1 : a < b
  · rw [if_pos (.inl h1)]
    (rw [Sem.f__law_written_eq]; unfold Sem.s__law_written)
    simp -implicitDefEqProofs [v_run, tupI, h1, small_ok]
  · by_cases h2 : a = b
    · subst h2
      obtain ⟨bb, hb⟩ : ∃ bb, decide (0 < x ∨ x = 0 ∧ 0 < y) = bb := ⟨_, rfl⟩
      rw [hb] at gt0
      cases bb with
      | true =>
        rw [if_pos (.inr ⟨rfl, of_decide_eq_true hb⟩)]
        (rw [Sem.f__law_written_eq]; unfold Sem.s__law_written)
        simp -implicitDefEqProofs [v_run, tupI, ct, gt0, small_ok]
      | false =>
        have := of_decide_eq_false hb
        rw [if_neg (by omega)]
        simp only [tupI, List.map_cons, List.map_nil] at et ⊢
        (rw [Sem.f__law_written_eq]; unfold Sem.s__law_written)
        simp -implicitDefEqProofs [v_run, ct, gt0, et, small_ok]
    · rw [if_neg (by omega)]
      simp only [tupI, List.map_cons, List.map_nil] at et ⊢
      (rw [Sem.f__law_written_eq]; unfold Sem.s__law_written)
      simp -implicitDefEqProofs [v_run, h1, h2, et, small_ok]
theorem known_okS {pot : D} {n : Nat} (hp : PotOk n pot) (hn : n ≤ 900000) : ∃ (p : Nat) (ts : List (List Int)) (pot' : D), GS p ts ∧ PotOk (n + 1) pot' ∧ Sem.f__law_known [(1, pot)] = .ok 0 (gridD p ts) [.val 1 true pot'] := by
  obtain ⟨r, p1, hr, q1, e1⟩ := draw hp (by omega) 8 (by decide) (by decide)
  have e1 : Sem.f__law_take [(1, pot), (0, .int 8)] = .ok 0 (.int r) [.val 1 true p1, .no] := e1
  obtain ⟨p, ts, e2, G⟩ := at_gridsS (gs := knownG) (by decide +kernel) (r := r) hr
  refine ⟨p, ts, p1, G, q1, ?_⟩
  have e3 := known_pre pot
  generalize gridsD knownG = K at *
  generalize gridD p ts = g at *
  (rw [Sem.f__law_known_eq])
  simp -implicitDefEqProofs [v_run, e3, e1, e2]
theorem grid_turnS {pot : D} {n p : Nat} {ts : List (List Int)} (hp : PotOk n pot) (hn : n ≤ 800000) (h1 : 1 ≤ p) (h4 : p ≤ 4) (hl : ts.length ≤ 16) (ht : ∀ t ∈ ts, Tie p t) (hN : ∀ t ∈ ts, Norm t) (nd : ts.Nodup) (k : Int) (s3 s4 : DV.Slot) (f3 : s3.free = true) (f4 : s4.free = true) :
    ∃ (us : List (List Int)) (pot' : D) (t4 : DV.Slot), S.turn (S.name 3) Sem.b1__law_grid (.int k) (eGr pot p ts s3 s4) = .ok .nx (eGr pot' p us (.val 0 false (.int k)) t4) ∧ PotOk (n + 5) pot' ∧ us.length ≤ 16 ∧ (∀ t ∈ us, Tie p t) ∧ (∀ t ∈ us, Norm t) ∧ us.Nodup ∧ t4.free = true := by
  obtain ⟨t, p1, T, R, q1, e1⟩ := tie_okR hp (by omega) p h1 h4
  have e2 := written_okR R
  have U := T.wrt
  have UN := wrt_norm R
  generalize wrt t = u at *
  have ok1 : okD 16 (tupI u) = true := ok_tupI (by decide)
  have ok2 : okD 16 (.lst (ts.map tupI)) = true := by
    rw [ok_lst (by decide)]
    refine okL_all fun d hd => ?_
    obtain ⟨x, _, rfl⟩ := List.mem_map.mp hd
    exact ok_tupI (by decide)
  have e3 : ninA (tupI u) (.lst (ts.map tupI)) = some (!memD (tupI u) (ts.map tupI)) := by
    have e : inA (tupI u) (.lst (ts.map tupI)) = inD (tupI u) (.lst (ts.map tupI)) := rfl
    unfold ninA
    rw [e, inL ok1 ok2]; rfl
  have hmd : memD (tupI u) (ts.map tupI) = decide (u ∈ ts) := by rw [memD_map (fun _ _ h => tupI_inj h) fun _ => by simp]; exact decide_eq_decide.mpr Iff.rfl
  cases hm : memD (tupI u) (ts.map tupI) with
  | true =>
    rw [hm] at e3
    refine ⟨ts, p1, .val 0 false (tupI u), ?_, q1, hl, ht, hN, nd, rfl⟩
    unfold Sem.b1__law_grid
    simp only [eGr]
    generalize ts.map tupI = L at *
    generalize tupI u = u' at *
    generalize tupI t = t' at *
    simp -implicitDefEqProofs [f3, f4, e1, e2, e3]
  | false =>
    rw [hm] at e3
    by_cases h16 : ts.length < 16
    · have e4 : appendD (ts.map tupI) [tupI u] = some (.non, (ts ++ [u]).map tupI) := by
        show (if (ts.map tupI).length < sizeLine then some (D.non, ts.map tupI ++ [tupI u]) else none) = _
        have z : ts.length + 1 ≤ sizeLine := small_ok (by omega)
        rw [if_pos (by rw [List.length_map]; omega), List.map_append]
        rfl
      refine ⟨ts ++ [u], p1, .val 0 false (tupI u), ?_, q1, by simp; omega, fun x hx => ?_, fun x hx => ?_, ?_, rfl⟩
      · have e5 : lenD [.lst (ts.map tupI)] = some (.int ts.length) := by simp
        have h16 : (ts.length : Int) < 16 := by omega
        unfold Sem.b1__law_grid
        simp only [eGr]
        generalize (ts ++ [u]).map tupI = L2 at *
        generalize ts.map tupI = L at *
        generalize tupI u = u' at *
        generalize tupI t = t' at *
        simp -implicitDefEqProofs [f3, f4, e1, e2, e3, e4, e5, h16, -v_lenL]
      · rcases List.mem_append.mp hx with hx | hx
        · exact ht x hx
        · rw [List.mem_singleton.mp hx]; exact U
      · rcases List.mem_append.mp hx with hx | hx
        · exact hN x hx
        · rw [List.mem_singleton.mp hx]; exact UN
      · rw [hmd] at hm
        have hm := of_decide_eq_false hm
        exact List.nodup_append.mpr ⟨nd, List.pairwise_singleton _ _, fun a ha b hb e => hm (by rw [← List.mem_singleton.mp hb, ← e]; exact ha)⟩
    · refine ⟨ts, p1, .val 0 false (tupI u), ?_, q1, hl, ht, hN, nd, rfl⟩
      have e5 : lenD [.lst (ts.map tupI)] = some (.int ts.length) := by simp
      have h16 : ¬ (ts.length : Int) < 16 := by omega
      unfold Sem.b1__law_grid
      simp only [eGr]
      generalize ts.map tupI = L at *
      generalize tupI u = u' at *
      generalize tupI t = t' at *
      simp -implicitDefEqProofs [f3, f4, e1, e2, e3, e5, h16, -v_lenL]
theorem grid_okS {pot : D} {n : Nat} (hp : PotOk n pot) (hn : n ≤ 700000) : ∃ (p : Nat) (ts : List (List Int)) (pot' : D), GS p ts ∧ PotOk (n + 200) pot' ∧ Sem.f__law_grid [(1, pot)] = .ok 0 (gridD p ts) [.val 1 true pot'] := by
  obtain ⟨r, p1, hr, q1, e1⟩ := draw hp (by omega) 3 (by decide) (by decide)
  have e1 : Sem.f__law_take [(1, pot), (0, .int 3)] = .ok 0 (.int r) [.val 1 true p1, .no] := e1
  by_cases hz : r = 0
  · subst hz
    obtain ⟨p, ts, p2, G, q2, e2⟩ := known_okS q1 (by omega)
    refine ⟨p, ts, p2, G, q2.mono (by omega), ?_⟩
    (rw [Sem.f__law_grid_eq]; unfold Sem.s__law_grid)
    generalize Sem.l1__law_grid = LL at *
    generalize gridD p ts = g at *
    simp -implicitDefEqProofs [v_run, e1, e2, small_ok]
  · obtain ⟨a, p2, ha, q2, e2⟩ := draw q1 (by omega) 4 (by decide) (by decide)
    obtain ⟨b, p3, hb, q3, e3⟩ := draw q2 (by omega) 4 (by decide) (by decide)
    obtain ⟨c, p4, hc, q4, e4⟩ := draw q3 (by omega) 7 (by decide) (by decide)
    obtain ⟨d, p5, hd, q5, e5⟩ := draw q4 (by omega) 21 (by decide) (by decide)
    obtain ⟨e, p6, he, q6, e6⟩ := draw q5 (by omega) 3 (by decide) (by decide)
    have e2 : Sem.f__law_take [(1, p1), (0, .int 4)] = .ok 0 (.int a) [.val 1 true p2, .no] := e2
    have e3 : Sem.f__law_take [(1, p2), (0, .int 4)] = .ok 0 (.int b) [.val 1 true p3, .no] := e3
    have e4 : Sem.f__law_take [(1, p3), (0, .int 7)] = .ok 0 (.int c) [.val 1 true p4, .no] := e4
    have e5 : Sem.f__law_take [(1, p4), (0, .int 21)] = .ok 0 (.int d) [.val 1 true p5, .no] := e5
    have e6 : Sem.f__law_take [(1, p5), (0, .int 3)] = .ok 0 (.int e) [.val 1 true p6, .no] := e6
    obtain ⟨m, em, hm⟩ : ∃ m : Nat, atI [D.int b, D.int (2 + c), D.int d] (e : Int) = some (.int m) ∧ m ≤ 20 := by
      obtain ⟨x, ex, hx⟩ := pick3 (a := D.int b) (b := D.int (2 + c)) (c := D.int d) he
      rcases hx with rfl | rfl | rfl
      · exact ⟨b, ex, by omega⟩
      · exact ⟨2 + c, ex, by omega⟩
      · exact ⟨d, ex, by omega⟩
    obtain ⟨P, hP⟩ : ∃ P : Nat, P = 1 + a := ⟨_, rfl⟩
    have hP' : 1 + (a : Int) = (P : Int) := by omega
    have lp := forL_all (g := S.name 3) (body := Sem.b1__law_grid) (ds := S.rangeL 0 m) (η := eGr p6 P [] .no .no)
      (fun i η => ∃ (us : List (List Int)) (pot' : D) (s3 s4 : DV.Slot), s3.free = true ∧ s4.free = true ∧ PotOk (n + 6 + 5 * i) pot' ∧ us.length ≤ 16 ∧ (∀ t ∈ us, Tie P t) ∧ (∀ t ∈ us, Norm t) ∧ us.Nodup ∧ η = eGr pot' P us s3 s4)
      ⟨[], p6, .no, .no, rfl, rfl, q6, by decide, by simp, by simp, List.nodup_nil, rfl⟩ (by
      rintro i hi η ⟨us, pot', s3, s4, f3, f4, hq, hl, ht, hN, nd, rfl⟩
      rw [rangeL_len] at hi
      rw [rangeL_get]
      obtain ⟨us', pot'', t4, e, q, l, t, tN, tD, g4⟩ := grid_turnS hq (by omega) (by omega) (by omega) hl ht hN nd (0 + (i : Int)) s3 s4 f3 f4
      exact ⟨_, .inl e, us', pot'', _, t4, rfl, g4, q.mono (by omega), l, t, tN, tD, rfl⟩)
    obtain ⟨η', el, us, pot', s3, s4, f3, f4, hq, hl, ht, hN, nd, rfl⟩ := lp
    rw [rangeL_len] at hq
    refine ⟨P, us.mergeSort leI, pot', gs_sort (by omega) (by omega) hl ht hN nd, hq.mono (by omega), ?_⟩
    have hz' : ¬ (r : Int) = 0 := by omega
    have so := sorted_tupI (n := 4) (by decide) (ts := us) fun t h => by
      obtain ⟨a, b, x, y, rfl, _⟩ := (ht t h).ex
      rfl
    have el2 : Sem.l1__law_grid (eGr p2 P [] .no .no) = .ok .nx (eGr pot' P us s3 s4) := by
      unfold Sem.l1__law_grid
      rw [v_fors]
      simp only [eGr, List.map_nil] at el ⊢
      have mb : (m : Int) < 4611686018427387904 := by omega
      simp -implicitDefEqProofs [e3, e4, e5, e6, em, el, mb, small_ok]
    (rw [Sem.f__law_grid_eq]; unfold Sem.s__law_grid)
    generalize Sem.l1__law_grid = LL at *
    unfold gridD
    simp only [eGr, List.map_nil] at el2
    simp -implicitDefEqProofs [v_run, e1, hz, e2, hP', el2, so, small_ok]
end Maths

namespace Maths
open DV L2 PySem
theorem zeros_flat : ∀ k : Nat, (List.replicate k [D.int 0]).flatten = (List.replicate k (0 : Int)).map .int
  | 0 => rfl
  | k + 1 => by rw [List.replicate_succ, List.flatten_cons, zeros_flat k]; rfl
/-! ### cells folded -/
theorem fold_turn {ns : List Int} {m : Int} {ys : List Int} (hy : 1 ≤ ys.length) {k : Nat} (c : Int) (s3 s4 : DV.Slot) (f3 : s3.free = true) (f4 : s4.free = true) : ∃ zs : List Int, S.turn (S.gtup [S.name 3, S.name 4]) Sem.b1__law_folded (.tup [.int k, .int c]) [.val 0 false (.lst (ns.map .int)), .val 0 false (.int m), .val 1 false (.lst (ys.map .int)), s3, s4] =
    .ok .nx [.val 0 false (.lst (ns.map .int)), .val 0 false (.int m), .val 1 false (.lst (zs.map .int)), .val 0 false (.int k), .val 0 false (.int c)] ∧ zs.length = ys.length := by
  have hk : k % ys.length < ys.length := Nat.mod_lt _ (by omega)
  have em : (k : Int) % (ys.length : Int) = ((k % ys.length : Nat) : Int) := by omega
  obtain ⟨y, hy2, _⟩ := at_some (xs := ys) (i := ((k % ys.length : Nat) : Int)) (by omega) (by omega)
  have lp : (0 : Int) < ys.length := by omega
  have st : stD (.lst (ys.map .int)) (.int ((k % ys.length : Nat) : Int)) (.int (y * 7 + c)) = some (.lst ((ys.set (k % ys.length) (y * 7 + c)).map .int)) := by
    show (ixN (ys.map D.int).length ((k % ys.length : Nat) : Int)).map (fun m => D.lst ((ys.map D.int).set m (.int (y * 7 + c)))) = _
    have e : ixN (ys.map D.int).length ((k % ys.length : Nat) : Int) = some (k % ys.length) := by
      rw [List.length_map]
      unfold ixN
      rw [if_pos (by omega), if_pos (by omega)]
      rfl
    rw [e]
    show some (D.lst ((ys.map D.int).set (k % ys.length) (.int (y * 7 + c)))) = _
    rw [List.map_set]
  refine ⟨ys.set (k % ys.length) (y * 7 + c), ?_, by rw [List.length_set]⟩
  unfold Sem.b1__law_folded
  have e5 : lenD [.lst (ys.map D.int)] = some (.int ys.length) := by simp
  have ev : modD (.int k) (.int ys.length) = some (0, .int ((k % ys.length : Nat) : Int)) := by
    rw [v_modI lp, em]
  have ai : atI (ys.map D.int) ((k % ys.length : Nat) : Int) = some (.int y) := by rw [at_map, hy2]; rfl
  generalize (ys.set (k % ys.length) (y * 7 + c)).map D.int = Z at *
  generalize ys.map D.int = Y at *
  generalize ((k % ys.length : Nat) : Int) = kk at *
  generalize (ys.length : Int) = ll at *
  simp -implicitDefEqProofs [f3, f4, e5, ev, ai, st, -v_lenL]
theorem enumL_get {ds : List D} {i : Nat} (hi : i < (S.enumL ds).length) : ∃ h : i < ds.length, (S.enumL ds)[i] = .tup [.int i, ds[i]] := by
  have h : i < ds.length := by simpa [S.enumL] using hi
  exact ⟨h, by simp [S.enumL]⟩
theorem fold_loop {ns : List Int} {m : Int} {ys : List Int} (hy : 1 ≤ ys.length) : ∃ (zs : List Int) (s3 s4 : DV.Slot), Sem.l1__law_folded [.val 0 false (.lst (ns.map .int)), .val 0 false (.int m), .val 1 false (.lst (ys.map .int)), .no, .no] = .ok .nx [.val 0 false (.lst (ns.map .int)), .val 0 false (.int m), .val 1 false (.lst (zs.map .int)), s3, s4] ∧ zs.length = ys.length := by
  have lp := forL_all (g := S.gtup [S.name 3, S.name 4]) (body := Sem.b1__law_folded) (ds := S.enumL (ns.map D.int)) (η := [.val 0 false (.lst (ns.map .int)), .val 0 false (.int m), .val 1 false (.lst (ys.map .int)), .no, .no])
    (fun i η => ∃ (zs : List Int) (s3 s4 : DV.Slot), s3.free = true ∧ s4.free = true ∧ zs.length = ys.length ∧ η = [.val 0 false (.lst (ns.map .int)), .val 0 false (.int m), .val 1 false (.lst (zs.map .int)), s3, s4]) ⟨ys, .no, .no, rfl, rfl, rfl, rfl⟩ (by
    rintro i hi η ⟨zs, s3, s4, f3, f4, hz, rfl⟩
    obtain ⟨hi', ei⟩ := enumL_get hi
    rw [ei, List.getElem_map]
    obtain ⟨ws, e, hw⟩ := fold_turn (ns := ns) (m := m) (ys := zs) (by omega) (k := i) _ s3 s4 f3 f4
    exact ⟨_, .inl e, ws, _, _, rfl, rfl, by omega, rfl⟩)
  obtain ⟨η', e, zs, s3, s4, _, _, hz, rfl⟩ := lp
  refine ⟨zs, s3, s4, ?_, hz⟩
  unfold Sem.l1__law_folded
  rw [v_fors]
  generalize ns.map D.int = N at *
  have en : S.enum (S.var 0) [.val 0 false (.lst N), .val 0 false (.int m), .val 1 false (.lst (ys.map .int)), .no, .no] = .ok (S.enumL N) [.val 0 false (.lst N), .val 0 false (.int m), .val 1 false (.lst (ys.map .int)), .no, .no] := rfl
  rw [en, bind_ok, e]
theorem zeros_flat2 (k : Nat) (hk : k ≤ 100) : mulD (.lst [.int 0]) (.int (k : Int)) = some (1, .lst ((List.replicate k (0 : Int)).map .int)) := by
  have z : ((k : Int)).toNat = k := by omega
  have c : (k : Int) ≤ 1000000 ∧ -1000000 ≤ (k : Int) ∧ 1 * (k : Int).toNat ≤ 1000000 := ⟨by omega, by omega, by omega⟩
  generalize hh : (k : Int) = K at *
  rw [← zeros_flat, ← z]
  simp only [mulD, List.length_cons, List.length_nil, Nat.zero_add]
  rw [if_pos c]
theorem folded_ok (ns : List Int) (m : Nat) (h1 : 1 ≤ m) (hm : m ≤ 50) : ∃ xs : List Int, Sem.f__law_folded [(0, .lst (ns.map .int)), (0, .int m)] = .ok 1 (.lst (xs.map .int)) [.no, .no] ∧ 1 ≤ xs.length ∧ xs.length ≤ m := by
  obtain ⟨k, hk, h2, h3⟩ : ∃ k : Nat, (k : Int) = min (m : Int) (max 1 (ns.length : Int)) ∧ 1 ≤ k ∧ k ≤ 50 := ⟨(min (m : Int) (max 1 (ns.length : Int))).toNat, by omega, by omega, by omega⟩
  have rp := zeros_flat2 k (by omega)
  obtain ⟨zs, s3, s4, e, hz⟩ := fold_loop (ns := ns) (m := m) (ys := List.replicate k 0) (by simpa using h2)
  refine ⟨zs, ?_, by rw [hz, List.length_replicate]; exact h2, by rw [hz, List.length_replicate]; omega⟩
  have mx : maxA [.int 1, .int (ns.length : Int)] = some (.int (max 1 (ns.length : Int))) := by simp
  have mn : minA [.int (m : Int), .int (max 1 (ns.length : Int))] = some (.int (k : Int)) := by rw [hk]; simp
  have ll : lenD [.lst (ns.map D.int)] = some (.int (ns.length : Int)) := by simp
  generalize (List.replicate k (0 : Int)).map D.int = Z at *
  generalize ns.map D.int = N at *
  generalize max 1 (ns.length : Int) = mm at *
  generalize (ns.length : Int) = nl at *
  (rw [Sem.f__law_folded_eq]; unfold Sem.s__law_folded)
  simp -implicitDefEqProofs [v_run, ll, mx, mn, rp, e, small_ok, -v_lenL]
end Maths

namespace Maths
open DV L2 PySem
/-! ### neighbours, told by the program -/
abbrev eSt (p : Nat) (ts : List (List Int)) (q : Int) (F : List (List Int)) (s3 s4 s5 s6 : DV.Slot) : DV.Env := [.val 0 false (gridD p ts), .val 0 false (.int q), .val 1 false (.lst (F.map tupI)), s3, s4, s5, s6]
theorem step_turn {p : Nat} {ts : List (List Int)} {q : Int} {F : List (List Int)} (hF : F.length ≤ 1000) {t : List Int} (T : Tie p t) (s3 s4 s5 s6 : DV.Slot) (f3 : s3.free = true) (f4 : s4.free = true) (f5 : s5.free = true) (f6 : s6.free = true) :
    ∃ a b x y : D, S.turn (S.gtup [S.name 3, S.name 4, S.name 5, S.name 6]) Sem.b1_steps_from (tupI t) (eSt p ts q F s3 s4 s5 s6) = .ok .nx (eSt p ts q (F ++ step1 q t) (.val 0 false a) (.val 0 false b) (.val 0 false x) (.val 0 false y)) := by
  obtain ⟨a, b, x, y, rfl, _⟩ := T.ex
  have ap : ∀ (F : List (List Int)) (s : List Int), F.length ≤ 2000 → appendD (F.map tupI) [tupI s] = some (.non, (F ++ [s]).map tupI) := fun F s h => by
    show (if (F.map tupI).length < sizeLine then some (D.non, F.map tupI ++ [tupI s]) else none) = _
    have h : F.length + 1 ≤ sizeLine := small_ok (by omega)
    rw [if_pos (by rw [List.length_map]; omega), List.map_append]
    rfl
  have a1 := ap F [b, x, y] (by omega)
  have a2 := ap F [a, -x, -y] (by omega)
  have a3 := ap (F ++ [[b, x, y]]) [a, -x, -y] (by simp; omega)
  refine ⟨.int a, .int b, .int x, .int y, ?_⟩
  unfold step1
  simp only [eSt, tupI, List.map_cons, List.map_nil] at a1 a2 a3 ⊢
  generalize gridD p ts = g
  unfold Sem.b1_steps_from
  by_cases h1 : a = q
  · by_cases h2 : b = q
    · rw [if_pos h1, if_pos h2, ← List.append_assoc]
      subst h1
      subst h2
      generalize hX2 : List.map tupI ((F ++ [[b, x, y]]) ++ [[b, -x, -y]]) = X2 at *
      generalize hX : List.map tupI (F ++ [[b, x, y]]) = X at *
      simp -implicitDefEqProofs [f3, f4, f5, f6, a1, a3, small_ok]
    · rw [if_pos h1, if_neg h2, List.append_nil]
      generalize List.map tupI (F ++ [[b, x, y]]) = X at *
      simp -implicitDefEqProofs [f3, f4, f5, f6, h1, h2, a1, small_ok]
  · by_cases h2 : b = q
    · rw [if_neg h1, if_pos h2, List.nil_append]
      generalize List.map tupI (F ++ [[a, -x, -y]]) = X at *
      simp -implicitDefEqProofs [f3, f4, f5, f6, h1, h2, a2, small_ok]
    · rw [if_neg h1, if_neg h2, List.nil_append, List.append_nil]
      simp -implicitDefEqProofs [f3, f4, f5, f6, h1, h2]
theorem steps_ok {p : Nat} {ts : List (List Int)} (G : Grid p ts) (q : Int) : Sem.f_steps_from [(0, gridD p ts), (0, .int q)] = .ok 1 (.lst ((stepsL ts q).map tupI)) [.no, .no] := by
  have hl := G.len
  have lp := forL_all (g := S.gtup [S.name 3, S.name 4, S.name 5, S.name 6]) (body := Sem.b1_steps_from) (ds := ts.map tupI) (η := eSt p ts q [] .no .no .no .no)
    (fun i η => ∃ s3 s4 s5 s6 : DV.Slot, s3.free = true ∧ s4.free = true ∧ s5.free = true ∧ s6.free = true ∧ η = eSt p ts q (stepsL (ts.take i) q) s3 s4 s5 s6) ⟨.no, .no, .no, .no, rfl, rfl, rfl, rfl, rfl⟩ (by
    rintro i hi η ⟨s3, s4, s5, s6, f3, f4, f5, f6, rfl⟩
    rw [List.length_map] at hi
    rw [List.getElem_map]
    have hs := stepsL_len (ts := ts.take i) (q := q)
    rw [List.length_take] at hs
    obtain ⟨a, b, x, y, e⟩ := step_turn (ts := ts) (q := q) (F := stepsL (ts.take i) q) (by omega) (G.tie _ (List.getElem_mem hi)) s3 s4 s5 s6 f3 f4 f5 f6
    refine ⟨_, .inl e, .val 0 false a, .val 0 false b, .val 0 false x, .val 0 false y, rfl, rfl, rfl, rfl, ?_⟩
    have : stepsL (ts.take (i + 1)) q = stepsL (ts.take i) q ++ step1 q ts[i] := by
      unfold stepsL
      rw [List.take_succ_eq_append_getElem hi, List.flatMap_append, List.flatMap_cons, List.flatMap_nil, List.append_nil]
    rw [this])
  obtain ⟨η', e, s3, s4, s5, s6, _, _, _, _, rfl⟩ := lp
  rw [List.length_map, List.take_length] at e
  have e2 : Sem.l1_steps_from (eSt p ts q [] .no .no .no .no) = .ok .nx (eSt p ts q (stepsL ts q) s3 s4 s5 s6) := by
    unfold Sem.l1_steps_from
    rw [v_fors]
    simp only [eSt, gridD, List.map_nil] at e ⊢
    simp -implicitDefEqProofs [e]
  simp only [eSt, List.map_nil] at e2
  generalize (stepsL ts q).map tupI = L at *
  generalize gridD p ts = g at *
  (rw [Sem.f_steps_from_eq]; unfold Sem.s_steps_from)
  simp -implicitDefEqProofs [v_run, e2]
def movedD (u v : Int) : D → D
  | .tup [.int r, .int x, .int y] => .tup [.int r, .int (u + x), .int (v + y)]
  | d => d
theorem beside_ok {p : Nat} {ts : List (List Int)} (G : Grid p ts) (q u v : Int) : Sem.f_beside [(0, gridD p ts), (0, tupI [q, u, v])] = .ok 1 (.lst ((besideL ts [q, u, v]).map tupI)) [.no, .no] := by
  have es := steps_ok G q
  have hl := stepsL_len (ts := ts) (q := q)
  have hg := G.len
  have three : ∀ s ∈ stepsL ts q, ∃ r x y : Int, s = [r, x, y] := fun s hs => by
    obtain ⟨r, x, y, e, _⟩ := steps_three G hs
    exact ⟨r, x, y, e⟩
  have mv : (besideL ts [q, u, v]).map tupI = ((stepsL ts q).map tupI).map (movedD u v) := by
    show ((stepsL ts q).map (moved u v)).map tupI = _
    rw [List.map_map, List.map_map]
    refine List.map_congr_left fun s hs => ?_
    obtain ⟨r, x, y, rfl⟩ := three s hs
    rfl
  rw [mv]
  generalize stepsL ts q = SL at *
  generalize gridD p ts = g at *
  have c : Sem.c1_beside [.val 0 false g, .val 0 false (tupI [q, u, v]), .val 0 false (.int q), .val 0 false (.int u), .val 0 false (.int v), .no, .no, .no] =
      .ok (0 + 1, .lst ((SL.map tupI).map (movedD u v))) [.val 0 false g, .val 0 false (tupI [q, u, v]), .val 0 false (.int q), .val 0 false (.int u), .val 0 false (.int v), .no, .no, .no] := by
    unfold Sem.c1_beside
    refine comp_map _ (η1 := [.val 0 false g, .val 0 false (tupI [q, u, v]), .val 0 false (.int q), .val 0 false (.int u), .val 0 false (.int v), .no, .no, .no]) (by simp -implicitDefEqProofs [es]) (by rfl) (small_ok (by rw [List.length_map]; omega)) (by simp) ?_
    intro d hd
    obtain ⟨s, hs, rfl⟩ := List.mem_map.mp hd
    obtain ⟨r, x, y, rfl⟩ := three s hs
    exact ⟨[.val 0 false g, .val 0 false (tupI [q, u, v]), .val 0 false (.int q), .val 0 false (.int u), .val 0 false (.int v), .val 0 false (.int r), .val 0 false (.int x), .val 0 false (.int y)], by simp -implicitDefEqProofs [S.hide, tupI, movedD, small_ok], by simp [S.hide]⟩
  have gt : S.asgG (S.var 1) (S.gtup [S.name 2, S.name 3, S.name 4]) [.val 0 false g, .val 0 false (tupI [q, u, v]), .no, .no, .no, .no, .no, .no] = .ok .nx [.val 0 false g, .val 0 false (tupI [q, u, v]), .val 0 false (.int q), .val 0 false (.int u), .val 0 false (.int v), .no, .no, .no] := by
    simp -implicitDefEqProofs [tupI]
  generalize (SL.map tupI).map (movedD u v) = R at *
  generalize tupI [q, u, v] = P at *
  (rw [Sem.f_beside_eq]; unfold Sem.s_beside)
  simp -implicitDefEqProofs [v_run, gt, c, -v_asgG]
end Maths

namespace Maths
open DV L2 PySem
namespace W_to
/-! ### rings till a place is come to -/
def lk (F : Far) (P : List Int) : Option D := lookI (F.map fun e => (e.1, D.int e.2)) P
theorem lk_app {F : Far} {P : List Int} {v : D} {x : List Int × Int} (h : lk F P = some v) : lk (F ++ [x]) P = some v := by
  unfold lk lookI at h ⊢
  rw [List.map_append, List.find?_append]
  cases q : (F.map fun e => (e.1, D.int e.2)).find? fun kv => decide (kv.1 = P) with
  | none => rw [q] at h; cases h
  | some y => rw [q] at h; exact h
theorem lk_addP {d : Int} {st : Far × List (List Int)} {O P : List Int} {v : D} (h : lk st.1 P = some v) : lk (addP d st O).1 P = some v := by
  unfold addP
  split
  · exact h
  · exact lk_app h
theorem lk_foldA {d : Int} {P : List Int} {v : D} : ∀ {Os : List (List Int)} {st : Far × List (List Int)}, lk st.1 P = some v → lk (Os.foldl (addP d) st).1 P = some v
  | [], _, h => h
  | O :: Os, st, h => by rw [List.foldl_cons]; exact lk_foldA (lk_addP h)
theorem lk_foldB {bes : Bes} {d : Int} {P : List Int} {v : D} {Ps : List (List Int)} {st : Far × List (List Int)} (h : lk st.1 P = some v) : lk (Ps.foldl (besP bes d) st).1 P = some v := by
  rw [foldB_flat]; exact lk_foldA h
theorem lk_mem {F : Far} (nd : (F.map (·.1)).Nodup) {P : List Int} {d : Int} (h : (P, d) ∈ F) : lk F P = some (.int d) := by
  unfold lk lookI
  rw [List.find?_map]
  induction F with
  | nil => cases h
  | cons f F ih =>
    rw [List.map_cons, List.nodup_cons] at nd
    rcases List.mem_cons.mp h with h | h
    · subst h
      simp
    · have ne : ¬ f.1 = P := fun q => nd.1 (List.mem_map.mpr ⟨_, h, q.symm⟩)
      rw [List.find?_cons]
      simp only [Function.comp, ne, decide_false]
      exact ih nd.2 h
theorem lk_none {F : Far} {P : List Int} (h : P ∉ F.map (·.1)) : lk F P = none := by
  unfold lk lookI
  rw [Option.map_eq_none_iff, List.find?_eq_none]
  intro x hx
  obtain ⟨e, he, rfl⟩ := List.mem_map.mp hx
  simp only [decide_eq_true_eq]
  exact fun q => h (List.mem_map.mpr ⟨e, he, q⟩)
theorem ix_lk {F : Far} {P : List Int} {v : D} (h : lk F P = some v) : ixA (farD F) (tupI P) = some (0, v) := ix_dI h
abbrev eTo (g st pl : D) (st2 : Far × List (List Int)) (s4 s6 s7 : DV.Slot) : DV.Env := [.val 0 false g, .val 0 false st, .val 0 false pl, .val 1 false (farD st2.1), s4, .val 1 false (.lst (st2.2.map tupI)), s6, s7]
theorem other_core {g st pl Z Y T P : D} {X X2 : List D} {d : Int} {b : Bool} (e1 : ninA T Z = some b) (e0 : ixA Z P = some (0, .int d)) (e2 : b = true → stD Z T (.int (d + 1)) = some Y) (e3 : appendD X [T] = some (.non, X2)) (s4 s7 : DV.Slot) (f7 : s7.free = true) :
    S.turn (S.name 7) Sem.b1_rings_to T [.val 0 false g, .val 0 false st, .val 0 false pl, .val 1 false Z, s4, .val 1 false (.lst X), .val 0 false P, s7] = .ok .nx [.val 0 false g, .val 0 false st, .val 0 false pl, .val 1 false (if b = true then Y else Z), s4, .val 1 false (.lst (if b = true then X2 else X)), .val 0 false P, .val 0 false T] := by
  unfold Sem.b1_rings_to
  cases b with
  | true =>
    have e2 := e2 rfl
    simp -implicitDefEqProofs [f7, e1, e0, e2, e3]
  | false => simp -implicitDefEqProofs [f7, e1]
theorem other_turn (g st pl : D) (d : Int) (S2 : Far × List (List Int)) (h1 : S2.1.length ≤ 16000000) (h2 : S2.2.length ≤ 16000000) (P : List Int) (hP : lk S2.1 P = some (.int d)) (O : List Int) (s4 s7 : DV.Slot) (f7 : s7.free = true) :
    S.turn (S.name 7) Sem.b1_rings_to (tupI O) (eTo g st pl S2 s4 (.val 0 false (tupI P)) s7) = .ok .nx (eTo g st pl (addP (d + 1) S2 O) s4 (.val 0 false (tupI P)) (.val 0 false (tupI O))) := by
  have e1 : ninA (tupI O) (farD S2.1) = some (!hasP S2.1 O) := by
    unfold farD
    rw [nin_dI, look_has]
  have e2 : (!hasP S2.1 O) = true → stD (farD S2.1) (tupI O) (.int (d + 1)) = some (farD (S2.1 ++ [(O, d + 1)])) := fun h => by
    unfold farD
    rw [st_dI (by rw [List.length_map]; omega), put_new (by simpa using h)]
  have e3 : appendD (S2.2.map tupI) [tupI O] = some (.non, (S2.2 ++ [O]).map tupI) := by
    show (if (S2.2.map tupI).length < sizeLine then some (D.non, S2.2.map tupI ++ [tupI O]) else none) = _
    have z : S2.2.length + 1 ≤ sizeLine := small_ok (by omega)
    rw [if_pos (by rw [List.length_map]; omega), List.map_append]
    rfl
  have c := other_core (g := g) (st := st) (pl := pl) e1 (ix_lk hP) e2 e3 s4 s7 f7
  refine c.trans ?_
  unfold addP
  cases h : hasP S2.1 O <;> rfl
theorem place_core {g st pl P : D} {L X Y : List D} {Z Z' : D} {s4 s6 s7 t7 : DV.Slot} (f6 : s6.free = true) (eb : Sem.f_beside [(0, g), (0, P)] = .ok 1 (.lst L) [.no, .no])
    (e : S.forL (S.name 7) Sem.b1_rings_to L [.val 0 false g, .val 0 false st, .val 0 false pl, .val 1 false Z, s4, .val 1 false (.lst X), .val 0 false P, s7] = .ok .nx [.val 0 false g, .val 0 false st, .val 0 false pl, .val 1 false Z', s4, .val 1 false (.lst Y), .val 0 false P, t7]) :
    S.turn (S.name 6) Sem.b2_rings_to P [.val 0 false g, .val 0 false st, .val 0 false pl, .val 1 false Z, s4, .val 1 false (.lst X), s6, s7] = .ok .nx [.val 0 false g, .val 0 false st, .val 0 false pl, .val 1 false Z', s4, .val 1 false (.lst Y), .val 0 false P, t7] := by
  unfold Sem.b2_rings_to Sem.l1_rings_to
  simp -implicitDefEqProofs [f6, eb, e]
theorem place_turn {p : Nat} {ts : List (List Int)} (G : Grid p ts) (st pl : D) (d : Int) (S2 : Far × List (List Int)) (h1 : S2.1.length ≤ 15000000) (h2 : S2.2.length ≤ 15000000) (q u v : Int) (hP : lk S2.1 [q, u, v] = some (.int d)) (s4 s6 s7 : DV.Slot) (f6 : s6.free = true) (f7 : s7.free = true) :
    ∃ t7 : DV.Slot, S.turn (S.name 6) Sem.b2_rings_to (tupI [q, u, v]) (eTo (gridD p ts) st pl S2 s4 s6 s7) = .ok .nx (eTo (gridD p ts) st pl (besP (besideL ts) (d + 1) S2 [q, u, v]) s4 (.val 0 false (tupI [q, u, v])) t7) ∧ t7.free = true := by
  have hl := besideL_len (ts := ts) (P := [q, u, v])
  have hg := G.len
  have eb := beside_ok G q u v
  have lp := forL_all (g := S.name 7) (body := Sem.b1_rings_to) (ds := (besideL ts [q, u, v]).map tupI) (η := eTo (gridD p ts) st pl S2 s4 (.val 0 false (tupI [q, u, v])) s7)
    (fun i η => ∃ t7 : DV.Slot, t7.free = true ∧ η = eTo (gridD p ts) st pl (((besideL ts [q, u, v]).take i).foldl (addP (d + 1)) S2) s4 (.val 0 false (tupI [q, u, v])) t7) ⟨s7, f7, rfl⟩ (by
    rintro i hi η ⟨t7, g7, rfl⟩
    rw [List.length_map] at hi
    rw [List.getElem_map]
    have hA := foldA_len (d := d + 1) (Os := (besideL ts [q, u, v]).take i) (st := S2)
    rw [List.length_take] at hA
    refine ⟨_, .inl (other_turn _ _ _ d _ (by omega) (by omega) _ (lk_foldA hP) _ _ _ g7), .val 0 false (tupI ((besideL ts [q, u, v])[i])), rfl, ?_⟩
    rw [List.take_succ_eq_append_getElem hi, List.foldl_append, List.foldl_cons, List.foldl_nil])
  obtain ⟨η', e, t7, g7, rfl⟩ := lp
  rw [List.length_map, List.take_length] at e
  exact ⟨t7, place_core f6 eb e, g7⟩
theorem round_core {g st pl : D} {L X : List D} {Z Z' : D} {kr : Nat} {s5 s6 s7 t6 t7 : DV.Slot} (f5 : s5.free = true)
    (e : S.forL (S.name 6) Sem.b2_rings_to L [.val 0 false g, .val 0 false st, .val 0 false pl, .val 1 false Z, .val 0 false (.lst L), .val 1 false (.lst []), s6, s7] = .ok .nx [.val 0 false g, .val 0 false st, .val 0 false pl, .val 1 false Z', .val 0 false (.lst L), .val 1 false (.lst X), t6, t7]) :
    Sem.b3_rings_to [.val 0 false g, .val 0 false st, .val 0 false pl, .val 1 false Z, .val kr false (.lst L), s5, s6, s7] = .ok .nx [.val 0 false g, .val 0 false st, .val 0 false pl, .val 1 false Z', .val 0 false (.lst X), .val 0 false (.lst X), t6, t7] := by
  have e2 : Sem.l2_rings_to [.val 0 false g, .val 0 false st, .val 0 false pl, .val 1 false Z, .val kr false (.lst L), .val 1 false (.lst []), s6, s7] = .ok .nx [.val 0 false g, .val 0 false st, .val 0 false pl, .val 1 false Z', .val 0 false (.lst L), .val 1 false (.lst X), t6, t7] := by
    unfold Sem.l2_rings_to
    rw [forsX_seq (by rfl), v_fors]
    cases kr with
    | zero => simp -implicitDefEqProofs [e]
    | succ k => simp -implicitDefEqProofs [e]
  unfold Sem.b3_rings_to
  simp -implicitDefEqProofs [f5, e2]
theorem round_turn {p : Nat} {ts : List (List Int)} (G : Grid p ts) (st pl : D) (d : Int) (kvs : Far) (ring : List (List Int)) (hr : ∀ P ∈ ring, Three P) (hd : ∀ P ∈ ring, lk kvs P = some (.int d)) (h1 : kvs.length + 40 * ring.length ≤ 14000000) (kr : Nat) (s5 s6 s7 : DV.Slot) (f5 : s5.free = true) (f6 : s6.free = true) (f7 : s7.free = true) :
    ∃ t6 t7 : DV.Slot, Sem.b3_rings_to [.val 0 false (gridD p ts), .val 0 false st, .val 0 false pl, .val 1 false (farD kvs), .val kr false (.lst (ring.map tupI)), s5, s6, s7] =
      .ok .nx [.val 0 false (gridD p ts), .val 0 false st, .val 0 false pl, .val 1 false (farD (roundL (besideL ts) (d + 1) kvs ring).1), .val 0 false (.lst ((roundL (besideL ts) (d + 1) kvs ring).2.map tupI)), .val 0 false (.lst ((roundL (besideL ts) (d + 1) kvs ring).2.map tupI)), t6, t7] ∧ t6.free = true ∧ t7.free = true := by
  have hg := G.len
  have few : ∀ P, (besideL ts P).length ≤ 40 := fun P => by
    have := besideL_len (ts := ts) (P := P)
    omega
  have lp := forL_all (g := S.name 6) (body := Sem.b2_rings_to) (ds := ring.map tupI) (η := eTo (gridD p ts) st pl (kvs, []) (.val 0 false (.lst (ring.map tupI))) s6 s7)
    (fun i η => ∃ t6 t7 : DV.Slot, t6.free = true ∧ t7.free = true ∧ η = eTo (gridD p ts) st pl ((ring.take i).foldl (besP (besideL ts) (d + 1)) (kvs, [])) (.val 0 false (.lst (ring.map tupI))) t6 t7) ⟨s6, s7, f6, f7, rfl⟩ (by
    rintro i hi η ⟨t6, t7, g6, g7, rfl⟩
    rw [List.length_map] at hi
    rw [List.getElem_map]
    have hB := foldB_len (bes := besideL ts) (d := d + 1) few (Ps := ring.take i) (st := (kvs, []))
    rw [List.length_take] at hB
    simp only [List.length_nil] at hB
    obtain ⟨q, u, v, hP⟩ := hr ring[i] (List.getElem_mem hi)
    have hl := lk_foldB (bes := besideL ts) (d := d + 1) (Ps := ring.take i) (st := (kvs, [])) (hd ring[i] (List.getElem_mem hi))
    rw [hP] at hl
    obtain ⟨z7, e, k7⟩ := place_turn G st pl d ((ring.take i).foldl (besP (besideL ts) (d + 1)) (kvs, [])) (by omega) (by omega) q u v hl (.val 0 false (.lst (ring.map tupI))) t6 t7 g6 g7
    rw [← hP] at e
    refine ⟨_, .inl e, .val 0 false (tupI ring[i]), z7, rfl, k7, ?_⟩
    rw [List.take_succ_eq_append_getElem hi, List.foldl_append, List.foldl_cons, List.foldl_nil])
  obtain ⟨η', e, t6, t7, g6, g7, rfl⟩ := lp
  rw [List.length_map, List.take_length] at e
  exact ⟨t6, t7, round_core f5 e, g6, g7⟩
/-- where the rings end -/
structure Ends (bes : Bes) (st : Int) (P : List Int) (K : Nat) : Prop where
  le : K ≤ 12
  why : P ∈ (ringsL bes st K).1.map (·.1) ∨ (ringsL bes st K).2 = [] ∨ K = 12
  not : ∀ j < K, P ∉ (ringsL bes st j).1.map (·.1)
theorem test_core {g st pl Z : D} {X : List D} {kr : Nat} {s5 s6 s7 : DV.Slot} {b : Bool} {n d : Int} {R : D} (e1 : ninA pl Z = some b) (e2 : lenD [.lst X] = some (.int n)) (e3 : 0 < n → atI X 0 = some R ∧ ixA Z R = some (0, .int d)) (hk : kr = 0 ∨ kr = 1) :
    (S.tand (S.tst (S.cmp ninA (.nm 2) (.nm 3))) (S.tand (S.tst (S.cmp gtX (.ex (S.fnd lenD [.nm 4])) (.ex (S.c (.int 0))))) (S.tst (S.cmp ltD (.ex (S.fz (S.bin ixA (.nm 3) (.ex (S.fz (S.bin ixA (.nm 4) (.ex (S.c (.int 0))))))))) (.ex (S.c (.int 12))))))) [.val 0 false g, .val 0 false st, .val 0 false pl, .val 1 false Z, .val kr false (.lst X), s5, s6, s7] =
      .ok (b && (decide (0 < n) && decide (d < 12))) [.val 0 false g, .val 0 false st, .val 0 false pl, .val 1 false Z, .val kr false (.lst X), s5, s6, s7] := by
  cases b with
  | false => simp -implicitDefEqProofs [e1]
  | true =>
    by_cases hn : 0 < n
    · obtain ⟨e4, e5⟩ := e3 hn
      rcases hk with rfl | rfl <;> simp -implicitDefEqProofs [e1, e2, hn, e4, e5, -v_lenL]
    · simp -implicitDefEqProofs [e1, e2, hn, -v_lenL]
abbrev eW (g st pl : D) (bes : Bes) (s : Int) (x : Nat × Nat × DV.Slot × DV.Slot × DV.Slot) : DV.Env := [.val 0 false g, .val 0 false st, .val 0 false pl, .val 1 false (farD (ringsL bes s x.1).1), .val x.2.1 false (.lst ((ringsL bes s x.1).2.map tupI)), x.2.2.1, x.2.2.2.1, x.2.2.2.2]
theorem loop_ok {p : Nat} {ts : List (List Int)} (G : Grid p ts) {st : Int} (h0 : 0 ≤ st ∧ st < p) (P : List Int) : ∃ x : Nat × Nat × DV.Slot × DV.Slot × DV.Slot,
    Sem.w1_rings_to (eW (gridD p ts) (.int st) (tupI P) (besideL ts) st (0, 1, .no, .no, .no)) = .ok .nx (eW (gridD p ts) (.int st) (tupI P) (besideL ts) st x) ∧ Ends (besideL ts) st P x.1 := by
  unfold Sem.w1_rings_to
  refine whl_run (α := Nat × Nat × DV.Slot × DV.Slot × DV.Slot) (eW (gridD p ts) (.int st) (tupI P) (besideL ts) st)
    (fun x => x.1 ≤ 12 ∧ (x.2.1 = 0 ∨ x.2.1 = 1) ∧ x.2.2.1.free = true ∧ x.2.2.2.1.free = true ∧ x.2.2.2.2.free = true ∧ ∀ j < x.1, P ∉ (ringsL (besideL ts) st j).1.map (·.1)) (fun x => Ends (besideL ts) st P x.1) (fun x => 12 - x.1) ⟨by decide, .inr rfl, rfl, rfl, rfl, fun j hj => absurd hj (Nat.not_lt_zero j)⟩ ?_
  rintro ⟨k, kr, s5, s6, s7⟩ ⟨hk, hkr, f5, f6, f7, nj⟩
  simp only at hk hkr f5 f6 f7 nj
  have R := rings_shape (goesL G) h0 k
  have e1 : ninA (tupI P) (farD (ringsL (besideL ts) st k).1) = some (!hasP (ringsL (besideL ts) st k).1 P) := by
    unfold farD
    rw [nin_dI, look_has]
  have e2 : lenD [.lst ((ringsL (besideL ts) st k).2.map tupI)] = some (.int (ringsL (besideL ts) st k).2.length) := by simp
  have e3 : (0 : Int) < (ringsL (besideL ts) st k).2.length → atI ((ringsL (besideL ts) st k).2.map tupI) 0 = some (tupI ((ringsL (besideL ts) st k).2.headD [])) ∧ ixA (farD (ringsL (besideL ts) st k).1) (tupI ((ringsL (besideL ts) st k).2.headD [])) = some (0, .int (k : Int)) := fun h => by
    have hm := R.ring
    have hn := R.nd
    generalize (ringsL (besideL ts) st k).2 = ring at *
    cases ring with
    | nil => simp at h
    | cons a r =>
      refine ⟨?_, ix_lk (lk_mem hn ((hm a).mp List.mem_cons_self))⟩
      rw [at_nat (by omega)]
      simp
  have t := test_core (g := gridD p ts) (st := .int st) (pl := tupI P) (kr := kr) (s5 := s5) (s6 := s6) (s7 := s7) (d := (k : Int)) e1 e2 e3 hkr
  by_cases c : ((!hasP (ringsL (besideL ts) st k).1 P) && (decide ((0 : Int) < (ringsL (besideL ts) st k).2.length) && decide ((k : Int) < 12))) = true
  · refine .inr ?_
    rw [c] at t
    simp only [Bool.and_eq_true, Bool.not_eq_true', decide_eq_true_eq] at c
    obtain ⟨c1, c2, c3⟩ := c
    have l3 : (2 * k + 1) * (2 * k + 1) ≤ 625 := Nat.le_trans (Nat.mul_le_mul (show 2 * k + 1 ≤ 25 by omega) (show 2 * k + 1 ≤ 25 by omega)) (by decide)
    have l4 : p * ((2 * k + 1) * (2 * k + 1)) ≤ 4 * 625 := Nat.mul_le_mul G.le l3
    obtain ⟨l1, l2⟩ := R.few
    obtain ⟨t6, t7, e, g6, g7⟩ := round_turn G (.int st) (tupI P) (k : Int) (ringsL (besideL ts) st k).1 (ringsL (besideL ts) st k).2 (fun Q hQ => (R.box _ ((R.ring Q).mp hQ)).1.three) (fun Q hQ => lk_mem R.nd ((R.ring Q).mp hQ)) (by omega) kr s5 s6 s7 f5 f6 f7
    refine ⟨_, (k + 1, 0, .val 0 false (.lst ((roundL (besideL ts) ((k : Int) + 1) (ringsL (besideL ts) st k).1 (ringsL (besideL ts) st k).2).2.map tupI)), t6, t7), t, .inl e, ⟨by omega, .inl rfl, rfl, g6, g7, fun j hj => ?_⟩, by simp only; omega⟩
    rcases Nat.lt_succ_iff_lt_or_eq.mp hj with hj | rfl
    · exact nj j hj
    · intro z
      rw [hasP_iff.mpr z] at c1
      cases c1
  · refine .inl ⟨(k, kr, s5, s6, s7), ?_, ⟨hk, ?_, nj⟩⟩
    · rw [Bool.not_eq_true] at c
      rw [c] at t
      exact t
    · by_cases h1 : P ∈ (ringsL (besideL ts) st k).1.map (·.1)
      · exact .inl h1
      · have h1' : hasP (ringsL (besideL ts) st k).1 P = false := by
          cases h : hasP (ringsL (besideL ts) st k).1 P with
          | false => rfl
          | true => exact absurd (hasP_iff.mp h) h1
        by_cases h2 : (ringsL (besideL ts) st k).2 = []
        · exact .inr (.inl h2)
        · refine .inr (.inr ?_)
          have h3 : 0 < (ringsL (besideL ts) st k).2.length := List.length_pos_iff.mpr h2
          rw [h1'] at c
          simp only [Bool.not_false, Bool.true_and, Bool.and_eq_true, decide_eq_true_eq, not_and] at c
          have := c (by omega)
          show k = 12
          omega
theorem rings_fin {g pl Y Z : D} {st : Int} {X : List D} {kr : Nat} {s5 s6 s7 : DV.Slot} (k0 : D.dT [(keyI [st, 0, 0], .int 0)] = Z) (e2 : Sem.w1_rings_to [.val 0 false g, .val 0 false (.int st), .val 0 false pl, .val 1 false Z, .val 1 false (.lst [tupI [st, 0, 0]]), .no, .no, .no] = .ok .nx [.val 0 false g, .val 0 false (.int st), .val 0 false pl, .val 1 false Y, .val kr false (.lst X), s5, s6, s7]) :
    Sem.f_rings_to [(0, g), (0, .int st), (0, pl)] = .ok 1 Y [.no, .no, .no] := by
  have kk : keysD [.int st, .int 0, .int 0] = some (keyI [st, 0, 0]) := keysD_ints [st, 0, 0]
  have t0 : D.tup [.int st, .int 0, .int 0] = tupI [st, 0, 0] := rfl
  rw [← t0] at e2
  (rw [Sem.f_rings_to_eq]; unfold Sem.s_rings_to)
  simp -implicitDefEqProofs [v_run, kk, k0, e2, small_ok]
theorem rings_to_ok {p : Nat} {ts : List (List Int)} (G : Grid p ts) {st : Int} (h0 : 0 ≤ st ∧ st < p) (P : List Int) : ∃ K : Nat,
    Sem.f_rings_to [(0, gridD p ts), (0, .int st), (0, tupI P)] = .ok 1 (farD (ringsL (besideL ts) st K).1) [.no, .no, .no] ∧ Ends (besideL ts) st P K := by
  obtain ⟨⟨K, kr, s5, s6, s7⟩, e, E⟩ := loop_ok G h0 P
  exact ⟨K, rings_fin (Z := farD [([st, 0, 0], 0)]) rfl e, E⟩
end W_to
end Maths

namespace Maths
open DV L2 PySem
namespace W_to
/-! ### a shortest way -/
def gt13 (F : Far) (P : List Int) : Int := ((F.find? fun e => decide (e.1 = P)).map (·.2)).getD 13
theorem lk_find {F : Far} {P : List Int} : lk F P = ((F.find? fun e => decide (e.1 = P)).map (·.2)).map D.int := by
  unfold lk lookI
  rw [List.find?_map]
  rw [Option.map_map, Option.map_map]
  rfl
theorem gt_get {F : Far} {P : List Int} : dget2D (farD F) (tupI P) (.int 13) = some (0, .int (gt13 F P)) := by
  unfold dget2D
  have e : getD' (farD F) (tupI P) = some (lk F P) := get_dI
  rw [e, lk_find]
  unfold gt13
  cases (F.find? fun e => decide (e.1 = P)) <;> rfl
theorem gt_mem {F : Far} (nd : (F.map (·.1)).Nodup) {P : List Int} {d : Int} (h : (P, d) ∈ F) : gt13 F P = d := by
  have e := lk_mem nd h
  rw [lk_find] at e
  unfold gt13
  cases q : (F.find? fun e => decide (e.1 = P)).map (·.2) with
  | none => rw [q] at e; cases e
  | some x => rw [q] at e; cases e; rfl
theorem gt_found {F : Far} {P : List Int} {d : Int} (h : gt13 F P = d) (n : d ≠ 13) : (P, d) ∈ F := by
  unfold gt13 at h
  cases q : F.find? fun e => decide (e.1 = P) with
  | none => rw [q] at h; exact absurd h.symm n
  | some x =>
    rw [q] at h
    have h : x.2 = d := h
    have m := List.mem_of_find?_eq_some q
    have e := List.find?_some q
    simp only [decide_eq_true_eq] at e
    rw [← e, ← h]
    exact m
abbrev eB (g st pl Z : D) (L : List D) (s5 s6 : DV.Slot) : DV.Env := [.val 0 false g, .val 0 false st, .val 0 false pl, .val 1 false Z, .val 1 false (.lst L), s5, s6]
theorem comp_core {g st pl Z Q : D} {L N : List D} {m : Int} {s5 : DV.Slot} (el : atI L (-1) = some Q) (eb : Sem.f_beside [(0, g), (0, Q)] = .ok 1 (.lst N) [.no, .no]) (few : N.length ≤ 1000) (em : ixA Z Q = some (0, .int m)) (dc : dctQ Z = some ()) (f : D → Int) (hf : ∀ O ∈ N, dget2D Z O (.int 13) = some (0, .int (f O))) :
    Sem.c1_way_to (eB g st pl Z L s5 .no) = .ok (1, .lst (N.filterMap fun O => if f O = m - 1 then some O else none)) (eB g st pl Z L s5 .no) := by
  unfold Sem.c1_way_to
  refine comp_pure _ (η1 := eB g st pl Z L s5 .no) (by simp -implicitDefEqProofs [el, eb]) (by rfl) (small_ok (by omega)) (by simp) ?_
  intro O hO
  have h := hf O hO
  refine ⟨[.val 0 false g, .val 0 false st, .val 0 false pl, .val 1 false Z, .val 1 false (.lst L), s5, .val 0 false O], ?_, by simp [S.hide]⟩
  by_cases c : f O = m - 1
  · simp -implicitDefEqProofs [S.hide, el, em, dc, h, c]
  · simp -implicitDefEqProofs [S.hide, el, em, dc, h, c]
theorem step_core {g st pl Z O : D} {L N : List D} {s5 s6 : DV.Slot} (f5 : s5.free = true) (c : Sem.c1_way_to (eB g st pl Z L s5 s6) = .ok (1, .lst N) (eB g st pl Z L s5 s6)) (e0 : atI N 0 = some O) (ap : appendD L [O] = some (.non, L ++ [O])) :
    Sem.b1_way_to (eB g st pl Z L s5 s6) = .ok .nx (eB g st pl Z (L ++ [O]) (.val 1 false (.lst N)) s6) := by
  unfold Sem.b1_way_to
  simp -implicitDefEqProofs [f5, c, e0, ap]
theorem back_core {g st pl Z Q : D} {L : List D} {m : Int} {s5 s6 : DV.Slot} (el : atI L (-1) = some Q) (em : ixA Z Q = some (0, .int m)) :
    (S.tst (S.cmp gtX (.ex (S.fz (S.bin ixA (.nm 3) (.ex (S.fz (S.bin ixA (.nm 4) (.ex (S.fz (S.un negD (.ex (S.c (.int 1)))))))))))) (.ex (S.c (.int 0))))) (eB g st pl Z L s5 s6) = .ok (decide (0 < m)) (eB g st pl Z L s5 s6) := by
  simp -implicitDefEqProofs [el, em]
theorem filt_eq {F : Far} {m : Int} {N : List (List Int)} : (N.map tupI).filterMap (fun O => if (match O with | .tup ds => gt13 F (ds.map fun d => match d with | .int i => i | _ => 0) | _ => 0) = m then some O else none) = (N.filter fun O => decide (gt13 F O = m)).map tupI := by
  induction N with
  | nil => rfl
  | cons a N ih =>
    have e : (match tupI a with | .tup ds => gt13 F (ds.map fun d => match d with | .int i => i | _ => 0) | _ => 0) = gt13 F a := by
      show gt13 F ((a.map D.int).map fun d => match d with | .int i => i | _ => 0) = _
      rw [List.map_map]
      congr 1
      exact List.map_id a
    rw [List.map_cons, List.filterMap_cons, e, List.filter_cons]
    by_cases h : gt13 F a = m
    · rw [if_pos h, if_pos (by simpa using h), List.map_cons, ← ih]
    · rw [if_neg h, if_neg (by simpa using h), ih]
/-- the way back -/
structure Back (ts : List (List Int)) (F : Far) (P : List Int) (dd : Int) (B : List (List Int)) (Q : List Int) (m : Int) : Prop where
  last : B.getLast? = some Q
  far : (Q, m) ∈ F
  m0 : 0 ≤ m
  md : m ≤ dd
  len : (B.length : Int) = dd - m + 1
  head : B.head? = some P
  walk : Walk (besideL ts) B
theorem walk_snoc {bes : Bes} {B : List (List Int)} {Q O : List Int} (w : Walk bes B) (hl : B.getLast? = some Q) (h : O ∈ bes Q) : Walk bes (B ++ [O]) := by
  intro i hi
  rw [List.length_append, List.length_singleton] at hi
  by_cases c : i + 1 < B.length
  · rw [List.getElem_append_left c, List.getElem_append_left (by omega)]
    exact w i c
  · have e : i + 1 = B.length := by omega
    have e1 : (B ++ [O])[i + 1]'(by rw [List.length_append, List.length_singleton]; omega) = O := by
      rw [List.getElem_append_right (by omega)]
      simp
    have e2 : (B ++ [O])[i]'(by rw [List.length_append]; omega) = Q := by
      rw [List.getElem_append_left (by omega)]
      rw [List.getLast?_eq_getElem?] at hl
      rw [show B.length - 1 = i by omega, List.getElem?_eq_getElem (by omega)] at hl
      exact Option.some.inj hl
    rw [e1, e2]
    exact h
theorem at_last {B : List (List Int)} {Q : List Int} (h : B.getLast? = some Q) : atI (B.map tupI) (-1) = some (tupI Q) := by
  have hb : B ≠ [] := fun e => by rw [e] at h; cases h
  have hl : 0 < B.length := List.length_pos_iff.mpr hb
  rw [at_neg (by decide) (by rw [List.length_map]; omega)]
  rw [List.getLast?_eq_getElem?] at h
  rw [List.length_map, show (-1 + (B.length : Int)).toNat = B.length - 1 by omega, List.getElem?_map, h]
  rfl
theorem way_loop {p : Nat} {ts : List (List Int)} (G : Grid p ts) {st : Int} (h0 : 0 ≤ st ∧ st < p) {K : Nat} (hK : K ≤ 12) {P : List Int} {dd : Int} (hP : (P, dd) ∈ (ringsL (besideL ts) st K).1) :
    ∃ (B : List (List Int)) (s5 : DV.Slot), Sem.w1_way_to (eB (gridD p ts) (.int st) (tupI P) (farD (ringsL (besideL ts) st K).1) [tupI P] .no .no) = .ok .nx (eB (gridD p ts) (.int st) (tupI P) (farD (ringsL (besideL ts) st K).1) (B.map tupI) s5 .no) ∧ Back ts (ringsL (besideL ts) st K).1 P dd B [st, 0, 0] 0 := by
  have R := rings_shape (goesL G) h0 K
  obtain ⟨_, d0, d1⟩ := R.box _ hP
  simp only at d0 d1
  have lp : ∃ x : List (List Int) × DV.Slot, S.whl (S.tst (S.cmp gtX (.ex (S.fz (S.bin ixA (.nm 3) (.ex (S.fz (S.bin ixA (.nm 4) (.ex (S.fz (S.un negD (.ex (S.c (.int 1)))))))))))) (.ex (S.c (.int 0))))) Sem.b1_way_to (eB (gridD p ts) (.int st) (tupI P) (farD (ringsL (besideL ts) st K).1) (([P] : List (List Int)).map tupI) .no .no) = .ok .nx (eB (gridD p ts) (.int st) (tupI P) (farD (ringsL (besideL ts) st K).1) (x.1.map tupI) x.2 .no) ∧ ∃ Q, Back ts (ringsL (besideL ts) st K).1 P dd x.1 Q 0 := by
    refine whl_run (α := List (List Int) × DV.Slot) (fun x => eB (gridD p ts) (.int st) (tupI P) (farD (ringsL (besideL ts) st K).1) (x.1.map tupI) x.2 .no) (fun x => x.2.free = true ∧ ∃ Q m, Back ts (ringsL (besideL ts) st K).1 P dd x.1 Q m) (fun x => ∃ Q, Back ts (ringsL (besideL ts) st K).1 P dd x.1 Q 0) (fun x => 100 - x.1.length) (x := ([P], DV.Slot.no))
      ⟨rfl, P, dd, rfl, hP, d0, Int.le_refl _, by simp, rfl, fun i hi => by simp at hi⟩ ?_
    rintro ⟨B, s5⟩ ⟨f5, Q, m, bk⟩
    simp only at f5 bk
    have el := at_last bk.last
    have em := ix_lk (lk_mem R.nd bk.far)
    have t := back_core (g := gridD p ts) (st := .int st) (pl := tupI P) (s5 := s5) (s6 := .no) el em
    obtain ⟨bq, _, _⟩ := R.box _ bk.far
    obtain ⟨q, u, v, hQ⟩ := bq.three
    simp only at hQ
    by_cases hm : 0 < m
    · rw [decide_eq_true hm] at t
      refine .inr ?_
      have eb := beside_ok G q u v
      rw [← hQ] at eb
      have hl := besideL_len (ts := ts) (P := Q)
      have gl := G.len
      have dc : dctQ (farD (ringsL (besideL ts) st K).1) = some () := by rw [farD_eq]; rfl
      have c := comp_core (g := gridD p ts) (st := .int st) (pl := tupI P) (s5 := s5) el eb (by rw [List.length_map]; omega) em dc (fun O => match O with | .tup ds => gt13 (ringsL (besideL ts) st K).1 (ds.map fun d => match d with | .int i => i | _ => 0) | _ => 0) (fun O hO => by
        obtain ⟨O, _, rfl⟩ := List.mem_map.mp hO
        have e : ((O.map D.int).map fun d => match d with | .int i => i | _ => 0) = O := by
          rw [List.map_map]
          exact List.map_id O
        show dget2D _ (tupI O) (.int 13) = some (0, .int (gt13 _ ((O.map D.int).map fun d => match d with | .int i => i | _ => 0)))
        rw [e]
        exact gt_get)
      rw [filt_eq] at c
      obtain ⟨R1, r1, r2⟩ := far_pred (goesL G) h0 bk.far (by omega)
      have r3 : R1 ∈ (besideL ts Q).filter fun O => decide (gt13 (ringsL (besideL ts) st K).1 O = m - 1) := List.mem_filter.mpr ⟨beside_sym bq.three r2, by simpa using gt_mem R.nd r1⟩
      obtain ⟨O1, hN⟩ : ∃ O1 r, ((besideL ts Q).filter fun O => decide (gt13 (ringsL (besideL ts) st K).1 O = m - 1)) = O1 :: r := by
        cases h : ((besideL ts Q).filter fun O => decide (gt13 (ringsL (besideL ts) st K).1 O = m - 1)) with
        | nil => rw [h] at r3; cases r3
        | cons a r => exact ⟨a, r, rfl⟩
      obtain ⟨rr, hN⟩ := hN
      have o1 := List.mem_filter.mp (show O1 ∈ (besideL ts Q).filter fun O => decide (gt13 (ringsL (besideL ts) st K).1 O = m - 1) by rw [hN]; exact List.mem_cons_self)
      have o2 : gt13 (ringsL (besideL ts) st K).1 O1 = m - 1 := by simpa using o1.2
      have mK := bk.md
      have o3 : (O1, m - 1) ∈ (ringsL (besideL ts) st K).1 := gt_found o2 (by omega)
      rw [hN] at c
      have bl := bk.len
      have m0 := bk.m0
      have ap : appendD (B.map tupI) [tupI O1] = some (.non, B.map tupI ++ [tupI O1]) := by
        show (if (B.map tupI).length < sizeLine then some (D.non, B.map tupI ++ [tupI O1]) else none) = _
        have z : B.length + 1 ≤ sizeLine := small_ok (by omega)
        rw [if_pos (by rw [List.length_map]; omega)]
      have sp := step_core f5 c (show atI ((O1 :: rr).map tupI) 0 = some (tupI O1) from by rw [at_nat (by omega)]; rfl) ap
      refine ⟨_, (B ++ [O1], .val 1 false (.lst ((O1 :: rr).map tupI))), t, .inl ?_, ⟨rfl, O1, m - 1, ?_⟩, ?_⟩
      · rw [sp, List.map_append]
        rfl
      · refine ⟨by simp, o3, by omega, by omega, by simp only [List.length_append, List.length_singleton]; omega, ?_, walk_snoc bk.walk bk.last o1.1⟩
        rw [List.head?_append, bk.head]
        rfl
      · simp only [List.length_append, List.length_singleton]
        omega
    · rw [decide_eq_false hm] at t
      have m0 := bk.m0
      have : m = 0 := by omega
      subst this
      exact .inl ⟨(B, s5), t, Q, bk⟩
  obtain ⟨⟨B, s5⟩, e, Q, bk⟩ := lp
  have hQ := far_zero bk.far
  subst hQ
  exact ⟨B, s5, e, bk⟩
theorem way_fin {g st Z : D} {u v : Int} {q : Int} {L : List D} {s5 s6 : DV.Slot} (hu : u.natAbs ≤ 12) (hv : v.natAbs ≤ 12) (ef : Sem.f_rings_to [(0, g), (0, st), (0, .tup [.int q, .int u, .int v])] = .ok 1 Z [.no, .no, .no]) (en : ninA (.tup [.int q, .int u, .int v]) Z = some false)
    (el : Sem.w1_way_to (eB g st (.tup [.int q, .int u, .int v]) Z [.tup [.int q, .int u, .int v]] .no .no) = .ok .nx (eB g st (.tup [.int q, .int u, .int v]) Z L s5 s6)) :
    Sem.f_way_to [(0, g), (0, st), (0, .tup [.int q, .int u, .int v])] = .ok 1 (.lst L.reverse) [.no, .no, .no] := by
  have m : ¬ 12 < max (u.natAbs : Int) (v.natAbs : Int) := by omega
  have rv : revD (.lst L) = some (1, .lst L.reverse) := rfl
  (rw [Sem.f_way_to_eq]; unfold Sem.s_way_to)
  simp -implicitDefEqProofs [v_run, m, ef, en, el, rv, small_ok]
/-- the way told, where one leads there -/
theorem way_ok {p : Nat} {ts : List (List Int)} (G : Grid p ts) {st : Int} (h0 : 0 ≤ st ∧ st < p) {q u v : Int} (hu : u.natAbs ≤ 12) (hv : v.natAbs ≤ 12) {n : Nat} (hn : n ≤ 12) {dd : Int} (h : ([q, u, v], dd) ∈ (ringsL (besideL ts) st n).1) :
    ∃ W : List (List Int), Sem.f_way_to [(0, gridD p ts), (0, .int st), (0, tupI [q, u, v])] = .ok 1 (.lst (W.map tupI)) [.no, .no, .no] ∧ (W.length : Int) = dd + 1 ∧ W.head? = some [st, 0, 0] ∧ W.getLast? = some [q, u, v] ∧ Walk (besideL ts) W ∧ (∀ Q ∈ W, Three Q) := by
  obtain ⟨K, ef, E⟩ := rings_to_ok G h0 [q, u, v]
  have hin : [q, u, v] ∈ (ringsL (besideL ts) st K).1.map (·.1) := by
    rcases E.why with h1 | h1 | h1
    · exact h1
    · -- an empty ring: nothing farther
      have keep : ∀ m, K ≤ m → (ringsL (besideL ts) st m).2 = [] ∧ (ringsL (besideL ts) st m).1 = (ringsL (besideL ts) st K).1 := by
        intro m hm
        induction m with
        | zero =>
          have : K = 0 := by omega
          subst this
          exact ⟨h1, rfl⟩
        | succ m ih =>
          by_cases c : K = m + 1
          · subst c; exact ⟨h1, rfl⟩
          · obtain ⟨a, b⟩ := ih (by omega)
            have e : ringsL (besideL ts) st (m + 1) = roundL (besideL ts) ((m : Int) + 1) (ringsL (besideL ts) st m).1 (ringsL (besideL ts) st m).2 := rfl
            rw [e, a]
            exact ⟨rfl, b⟩
      by_cases c : K ≤ n
      · rw [← (keep n c).2]
        exact List.mem_map.mpr ⟨_, h, rfl⟩
      · exact List.mem_map.mpr ⟨_, far_up (by omega) h, rfl⟩
    · exact List.mem_map.mpr ⟨_, far_up (by omega) h, rfl⟩
  obtain ⟨⟨P, d'⟩, hd, rfl'⟩ := List.mem_map.mp hin
  simp only at rfl'
  subst rfl'
  have : d' = dd := far_one (goesL G) h0 hd h
  subst this
  obtain ⟨B, s5, e, bk⟩ := way_loop G h0 E.le hd
  have en : ninA (tupI [q, u, v]) (farD (ringsL (besideL ts) st K).1) = some false := by
    unfold farD
    rw [nin_dI, look_has, hasP_iff.mpr hin]; rfl
  have f := way_fin hu hv ef en e
  refine ⟨B.reverse, ?_, ?_, ?_, ?_, ?_, ?_⟩
  · rw [List.map_reverse]; exact f
  · rw [List.length_reverse]; have := bk.len; omega
  · rw [List.head?_reverse]; exact bk.last
  · rw [List.getLast?_reverse]; exact bk.head
  · have w := bk.walk
    have three : ∀ (i : Nat) (h : i < B.length), Three B[i] := fun i hi => by
      cases i with
      | zero =>
        have hh := bk.head
        rw [List.head?_eq_getElem?, List.getElem?_eq_getElem hi] at hh
        exact ⟨q, u, v, Option.some.inj hh⟩
      | succ i => exact beside_three G (w i hi)
    intro i hi
    rw [List.length_reverse] at hi
    rw [List.getElem_reverse, List.getElem_reverse]
    have e1 : B.length - 1 - i = (B.length - 1 - (i + 1)) + 1 := by omega
    have k := w (B.length - 1 - (i + 1)) (by omega)
    have k2 := beside_sym (three _ (by omega)) k
    simp only [e1]
    exact k2
  · intro Q hQ
    rw [List.mem_reverse] at hQ
    obtain ⟨i, hi, rfl⟩ := List.getElem_of_mem hQ
    cases i with
    | zero =>
      have hh := bk.head
      rw [List.head?_eq_getElem?, List.getElem?_eq_getElem hi] at hh
      exact ⟨q, u, v, Option.some.inj hh⟩
    | succ i => exact beside_three G (bk.walk i hi)
end W_to
end Maths

namespace Maths
open DV L2 PySem
/-! ### places judged -/
theorem whole_int (i : Int) : Sem.f_is_whole [(0, .int i)] = .ok 0 (.bl true) [.no] := by
  (rw [Sem.f_is_whole_eq]; unfold Sem.s_is_whole)
  simp -implicitDefEqProofs [v_run]
theorem is_of_int (p i : Int) : Sem.f_is_of [(0, .int p), (0, .int i)] = .ok 0 (.bl (decide (0 ≤ i) && decide (i < p))) [.no, .no] := by
  have w := whole_int i
  (rw [Sem.f_is_of_eq]; unfold Sem.s_is_of)
  by_cases h : 0 ≤ i <;> simp -implicitDefEqProofs [v_run, w, h]
theorem place_gen {g : D} {p q u v : Int} {bu bv bq : Bool} (hg : ixA g (.int 0) = some (0, .int p)) (hu : ltD (.int (u.natAbs : Int)) (.int 1000000000000000000000000000000) = some bu) (hv : ltD (.int (v.natAbs : Int)) (.int 1000000000000000000000000000000) = some bv)
    (io : Sem.f_is_of [(0, .int p), (0, .int q)] = .ok 0 (.bl bq) [.no, .no]) :
    Sem.f_is_place [(0, g), (0, .tup [.int q, .int u, .int v])] = .ok 0 (.bl (bq && (bu && bv))) [.no, .no] := by
  have w1 := whole_int u
  have w2 := whole_int v
  have c : Sem.c1_is_place [.val 0 false g, .val 0 false (.tup [.int q, .int u, .int v]), .no] = .ok (1, .lst ([D.int u, .int v].map fun d => match ltD (.int (match d with | .int i => (i.natAbs : Int) | _ => 0)) (.int 1000000000000000000000000000000) with | some b => .bl b | none => .non)) [.val 0 false g, .val 0 false (.tup [.int q, .int u, .int v]), .no] := by
    unfold Sem.c1_is_place
    have ct : cutD [D.int q, .int u, .int v] (some 1) none = [.int u, .int v] := rfl
    refine comp_map _ (η1 := [.val 0 false g, .val 0 false (.tup [.int q, .int u, .int v]), .no]) (by simp -implicitDefEqProofs [ct]) (by rfl) (small_ok (show 2 ≤ _ by decide)) (by simp) ?_
    intro d hd
    simp only [List.mem_cons, List.not_mem_nil, or_false] at hd
    rcases hd with rfl | rfl
    · refine ⟨[.val 0 false g, .val 0 false (.tup [.int q, .int u, .int v]), .val 0 false (.int u)], ?_, by simp [S.hide]⟩
      generalize D.int 1000000000000000000000000000000 = N at *
      simp -implicitDefEqProofs [S.hide, w1, hu]
    · refine ⟨[.val 0 false g, .val 0 false (.tup [.int q, .int u, .int v]), .val 0 false (.int v)], ?_, by simp [S.hide]⟩
      generalize D.int 1000000000000000000000000000000 = N at *
      simp -implicitDefEqProofs [S.hide, w2, hv]
  have al := all_bls (bs := [bu, bv])
  simp only [List.map_cons, List.map_nil, hu, hv] at c al
  have al2 : [bu, bv].all id = (bu && bv) := by simp
  rw [al2] at al
  (rw [Sem.f_is_place_eq]; unfold Sem.s_is_place)
  cases bq with
  | true => simp -implicitDefEqProofs [v_run, hg, io, c, al]
  | false => simp -implicitDefEqProofs [v_run, hg, io]
theorem is_place_ok {p : Nat} {ts : List (List Int)} (q u v : Int) :
    Sem.f_is_place [(0, gridD p ts), (0, tupI [q, u, v])] = .ok 0 (.bl (decide (0 ≤ q) && decide (q < p) && (decide ((u.natAbs : Int) < 1000000000000000000000000000000) && decide ((v.natAbs : Int) < 1000000000000000000000000000000)))) [.no, .no] :=
  place_gen (g := gridD p ts) rfl rfl rfl (is_of_int _ _)
theorem nb_core {g P : D} {L L2 : List D} (ep : Sem.f_is_place [(0, g), (0, P)] = .ok 0 (.bl true) [.no, .no]) (eb : Sem.f_beside [(0, g), (0, P)] = .ok 1 (.lst L) [.no, .no]) (so : sortedA [.lst L] = some (1, .lst L2)) :
    Sem.f_neighbours_of [(0, g), (0, P)] = .ok 1 (.lst L2) [.no, .no] := by
  (rw [Sem.f_neighbours_of_eq]; unfold Sem.s_neighbours_of)
  simp -implicitDefEqProofs [v_run, ep, eb, so]
/-- a place of the grid -/
def Fine (p : Nat) (P : List Int) : Prop := ∃ q u v : Int, P = [q, u, v] ∧ 0 ≤ q ∧ q < p ∧ u.natAbs < 1000000000000000000000000000000 ∧ v.natAbs < 1000000000000000000000000000000
theorem fine_ok {p : Nat} {ts : List (List Int)} {P : List Int} (F : Fine p P) : Sem.f_is_place [(0, gridD p ts), (0, tupI P)] = .ok 0 (.bl true) [.no, .no] := by
  obtain ⟨q, u, v, rfl, h1, h2, h3, h4⟩ := F
  rw [is_place_ok]
  have e : (decide (0 ≤ q) && decide (q < (p : Int)) && (decide ((u.natAbs : Int) < 1000000000000000000000000000000) && decide ((v.natAbs : Int) < 1000000000000000000000000000000))) = true := by
    simp only [Bool.and_eq_true, decide_eq_true_eq]
    omega
  rw [e]
theorem neighbours_ok {p : Nat} {ts : List (List Int)} (G : Grid p ts) {P : List Int} (F : Fine p P) : Sem.f_neighbours_of [(0, gridD p ts), (0, tupI P)] = .ok 1 (.lst ((lbes ts P).map tupI)) [.no, .no] := by
  have ep := fine_ok (ts := ts) F
  obtain ⟨q, u, v, rfl, _⟩ := F
  exact nb_core ep (beside_ok G q u v) (sorted_tupI (n := 3) (by decide) fun t h => by
    obtain ⟨a, b, c, rfl⟩ := beside_three G h
    rfl)
end Maths

namespace Maths
open DV L2 PySem
/-! ### ways that hold -/
theorem in_tups {O : List Int} {L : List (List Int)} : inA (tupI O) (.lst (L.map tupI)) = some (decide (O ∈ L)) := by
  have ok1 : okD 16 (tupI O) = true := ok_tupI (by decide)
  have ok2 : okD 16 (.lst (L.map tupI)) = true := by
    rw [ok_lst (by decide)]
    refine okL_all fun d hd => ?_
    obtain ⟨x, _, rfl⟩ := List.mem_map.mp hd
    exact ok_tupI (by decide)
  have e : inA (tupI O) (.lst (L.map tupI)) = inD (tupI O) (.lst (L.map tupI)) := rfl
  rw [e, inL ok1 ok2, memD_map (fun a b h => tupI_inj h) (fun a => by simp)]
  congr
theorem all_true : ∀ {α : Type} (l : List α), allD [.lst (l.map fun _ => D.bl true)] = some (.bl true) := fun l => by
  have e : (l.map fun _ => D.bl true) = (l.map fun _ => true).map D.bl := by rw [List.map_map]; rfl
  rw [e, all_bls]
  simp
theorem zip_core {g : D} {W N : List D} {Z : List D} (few : W.length ≤ 1000) (hc : cutD W (some 1) none = N) (hz : S.zipL W N = Z) (f : D → D) (hl : Z.length ≤ 1000) (h : ∀ z ∈ Z, ∃ a b L, z = .tup [a, b] ∧ Sem.f_beside [(0, g), (0, a)] = .ok 1 L [.no, .no] ∧ inA b L = some true) :
    Sem.c2_way_holds [.val 0 false g, .val 0 false (.lst W), .no, .no, .no] = .ok (1, .lst (Z.map fun _ => .bl true)) [.val 0 false g, .val 0 false (.lst W), .no, .no, .no] := by
  unfold Sem.c2_way_holds
  refine comp_map (fun _ => .bl true) (η1 := [.val 0 false g, .val 0 false (.lst W), .no, .no, .no]) (by unfold S.zip2; simp -implicitDefEqProofs [hc, hz]) (by rfl) (small_ok (by omega)) (by simp) ?_
  intro z hz
  obtain ⟨a, b, L, rfl, e1, e2⟩ := h z hz
  exact ⟨[.val 0 false g, .val 0 false (.lst W), .no, .val 0 false a, .val 0 false b], by simp -implicitDefEqProofs [S.hide, e1, e2], by simp [S.hide]⟩
theorem each_core {g : D} {W : List D} (few : W.length ≤ 1000) (h : ∀ d ∈ W, Sem.f_is_place [(0, g), (0, d)] = .ok 0 (.bl true) [.no, .no]) :
    Sem.c1_way_holds [.val 0 false g, .val 0 false (.lst W), .no, .no, .no] = .ok (1, .lst (W.map fun _ => .bl true)) [.val 0 false g, .val 0 false (.lst W), .no, .no, .no] := by
  unfold Sem.c1_way_holds
  rw [compX_seq (by rfl)]
  refine comp_map (fun _ => .bl true) (η1 := [.val 0 false g, .val 0 false (.lst W), .no, .no, .no]) (by simp -implicitDefEqProofs []) (by rfl) (small_ok (by omega)) (by simp) ?_
  intro d hd
  have e := h d hd
  exact ⟨[.val 0 false g, .val 0 false (.lst W), .val 0 false d, .no, .no], by simp -implicitDefEqProofs [S.hide, e], by simp [S.hide]⟩
theorem holds_fin {g : D} {W X Y : List D} {n : Int} (hl : lenD [.lst W] = some (.int n)) (hn : ¬ n = 0) (c1 : Sem.c1_way_holds [.val 0 false g, .val 0 false (.lst W), .no, .no, .no] = .ok (1, .lst X) [.val 0 false g, .val 0 false (.lst W), .no, .no, .no])
    (c2 : Sem.c2_way_holds [.val 0 false g, .val 0 false (.lst W), .no, .no, .no] = .ok (1, .lst Y) [.val 0 false g, .val 0 false (.lst W), .no, .no, .no]) (a1 : allD [.lst X] = some (.bl true)) (a2 : allD [.lst Y] = some (.bl true)) :
    Sem.f_way_holds [(0, g), (0, .lst W)] = .ok 0 (.bl true) [.no, .no] := by
  (rw [Sem.f_way_holds_eq]; unfold Sem.s_way_holds)
  simp -implicitDefEqProofs [v_run, hl, hn, c1, c2, a1, a2, -v_lenL]
theorem way_holds_ok {p : Nat} {ts : List (List Int)} (G : Grid p ts) {W : List (List Int)} (h0 : 0 < W.length) (few : W.length ≤ 1000) (fine : ∀ P ∈ W, Fine p P) (w : Walk (besideL ts) W) : Sem.f_way_holds [(0, gridD p ts), (0, .lst (W.map tupI))] = .ok 0 (.bl true) [.no, .no] := by
  have cut : cutD (W.map tupI) (some 1) none = (W.drop 1).map tupI := by
    have e : HT.sIx (W.map tupI).length 0 (some 1) = 1 := by
      unfold HT.sIx
      rw [List.length_map]
      simp
      omega
    unfold cutD
    rw [e, ← List.map_drop]
    refine List.take_of_length_le ?_
    show _ ≤ (W.map tupI).length - 1
    simp
  refine holds_fin (n := W.length) (by simp) (by omega) (each_core (by rw [List.length_map]; exact few) fun d hd => ?_) (zip_core (Z := S.zipL (W.map tupI) ((W.drop 1).map tupI)) (by rw [List.length_map]; exact few) cut rfl (fun d => d) ?_ fun z hz => ?_) (all_true _) (all_true _)
  · obtain ⟨P, hP, rfl⟩ := List.mem_map.mp hd
    exact fine_ok (fine P hP)
  · unfold S.zipL
    simp
    omega
  · unfold S.zipL at hz
    obtain ⟨i, hi, e⟩ := List.getElem_of_mem hz
    rw [List.getElem_zipWith, List.getElem_map, List.getElem_map, List.getElem_drop] at e
    simp only [List.length_zipWith, List.length_map, List.length_drop] at hi
    obtain ⟨q, u, v, eq, _⟩ := fine (W[i]'(by omega)) (List.getElem_mem _)
    have k := w i (by omega)
    refine ⟨_, _, _, e.symm, by rw [eq]; exact beside_ok G q u v, ?_⟩
    rw [in_tups]
    rw [eq] at k
    have k : W[1 + i]'(by omega) ∈ besideL ts [q, u, v] := by
      have e2 : W[1 + i]'(by omega) = W[i + 1]'(by omega) := by congr 1; omega
      rw [e2]; exact k
    rw [decide_eq_true k]
end Maths

namespace Maths
open DV L2 PySem
namespace W_rings_from
/-! ### rings, walked: rings_from by beside -/
abbrev eRg (g : D) (st n : Int) (st2 : Far × List (List Int)) (s4 : DV.Slot) (d : Int) (s7 s8 : DV.Slot) : DV.Env := [.val 0 false g, .val 0 false (.int st), .val 0 false (.int n), .val 1 false (farD st2.1), s4, .val 0 false (.int d), .val 1 false (.lst (st2.2.map tupI)), s7, s8]
theorem other_turn (g : D) (st n d : Int) (S2 : Far × List (List Int)) (h1 : S2.1.length ≤ 16000000) (h2 : S2.2.length ≤ 16000000) (O : List Int) (s4 s7 s8 : DV.Slot) (f8 : s8.free = true) :
    S.turn (S.name 8) Sem.b1_rings_from (tupI O) (eRg g st n S2 s4 d s7 s8) = .ok .nx (eRg g st n (addP d S2 O) s4 d s7 (.val 0 false (tupI O))) := by
  have e1 : ninA (tupI O) (farD S2.1) = some (!hasP S2.1 O) := by
    unfold farD
    rw [nin_dI, look_has]
  unfold Sem.b1_rings_from addP
  cases h : hasP S2.1 O with
  | true =>
    rw [h] at e1
    simp -implicitDefEqProofs [f8, e1]
  | false =>
    rw [h] at e1
    have e2 : stD (farD S2.1) (tupI O) (.int d) = some (farD (S2.1 ++ [(O, d)])) := by
      unfold farD
      rw [st_dI (by rw [List.length_map]; omega), put_new h]
    have e3 : appendD (S2.2.map tupI) [tupI O] = some (.non, (S2.2 ++ [O]).map tupI) := by
      show (if (S2.2.map tupI).length < sizeLine then some (D.non, S2.2.map tupI ++ [tupI O]) else none) = _
      have z : S2.2.length + 1 ≤ sizeLine := small_ok (by omega)
      rw [if_pos (by rw [List.length_map]; omega), List.map_append]
      rfl
    simp only [eRg, Bool.false_eq_true, if_false]
    generalize (S2.2 ++ [O]).map tupI = X at *
    generalize farD (S2.1 ++ [(O, d)]) = Y at *
    generalize farD S2.1 = Z at *
    generalize tupI O = T at *
    simp -implicitDefEqProofs [f8, e1, e2, e3]
/-- neighbours, told -/
structure Tells (g : D) (bes : Bes) : Prop where
  ok : ∀ q u v : Int, Sem.f_beside [(0, g), (0, tupI [q, u, v])] = .ok 1 (.lst ((bes [q, u, v]).map tupI)) [.no, .no]
  few : ∀ P, (bes P).length ≤ 40
  three : ∀ P O, O ∈ bes P → Three O
theorem place_turn {g : D} {bes : Bes} (T : Tells g bes) (st n d : Int) (S2 : Far × List (List Int)) (h1 : S2.1.length ≤ 15000000) (h2 : S2.2.length ≤ 15000000) (q u v : Int) (s4 s7 s8 : DV.Slot) (f7 : s7.free = true) (f8 : s8.free = true) :
    ∃ t8 : DV.Slot, S.turn (S.name 7) Sem.b2_rings_from (tupI [q, u, v]) (eRg g st n S2 s4 d s7 s8) = .ok .nx (eRg g st n (besP bes d S2 [q, u, v]) s4 d (.val 0 false (tupI [q, u, v])) t8) ∧ t8.free = true := by
  have hl := T.few [q, u, v]
  have eb := T.ok q u v
  have lp := forL_all (g := S.name 8) (body := Sem.b1_rings_from) (ds := (bes [q, u, v]).map tupI) (η := eRg g st n S2 s4 d (.val 0 false (tupI [q, u, v])) s8)
    (fun i η => ∃ t8 : DV.Slot, t8.free = true ∧ η = eRg g st n (((bes [q, u, v]).take i).foldl (addP d) S2) s4 d (.val 0 false (tupI [q, u, v])) t8) ⟨s8, f8, rfl⟩ (by
    rintro i hi η ⟨t8, g8, rfl⟩
    rw [List.length_map] at hi
    rw [List.getElem_map]
    have hA := foldA_len (d := d) (Os := (bes [q, u, v]).take i) (st := S2)
    rw [List.length_take] at hA
    refine ⟨_, .inl (other_turn _ _ _ _ _ (by omega) (by omega) _ _ _ _ g8), .val 0 false (tupI ((bes [q, u, v])[i])), rfl, ?_⟩
    rw [List.take_succ_eq_append_getElem hi, List.foldl_append, List.foldl_cons, List.foldl_nil])
  obtain ⟨η', e, t8, g8, rfl⟩ := lp
  rw [List.length_map, List.take_length] at e
  refine ⟨t8, ?_, g8⟩
  unfold Sem.b2_rings_from Sem.l1_rings_from
  unfold besP
  simp only [eRg] at e ⊢
  generalize farD S2.1 = Z at *
  generalize S2.2.map tupI = Y at *
  generalize (bes [q, u, v]).map tupI = BB at *
  generalize tupI [q, u, v] = TT at *
  simp -implicitDefEqProofs [f7, eb, e]
theorem round_turn {g : D} {bes : Bes} (T : Tells g bes) (st n d : Int) (kvs : Far) (ring : List (List Int)) (hr : ∀ P ∈ ring, Three P) (h1 : kvs.length + 40 * ring.length ≤ 14000000) (kr : Nat) (s5 s6 s7 s8 : DV.Slot) (f5 : s5.free = true) (f6 : s6.free = true) (f7 : s7.free = true) (f8 : s8.free = true) :
    ∃ t7 t8 : DV.Slot, S.turn (S.name 5) Sem.b3_rings_from (.int d) [.val 0 false (g), .val 0 false (.int st), .val 0 false (.int n), .val 1 false (farD kvs), .val kr false (.lst (ring.map tupI)), s5, s6, s7, s8] =
      .ok .nx [.val 0 false (g), .val 0 false (.int st), .val 0 false (.int n), .val 1 false (farD (roundL bes d kvs ring).1), .val 0 false (.lst ((roundL bes d kvs ring).2.map tupI)), .val 0 false (.int d), .val 0 false (.lst ((roundL bes d kvs ring).2.map tupI)), t7, t8] ∧ t7.free = true ∧ t8.free = true := by
  have lp := forL_all (g := S.name 7) (body := Sem.b2_rings_from) (ds := ring.map tupI) (η := eRg (g) st n (kvs, []) (.val 0 false (.lst (ring.map tupI))) d s7 s8)
    (fun i η => ∃ t7 t8 : DV.Slot, t7.free = true ∧ t8.free = true ∧ η = eRg (g) st n ((ring.take i).foldl (besP bes d) (kvs, [])) (.val 0 false (.lst (ring.map tupI))) d t7 t8) ⟨s7, s8, f7, f8, rfl⟩ (by
    rintro i hi η ⟨t7, t8, g7, g8, rfl⟩
    rw [List.length_map] at hi
    rw [List.getElem_map]
    have hB := foldB_len (bes := bes) (d := d) T.few (Ps := ring.take i) (st := (kvs, []))
    rw [List.length_take] at hB
    simp only [List.length_nil] at hB
    obtain ⟨q, u, v, hP⟩ := hr ring[i] (List.getElem_mem hi)
    obtain ⟨z8, e, k8⟩ := place_turn T st n d ((ring.take i).foldl (besP bes d) (kvs, [])) (by omega) (by omega) q u v (.val 0 false (.lst (ring.map tupI))) t7 t8 g7 g8
    rw [← hP] at e
    refine ⟨_, .inl e, .val 0 false (tupI ring[i]), z8, rfl, k8, ?_⟩
    rw [List.take_succ_eq_append_getElem hi, List.foldl_append, List.foldl_cons, List.foldl_nil])
  obtain ⟨η', e, t7, t8, g7, g8, rfl⟩ := lp
  rw [List.length_map, List.take_length] at e
  refine ⟨t7, t8, ?_, g7, g8⟩
  have e : S.forL (S.name 7) Sem.b2_rings_from (ring.map tupI) (eRg (g) st n (kvs, []) (.val 0 false (.lst (ring.map tupI))) d s7 s8) = .ok .nx (eRg (g) st n (roundL bes d kvs ring) (.val 0 false (.lst (ring.map tupI))) d t7 t8) := e
  generalize roundL bes d kvs ring = RR at *
  have e2 : Sem.l2_rings_from [.val 0 false (g), .val 0 false (.int st), .val 0 false (.int n), .val 1 false (farD kvs), .val kr false (.lst (ring.map tupI)), .val 0 false (.int d), .val 1 false (.lst []), s7, s8] = .ok .nx (eRg (g) st n RR (.val 0 false (.lst (ring.map tupI))) d t7 t8) := by
    unfold Sem.l2_rings_from
    rw [forsX_seq (by rfl), v_fors]
    simp only [eRg, List.map_nil] at e ⊢
    generalize ring.map tupI = X at *
    cases kr with
    | zero => simp -implicitDefEqProofs [e]
    | succ k => simp -implicitDefEqProofs [e]
  unfold Sem.b3_rings_from
  simp only [eRg] at e2
  generalize ring.map tupI = X at *
  generalize RR.2.map tupI = Y at *
  simp -implicitDefEqProofs [f5, f6, e2]
theorem rings_three {g : D} {bes : Bes} (T : Tells g bes) {start : Int} {n : Nat} {P : List Int} (h : P ∈ (ringsL bes start n).2) : Three P := by
  cases n with
  | zero =>
    rw [List.mem_singleton.mp h]
    exact ⟨_, _, _, rfl⟩
  | succ n =>
    obtain ⟨_, R, _, hb⟩ := (round_mem.2 P).mp h
    exact T.three R P hb
theorem rings_ok {p : Nat} {g : D} {bes : Bes} (T : Tells g bes) (hg : Goes bes p) (hp : p ≤ 4) {st : Int} (h0 : 0 ≤ st ∧ st < p) {n : Nat} (hn : n ≤ 20) : Sem.f_rings_from [(0, g), (0, .int st), (0, .int n)] = .ok 1 (farD (ringsL bes st n).1) [.no, .no, .no] := by
  have lp := forL_all (g := S.name 5) (body := Sem.b3_rings_from) (ds := S.rangeL 1 n) (η := [.val 0 false g, .val 0 false (.int st), .val 0 false (.int n), .val 1 false (farD (ringsL bes st 0).1), .val 1 false (.lst ((ringsL bes st 0).2.map tupI)), .no, .no, .no, .no])
    (fun i η => ∃ (kr : Nat) (s5 s6 s7 s8 : DV.Slot), s5.free = true ∧ s6.free = true ∧ s7.free = true ∧ s8.free = true ∧ η = [.val 0 false g, .val 0 false (.int st), .val 0 false (.int n), .val 1 false (farD (ringsL bes st i).1), .val kr false (.lst ((ringsL bes st i).2.map tupI)), s5, s6, s7, s8])
    ⟨1, .no, .no, .no, .no, rfl, rfl, rfl, rfl, rfl⟩ (by
    rintro i hi η ⟨kr, s5, s6, s7, s8, f5, f6, f7, f8, rfl⟩
    rw [rangeL_get hi]
    rw [rangeL_len] at hi
    obtain ⟨l1, l2⟩ := (rings_shape hg h0 i).few
    have l3 : (2 * i + 1) * (2 * i + 1) ≤ 1681 := Nat.le_trans (Nat.mul_le_mul (show 2 * i + 1 ≤ 41 by omega) (show 2 * i + 1 ≤ 41 by omega)) (by decide)
    have l4 : p * ((2 * i + 1) * (2 * i + 1)) ≤ 4 * 1681 := Nat.mul_le_mul hp l3
    obtain ⟨t7, t8, e, g7, g8⟩ := round_turn T st n (1 + (i : Int)) (ringsL bes st i).1 (ringsL bes st i).2 (fun P hP => rings_three T hP) (by omega) kr s5 s6 s7 s8 f5 f6 f7 f8
    refine ⟨_, .inl e, 0, .val 0 false (.int (1 + (i : Int))), .val 0 false (.lst ((roundL bes (1 + (i : Int)) (ringsL bes st i).1 (ringsL bes st i).2).2.map tupI)), t7, t8, rfl, rfl, g7, g8, ?_⟩
    rw [show 1 + (i : Int) = (i : Int) + 1 by omega]
    rfl)
  obtain ⟨η', e, kr, s5, s6, s7, s8, _, _, _, _, rfl⟩ := lp
  rw [rangeL_len] at e
  have e2 : Sem.l3_rings_from [.val 0 false g, .val 0 false (.int st), .val 0 false (.int n), .val 1 false (farD [([st, 0, 0], 0)]), .val 1 false (.lst [tupI [st, 0, 0]]), .no, .no, .no, .no] = .ok .nx [.val 0 false g, .val 0 false (.int st), .val 0 false (.int n), .val 1 false (farD (ringsL bes st n).1), .val kr false (.lst ((ringsL bes st n).2.map tupI)), s5, s6, s7, s8] := by
    have z : ((n : Int) + 1 - 1).toNat = n := by omega
    unfold Sem.l3_rings_from
    rw [v_fors]
    simp only [ringsL, List.map_cons, List.map_nil] at e
    simp -implicitDefEqProofs [z, show (-4611686018427387904 : Int) ≤ (n : Int) + 1 by omega, show (n : Int) + 1 < 4611686018427387904 by omega, e]
  have k0 : keysD [.int st, .int 0, .int 0] = some (keyI [st, 0, 0]) := keysD_ints [st, 0, 0]
  have d0 : D.dT [(keyI [st, 0, 0], .int 0)] = farD [([st, 0, 0], 0)] := rfl
  have t0 : D.tup [.int st, .int 0, .int 0] = tupI [st, 0, 0] := rfl
  generalize (ringsL bes st n).2.map tupI = X at *
  generalize farD (ringsL bes st n).1 = Y at *
  generalize farD [([st, 0, 0], 0)] = Z at *
  rw [← t0] at e2
  (rw [Sem.f_rings_from_eq]; unfold Sem.s_rings_from)
  simp -implicitDefEqProofs [v_run, k0, d0, e2, small_ok]
end W_rings_from
end Maths

namespace Maths
open DV L2 PySem
/-! ### look_right -/
abbrev vS (d : D) : DV.Slot := .val 0 false d
def nearB (ts : List (List Int)) (F : Far) (e : List Int × Int) : Bool := (besideL ts e.1).any fun O => decide ((fget F O).getD (-9) = e.2 - 1)
def closeB (F : Far) (d : Int) (O : List Int) : Bool := match fget F O with
  | some x => decide (((x - d).natAbs : Int) ≤ 1)
  | none => false
def allB (ts : List (List Int)) (F : Far) (e : List Int × Int) : Bool := (besideL ts e.1).all (closeB F e.2)
theorem nearer_core {g P FD : D} {d : Int} {Os : List (List Int)} (few : Os.length ≤ 1000) (eb : Sem.f_beside [(0, g), (0, P)] = .ok 1 (.lst (Os.map tupI)) [.no, .no]) (ix : ixA FD P = some (0, .int d)) (dc : dctQ FD = some ()) (f : List Int → Int) (hf : ∀ O ∈ Os, dget2D FD (tupI O) (.int (-9)) = some (0, .int (f O))) :
    Sem.f_one_nearer [(0, g), (0, P), (0, FD)] = .ok 0 (.bl (Os.any fun O => decide (f O = d - 1))) [.no, .no, .no] := by
  have c : Sem.c1_one_nearer [vS g, vS P, vS FD, .no] = .ok (1, .lst (Os.filterMap fun O => some (.bl (decide (f O = d - 1))))) [vS g, vS P, vS FD, .no] := by
    unfold Sem.c1_one_nearer
    refine comp_pureM tupI _ (η1 := [vS g, vS P, vS FD, .no]) (by simp -implicitDefEqProofs [eb]) (by rfl) (small_ok (by omega)) (by simp) ?_
    intro O hO
    have h := hf O hO
    generalize tupI O = T at *
    exact ⟨[vS g, vS P, vS FD, vS T], by simp -implicitDefEqProofs [S.hide, ix, dc, h], by simp [S.hide]⟩
  have an := any_map1 (xs := Os) (b := fun O => decide (f O = d - 1))
  generalize (Os.filterMap fun O => some (D.bl (decide (f O = d - 1)))) = X at *
  (rw [Sem.f_one_nearer_eq]; unfold Sem.s_one_nearer)
  simp -implicitDefEqProofs [v_run, c, an]
theorem nearer_ok {p : Nat} {ts : List (List Int)} (G : Grid p ts) {F : Far} {P : List Int} {d : Int} (h : fget F P = some d) (t : Three P) : Sem.f_one_nearer [(0, gridD p ts), (0, tupI P), (0, farD F)] = .ok 0 (.bl (nearB ts F (P, d))) [.no, .no, .no] := by
  obtain ⟨q, u, v, rfl⟩ := t
  have hg := G.len
  have hl := besideL_len (ts := ts) (P := [q, u, v])
  exact nearer_core (by omega) (beside_ok G q u v) (ix_far h) (dctQ_farD F) (fun O => (fget F O).getD (-9)) fun O _ => get_far
theorem allb_core {g P FD : D} {d : Int} {Os : List (List Int)} (few : Os.length ≤ 1000) (eb : Sem.f_beside [(0, g), (0, P)] = .ok 1 (.lst (Os.map tupI)) [.no, .no]) (ix : ixA FD P = some (0, .int d)) (f : List Int → Option Int) (hin : ∀ O ∈ Os, inA (tupI O) FD = some (f O).isSome) (hf : ∀ O ∈ Os, ∀ x, f O = some x → ixA FD (tupI O) = some (0, .int x)) :
    Sem.f_all_beside [(0, g), (0, P), (0, FD)] = .ok 0 (.bl (Os.all fun O => match f O with | some x => decide (((x - d).natAbs : Int) ≤ 1) | none => false)) [.no, .no, .no] := by
  have c : Sem.c1_all_beside [vS g, vS P, vS FD, .no] = .ok (1, .lst (Os.filterMap fun O => some (.bl (match f O with | some x => decide (((x - d).natAbs : Int) ≤ 1) | none => false)))) [vS g, vS P, vS FD, .no] := by
    unfold Sem.c1_all_beside
    refine comp_pureM tupI _ (η1 := [vS g, vS P, vS FD, .no]) (by simp -implicitDefEqProofs [eb]) (by rfl) (small_ok (by omega)) (by simp) ?_
    intro O hO
    have h1 := hin O hO
    have h2 := hf O hO
    generalize tupI O = T at *
    refine ⟨[vS g, vS P, vS FD, vS T], ?_, by simp [S.hide]⟩
    cases q : f O with
    | none =>
      rw [q] at h1
      simp -implicitDefEqProofs [S.hide, h1]
    | some x =>
      rw [q] at h1
      have h2 := h2 x q
      simp -implicitDefEqProofs [S.hide, h1, h2, ix]
  have an := all_map1 (xs := Os) (b := fun O => match f O with | some x => decide (((x - d).natAbs : Int) ≤ 1) | none => false)
  generalize (Os.filterMap fun O => some (D.bl (match f O with | some x => decide (((x - d).natAbs : Int) ≤ 1) | none => false))) = X at *
  (rw [Sem.f_all_beside_eq]; unfold Sem.s_all_beside)
  simp -implicitDefEqProofs [v_run, c, an]
theorem allb_ok {p : Nat} {ts : List (List Int)} (G : Grid p ts) {F : Far} {P : List Int} {d : Int} (h : fget F P = some d) (t : Three P) : Sem.f_all_beside [(0, gridD p ts), (0, tupI P), (0, farD F)] = .ok 0 (.bl (allB ts F (P, d))) [.no, .no, .no] := by
  obtain ⟨q, u, v, rfl⟩ := t
  have hg := G.len
  have hl := besideL_len (ts := ts) (P := [q, u, v])
  exact allb_core (by omega) (beside_ok G q u v) (ix_far h) (fget F) (fun O _ => in_far) fun O _ x hx => ix_far hx
abbrev eLR (g st n K FD : D) (k4 : Nat) (s5 s6 s7 : DV.Slot) : DV.Env := [vS g, vS st, vS n, vS K, .val k4 false FD, s5, s6, s7, .no, .no]
/-- the places of a grid, each once -/
def okP (p : Nat) (pre : Far) (e : List Int × Int) : Bool := decide (0 ≤ e.1.headD (-1)) && decide (e.1.headD (-1) < p) && !hasP pre e.1
theorem lr_turn {p : Nat} {ts : List (List Int)} {st n K : D} {pre : Far} (hl : pre.length ≤ 1000000) {e : List Int × Int} (t : Three e.1) {s5 s6 : DV.Slot} (f5 : s5.free = true) (f6 : s6.free = true) :
    ∃ η', (okP p pre e = true → S.turn (S.gtup [S.name 5, S.name 6]) Sem.b1_look_right (prD e) (eLR (gridD p ts) st n K (farD pre) 1 s5 s6 .no) = .ok .nx η' ∧ η' = eLR (gridD p ts) st n K (farD (pre ++ [e])) 1 (vS (tupI e.1)) (vS (.int e.2)) .no) ∧
      (okP p pre e = false → S.turn (S.gtup [S.name 5, S.name 6]) Sem.b1_look_right (prD e) (eLR (gridD p ts) st n K (farD pre) 1 s5 s6 .no) = .ok (.rt 0 (.bl false)) η' ∧ η' = eLR (gridD p ts) st n K (farD pre) 1 (vS (tupI e.1)) (vS (.int e.2)) .no) := by
  obtain ⟨P, d⟩ := e
  obtain ⟨q, u, v, rfl⟩ := (show Three P from t)
  have i5 : ixA (tupI [q, u, v]) (.int 0) = some (0, .int q) := rfl
  have i0 : ixA (gridD p ts) (.int 0) = some (0, .int p) := rfl
  have e1 : inA (tupI [q, u, v]) (farD pre) = some (hasP pre [q, u, v]) := by rw [in_far, fget_isSome]
  unfold okP prD
  show ∃ η', ((decide (0 ≤ q) && decide (q < p) && !hasP pre [q, u, v]) = true → _) ∧ ((decide (0 ≤ q) && decide (q < p) && !hasP pre [q, u, v]) = false → _)
  by_cases c1 : 0 ≤ q
  · by_cases c2 : q < (p : Int)
    · cases h : hasP pre [q, u, v] with
      | true =>
        rw [h] at e1
        refine ⟨eLR (gridD p ts) st n K (farD pre) 1 (vS (tupI [q, u, v])) (vS (.int d)) .no, fun z => by simp at z, fun _ => ⟨?_, rfl⟩⟩
        unfold Sem.b1_look_right
        generalize farD pre = FD at *
        generalize tupI [q, u, v] = T at *
        generalize gridD p ts = g at *
        simp -implicitDefEqProofs [f5, f6, i5, i0, c1, c2, e1]
      | false =>
        rw [h] at e1
        have e2 := st_far (d := d) h (by omega)
        refine ⟨_, fun _ => ⟨?_, rfl⟩, fun z => by simp [c1, c2] at z⟩
        unfold Sem.b1_look_right
        show S.turn _ _ (.tup [tupI [q, u, v], .int d]) _ = .ok .nx (eLR (gridD p ts) st n K (farD (pre ++ [([q, u, v], d)])) 1 (vS (tupI [q, u, v])) (vS (.int d)) .no)
        generalize farD (pre ++ [([q, u, v], d)]) = FE at *
        generalize farD pre = FD at *
        generalize tupI [q, u, v] = T at *
        generalize gridD p ts = g at *
        simp -implicitDefEqProofs [f5, f6, i5, i0, c1, c2, e1, e2]
    · refine ⟨eLR (gridD p ts) st n K (farD pre) 1 (vS (tupI [q, u, v])) (vS (.int d)) .no, fun z => by simp [c2] at z, fun _ => ⟨?_, rfl⟩⟩
      unfold Sem.b1_look_right
      generalize farD pre = FD at *
      generalize tupI [q, u, v] = T at *
      generalize gridD p ts = g at *
      simp -implicitDefEqProofs [f5, f6, i5, i0, c1, c2]
  · refine ⟨eLR (gridD p ts) st n K (farD pre) 1 (vS (tupI [q, u, v])) (vS (.int d)) .no, fun z => by simp [c1] at z, fun _ => ⟨?_, rfl⟩⟩
    unfold Sem.b1_look_right
    generalize farD pre = FD at *
    generalize tupI [q, u, v] = T at *
    generalize gridD p ts = g at *
    simp -implicitDefEqProofs [f5, f6, i5, i0, c1]
/-- K: the look as a list or a tuple -/
def IsLook (F : Far) (K : D) : Prop := K = .lst (F.map prD) ∨ K = .tup (F.map prD)
theorem lr_loop {p : Nat} {ts : List (List Int)} {st n K : D} {F : Far} (hl : F.length ≤ 900000) (h3 : ∀ e ∈ F, Three e.1) (hK : IsLook F K) :
    ∃ η', (scanB (okP p) [] F = true → Sem.l1_look_right (eLR (gridD p ts) st n K (farD []) 1 .no .no .no) = .ok .nx η' ∧ ∃ s5 s6 : DV.Slot, S.still1 s5 = true ∧ η' = eLR (gridD p ts) st n K (farD F) 1 s5 s6 .no) ∧
      (scanB (okP p) [] F = false → Sem.l1_look_right (eLR (gridD p ts) st n K (farD []) 1 .no .no .no) = .ok (.rt 0 (.bl false)) η' ∧ ∃ (FD : D) (s5 s6 : DV.Slot), η' = eLR (gridD p ts) st n K FD 1 s5 s6 .no) := by
  obtain ⟨η', h1, h2⟩ := forL_scan (g := S.gtup [S.name 5, S.name 6]) (body := Sem.b1_look_right) prD (okP p) (.bl false) (fun pre η => ∃ s5 s6 : DV.Slot, s5.free = true ∧ s6.free = true ∧ S.still1 s5 = true ∧ η = eLR (gridD p ts) st n K (farD pre) 1 s5 s6 .no) (fun η => ∃ (FD : D) (s5 s6 : DV.Slot), η = eLR (gridD p ts) st n K FD 1 s5 s6 .no) (L := F) (by
    rintro pre a post e η ⟨s5, s6, f5, f6, f55, rfl⟩
    have hpl : pre.length ≤ F.length := by rw [← e]; simp
    obtain ⟨η', k1, k2⟩ := lr_turn (p := p) (ts := ts) (st := st) (n := n) (K := K) (pre := pre) (by omega) (h3 a (by rw [← e]; simp)) f5 f6
    exact ⟨η', fun z => ⟨(k1 z).1, _, _, rfl, rfl, rfl, (k1 z).2⟩, fun z => ⟨(k2 z).1, _, _, _, (k2 z).2⟩⟩) (F2 := F) (F1 := []) (η := eLR (gridD p ts) st n K (farD []) 1 .no .no .no) rfl ⟨.no, .no, rfl, rfl, rfl, rfl⟩
  have un : Sem.l1_look_right (eLR (gridD p ts) st n K (farD []) 1 .no .no .no) = S.forL (S.gtup [S.name 5, S.name 6]) Sem.b1_look_right (F.map prD) (eLR (gridD p ts) st n K (farD []) 1 .no .no .no) := by
    unfold Sem.l1_look_right
    rcases hK with rfl | rfl
    · rw [forsX_seq (by rfl), v_fors]
      generalize farD [] = FD
      simp -implicitDefEqProofs []
    · rw [forsX_seq (by rfl), v_fors]
      generalize farD [] = FD
      simp -implicitDefEqProofs []
  refine ⟨η', fun z => ?_, fun z => ?_⟩
  · obtain ⟨a, s5, s6, _, _, g5, b⟩ := h1 z
    exact ⟨un.trans a, s5, s6, g5, b⟩
  · exact ⟨un.trans (h2 z).1, (h2 z).2⟩
end Maths

namespace Maths
open DV L2 PySem
noncomputable def LR1 : SS := S.asg 4 (S.dnew (.dT []))
noncomputable def LR2 : SS := Sem.l1_look_right
noncomputable def LR3 : SS := S.asg 7 (S.up (S.tup (S.cons (S.var 1) (S.cons (S.c (.int 0)) (S.cons (S.c (.int 0)) (S.nil))))))
noncomputable def LR4 : SS := S.ifs (S.tor (S.tst (S.cmp neD (.ex (S.fz (S.dget2 (.nm 4) (.nm 7) (S.c (.int 1))))) (.ex (S.c (.int 0))))) (S.tnot (S.tst (S.fnd allD [.ex (S.fz (Sem.c1_look_right))])))) (S.ret (S.up (S.c (.bl false)))) (S.pass)
noncomputable def LR5 : SS := S.ifs (S.tnot (S.tst (S.fnd allD [.ex (S.fz (Sem.c2_look_right))]))) (S.ret (S.up (S.c (.bl false)))) (S.pass)
noncomputable def LR6 : SS := S.ifs (S.tnot (S.tst (S.fnd allD [.ex (S.fz (Sem.c3_look_right))]))) (S.ret (S.up (S.c (.bl false)))) (S.pass)
noncomputable def LR7 : SS := S.ret (S.up (S.fnd allD [.ex (S.fz (Sem.c4_look_right))]))
theorem LR_eq : Sem.s_look_right = S.seq LR1 (S.seq LR2 (S.seq LR3 (S.seq LR4 (S.seq LR5 (S.seq LR6 (LR7)))))) := rfl
theorem still_free {s : DV.Slot} (h : S.still1 s = true) : s.free = true := by
  cases s with
  | no => rfl
  | val k l d => cases l with
    | false => rfl
    | true => cases k <;> cases h
/-- over the places of F -/
theorem over_far {g st n K : D} {F : Far} {k4 : Nat} (hk : k4 = 0 ∨ k4 = 1) (hl : F.length ≤ 900000) {s5 s6 s7 : DV.Slot} (g5 : S.still1 s5 = true) {tt : ST} {f : SF} (φ : List Int × Int → Option D) (h : ∀ e ∈ F, ∃ η', S.step (S.name 5) tt f (tupI e.1) (S.hide (eLR g st n K (farD F) 0 s5 s6 s7) [5]) = .ok ((φ e).map fun x => (0, x)) η' ∧ S.hide η' [5] = S.hide (eLR g st n K (farD F) 0 s5 s6 s7) [5]) :
    S.compX 0 [5] 4 (S.name 5) tt f (eLR g st n K (farD F) k4 s5 s6 s7) = .ok (1, .lst (F.filterMap φ)) (eLR g st n K (farD F) 0 s5 s6 s7) := by
  have kk := keys_farD F
  have dc := dct_farD F
  rw [compX_dct (by rcases hk with rfl | rfl <;> exact dc)]
  refine comp_pureM (fun e => tupI e.1) φ (η1 := eLR g st n K (farD F) 0 s5 s6 s7) ?_ (by simp [S.still, g5]) (small_ok (by omega)) (by simp) h
  generalize farD F = FD at *
  unfold S.keys
  rcases hk with rfl | rfl <;> simp -implicitDefEqProofs [kk]
def betB (n : Int) (e : List Int × Int) : Bool := decide (1 ≤ e.2) && decide (e.2 ≤ n)
theorem lc1_ok {g K : D} {st : Int} {n : Int} {B : List Int} {F : Far} (nd : (F.map (·.1)).Nodup) {k4 : Nat} (hk : k4 = 0 ∨ k4 = 1) (hl : F.length ≤ 900000) {s5 s6 : DV.Slot} (g5 : S.still1 s5 = true) :
    Sem.c1_look_right (eLR g (.int st) (.int n) K (farD F) k4 s5 s6 (vS (tupI B))) = .ok (1, .lst (F.filterMap fun e => if decide (e.1 ≠ B) = true then some (.bl (betB n e)) else none)) (eLR g (.int st) (.int n) K (farD F) 0 s5 s6 (vS (tupI B))) := by
  unfold Sem.c1_look_right
  refine over_far hk hl g5 _ fun e he => ?_
  have ix : ixA (farD F) (tupI e.1) = some (0, .int e.2) := ix_far ((fget_mem nd).mpr he)
  have ne : neD (tupI e.1) (tupI B) = some (!decide (e.1 = B)) := ne_tupI
  obtain ⟨P, d⟩ := e
  simp only at ix ne ⊢
  refine ⟨(eLR g (.int st) (.int n) K (farD F) 0 s5 s6 (vS (tupI B))).set 5 (vS (tupI P)), ?_, by simp [S.hide]⟩
  generalize farD F = FD at *
  unfold betB
  by_cases c : P = B
  · rw [decide_eq_true c] at ne
    have hd : decide (P ≠ B) = false := decide_eq_false (by simp [c])
    simp only [hd, Bool.false_eq_true, if_false, Option.map_none]
    generalize tupI B = T' at *
    generalize tupI P = T at *
    simp -implicitDefEqProofs [S.hide, ne]
  · rw [decide_eq_false c] at ne
    have hd : decide (P ≠ B) = true := decide_eq_true c
    simp only [hd, if_true, Option.map_some]
    generalize tupI B = T' at *
    generalize tupI P = T at *
    by_cases c1 : 1 ≤ d
    · simp -implicitDefEqProofs [S.hide, ne, ix, c1]
    · simp -implicitDefEqProofs [S.hide, ne, ix, c1]
theorem lc3_ok {p : Nat} {ts : List (List Int)} (G : Grid p ts) {K : D} {st : Int} {n : Int} {B : List Int} {F : Far} (nd : (F.map (·.1)).Nodup) (h3 : ∀ e ∈ F, Three e.1) (hl : F.length ≤ 900000) {s5 s6 : DV.Slot} (g5 : S.still1 s5 = true) :
    Sem.c3_look_right (eLR (gridD p ts) (.int st) (.int n) K (farD F) 0 s5 s6 (vS (tupI B))) = .ok (1, .lst (F.filterMap fun e => if decide (e.1 ≠ B) = true then some (.bl (nearB ts F e)) else none)) (eLR (gridD p ts) (.int st) (.int n) K (farD F) 0 s5 s6 (vS (tupI B))) := by
  unfold Sem.c3_look_right
  refine over_far (.inl rfl) hl g5 _ fun e he => ?_
  have nr := nearer_ok G ((fget_mem nd).mpr he) (h3 e he)
  have ne : neD (tupI e.1) (tupI B) = some (!decide (e.1 = B)) := ne_tupI
  obtain ⟨P, d⟩ := e
  simp only at nr ne ⊢
  refine ⟨(eLR (gridD p ts) (.int st) (.int n) K (farD F) 0 s5 s6 (vS (tupI B))).set 5 (vS (tupI P)), ?_, by simp [S.hide]⟩
  generalize nearB ts F (P, d) = b at *
  generalize farD F = FD at *
  generalize gridD p ts = g at *
  by_cases c : P = B
  · rw [decide_eq_true c] at ne
    have hd : decide (P ≠ B) = false := decide_eq_false (by simp [c])
    simp only [hd, Bool.false_eq_true, if_false, Option.map_none]
    generalize tupI B = T' at *
    generalize tupI P = T at *
    simp -implicitDefEqProofs [S.hide, ne]
  · rw [decide_eq_false c] at ne
    have hd : decide (P ≠ B) = true := decide_eq_true c
    simp only [hd, if_true, Option.map_some]
    generalize tupI B = T' at *
    generalize tupI P = T at *
    simp -implicitDefEqProofs [S.hide, ne, nr]
theorem lc4_ok {p : Nat} {ts : List (List Int)} (G : Grid p ts) {K : D} {st : Int} {n : Int} {s7 : DV.Slot} {F : Far} (nd : (F.map (·.1)).Nodup) (h3 : ∀ e ∈ F, Three e.1) (hl : F.length ≤ 900000) {s5 s6 : DV.Slot} (g5 : S.still1 s5 = true) :
    Sem.c4_look_right (eLR (gridD p ts) (.int st) (.int n) K (farD F) 0 s5 s6 s7) = .ok (1, .lst (F.filterMap fun e => if decide (e.2 < n) = true then some (.bl (allB ts F e)) else none)) (eLR (gridD p ts) (.int st) (.int n) K (farD F) 0 s5 s6 s7) := by
  unfold Sem.c4_look_right
  refine over_far (.inl rfl) hl g5 _ fun e he => ?_
  have ix : ixA (farD F) (tupI e.1) = some (0, .int e.2) := ix_far ((fget_mem nd).mpr he)
  have nr := allb_ok G ((fget_mem nd).mpr he) (h3 e he)
  obtain ⟨P, d⟩ := e
  simp only at nr ix ⊢
  refine ⟨(eLR (gridD p ts) (.int st) (.int n) K (farD F) 0 s5 s6 s7).set 5 (vS (tupI P)), ?_, by simp [S.hide]⟩
  generalize allB ts F (P, d) = b at *
  generalize farD F = FD at *
  generalize gridD p ts = g at *
  generalize tupI P = T at *
  by_cases c : d < n
  · simp -implicitDefEqProofs [S.hide, ix, nr, c]
  · simp -implicitDefEqProofs [S.hide, ix, c]
/-- pairs one behind the other -/
def prPr (e : (List Int × Int) × (List Int × Int)) : D := .tup [prD e.1, prD e.2]
theorem zip_pr (F : Far) : S.zipL (F.map prD) ((F.map prD).drop 1) = (F.zip (F.drop 1)).map prPr := by
  unfold S.zipL
  rw [← List.map_drop]
  apply List.ext_getElem
  · simp
  · intro i h1 h2
    simp [prPr]
theorem cut_one {ds : List D} : cutD ds (some 1) none = ds.drop 1 := by
  have := cut_from (ns := ds) (r := 1) (by decide)
  exact this
theorem lc2_ok {g st n K FD : D} {F : Far} (hK : IsLook F K) (hl : F.length ≤ 900000) {s5 s6 s7 : DV.Slot} :
    Sem.c2_look_right (eLR g st n K FD 0 s5 s6 s7) = .ok (1, .lst ((F.zip (F.drop 1)).filterMap fun e => some (.bl (decide (e.1.1 < e.2.1))))) (eLR g st n K FD 0 s5 s6 s7) := by
  have hz := zip_pr F
  unfold Sem.c2_look_right
  refine comp_pureM prPr (fun e => some (.bl (decide (e.1.1 < e.2.1)))) (xs := F.zip (F.drop 1)) (η1 := eLR g st n K FD 0 s5 s6 s7) ?_ (by rfl) (small_ok (by rw [List.length_zip]; omega)) (by simp) ?_
  · rw [← hz]
    have cc : cutD (F.map prD) (some 1) none = (F.map prD).tail := by rw [cut_one, List.drop_one]
    rcases hK with rfl | rfl
    · generalize F.map prD = M at *
      simp -implicitDefEqProofs [S.zip2, cc]
    · generalize F.map prD = M at *
      simp -implicitDefEqProofs [S.zip2, cc]
  · rintro ⟨⟨P, d⟩, ⟨O, x⟩⟩ he
    have lt := lt_rows (a := P) (b := O)
    unfold prPr prD
    simp only
    refine ⟨((eLR g st n K FD 0 s5 s6 s7).set 8 (vS (.tup [tupI P, .int d]))).set 9 (vS (.tup [tupI O, .int x])), ?_, by simp [S.hide]⟩
    generalize tupI P = T at *
    generalize tupI O = U at *
    simp -implicitDefEqProofs [S.hide, lt]
/-- what look_right tells -/
def lookB (p : Nat) (ts : List (List Int)) (B : List Int) (n : Int) (F : Far) : Bool :=
  scanB (okP p) [] F && (decide ((fget F B).getD 1 = 0) && (F.all fun e => !decide (e.1 ≠ B) || betB n e)) && ((F.zip (F.drop 1)).all fun e => decide (e.1.1 < e.2.1)) &&
    (F.all fun e => !decide (e.1 ≠ B) || nearB ts F e) && (F.all fun e => !decide (e.2 < n) || allB ts F e)
theorem okP_nodup {p : Nat} {F : Far} (h : scanB (okP p) [] F = true) : (F.map (·.1)).Nodup := by
  rw [scan_iff] at h
  rw [List.nodup_iff_pairwise_ne, List.pairwise_iff_getElem]
  intro i j hi hj hij e
  rw [List.length_map] at hi hj
  rw [List.getElem_map, List.getElem_map] at e
  have k := h (F.take j) F[j] (F.drop (j + 1)) (by rw [← List.drop_eq_getElem_cons hj, List.take_append_drop])
  unfold okP at k
  rw [List.nil_append] at k
  simp only [Bool.and_eq_true, Bool.not_eq_true'] at k
  have : hasP (F.take j) F[j].1 = true := hasP_iff.mpr (List.mem_map.mpr ⟨F[i], by rw [List.mem_take_iff_getElem]; exact ⟨i, by omega, rfl⟩, e⟩)
  rw [this] at k
  cases k.2
theorem seq_ret {f g : SS} {η η1 : DV.Env} {k : Nat} {d : D} (h : f η = .ok (.rt k d) η1) : S.seq f g η = .ok (.rt k d) η1 := by
  show (f η).bind _ = _
  rw [h]; rfl
theorem run_lr {g st n K FD : D} {k : Nat} {s5 s6 s7 : DV.Slot} {b : Bool} (h : Sem.s_look_right [vS g, vS st, vS n, vS K, .no, .no, .no, .no, .no, .no] = .ok (.rt 0 (.bl b)) (eLR g st n K FD k s5 s6 s7)) : Sem.f_look_right [(0, g), (0, st), (0, n), (0, K)] = .ok 0 (.bl b) [.no, .no, .no, .no] := by
  rw [Sem.f_look_right_eq]
  generalize Sem.s_look_right = Z at *
  simp -implicitDefEqProofs [v_run, h]
theorem lr1_ok {g st n K : D} : LR1 [vS g, vS st, vS n, vS K, .no, .no, .no, .no, .no, .no] = .ok .nx (eLR g st n K (farD []) 1 .no .no .no) := by
  have e : farD [] = .dT [] := rfl
  rw [e]
  unfold LR1
  simp -implicitDefEqProofs []
theorem lr3_ok {g n K FD : D} {st : Int} {s5 s6 : DV.Slot} : LR3 (eLR g (.int st) n K FD 1 s5 s6 .no) = .ok .nx (eLR g (.int st) n K FD 1 s5 s6 (vS (tupI [st, 0, 0]))) := by
  unfold LR3
  simp -implicitDefEqProofs [tupI, small_ok]
theorem lr4_ok {g st n K FD B : D} {x : Int} {c : Bool} {X : List D} {s5 s6 : DV.Slot} (dc : dctQ FD = some ()) (e : dget2D FD B (.int 1) = some (0, .int x)) (ec : Sem.c1_look_right (eLR g st n K FD 1 s5 s6 (vS B)) = .ok (1, .lst X) (eLR g st n K FD 0 s5 s6 (vS B))) (al : allD [.lst X] = some (.bl c)) :
    ∃ k, (k = 0 ∨ k = 1) ∧ LR4 (eLR g st n K FD 1 s5 s6 (vS B)) = (if (decide (x = 0) && c) = true then .ok .nx (eLR g st n K FD 0 s5 s6 (vS B)) else .ok (.rt 0 (.bl false)) (eLR g st n K FD k s5 s6 (vS B))) := by
  unfold LR4
  by_cases h : x = 0
  · cases c with
    | true => exact ⟨0, .inl rfl, by simp -implicitDefEqProofs [dc, e, ec, al, h]⟩
    | false => exact ⟨0, .inl rfl, by simp -implicitDefEqProofs [dc, e, ec, al, h]⟩
  · exact ⟨1, .inr rfl, by simp -implicitDefEqProofs [dc, e, h]⟩
theorem lr5_ok {η : DV.Env} {X : List D} {c : Bool} (ec : Sem.c2_look_right η = .ok (1, .lst X) η) (al : allD [.lst X] = some (.bl c)) : LR5 η = if c = true then .ok .nx η else .ok (.rt 0 (.bl false)) η := by
  unfold LR5
  cases c with
  | true => simp -implicitDefEqProofs [ec, al]
  | false => simp -implicitDefEqProofs [ec, al]
theorem lr6_ok {η : DV.Env} {X : List D} {c : Bool} (ec : Sem.c3_look_right η = .ok (1, .lst X) η) (al : allD [.lst X] = some (.bl c)) : LR6 η = if c = true then .ok .nx η else .ok (.rt 0 (.bl false)) η := by
  unfold LR6
  cases c with
  | true => simp -implicitDefEqProofs [ec, al]
  | false => simp -implicitDefEqProofs [ec, al]
theorem lr7_ok {η : DV.Env} {X : List D} {c : Bool} (ec : Sem.c4_look_right η = .ok (1, .lst X) η) (al : allD [.lst X] = some (.bl c)) : LR7 η = .ok (.rt 0 (.bl c)) η := by
  unfold LR7
  simp -implicitDefEqProofs [ec, al]
theorem look_right_ok {p : Nat} {ts : List (List Int)} (G : Grid p ts) {st n : Int} {F : Far} {K : D} (hK : IsLook F K) (h3 : ∀ e ∈ F, Three e.1) (hl : F.length ≤ 900000) :
    Sem.f_look_right [(0, gridD p ts), (0, .int st), (0, .int n), (0, K)] = .ok 0 (.bl (lookB p ts [st, 0, 0] n F)) [.no, .no, .no, .no] := by
  obtain ⟨η1, l1, l2⟩ := lr_loop (p := p) (ts := ts) (st := .int st) (n := .int n) hl h3 hK
  cases c0 : scanB (okP p) [] F with
  | false =>
    obtain ⟨a, FD, s5, s6, rfl⟩ := l2 c0
    have e : lookB p ts [st, 0, 0] n F = false := by unfold lookB; rw [c0]; rfl
    rw [e]
    refine run_lr (FD := FD) (k := 1) (s5 := s5) (s6 := s6) (s7 := .no) ?_
    rw [LR_eq, seq_ok lr1_ok]
    exact seq_ret (show LR2 _ = _ from a)
  | true =>
    have nd := okP_nodup c0
    obtain ⟨a, s5, s6, g5, rfl⟩ := l1 c0
    obtain ⟨k, hk, e4⟩ := lr4_ok (g := gridD p ts) (st := .int st) (n := .int n) (K := K) (s6 := s6) (dctQ_farD F) get_far (lc1_ok nd (.inr rfl) hl g5) (all_filt (c := fun e => decide (e.1 ≠ [st, 0, 0])) (b := betB n))
    have e5 := lr5_ok (lc2_ok (g := gridD p ts) (st := .int st) (n := .int n) (FD := farD F) (s5 := s5) (s6 := s6) (s7 := vS (tupI [st, 0, 0])) hK hl) all_map1
    have e6 := lr6_ok (lc3_ok G (K := K) (st := st) (n := n) (B := [st, 0, 0]) nd h3 hl (s6 := s6) g5) (all_filt (c := fun e => decide (e.1 ≠ [st, 0, 0])) (b := nearB ts F))
    have e7 := lr7_ok (lc4_ok G (K := K) (st := st) (n := n) (s7 := vS (tupI [st, 0, 0])) nd h3 hl (s6 := s6) g5) (all_filt (c := fun e => decide (e.2 < n)) (b := allB ts F))
    unfold lookB
    rw [c0, Bool.true_and]
    cases b4 : (decide ((fget F [st, 0, 0]).getD 1 = 0) && F.all fun e => !decide (e.1 ≠ [st, 0, 0]) || betB n e) with
    | false =>
      rw [b4] at e4
      refine run_lr (FD := farD F) (k := k) (s5 := s5) (s6 := s6) (s7 := vS (tupI [st, 0, 0])) ?_
      rw [LR_eq, seq_ok lr1_ok, seq_ok (show LR2 _ = _ from a), seq_ok lr3_ok]
      exact seq_ret (e4.trans (if_neg (by simp)))
    | true =>
      rw [b4, if_pos rfl] at e4
      rw [Bool.true_and]
      refine run_lr (FD := farD F) (k := 0) (s5 := s5) (s6 := s6) (s7 := vS (tupI [st, 0, 0])) ?_
      rw [LR_eq, seq_ok lr1_ok, seq_ok (show LR2 _ = _ from a), seq_ok lr3_ok, seq_ok e4]
      cases b5 : ((F.zip (F.drop 1)).all fun e => decide (e.1.1 < e.2.1)) with
      | false =>
        rw [b5] at e5
        exact seq_ret (e5.trans (if_neg (by simp)))
      | true =>
        rw [b5, if_pos rfl] at e5
        rw [seq_ok e5, Bool.true_and]
        cases b6 : (F.all fun e => !decide (e.1 ≠ [st, 0, 0]) || nearB ts F e) with
        | false =>
          rw [b6] at e6
          exact seq_ret (e6.trans (if_neg (by simp)))
        | true =>
          rw [b6, if_pos rfl] at e6
          rw [seq_ok e6, Bool.true_and]
          exact e7
end Maths

namespace Maths
open DV L2 PySem
/-- a look that is right, clause by clause -/
structure LookR (p : Nat) (ts : List (List Int)) (B : List Int) (n : Int) (F : Far) : Prop where
  pl : ∀ e ∈ F, 0 ≤ e.1.headD (-1) ∧ e.1.headD (-1) < p
  up : Rising (F.map (·.1))
  at0 : fget F B = some 0
  bet : ∀ e ∈ F, e.1 ≠ B → 1 ≤ e.2 ∧ e.2 ≤ n
  near : ∀ e ∈ F, e.1 ≠ B → ∃ O ∈ besideL ts e.1, fget F O = some (e.2 - 1)
  all : ∀ e ∈ F, e.2 < n → ∀ O ∈ besideL ts e.1, ∃ x, fget F O = some x ∧ ((x - e.2).natAbs : Int) ≤ 1
theorem zip_rising {F : Far} : ((F.zip (F.drop 1)).all fun e => decide (e.1.1 < e.2.1)) = true ↔ Rising (F.map (·.1)) := by
  rw [List.all_eq_true]
  constructor
  · intro h i hi
    rw [List.length_map] at hi
    have := h (F[i], F[i + 1]) (List.mem_iff_getElem.mpr ⟨i, by rw [List.length_zip, List.length_drop]; omega, by simp [Nat.add_comm]⟩)
    simp only [List.getElem_map]
    exact of_decide_eq_true this
  · intro h e he
    obtain ⟨i, hi, rfl⟩ := List.mem_iff_getElem.mp he
    rw [List.length_zip, List.length_drop] at hi
    have := h i (by rw [List.length_map]; omega)
    simp only [List.getElem_map] at this
    simp only [List.getElem_zip, List.getElem_drop, decide_eq_true_eq]
    rw [show F[1 + i]'(by omega) = F[i + 1]'(by omega) by congr 1; omega]
    exact this
theorem split_mem {F : Far} {e : List Int × Int} (h : e ∈ F) : ∃ pre post, F = pre ++ e :: post := by
  obtain ⟨a, b, c⟩ := List.append_of_mem h
  exact ⟨a, b, c⟩
theorem look_iff {p : Nat} {ts : List (List Int)} {B : List Int} {n : Int} {F : Far} (hn : 0 ≤ n) : lookB p ts B n F = true ↔ LookR p ts B n F := by
  unfold lookB
  simp only [Bool.and_eq_true]
  rw [zip_rising]
  constructor
  · rintro ⟨⟨⟨⟨h1, h2, h3⟩, h4⟩, h5⟩, h6⟩
    have nd := okP_nodup h1
    rw [scan_iff] at h1
    refine ⟨fun e he => ?_, h4, ?_, fun e he hb => ?_, fun e he hb => ?_, fun e he hb O hO => ?_⟩
    · obtain ⟨pre, post, q⟩ := split_mem he
      have := h1 pre e post q
      unfold okP at this
      simp only [Bool.and_eq_true, decide_eq_true_eq] at this
      exact this.1
    · have h2 := of_decide_eq_true h2
      cases c : fget F B with
      | none => rw [c] at h2; cases h2
      | some x => rw [c] at h2; exact congrArg some h2
    · have := List.all_eq_true.mp h3 e he
      unfold betB at this
      simp only [ne_eq, hb, not_false_eq_true, decide_true, Bool.not_true, Bool.false_or, Bool.and_eq_true, decide_eq_true_eq] at this
      exact this
    · have := List.all_eq_true.mp h5 e he
      simp only [ne_eq, hb, not_false_eq_true, decide_true, Bool.not_true, Bool.false_or] at this
      unfold nearB at this
      obtain ⟨O, a, b⟩ := List.any_eq_true.mp this
      refine ⟨O, a, ?_⟩
      have b := of_decide_eq_true b
      cases d : fget F O with
      | none =>
        have n0 : B ∉ F.map (·.1) ∨ True := .inr trivial
        rw [d] at b
        have k := List.all_eq_true.mp h3 e he
        unfold betB at k
        simp only [ne_eq, hb, not_false_eq_true, decide_true, Bool.not_true, Bool.false_or, Bool.and_eq_true, decide_eq_true_eq] at k
        have b : (-9 : Int) = e.2 - 1 := b
        omega
      | some x => rw [d] at b; exact congrArg some b
    · have := List.all_eq_true.mp h6 e he
      simp only [hb, decide_true, Bool.not_true, Bool.false_or] at this
      unfold allB at this
      have := List.all_eq_true.mp this O hO
      unfold closeB at this
      cases d : fget F O with
      | none => rw [d] at this; cases this
      | some x => rw [d] at this; exact ⟨x, rfl, of_decide_eq_true this⟩
  · rintro ⟨h1, h2, h3, h4, h5, h6⟩
    have nd := rising_nodup h2
    refine ⟨⟨⟨⟨?_, ?_, ?_⟩, h2⟩, ?_⟩, ?_⟩
    · rw [scan_iff]
      intro pre a post q
      rw [List.nil_append]
      unfold okP
      obtain ⟨x1, x2⟩ := h1 a (by rw [q]; simp)
      rw [decide_eq_true x1, decide_eq_true x2]
      cases c : hasP pre a.1 with
      | false => rfl
      | true =>
        have m := hasP_iff.mp c
        rw [q, List.map_append, List.nodup_append] at nd
        exact absurd rfl (nd.2.2 _ m a.1 (by simp))
    · rw [h3]; rfl
    · rw [List.all_eq_true]
      intro e he
      by_cases hb : e.1 = B
      · simp [hb]
      · obtain ⟨x1, x2⟩ := h4 e he hb
        simp [hb, betB, x1, x2]
    · rw [List.all_eq_true]
      intro e he
      by_cases hb : e.1 = B
      · simp [hb]
      · obtain ⟨O, a, b⟩ := h5 e he hb
        have : nearB ts F e = true := List.any_eq_true.mpr ⟨O, a, by rw [b]; simp⟩
        simp [this]
    · rw [List.all_eq_true]
      intro e he
      by_cases hb : e.2 < n
      · have : allB ts F e = true := List.all_eq_true.mpr fun O hO => by
          obtain ⟨x, a, b⟩ := h6 e he hb O hO
          unfold closeB
          rw [a]; exact decide_eq_true b
        simp [this]
      · simp [hb]
/-! ### a look of rings is right -/
theorem leDat_prD {a b : List Int × Int} (ha : Three a.1) (hb : Three b.1) (h : leDat (prD a) (prD b) = true) (n : a.1 ≠ b.1) : a.1 < b.1 := by
  have e : leDat (prD a) (prD b) = !PySem.W.dataLt (py (prD b)) (py (prD a)) := rfl
  rw [e, py_prD, py_prD] at h
  have al : PySem.W.alike (.tuple (b.1.map PyData.int)) (.tuple (a.1.map PyData.int)) = true := PySem.W.alike_ints b.1 a.1
  have ne : PyData.eqv (.tuple (b.1.map PyData.int)) (.tuple (a.1.map PyData.int)) = false := by
    have k := eqv_nb (a := tupI b.1) (b := tupI a.1) (by simp) (by simp)
    unfold eqv at k
    rw [py_tupI, py_tupI] at k
    cases c : PyData.eqv (.tuple (b.1.map PyData.int)) (.tuple (a.1.map PyData.int)) with
    | false => rfl
    | true => exact absurd (tupI_inj (k.mp c)).symm n
  rw [PySem.W.dataLt_pair al (by rfl), ne] at h
  simp only [Bool.false_eq_true, if_false, Bool.not_eq_true'] at h
  rw [PySem.W.dataLt_tuple] at h
  have h : PySem.W.rowLt (b.1.map PyData.int) (a.1.map PyData.int) = false := h
  rw [PySem.W.dataLt_ints] at h
  have h := of_decide_eq_false h
  rcases List.le_iff_lt_or_eq.mp (List.not_lt.mp h) with z | z
  · exact z
  · exact absurd z n
def sortF (F : Far) : Far := F.mergeSort fun a b => leDat (prD a) (prD b)
theorem sortF_map (F : Far) : (F.map prD).mergeSort leDat = (sortF F).map prD := (List.map_mergeSort (r := fun a b => leDat (prD a) (prD b)) (s := leDat) (f := prD) (fun _ _ _ _ => rfl)).symm
theorem sortF_perm (F : Far) : (sortF F).Perm F := List.mergeSort_perm _ _
theorem sortF_rising {F : Far} (h3 : ∀ e ∈ F, Three e.1) (nd : (F.map (·.1)).Nodup) : Rising ((sortF F).map (·.1)) := by
  have pw : (sortF F).Pairwise fun a b => leDat (prD a) (prD b) = true := List.pairwise_mergeSort (le := fun a b => leDat (prD a) (prD b)) (fun a b c => leDat_trans (prD a) (prD b) (prD c)) (fun a b => leDat_total (prD a) (prD b)) F
  have nd2 : ((sortF F).map (·.1)).Nodup := ((sortF_perm F).map _).symm.nodup nd
  intro i hi
  rw [List.length_map] at hi
  have h := List.pairwise_iff_getElem.mp pw i (i + 1) (by omega) hi (by omega)
  have n := List.pairwise_iff_getElem.mp (List.nodup_iff_pairwise_ne.mp nd2) i (i + 1) (by rw [List.length_map]; omega) (by rw [List.length_map]; exact hi) (by omega)
  simp only [List.getElem_map] at n ⊢
  exact leDat_prD (h3 _ ((sortF_perm F).mem_iff.mp (List.getElem_mem _))) (h3 _ ((sortF_perm F).mem_iff.mp (List.getElem_mem _))) h n
theorem rings_look {p : Nat} {ts : List (List Int)} (G : Grid p ts) {bes : Bes} (hg : Goes bes p) (hb : ∀ P O, O ∈ bes P ↔ O ∈ besideL ts P) {st : Int} (h0 : 0 ≤ st ∧ st < p) (n : Nat) : LookR p ts [st, 0, 0] n (sortF (ringsL bes st n).1) := by
  have R := rings_shape hg h0 n
  have mem : ∀ e, e ∈ sortF (ringsL bes st n).1 ↔ e ∈ (ringsL bes st n).1 := fun e => (sortF_perm _).mem_iff
  have h3 : ∀ e ∈ (ringsL bes st n).1, Three e.1 := fun e he => (R.box e he).1.three
  have up := sortF_rising h3 R.nd
  have nd := rising_nodup up
  have get : ∀ P d, fget (sortF (ringsL bes st n).1) P = some d ↔ (P, d) ∈ (ringsL bes st n).1 := fun P d => by rw [fget_mem nd, mem]
  have zero : ∀ e ∈ (ringsL bes st n).1, e.1 ≠ [st, 0, 0] → 1 ≤ e.2 := fun e he hne => by
    obtain ⟨_, b1, b2⟩ := R.box e he
    have : e.2 ≠ 0 := fun z => hne (far_zero (n := n) (by rw [← z]; exact he))
    omega
  have sym : ∀ {P O : List Int}, Three P → Three O → O ∈ bes P → P ∈ bes O := fun {P O} tP tO h => (hb O P).mpr (beside_sym tO ((hb P O).mp h))
  refine ⟨fun e he => ?_, up, (get _ _).mpr (far_start n), fun e he hne => ?_, fun e he hne => ?_, fun e he hlt O hO => ?_⟩
  · obtain ⟨⟨q, u, v, eq, b1, b2, _⟩, _⟩ := R.box e ((mem e).mp he)
    rw [eq]
    exact ⟨b1, b2⟩
  · obtain ⟨_, b1, b2⟩ := R.box e ((mem e).mp he)
    exact ⟨zero e ((mem e).mp he) hne, b2⟩
  · obtain ⟨S, a, b⟩ := far_pred hg h0 (P := e.1) (d := e.2) ((mem e).mp he) (zero e ((mem e).mp he) hne)
    exact ⟨S, (hb _ _).mp (sym (h3 _ a) (h3 _ ((mem e).mp he)) b), (get _ _).mpr a⟩
  · have he' := (mem e).mp he
    obtain ⟨x, x0, x1, x2⟩ := far_step hg h0 (n := n) (P := e.1) (d := e.2) he' ((hb _ _).mpr hO) (m := n) (by omega)
    refine ⟨x, (get _ _).mpr x2, ?_⟩
    have hx : x ≤ n := (R.box _ x2).2.2
    by_cases c : x < n
    · obtain ⟨y, y0, y1, y2⟩ := far_step hg h0 (n := n) (P := O) (d := x) x2 (sym (h3 e he') (h3 _ x2) ((hb _ _).mpr hO)) (m := n) (by omega)
      have := far_one hg h0 y2 he'
      omega
    · omega
end Maths

namespace Maths
open DV L2 PySem
/-! ### looks of a grid, as dicts -/
theorem tellsL {p : Nat} {ts : List (List Int)} (G : Grid p ts) : W_rings_from.Tells (gridD p ts) (besideL ts) := by
  refine ⟨fun q u v => beside_ok G q u v, fun P => ?_, fun P O h => beside_three G h⟩
  have := besideL_len (ts := ts) (P := P)
  have := G.len
  omega
theorem look_core {g : D} {st n : Int} {KD : List (List Key × D)} {ks : List (List Key × Int)} (e : Sem.f_rings_from [(0, g), (0, .int st), (0, .int n)] = .ok 1 (.dT KD) [.no, .no, .no]) (k : intKV KD = some ks) (so : sortOk (ks.map pairT) = true) :
    Sem.f_look_from [(0, g), (0, .int st), (0, .int n)] = .ok 1 (.lst ((ks.map pairT).mergeSort leDat)) [.no, .no, .no] := by
  (rw [Sem.f_look_from_eq]; unfold Sem.s_look_from)
  simp -implicitDefEqProofs [v_run, e, k, so]
/-- the look of a start -/
abbrev lkF (ts : List (List Int)) (st : Int) (n : Nat) : Far := sortF (ringsL (besideL ts) st n).1
theorem look_ok {p : Nat} {ts : List (List Int)} (G : Grid p ts) {st : Int} (hs : 0 ≤ st ∧ st < p) {n : Nat} (hn : n ≤ 12) : Sem.f_look_from [(0, gridD p ts), (0, .int st), (0, .int n)] = .ok 1 (.lst ((lkF ts st n).map prD)) [.no, .no, .no] := by
  have e := W_rings_from.rings_ok (tellsL G) (goesL G) G.le hs (n := n) (by omega)
  rw [farD_eq] at e
  have so := sortOk_pr (ringsL (besideL ts) st n).1
  rw [← sortF_map]
  rw [← pairs_far] at so ⊢
  exact look_core e (intKV_far _) so
structure LkOk (p : Nat) (ts : List (List Int)) (st : Int) (n : Nat) (F : Far) : Prop where
  tells : ∀ P d, fget F P = some d ↔ (P, d) ∈ (ringsL (besideL ts) st n).1
  mem : ∀ e, e ∈ F ↔ e ∈ (ringsL (besideL ts) st n).1
  box : ∀ e ∈ F, InBox p n e.1 ∧ 0 ≤ e.2 ∧ e.2 ≤ n
  nd : (F.map (·.1)).Nodup
  len : F.length ≤ 4 * ((2 * n + 1) * (2 * n + 1))
  pos : 0 < F.length
theorem lk_ok {p : Nat} {ts : List (List Int)} (G : Grid p ts) {st : Int} (hs : 0 ≤ st ∧ st < p) (n : Nat) : LkOk p ts st n (lkF ts st n) := by
  have R := rings_shape (goesL G) hs n
  have pm := sortF_perm (ringsL (besideL ts) st n).1
  refine ⟨fun P d => far_tells G hs pm, fun e => pm.mem_iff, fun e he => R.box e (pm.mem_iff.mp he), (pm.map _).symm.nodup R.nd, ?_, ?_⟩
  · rw [pm.length_eq]
    exact Nat.le_trans R.few.1 (Nat.mul_le_mul_right _ G.le)
  · rw [pm.length_eq]
    exact List.length_pos_of_mem (far_start n)
theorem LkOk.few {p : Nat} {ts : List (List Int)} {st : Int} {n : Nat} {F : Far} (h : LkOk p ts st n F) (hn : n ≤ 12) : F.length ≤ 2500 := by
  have l3 : (2 * n + 1) * (2 * n + 1) ≤ 625 := Nat.le_trans (Nat.mul_le_mul (show 2 * n + 1 ≤ 25 by omega) (show 2 * n + 1 ≤ 25 by omega)) (by decide)
  have := h.len
  omega
theorem LkOk.three {p : Nat} {ts : List (List Int)} {st : Int} {n : Nat} {F : Far} (h : LkOk p ts st n F) : ∀ e ∈ F, Three e.1 := fun e he => (h.box e he).1.three
/-! ### dicts of pairs -/
theorem prs_far : ∀ F : Far, prsOf (F.map prD) = some (F.map fun e => (keyI e.1, D.int e.2))
  | [] => rfl
  | e :: F => by
    show (keysD (e.1.map .int)).bind (fun k => (prsOf (F.map prD)).map ((k, D.int e.2) :: ·)) = _
    rw [keysD_ints, prs_far F]
    rfl
theorem dict_far {F : Far} (nd : (F.map (·.1)).Nodup) : dictD [.lst (F.map prD)] = some (1, farD F) := by
  rw [farD_eq]
  show ((prsOf (F.map prD)).bind fun kvs => if (kvs.map (·.1)).Nodup then some (1, D.dT kvs) else none) = _
  rw [prs_far]
  show (if ((F.map fun e => (keyI e.1, D.int e.2)).map (·.1)).Nodup then some (1, D.dT (F.map fun e => (keyI e.1, D.int e.2))) else none) = _
  rw [if_pos]
  rw [List.map_map]
  have : (F.map ((fun x : List Key × D => x.1) ∘ fun e => (keyI e.1, D.int e.2))) = (F.map (·.1)).map keyI := by rw [List.map_map]; rfl
  rw [this]
  exact List.Pairwise.map _ (fun a b h e => h (keyI_inj e)) nd
theorem sorted_far {p : Nat} {ts : List (List Int)} {st : Int} {n : Nat} {F : Far} (h : LkOk p ts st n F) : sortedA [farD F] = some (1, .lst (((F.map (·.1)).mergeSort leI).map tupI)) := by
  unfold farD
  rw [sorted_dI (n := 3) (by decide) (fun q hq => by
    obtain ⟨e, he, rfl⟩ := List.mem_map.mp hq
    obtain ⟨a, b, c, w⟩ := h.three e he
    show e.1.length = 3
    rw [w]; rfl), List.map_map]
  rfl
theorem its_far (F : Far) : sortOk ((F.map fun e => (keyI e.1, e.2)).map pairT) = true ∧ ((F.map fun e => (keyI e.1, e.2)).map pairT).mergeSort leDat = (sortF F).map prD := by
  have so := sortOk_pr F
  rw [pairs_far]
  exact ⟨so, sortF_map F⟩
/-! ### shells -/
theorem vals_far {F : Far} : (F.map fun e => (keyI e.1, D.int e.2)).map (·.2) = (F.map (·.2)).map D.int := by rw [List.map_map, List.map_map]; rfl
theorem eqv_int (a b : Int) : eqv (.int a) (.int b) = decide (a = b) := by
  have h := eqv_nb (a := D.int a) (b := D.int b) rfl rfl
  rw [Bool.eq_iff_iff, h, decide_eq_true_eq, D.int.injEq]
theorem cnt_ints (l : List Int) (x : Int) : cntD (.lst (l.map .int)) (.int x) = some (.int (l.countP fun y => decide (y = x) : Nat)) := by
  have ok : okD 16 (.lst (l.map D.int)) = true := by simp
  show (if okD 16 (.int x) = true ∧ okD 16 (.lst (l.map D.int)) = true then some (D.int (((l.map D.int).countP fun z => eqv z (.int x) : Nat) : Int)) else none) = _
  rw [if_pos ⟨by simp, ok⟩, List.countP_map]
  have : ((fun z => eqv z (.int x)) ∘ D.int) = fun y => decide (y = x) := funext fun y => eqv_int y x
  rw [this]
/-- how many are so far -/
def shl (F : Far) (k : Int) : Int := ((F.map (·.2)).countP fun y => decide (y = k) : Nat)
end Maths

namespace Maths
open DV L2 PySem
def shD (n : Nat) (F : Far) : List Int := (List.range (n + 1)).map fun k : Nat => shl F (k : Int)
theorem shD_perm {F F' : Far} (h : F.Perm F') (n : Nat) : shD n F = shD n F' := by
  unfold shD shl
  refine List.map_congr_left fun k _ => ?_
  rw [(h.map _).countP_eq]
theorem shD_snoc {F : Far} {e : List Int × Int} {n m : Nat} (he : e.2 = (m : Int)) (hm : m < n + 1) : shD n (F ++ [e]) = (shD n F).set m ((shD n F)[m]'(by unfold shD; simp; omega) + 1) := by
  unfold shD
  refine List.ext_getElem (by simp) fun i h1 h2 => ?_
  rw [List.getElem_set]
  simp only [List.getElem_map, List.getElem_range]
  unfold shl
  rw [List.map_append, List.countP_append]
  split
  · rename_i w
    subst w
    simp [he]
  · rename_i w
    have : ¬ e.2 = (i : Int) := by omega
    simp [this]
theorem shell_turn {g : D} {st n : Int} {FD : D} {cs : List Int} {P : D} {m : Nat} (ix : ixA FD P = some (0, .int m)) (hml : m < cs.length) (s5 : DV.Slot) (f5 : s5.free = true) :
    S.turn (S.name 5) Sem.b1_shells_near P [.val 0 false g, .val 0 false (.int st), .val 0 false (.int n), .val 1 false (.lst (cs.map .int)), .val 0 false FD, s5] =
      .ok .nx [.val 0 false g, .val 0 false (.int st), .val 0 false (.int n), .val 1 false (.lst ((cs.set m (cs[m] + 1)).map .int)), .val 0 false FD, .val 0 false P] := by
  have a : atI cs (m : Int) = some cs[m] := by
    rw [at_nat (by omega)]
    exact List.getElem?_eq_getElem hml
  have st' : stD (.lst (cs.map .int)) (.int (m : Int)) (.int (cs[m] + 1)) = some (.lst ((cs.set m (cs[m] + 1)).map .int)) := by
    show (ixN (cs.map D.int).length (m : Int)).map (fun i => D.lst ((cs.map D.int).set i (.int (cs[m] + 1)))) = _
    have e : ixN (cs.map D.int).length (m : Int) = some m := by
      rw [List.length_map]
      unfold ixN
      rw [if_pos (by omega), if_pos (by omega)]
      rfl
    rw [e]
    show some (D.lst ((cs.map D.int).set m (.int (cs[m] + 1)))) = _
    rw [List.map_set]
  unfold Sem.b1_shells_near
  generalize (cs.set m (cs[m] + 1)).map D.int = Z at *
  simp -implicitDefEqProofs [f5, ix, a, st']
theorem zeros_ok {n : Nat} (hn : n ≤ 100) : mulD (.lst [.int 0]) (.int ((n : Int) + 1)) = some (1, .lst ((List.replicate (n + 1) (0 : Int)).map .int)) := by
  have z : ((n : Int) + 1).toNat = n + 1 := by omega
  have c : (n : Int) + 1 ≤ 1000000 ∧ -1000000 ≤ (n : Int) + 1 ∧ 1 * ((n : Int) + 1).toNat ≤ 1000000 := ⟨by omega, by omega, by omega⟩
  generalize hk : (n : Int) + 1 = k at *
  rw [← zeros_flat, ← z]
  simp only [mulD, List.length_cons, List.length_nil, Nat.zero_add]
  rw [if_pos c]
theorem forsD_ok {j : Nat} {tg : SG} {b : SS} {η η' : DV.Env} (hd : isDct (slotA η[j]?) = true) (h : S.fors (S.keys j) tg b η = .ok .nx η') : S.forsX j tg b η = .ok .nx η' := by
  rw [forsX_dct hd]
  unfold S.forsD
  rw [h]
theorem shells_loop {g FD : D} {st n : Int} {Z Z' KL : List D} {s5 : DV.Slot} (dc : isDct (some FD) = true) (k : keysOf FD = some KL)
    (el : S.forL (S.name 5) Sem.b1_shells_near KL [.val 0 false g, .val 0 false (.int st), .val 0 false (.int n), .val 1 false (.lst Z), .val 0 false FD, .no] = .ok .nx [.val 0 false g, .val 0 false (.int st), .val 0 false (.int n), .val 1 false (.lst Z'), .val 0 false FD, s5]) :
    Sem.l1_shells_near [.val 0 false g, .val 0 false (.int st), .val 0 false (.int n), .val 1 false (.lst Z), .val 1 false FD, .no] = .ok .nx [.val 0 false g, .val 0 false (.int st), .val 0 false (.int n), .val 1 false (.lst Z'), .val 0 false FD, s5] := by
  unfold Sem.l1_shells_near
  refine forsD_ok dc ?_
  rw [v_fors]
  unfold S.keys
  simp -implicitDefEqProofs [k, el]
theorem shells_fin {g FD : D} {st n : Int} {Z Z' : List D} {s5 : DV.Slot} (rp : mulD (.lst [.int 0]) (.int (n + 1)) = some (1, .lst Z)) (e : Sem.f_rings_from [(0, g), (0, .int st), (0, .int n)] = .ok 1 FD [.no, .no, .no])
    (el : Sem.l1_shells_near [.val 0 false g, .val 0 false (.int st), .val 0 false (.int n), .val 1 false (.lst Z), .val 1 false FD, .no] = .ok .nx [.val 0 false g, .val 0 false (.int st), .val 0 false (.int n), .val 1 false (.lst Z'), .val 0 false FD, s5]) :
    Sem.f_shells_near [(0, g), (0, .int st), (0, .int n)] = .ok 1 (.lst Z') [.no, .no, .no] := by
  (rw [Sem.f_shells_near_eq]; unfold Sem.s_shells_near)
  simp -implicitDefEqProofs [v_run, rp, e, el, small_ok]
theorem shells_ok {p : Nat} {ts : List (List Int)} (G : Grid p ts) {st : Int} (hs : 0 ≤ st ∧ st < p) {n : Nat} (hn : n ≤ 12) : Sem.f_shells_near [(0, gridD p ts), (0, .int st), (0, .int n)] = .ok 1 (.lst ((shD n (lkF ts st n)).map .int)) [.no, .no, .no] := by
  rw [shD_perm (sortF_perm _)]
  have e := W_rings_from.rings_ok (tellsL G) (goesL G) G.le hs (n := n) (by omega)
  have R := rings_shape (goesL G) hs n
  have bx := R.box
  have nd := R.nd
  clear R
  generalize (ringsL (besideL ts) st n).1 = F at *
  have lp := forL_all (g := S.name 5) (body := Sem.b1_shells_near) (ds := F.map fun e => tupI e.1) (η := [.val 0 false (gridD p ts), .val 0 false (.int st), .val 0 false (.int n), .val 1 false (.lst ((List.replicate (n + 1) (0 : Int)).map .int)), .val 0 false (farD F), .no])
    (fun i η => ∃ (s5 : DV.Slot), s5.free = true ∧ η = [.val 0 false (gridD p ts), .val 0 false (.int st), .val 0 false (.int n), .val 1 false (.lst ((shD n (F.take i)).map .int)), .val 0 false (farD F), s5])
    ⟨.no, rfl, by
      have : shD n (F.take 0) = List.replicate (n + 1) 0 := by
        unfold shD shl
        simp [List.map_const']
      rw [this]⟩ (by
    rintro i hi η ⟨s5, f5, rfl⟩
    rw [List.length_map] at hi
    rw [List.getElem_map]
    have hm : F[i] ∈ F := List.getElem_mem hi
    obtain ⟨_, b2, b3⟩ := bx _ hm
    obtain ⟨m, hm2⟩ : ∃ m : Nat, F[i].2 = m := ⟨F[i].2.toNat, by omega⟩
    have ix : ixA (farD F) (tupI F[i].1) = some (0, .int m) := ix_far ((fget_mem nd).mpr (by rw [← hm2]; exact hm))
    have hl : (shD n (F.take i)).length = n + 1 := by unfold shD; simp
    have t := shell_turn (g := gridD p ts) (st := st) (n := n) (cs := shD n (F.take i)) ix (by omega) s5 f5
    refine ⟨_, .inl t, vS (tupI F[i].1), rfl, ?_⟩
    rw [List.take_succ_eq_append_getElem hi, shD_snoc hm2 (by omega)])
  obtain ⟨η', el, s5, f5, rfl⟩ := lp
  rw [List.length_map, List.take_length] at el
  have k := keys_farD F
  have dc := dct_farD F
  generalize farD F = FD at *
  generalize F.map (fun e => tupI e.1) = KL at *
  have rp := zeros_ok (n := n) (by omega)
  generalize (List.replicate (n + 1) (0 : Int)).map D.int = Z at *
  generalize gridD p ts = g at *
  exact shells_fin rp e (shells_loop dc k el)
/-! ### the law's counts -/
abbrev eL (ns s1 s2 s3 s4 s5 s6 s7 s8 s9 s10 s11 : DV.Slot) : DV.Env := [ns, s1, s2, s3, s4, s5, s6, s7, s8, s9, s10, s11, .no]
theorem counts_ok {F : Far} {n : Nat} (hn : n ≤ 100) {ns s1 s2 s4 s5 s6 s8 s9 s10 s11 : DV.Slot} :
    Sem.c2_law (eL ns s1 s2 (vS (.int n)) s4 s5 s6 (vS (farD F)) s8 s9 s10 s11) = .ok (1, .lst ((shD n F).map .int)) (eL ns s1 s2 (vS (.int n)) s4 s5 s6 (vS (farD F)) s8 s9 s10 s11) := by
  have z : ((n : Int) + 1).toNat = n + 1 := by omega
  have z1 : (n : Int) + 1 < 4611686018427387904 := by omega
  have e : (shD n F).map D.int = (S.rangeL 0 (n + 1)).map fun d => match d with | .int k => .int (shl F k) | _ => .non := by
    unfold shD S.rangeL
    rw [List.map_map, List.map_map]
    refine List.map_congr_left fun k _ => ?_
    simp
  rw [e]
  unfold Sem.c2_law
  refine comp_map _ (η1 := eL ns s1 s2 (vS (.int n)) s4 s5 s6 (vS (farD F)) s8 s9 s10 s11) (by simp -implicitDefEqProofs [z, z1, show -4611686018427387904 ≤ (n : Int) + 1 by omega]) (by rfl) (small_ok (by rw [rangeL_len]; omega)) (by simp) ?_
  intro d hd
  obtain ⟨i, hi, rfl⟩ := List.getElem_of_mem hd
  rw [rangeL_get hi]
  refine ⟨(eL ns s1 s2 (vS (.int n)) s4 s5 s6 (vS (farD F)) s8 s9 s10 s11).set 12 (vS (.int (0 + (i : Int)))), ?_, by simp [S.hide]⟩
  rw [farD_eq]
  have cn := cnt_ints (F.map (·.2)) (0 + (i : Int))
  rw [← vals_far] at cn
  have cn2 : cntD (.lst ((F.map fun e => (keyI e.1, D.int e.2)).map (·.2))) (.int (0 + (i : Int))) = some (.int (shl F (0 + (i : Int)))) := cn
  generalize (0 + (i : Int)) = x at *
  simp only
  generalize shl F x = y at *
  generalize (F.map fun e => (keyI e.1, D.int e.2)) = L at *
  simp -implicitDefEqProofs [S.hide, cn2]
end Maths

namespace Maths
open DV L2 PySem
/-! ### neighbours differ by 1 at most -/
theorem fine_box {p n : Nat} {P : List Int} (h : InBox p n P) (hn : n ≤ 1000) : Fine p P := by
  obtain ⟨q, u, v, e, h1, h2, h3, h4, h5, h6⟩ := h
  refine ⟨q, u, v, e, h1, h2, ?_, ?_⟩
  · exact Nat.lt_of_le_of_lt (show u.natAbs ≤ 1000 by omega) (by decide +kernel)
  · exact Nat.lt_of_le_of_lt (show v.natAbs ≤ 1000 by omega) (by decide +kernel)
theorem near_turn {ns s1 s2 s4 s5 s6 s9 s10 s11 : DV.Slot} {n d x : Int} {FD P O : D} (f9 : s9.free = true) (dc : dctQ FD = some ()) (e1 : dget2D FD O (.int (n + 1)) = some (0, .int x)) (e2 : ixA FD P = some (0, .int d)) (hx : ((x - d).natAbs : Int) ≤ 1) :
    S.turn (S.name 9) Sem.b1_law O (eL ns s1 s2 (vS (.int n)) s4 s5 s6 (vS FD) (vS P) s9 s10 s11) = .ok .nx (eL ns s1 s2 (vS (.int n)) s4 s5 s6 (vS FD) (vS P) (vS O) s10 s11) := by
  have h1 : ¬ (1 : Int) < ((x - d).natAbs : Int) := by omega
  unfold Sem.b1_law
  simp -implicitDefEqProofs [f9, dc, e1, e2, h1]
theorem near_core {ns s1 s2 s5 s6 s8 s9 s10 s11 : DV.Slot} {g n P FD : D} {L : List D} (f8 : s8.free = true) {t9 : DV.Slot} (en : Sem.f_neighbours_of [(0, g), (0, P)] = .ok 1 (.lst L) [.no, .no])
    (el : S.forL (S.name 9) Sem.b1_law L (eL ns s1 s2 (vS n) (vS g) s5 s6 (vS FD) (vS P) s9 s10 s11) = .ok .nx (eL ns s1 s2 (vS n) (vS g) s5 s6 (vS FD) (vS P) t9 s10 s11)) :
    S.turn (S.name 8) Sem.b2_law P (eL ns s1 s2 (vS n) (vS g) s5 s6 (vS FD) s8 s9 s10 s11) = .ok .nx (eL ns s1 s2 (vS n) (vS g) s5 s6 (vS FD) (vS P) t9 s10 s11) := by
  unfold Sem.b2_law Sem.l1_law
  simp -implicitDefEqProofs [f8, en, el]
theorem near_place {p : Nat} {ts : List (List Int)} (G : Grid p ts) {st : Int} (hs : 0 ≤ st ∧ st < p) {n : Nat} (hn : n ≤ 12) {P : List Int} {d : Int} (h : (P, d) ∈ lkF ts st n) {ns s1 s2 s5 s6 s8 s9 s10 s11 : DV.Slot} (f8 : s8.free = true) (f9 : s9.free = true) :
    ∃ t9 : DV.Slot, S.turn (S.name 8) Sem.b2_law (tupI P) (eL ns s1 s2 (vS (.int n)) (vS (gridD p ts)) s5 s6 (vS (farD (lkF ts st n))) s8 s9 s10 s11) = .ok .nx (eL ns s1 s2 (vS (.int n)) (vS (gridD p ts)) s5 s6 (vS (farD (lkF ts st n))) (vS (tupI P)) t9 s10 s11) ∧ t9.free = true := by
  have K := lk_ok G hs n
  have hm := (K.mem _).mp h
  have en := neighbours_ok G (fine_box (K.box _ h).1 (by omega))
  have e2 : ixA (farD (lkF ts st n)) (tupI P) = some (0, .int d) := ix_far ((K.tells _ _).mpr hm)
  obtain ⟨η', el, t9, f9', rfl⟩ := forL_same (g := S.name 9) (body := Sem.b1_law) (ds := (lbes ts P).map tupI) (η := eL ns s1 s2 (vS (.int n)) (vS (gridD p ts)) s5 s6 (vS (farD (lkF ts st n))) (vS (tupI P)) s9 s10 s11)
    (fun η => ∃ t9 : DV.Slot, t9.free = true ∧ η = eL ns s1 s2 (vS (.int n)) (vS (gridD p ts)) s5 s6 (vS (farD (lkF ts st n))) (vS (tupI P)) t9 s10 s11) ⟨s9, f9, rfl⟩ (by
    rintro x hx η ⟨t9, f9', rfl⟩
    obtain ⟨O, hO, rfl⟩ := List.mem_map.mp hx
    exact ⟨_, .inl (near_turn f9' (dctQ_farD _) (get_far (z := (n : Int) + 1)) e2 (near_one G hs (sortF_perm _) hm (lbes_mem.mp hO))), _, rfl, rfl⟩)
  exact ⟨t9, near_core f8 en el, f9'⟩
theorem near_fin {ns s1 s2 s5 s6 s8 s9 s10 s11 t8 t9 : DV.Slot} {g n FD : D} {L : List D} (so : sortedA [FD] = some (1, .lst L))
    (el : S.forL (S.name 8) Sem.b2_law (cutD L none (some 200)) (eL ns s1 s2 (vS n) (vS g) s5 s6 (vS FD) s8 s9 s10 s11) = .ok .nx (eL ns s1 s2 (vS n) (vS g) s5 s6 (vS FD) t8 t9 s10 s11)) :
    Sem.l2_law (eL ns s1 s2 (vS n) (vS g) s5 s6 (vS FD) s8 s9 s10 s11) = .ok .nx (eL ns s1 s2 (vS n) (vS g) s5 s6 (vS FD) t8 t9 s10 s11) := by
  unfold Sem.l2_law
  simp -implicitDefEqProofs [so, el]
theorem cut_mem {L : List D} {lo hi : Option Int} {d : D} (h : d ∈ cutD L lo hi) : d ∈ L := by
  unfold cutD at h
  exact List.mem_of_mem_drop (List.mem_of_mem_take h)
theorem keys_mem {F : Far} {d : D} (h : d ∈ ((F.map (·.1)).mergeSort leI).map tupI) : ∃ e ∈ F, d = tupI e.1 := by
  obtain ⟨P, hP, rfl⟩ := List.mem_map.mp h
  obtain ⟨e, he, rfl⟩ := List.mem_map.mp ((List.mergeSort_perm _ _).mem_iff.mp hP)
  exact ⟨e, he, rfl⟩
theorem near_all {p : Nat} {ts : List (List Int)} (G : Grid p ts) {st : Int} (hs : 0 ≤ st ∧ st < p) {n : Nat} (hn : n ≤ 12) {ns s1 s2 s5 s6 s8 s9 s10 s11 : DV.Slot} (f8 : s8.free = true) (f9 : s9.free = true) :
    ∃ t8 t9 : DV.Slot, Sem.l2_law (eL ns s1 s2 (vS (.int n)) (vS (gridD p ts)) s5 s6 (vS (farD (lkF ts st n))) s8 s9 s10 s11) = .ok .nx (eL ns s1 s2 (vS (.int n)) (vS (gridD p ts)) s5 s6 (vS (farD (lkF ts st n))) t8 t9 s10 s11) ∧ t8.free = true ∧ t9.free = true := by
  have K := lk_ok G hs n
  have so := sorted_far K
  obtain ⟨η', el, t8, t9, g8, g9, rfl⟩ := forL_same (g := S.name 8) (body := Sem.b2_law) (ds := cutD (((lkF ts st n).map (·.1)).mergeSort leI |>.map tupI) none (some 200)) (η := eL ns s1 s2 (vS (.int n)) (vS (gridD p ts)) s5 s6 (vS (farD (lkF ts st n))) s8 s9 s10 s11)
    (fun η => ∃ t8 t9 : DV.Slot, t8.free = true ∧ t9.free = true ∧ η = eL ns s1 s2 (vS (.int n)) (vS (gridD p ts)) s5 s6 (vS (farD (lkF ts st n))) t8 t9 s10 s11) ⟨s8, s9, f8, f9, rfl⟩ (by
    rintro x hx η ⟨t8, t9, g8, g9, rfl⟩
    obtain ⟨⟨P, d⟩, he, rfl⟩ := keys_mem (cut_mem hx)
    obtain ⟨t9', e, g9'⟩ := near_place G hs hn he (ns := ns) (s1 := s1) (s2 := s2) (s5 := s5) (s6 := s6) (s10 := s10) (s11 := s11) g8 g9
    exact ⟨_, .inl e, vS (tupI P), t9', rfl, g9', rfl⟩)
  exact ⟨t8, t9, near_fin so el, g8, g9⟩
/-! ### looks, listed -/
def LL (p : Nat) (ts : List (List Int)) (n : Nat) : List D := (List.range p).map fun s : Nat => farD (lkF ts (s : Int) n)
theorem LL_at {p : Nat} {ts : List (List Int)} {n : Nat} {st : Int} (hs : 0 ≤ st ∧ st < p) : ixA (.lst (LL p ts n)) (.int st) = some (0, farD (lkF ts st n)) := by
  obtain ⟨s, rfl⟩ : ∃ s : Nat, st = s := ⟨st.toNat, by omega⟩
  have h : s < p := by omega
  have e : atI (LL p ts n) (s : Int) = some (farD (lkF ts (s : Int) n)) := by
    rw [at_nat (by omega), show ((s : Nat) : Int).toNat = s by omega]
    unfold LL
    rw [List.getElem?_map, List.getElem?_range h]
    rfl
  simp -implicitDefEqProofs [e]
/-! ### as far from there -/
theorem both_turn {LK n : D} {st q x y d : Int} {s5 s6 s7 s3 s4 : DV.Slot} {FD : D} (f3 : s3.free = true) (f4 : s4.free = true) (f5 : s5.free = true) (f6 : s6.free = true) (f7 : s7.free = true) (ix : ixA LK (.int q) = some (0, FD)) (dc : dctQ FD = some ()) (e : dget2D FD (tupI [st, -x, -y]) (.int (-1)) = some (0, .int d)) :
    S.turn (S.gtup [S.name 3, S.name 4]) Sem.b1__law_both_right (prD ([q, x, y], d)) [vS LK, vS (.int st), vS n, s3, s4, s5, s6, s7] = .ok .nx [vS LK, vS (.int st), vS n, vS (tupI [q, x, y]), vS (.int d), vS (.int q), vS (.int x), vS (.int y)] := by
  unfold Sem.b1__law_both_right prD
  unfold tupI at *
  simp only [List.map_cons, List.map_nil] at *
  simp -implicitDefEqProofs [f3, f4, f5, f6, f7, ix, dc, e, small_ok]
end Maths

namespace Maths
open DV L2 PySem
theorem both_fin {LK n : D} {st : Int} {KD : List (List Key × D)} {ks : List (List Key × Int)} {t3 t4 t5 t6 t7 : DV.Slot} (ix : ixA LK (.int st) = some (0, .dT KD)) (k : intKV KD = some ks) (so : sortOk (ks.map pairT) = true) {L : List D} (hL : (ks.map pairT).mergeSort leDat = L)
    (el : S.forL (S.gtup [S.name 3, S.name 4]) Sem.b1__law_both_right L [vS LK, vS (.int st), vS n, .no, .no, .no, .no, .no] = .ok .nx [vS LK, vS (.int st), vS n, t3, t4, t5, t6, t7]) :
    Sem.f__law_both_right [(0, LK), (0, .int st), (0, n)] = .ok 0 (.bl true) [.no, .no, .no] := by
  have l1 : Sem.l1__law_both_right [vS LK, vS (.int st), vS n, .no, .no, .no, .no, .no] = .ok .nx [vS LK, vS (.int st), vS n, t3, t4, t5, t6, t7] := by
    unfold Sem.l1__law_both_right
    simp -implicitDefEqProofs [ix, k, so, hL, el]
  (rw [Sem.f__law_both_right_eq]; unfold Sem.s__law_both_right)
  simp -implicitDefEqProofs [v_run, l1]
theorem both_ok {p : Nat} {ts : List (List Int)} (G : Grid p ts) {st : Int} (hs : 0 ≤ st ∧ st < p) {n : Nat} : Sem.f__law_both_right [(0, .lst (LL p ts n)), (0, .int st), (0, .int n)] = .ok 0 (.bl true) [.no, .no, .no] := by
  have K := lk_ok G hs n
  have ix : ixA (.lst (LL p ts n)) (.int st) = _ := LL_at hs
  rw [farD_eq] at ix
  obtain ⟨so, ms⟩ := its_far (lkF ts st n)
  obtain ⟨η', el, t3, t4, t5, t6, t7, g3, g4, g5, g6, g7, rfl⟩ := forL_same (g := S.gtup [S.name 3, S.name 4]) (body := Sem.b1__law_both_right) (ds := (sortF (lkF ts st n)).map prD) (η := [vS (.lst (LL p ts n)), vS (.int st), vS (.int n), .no, .no, .no, .no, .no])
    (fun η => ∃ t3 t4 t5 t6 t7 : DV.Slot, t3.free = true ∧ t4.free = true ∧ t5.free = true ∧ t6.free = true ∧ t7.free = true ∧ η = [vS (.lst (LL p ts n)), vS (.int st), vS (.int n), t3, t4, t5, t6, t7]) ⟨.no, .no, .no, .no, .no, rfl, rfl, rfl, rfl, rfl, rfl⟩ (by
    rintro z hz η ⟨t3, t4, t5, t6, t7, g3, g4, g5, g6, g7, rfl⟩
    obtain ⟨⟨P, d⟩, he, rfl⟩ := List.mem_map.mp hz
    have he := (sortF_perm _).mem_iff.mp he
    obtain ⟨q, x, y, w⟩ := K.three _ he
    simp only at w
    subst w
    have hm := (K.mem _).mp he
    obtain ⟨hq, _⟩ := dist_le G hs hm
    have Kq := lk_ok G hq n
    have e : dget2D (farD (lkF ts q n)) (tupI [st, -x, -y]) (.int (-1)) = some (0, .int d) := by
      rw [get_far, (Kq.tells _ _).mpr (dist_sym G hs hm)]
      rfl
    exact ⟨_, .inl (both_turn g3 g4 g5 g6 g7 (LL_at hq) (dctQ_farD _) e), _, _, _, _, _, rfl, rfl, rfl, rfl, rfl, rfl⟩)
  exact both_fin ix (intKV_far _) so ms el
/-! ### a place between -/
abbrev eW (pot LK st n K s5 s6 s7 s8 s9 s10 s11 s12 : DV.Slot) : DV.Env := [pot, LK, st, n, K, s5, s6, s7, s8, s9, s10, s11, s12]
theorem betw_turn {p0 p1 p2 LK FD FQ : D} {L : List D} {st n q x y r u v a b l d1 d2 o k : Int} {s5 s6 s7 s8 s9 s10 s11 s12 : DV.Slot}
    (f5 : s5.free = true) (f6 : s6.free = true) (f7 : s7.free = true) (f8 : s8.free = true) (f9 : s9.free = true) (f10 : s10.free = true) (f11 : s11.free = true) (f12 : s12.free = true)
    (ll : lenD [.lst L] = some (.int l)) (e1 : Sem.f__law_take [(1, p0), (0, .int l)] = .ok 0 (.int a) [.val 1 true p1, .no]) (e2 : Sem.f__law_take [(1, p1), (0, .int l)] = .ok 0 (.int b) [.val 1 true p2, .no])
    (a1 : atI L a = some (.tup [.int q, .int x, .int y])) (a2 : atI L b = some (.tup [.int r, .int u, .int v])) (iq : ixA LK (.int q) = some (0, FQ)) (is : ixA LK (.int st) = some (0, FD)) (dc : dctQ FQ = some ())
    (g1 : dget2D FQ (.tup [.int r, .int (u - x), .int (v - y)]) (.int (n + 1)) = some (0, .int o)) (i1 : ixA FD (.tup [.int q, .int x, .int y]) = some (0, .int d1)) (i2 : ixA FD (.tup [.int r, .int u, .int v]) = some (0, .int d2)) (h : d2 ≤ d1 + o) :
    S.turn (S.name 5) Sem.b1__law_between (.int k) (eW (.val 1 true p0) (vS LK) (vS (.int st)) (vS (.int n)) (.val 1 false (.lst L)) s5 s6 s7 s8 s9 s10 s11 s12) =
      .ok .nx (eW (.val 1 true p2) (vS LK) (vS (.int st)) (vS (.int n)) (.val 1 false (.lst L)) (vS (.int k)) (vS (.int q)) (vS (.int x)) (vS (.int y)) (vS (.int r)) (vS (.int u)) (vS (.int v)) (vS (.int o))) := by
  have h1 : ¬ d1 + o < d2 := by omega
  unfold Sem.b1__law_between
  simp -implicitDefEqProofs [f5, f6, f7, f8, f9, f10, f11, f12, ll, e1, e2, a1, a2, iq, is, dc, g1, i1, i2, h1, small_ok, -v_lenL]
theorem pick_key {F : Far} {a : Nat} (ha : a < F.length) : ∃ e ∈ F, atI (((F.map (·.1)).mergeSort leI).map tupI) (a : Int) = some (tupI e.1) := by
  have hl : a < (((F.map (·.1)).mergeSort leI).map tupI).length := by rw [List.length_map, List.length_mergeSort, List.length_map]; exact ha
  obtain ⟨e, he, w⟩ := keys_mem (List.getElem_mem hl)
  refine ⟨e, he, ?_⟩
  rw [at_nat (by omega), show ((a : Nat) : Int).toNat = a by omega, List.getElem?_eq_getElem hl, w]
theorem len_key {F : Far} : lenD [.lst (((F.map (·.1)).mergeSort leI).map tupI)] = some (.int (F.length : Int)) := by
  simp
theorem betw_fin {p0 p1 LK FD : D} {L : List D} {st n : Int} {t5 t6 t7 t8 t9 t10 t11 t12 : DV.Slot} (is : ixA LK (.int st) = some (0, FD)) (so : sortedA [FD] = some (1, .lst L))
    (el : S.forL (S.name 5) Sem.b1__law_between (S.rangeL 0 20) (eW (.val 1 true p0) (vS LK) (vS (.int st)) (vS (.int n)) (.val 1 false (.lst L)) .no .no .no .no .no .no .no .no) = .ok .nx (eW (.val 1 true p1) (vS LK) (vS (.int st)) (vS (.int n)) (.val 1 false (.lst L)) t5 t6 t7 t8 t9 t10 t11 t12)) :
    Sem.f__law_between [(1, p0), (0, LK), (0, .int st), (0, .int n)] = .ok 0 (.bl true) [.val 1 true p1, .no, .no, .no] := by
  have l1 : Sem.l1__law_between (eW (.val 1 true p0) (vS LK) (vS (.int st)) (vS (.int n)) (.val 1 false (.lst L)) .no .no .no .no .no .no .no .no) = .ok .nx (eW (.val 1 true p1) (vS LK) (vS (.int st)) (vS (.int n)) (.val 1 false (.lst L)) t5 t6 t7 t8 t9 t10 t11 t12) := by
    unfold Sem.l1__law_between
    rw [v_fors]
    simp -implicitDefEqProofs []
    exact el
  (rw [Sem.f__law_between_eq]; unfold Sem.s__law_between)
  simp -implicitDefEqProofs [v_run, is, so, l1]
theorem betw_ok {p : Nat} {ts : List (List Int)} (G : Grid p ts) {st : Int} (hs : 0 ≤ st ∧ st < p) {n : Nat} (hn : n ≤ 12) {pot : D} {m : Nat} (hp : PotOk m pot) (hm : m ≤ 800000) :
    ∃ pot' : D, Sem.f__law_between [(1, pot), (0, .lst (LL p ts n)), (0, .int st), (0, .int n)] = .ok 0 (.bl true) [.val 1 true pot', .no, .no, .no] ∧ PotOk (m + 40) pot' := by
  have K := lk_ok G hs n
  have ix : ixA (.lst (LL p ts n)) (.int st) = _ := LL_at hs
  have so := sorted_far K
  have hl := K.few hn
  have hp0 := K.pos
  have ll := len_key (F := lkF ts st n)
  obtain ⟨η', el, pot', t5, t6, t7, t8, t9, t10, t11, t12, hp', g5, g6, g7, g8, g9, g10, g11, g12, rfl⟩ := forL_all (g := S.name 5) (body := Sem.b1__law_between) (ds := S.rangeL 0 20) (η := eW (.val 1 true pot) (vS (.lst (LL p ts n))) (vS (.int st)) (vS (.int n)) (.val 1 false (.lst ((((lkF ts st n).map (·.1)).mergeSort leI).map tupI))) .no .no .no .no .no .no .no .no)
    (fun i η => ∃ (pt : D) (t5 t6 t7 t8 t9 t10 t11 t12 : DV.Slot), PotOk (m + 2 * i) pt ∧ t5.free = true ∧ t6.free = true ∧ t7.free = true ∧ t8.free = true ∧ t9.free = true ∧ t10.free = true ∧ t11.free = true ∧ t12.free = true ∧ η = eW (.val 1 true pt) (vS (.lst (LL p ts n))) (vS (.int st)) (vS (.int n)) (.val 1 false (.lst ((((lkF ts st n).map (·.1)).mergeSort leI).map tupI))) t5 t6 t7 t8 t9 t10 t11 t12)
    ⟨pot, .no, .no, .no, .no, .no, .no, .no, .no, hp, rfl, rfl, rfl, rfl, rfl, rfl, rfl, rfl, rfl⟩ (by
    rintro i hi η ⟨pt, t5, t6, t7, t8, t9, t10, t11, t12, hpt, g5, g6, g7, g8, g9, g10, g11, g12, rfl⟩
    have hi2 : i < 20 := by rw [rangeL_len] at hi; exact hi
    rw [rangeL_get hi]
    obtain ⟨a, p1, ha, q1, e1⟩ := drawL hpt (by omega) (lkF ts st n).length hp0 (Nat.lt_of_le_of_lt (Nat.log2_le_self _) (by omega))
    obtain ⟨b, p2, hb, q2, e2⟩ := drawL q1 (by omega) (lkF ts st n).length hp0 (Nat.lt_of_le_of_lt (Nat.log2_le_self _) (by omega))
    obtain ⟨⟨P, d1⟩, he1, a1⟩ := pick_key ha
    obtain ⟨⟨Q, d2⟩, he2, a2⟩ := pick_key hb
    obtain ⟨q, x, y, w⟩ := K.three _ he1
    obtain ⟨r, u, v, w2⟩ := K.three _ he2
    simp only at w w2
    subst w w2
    have m1 := (K.mem _).mp he1
    have m2 := (K.mem _).mp he2
    obtain ⟨hq, _⟩ := dist_le G hs m1
    have Kq := lk_ok G hq n
    have i1 : ixA (farD (lkF ts st n)) (tupI [q, x, y]) = some (0, .int d1) := ix_far ((K.tells _ _).mpr m1)
    have i2 : ixA (farD (lkF ts st n)) (tupI [r, u, v]) = some (0, .int d2) := ix_far ((K.tells _ _).mpr m2)
    have g1 : dget2D (farD (lkF ts q n)) (tupI [r, u - x, v - y]) (.int ((n : Int) + 1)) = some (0, .int ((fget (lkF ts q n) [r, u - x, v - y]).getD ((n : Int) + 1))) := get_far
    have h : d2 ≤ d1 + (fget (lkF ts q n) [r, u - x, v - y]).getD ((n : Int) + 1) := by
      have b1 := (K.box _ he1).2
      have b2 := (K.box _ he2).2
      simp only at b1 b2
      cases z : fget (lkF ts q n) [r, u - x, v - y] with
      | none => simp only [Option.getD_none]; omega
      | some o => exact dist_tri G hs m1 m2 ((Kq.tells _ _).mp z)
    have t := betw_turn (k := 0 + (i : Int)) (n := (n : Int)) g5 g6 g7 g8 g9 g10 g11 g12 ll e1 e2 a1 a2 (LL_at hq) ix (dctQ_farD _) g1 i1 i2 h
    exact ⟨_, .inl t, p2, _, _, _, _, _, _, _, _, q2.mono (by omega), rfl, rfl, rfl, rfl, rfl, rfl, rfl, rfl, rfl⟩)
  rw [rangeL_len] at hp'
  exact ⟨pot', betw_fin ix so el, hp'.mono (by omega)⟩
end Maths

namespace Maths
open DV L2 PySem
/-! ### ways -/
theorem walk_rev {p : Nat} {ts : List (List Int)} (G : Grid p ts) {W : List (List Int)} (w : Walk (besideL ts) W) : Walk (besideL ts) W.reverse := by
  intro i h
  rw [List.length_reverse] at h
  rw [List.getElem_reverse, List.getElem_reverse]
  have k := w (W.length - 1 - (i + 1)) (by omega)
  have e : W[W.length - 1 - (i + 1) + 1]'(by omega) = W[W.length - 1 - i]'(by omega) := by congr 1; omega
  rw [e] at k
  exact beside_sym (beside_three G k) k
noncomputable def W1 : SS := S.asg 6 (S.bin ixA (.nm 4) (.ex (S.fz (S.call Sem.f__law_take [.lend 0, .ex (S.fnd lenD [.nm 4])]))))
noncomputable def W2 : SS := S.asg 7 (S.call Sem.f_way_to [.ex (S.var 1), .ex (S.var 3), .ex (S.var 6)])
noncomputable def W3 : SS := S.ifs (S.tor (S.tst (S.cmp neD (.ex (S.fnd lenD [.nm 7])) (.ex (S.fz (S.bin addD (.ex (S.fz (S.bin ixA (.ex (S.fz (S.bin ixA (.nm 2) (.nm 3)))) (.nm 6)))) (.ex (S.c (.int 1)))))))) (S.tst (S.cmp isnD (.ex (S.fz (S.call Sem.f_way_holds [.ex (S.var 1), .ex (S.var 7)]))) (.ex (S.c (.bl true)))))) (S.ret (S.up (S.c (.bl false)))) (S.pass)
noncomputable def W4 : SS := S.ifs (S.tor (S.tst (S.cmp isnD (.ex (S.fz (S.call Sem.f_way_holds [.ex (S.var 1), .ex (S.fz (S.un revD (.nm 7)))]))) (.ex (S.c (.bl true))))) (S.tor (S.tst (S.cmp neD (.ex (S.fz (S.bin ixA (.nm 7) (.ex (S.c (.int 0)))))) (.ex (S.tup (S.cons (S.var 3) (S.cons (S.c (.int 0)) (S.cons (S.c (.int 0)) (S.nil)))))))) (S.tst (S.cmp neD (.ex (S.fz (S.bin ixA (.nm 7) (.ex (S.fz (S.un negD (.ex (S.c (.int 1))))))))) (.nm 6))))) (S.ret (S.up (S.c (.bl false)))) (S.pass)
theorem W_eq : Sem.b1__law_ways_right = S.seq W1 (S.seq W2 (S.seq W3 (W4))) := rfl
abbrev eX (pot g LK st K s5 s6 s7 : DV.Slot) : DV.Env := [pot, g, LK, st, K, s5, s6, s7]
theorem ways_turn {p0 p1 g LK FD P : D} {L W R : List D} {st a l dd k : Int} {s5 s6 s7 : DV.Slot} (f5 : s5.free = true) (f6 : s6.free = true) (f7 : s7.free = true)
    (ll : lenD [.lst L] = some (.int l)) (e1 : Sem.f__law_take [(1, p0), (0, .int l)] = .ok 0 (.int a) [.val 1 true p1, .no]) (a1 : atI L a = some P) (ew : Sem.f_way_to [(0, g), (0, .int st), (0, P)] = .ok 1 (.lst W) [.no, .no, .no])
    (lw : lenD [.lst W] = some (.int (dd + 1))) (is : ixA LK (.int st) = some (0, FD)) (i1 : ixA FD P = some (0, .int dd)) (h1 : Sem.f_way_holds [(0, g), (0, .lst W)] = .ok 0 (.bl true) [.no, .no]) (rv : revD (.lst W) = some (1, .lst R)) (h2 : Sem.f_way_holds [(0, g), (0, .lst R)] = .ok 0 (.bl true) [.no, .no])
    (w0 : atI W 0 = some (.tup [.int st, .int 0, .int 0])) (n0 : neD (.tup [.int st, .int 0, .int 0]) (.tup [.int st, .int 0, .int 0]) = some false) (w1 : atI W (-1) = some P) (n1 : neD P P = some false) :
    S.turn (S.name 5) Sem.b1__law_ways_right (.int k) (eX (.val 1 true p0) (vS g) (vS LK) (vS (.int st)) (.val 1 false (.lst L)) s5 s6 s7) = .ok .nx (eX (.val 1 true p1) (vS g) (vS LK) (vS (.int st)) (.val 1 false (.lst L)) (vS (.int k)) (vS P) (vS (.lst W))) := by
  have it : isnD (.bl true) (.bl true) = some false := rfl
  have t : S.turn (S.name 5) Sem.b1__law_ways_right (.int k) (eX (.val 1 true p0) (vS g) (vS LK) (vS (.int st)) (.val 1 false (.lst L)) s5 s6 s7) = Sem.b1__law_ways_right (eX (.val 1 true p0) (vS g) (vS LK) (vS (.int st)) (.val 1 false (.lst L)) (vS (.int k)) s6 s7) := by
    simp -implicitDefEqProofs [f5]
  have k1 : W1 (eX (.val 1 true p0) (vS g) (vS LK) (vS (.int st)) (.val 1 false (.lst L)) (vS (.int k)) s6 s7) = .ok .nx (eX (.val 1 true p1) (vS g) (vS LK) (vS (.int st)) (.val 1 false (.lst L)) (vS (.int k)) (vS P) s7) := by
    unfold W1
    simp -implicitDefEqProofs [f6, ll, e1, a1, -v_lenL]
  have k2 : W2 (eX (.val 1 true p1) (vS g) (vS LK) (vS (.int st)) (.val 1 false (.lst L)) (vS (.int k)) (vS P) s7) = .ok .nx (eX (.val 1 true p1) (vS g) (vS LK) (vS (.int st)) (.val 1 false (.lst L)) (vS (.int k)) (vS P) (.val 1 false (.lst W))) := by
    unfold W2
    simp -implicitDefEqProofs [f7, ew]
  have k3 : W3 (eX (.val 1 true p1) (vS g) (vS LK) (vS (.int st)) (.val 1 false (.lst L)) (vS (.int k)) (vS P) (.val 1 false (.lst W))) = .ok .nx (eX (.val 1 true p1) (vS g) (vS LK) (vS (.int st)) (.val 1 false (.lst L)) (vS (.int k)) (vS P) (vS (.lst W))) := by
    unfold W3
    simp -implicitDefEqProofs [lw, is, i1, h1, it, -v_lenL]
  have k4 : W4 (eX (.val 1 true p1) (vS g) (vS LK) (vS (.int st)) (.val 1 false (.lst L)) (vS (.int k)) (vS P) (vS (.lst W))) = .ok .nx (eX (.val 1 true p1) (vS g) (vS LK) (vS (.int st)) (.val 1 false (.lst L)) (vS (.int k)) (vS P) (vS (.lst W))) := by
    unfold W4
    simp -implicitDefEqProofs [rv, h2, w0, n0, w1, n1, it, small_ok, -revD_lst]
  rw [t, W_eq, seq_ok k1, seq_ok k2, seq_ok k3]
  exact k4
theorem ways_fin {p0 p1 g LK FD : D} {L : List D} {st : Int} {t5 t6 t7 : DV.Slot} (is : ixA LK (.int st) = some (0, FD)) (so : sortedA [FD] = some (1, .lst L))
    (el : S.forL (S.name 5) Sem.b1__law_ways_right (S.rangeL 0 3) (eX (.val 1 true p0) (vS g) (vS LK) (vS (.int st)) (.val 1 false (.lst L)) .no .no .no) = .ok .nx (eX (.val 1 true p1) (vS g) (vS LK) (vS (.int st)) (.val 1 false (.lst L)) t5 t6 t7)) :
    Sem.f__law_ways_right [(1, p0), (0, g), (0, LK), (0, .int st)] = .ok 0 (.bl true) [.val 1 true p1, .no, .no, .no] := by
  have l1 : Sem.l1__law_ways_right (eX (.val 1 true p0) (vS g) (vS LK) (vS (.int st)) (.val 1 false (.lst L)) .no .no .no) = .ok .nx (eX (.val 1 true p1) (vS g) (vS LK) (vS (.int st)) (.val 1 false (.lst L)) t5 t6 t7) := by
    unfold Sem.l1__law_ways_right
    rw [v_fors]
    simp -implicitDefEqProofs []
    exact el
  (rw [Sem.f__law_ways_right_eq]; unfold Sem.s__law_ways_right)
  simp -implicitDefEqProofs [v_run, is, so, l1]
theorem ways_ok {p : Nat} {ts : List (List Int)} (G : Grid p ts) {st : Int} (hs : 0 ≤ st ∧ st < p) {n : Nat} (hn : n ≤ 12) {pot : D} {m : Nat} (hp : PotOk m pot) (hm : m ≤ 800000) :
    ∃ pot' : D, Sem.f__law_ways_right [(1, pot), (0, gridD p ts), (0, .lst (LL p ts n)), (0, .int st)] = .ok 0 (.bl true) [.val 1 true pot', .no, .no, .no] ∧ PotOk (m + 3) pot' := by
  have K := lk_ok G hs n
  have ix : ixA (.lst (LL p ts n)) (.int st) = _ := LL_at hs
  have so := sorted_far K
  have hl := K.few hn
  have hp0 := K.pos
  have ll := len_key (F := lkF ts st n)
  obtain ⟨η', el, pot', t5, t6, t7, hp', g5, g6, g7, rfl⟩ := forL_all (g := S.name 5) (body := Sem.b1__law_ways_right) (ds := S.rangeL 0 3) (η := eX (.val 1 true pot) (vS (gridD p ts)) (vS (.lst (LL p ts n))) (vS (.int st)) (.val 1 false (.lst ((((lkF ts st n).map (·.1)).mergeSort leI).map tupI))) .no .no .no)
    (fun i η => ∃ (pt : D) (t5 t6 t7 : DV.Slot), PotOk (m + i) pt ∧ t5.free = true ∧ t6.free = true ∧ t7.free = true ∧ η = eX (.val 1 true pt) (vS (gridD p ts)) (vS (.lst (LL p ts n))) (vS (.int st)) (.val 1 false (.lst ((((lkF ts st n).map (·.1)).mergeSort leI).map tupI))) t5 t6 t7)
    ⟨pot, .no, .no, .no, hp, rfl, rfl, rfl, rfl⟩ (by
    rintro i hi η ⟨pt, t5, t6, t7, hpt, g5, g6, g7, rfl⟩
    have hi2 : i < 3 := by rw [rangeL_len] at hi; exact hi
    rw [rangeL_get hi]
    obtain ⟨a, p1, ha, q1, e1⟩ := drawL hpt (by omega) (lkF ts st n).length hp0 (Nat.lt_of_le_of_lt (Nat.log2_le_self _) (by omega))
    obtain ⟨⟨P, d1⟩, he1, a1⟩ := pick_key ha
    obtain ⟨⟨q, x, y, w, b1, b2, b3, b4, b5, b6⟩, b7, b8⟩ := K.box _ he1
    simp only at w b7 b8
    subst w
    have m1 := (K.mem _).mp he1
    have i1 : ixA (farD (lkF ts st n)) (tupI [q, x, y]) = some (0, .int d1) := ix_far ((K.tells _ _).mpr m1)
    obtain ⟨W, ew, lw, hh, hl2, wk, w3⟩ := W_to.way_ok G hs (u := x) (v := y) (by omega) (by omega) hn m1
    have lW : W.length ≤ 13 := by omega
    have l0 : 0 < W.length := by omega
    have fine : ∀ P ∈ W, Fine p P := fun P hP => by
      obtain ⟨j, hj, rfl⟩ := List.mem_iff_getElem.mp hP
      obtain ⟨e, _, _, z⟩ := walk_far (goesL G) hs wk hh j hj (m := 13) (by omega)
      exact fine_box ((rings_shape (goesL G) hs 13).box _ z).1 (by omega)
    have h1 := way_holds_ok G l0 (by omega) fine wk
    have h2 := way_holds_ok G (W := W.reverse) (by rw [List.length_reverse]; omega) (by rw [List.length_reverse]; omega) (fun P hP => fine P (List.mem_reverse.mp hP)) (walk_rev G wk)
    have lw2 : lenD [.lst (W.map tupI)] = some (.int (d1 + 1)) := by rw [← lw]; simp
    have rv : revD (.lst (W.map tupI)) = some (1, .lst (W.reverse.map tupI)) := by rw [List.map_reverse]; rfl
    have w0 : atI (W.map tupI) 0 = some (tupI [st, 0, 0]) := by
      rw [List.head?_eq_getElem?] at hh
      rw [at_map, at_nat (by omega), show (0 : Int).toNat = 0 from rfl, hh]; rfl
    have n0 : ∀ a : List Int, neD (tupI a) (tupI a) = some false := fun a => by rw [ne_tupI]; simp
    have t := ways_turn (k := 0 + (i : Int)) g5 g6 g7 ll e1 a1 ew lw2 ix i1 h1 rv h2 w0 (n0 [st, 0, 0]) (W_to.at_last hl2) (n0 _)
    exact ⟨_, .inl t, p1, _, _, _, q1, rfl, rfl, rfl, rfl⟩)
  rw [rangeL_len] at hp'
  exact ⟨pot', ways_fin ix so el, hp'⟩
end Maths

namespace Maths
open DV L2 PySem
noncomputable def B1 : SS := S.asg 7 (S.bin ixA (.nm 5) (.nm 6))
noncomputable def B3 : SS := S.asg 10 (Sem.c2_law)
noncomputable def B4 : SS := S.asg 11 (S.call Sem.f_look_from [.ex (S.var 4), .ex (S.var 6), .ex (S.var 3)])
noncomputable def B5 : SS := S.ifs (S.tor (S.tst (S.cmp neD (.ex (S.fz (S.call Sem.f_shells_near [.ex (S.var 4), .ex (S.var 6), .ex (S.var 3)]))) (.nm 10))) (S.tst (S.cmp isnD (.ex (S.fz (S.call Sem.f_look_right [.ex (S.var 4), .ex (S.var 6), .ex (S.var 3), .ex (S.var 11)]))) (.ex (S.c (.bl true)))))) (S.ret (S.up (S.c (.bl false)))) (S.pass)
noncomputable def B6 : SS := S.ifs (S.tnot (S.tst (S.fz (S.call Sem.f__law_both_right [.ex (S.var 5), .ex (S.var 6), .ex (S.var 3)])))) (S.ret (S.up (S.c (.bl false)))) (S.pass)
noncomputable def B7 : SS := S.ifs (S.tnot (S.tst (S.fz (S.call Sem.f__law_between [.lend 2, .ex (S.var 5), .ex (S.var 6), .ex (S.var 3)])))) (S.ret (S.up (S.c (.bl false)))) (S.pass)
noncomputable def B8 : SS := S.ifs (S.tnot (S.tst (S.fz (S.call Sem.f__law_ways_right [.lend 2, .ex (S.var 4), .ex (S.var 5), .ex (S.var 6)])))) (S.ret (S.up (S.c (.bl false)))) (S.pass)
theorem B_eq : Sem.b3_law = S.seq B1 (S.seq Sem.l2_law (S.seq B3 (S.seq B4 (S.seq B5 (S.seq B6 (S.seq B7 B8)))))) := rfl
theorem start_turn {ns s1 : DV.Slot} {p0 p1 p2 g LK FD : D} {st n : Int} {C M : List D} {k5 : Nat} (hk : k5 = 0 ∨ k5 = 1) {s6 s7 s8 s9 s10 s11 t8 t9 : DV.Slot}
    (f6 : s6.free = true) (f7 : s7.free = true) (f10 : s10.free = true) (f11 : s11.free = true) (is : ixA LK (.int st) = some (0, FD))
    (el : Sem.l2_law (eL ns s1 (.val 1 false p0) (vS (.int n)) (vS g) (.val k5 false LK) (vS (.int st)) (vS FD) s8 s9 s10 s11) = .ok .nx (eL ns s1 (.val 1 false p0) (vS (.int n)) (vS g) (.val k5 false LK) (vS (.int st)) (vS FD) t8 t9 s10 s11))
    (ec : Sem.c2_law (eL ns s1 (.val 1 false p0) (vS (.int n)) (vS g) (.val k5 false LK) (vS (.int st)) (vS FD) t8 t9 s10 s11) = .ok (1, .lst C) (eL ns s1 (.val 1 false p0) (vS (.int n)) (vS g) (.val k5 false LK) (vS (.int st)) (vS FD) t8 t9 s10 s11))
    (ek : Sem.f_look_from [(0, g), (0, .int st), (0, .int n)] = .ok 1 (.lst M) [.no, .no, .no]) (es : Sem.f_shells_near [(0, g), (0, .int st), (0, .int n)] = .ok 1 (.lst C) [.no, .no, .no]) (ne : neD (.lst C) (.lst C) = some false)
    (er : Sem.f_look_right [(0, g), (0, .int st), (0, .int n), (0, .lst M)] = .ok 0 (.bl true) [.no, .no, .no, .no]) (eb : Sem.f__law_both_right [(0, LK), (0, .int st), (0, .int n)] = .ok 0 (.bl true) [.no, .no, .no])
    (ew : Sem.f__law_between [(1, p0), (0, LK), (0, .int st), (0, .int n)] = .ok 0 (.bl true) [.val 1 true p1, .no, .no, .no]) (ey : Sem.f__law_ways_right [(1, p1), (0, g), (0, LK), (0, .int st)] = .ok 0 (.bl true) [.val 1 true p2, .no, .no, .no]) :
    S.turn (S.name 6) Sem.b3_law (.int st) (eL ns s1 (.val 1 false p0) (vS (.int n)) (vS g) (.val k5 false LK) s6 s7 s8 s9 s10 s11) =
      .ok .nx (eL ns s1 (.val 1 false p2) (vS (.int n)) (vS g) (vS LK) (vS (.int st)) (vS FD) t8 t9 (.val 1 false (.lst C)) (vS (.lst M))) := by
  have it : isnD (.bl true) (.bl true) = some false := rfl
  have t : S.turn (S.name 6) Sem.b3_law (.int st) (eL ns s1 (.val 1 false p0) (vS (.int n)) (vS g) (.val k5 false LK) s6 s7 s8 s9 s10 s11) = Sem.b3_law (eL ns s1 (.val 1 false p0) (vS (.int n)) (vS g) (.val k5 false LK) (vS (.int st)) s7 s8 s9 s10 s11) := by
    simp -implicitDefEqProofs [f6]
  have k1 : B1 (eL ns s1 (.val 1 false p0) (vS (.int n)) (vS g) (.val k5 false LK) (vS (.int st)) s7 s8 s9 s10 s11) = .ok .nx (eL ns s1 (.val 1 false p0) (vS (.int n)) (vS g) (.val k5 false LK) (vS (.int st)) (vS FD) s8 s9 s10 s11) := by
    unfold B1
    rcases hk with rfl | rfl <;> simp -implicitDefEqProofs [f7, is]
  have k3 : B3 (eL ns s1 (.val 1 false p0) (vS (.int n)) (vS g) (.val k5 false LK) (vS (.int st)) (vS FD) t8 t9 s10 s11) = .ok .nx (eL ns s1 (.val 1 false p0) (vS (.int n)) (vS g) (.val k5 false LK) (vS (.int st)) (vS FD) t8 t9 (.val 1 false (.lst C)) s11) := by
    unfold B3
    simp -implicitDefEqProofs [f10, ec]
  have k4 : B4 (eL ns s1 (.val 1 false p0) (vS (.int n)) (vS g) (.val k5 false LK) (vS (.int st)) (vS FD) t8 t9 (.val 1 false (.lst C)) s11) = .ok .nx (eL ns s1 (.val 1 false p0) (vS (.int n)) (vS g) (.val k5 false LK) (vS (.int st)) (vS FD) t8 t9 (.val 1 false (.lst C)) (.val 1 false (.lst M))) := by
    unfold B4
    simp -implicitDefEqProofs [f11, ek]
  have k5' : B5 (eL ns s1 (.val 1 false p0) (vS (.int n)) (vS g) (.val k5 false LK) (vS (.int st)) (vS FD) t8 t9 (.val 1 false (.lst C)) (.val 1 false (.lst M))) = .ok .nx (eL ns s1 (.val 1 false p0) (vS (.int n)) (vS g) (.val k5 false LK) (vS (.int st)) (vS FD) t8 t9 (.val 1 false (.lst C)) (vS (.lst M))) := by
    unfold B5
    simp -implicitDefEqProofs [es, ne, er, it]
  have k6 : B6 (eL ns s1 (.val 1 false p0) (vS (.int n)) (vS g) (.val k5 false LK) (vS (.int st)) (vS FD) t8 t9 (.val 1 false (.lst C)) (vS (.lst M))) = .ok .nx (eL ns s1 (.val 1 false p0) (vS (.int n)) (vS g) (vS LK) (vS (.int st)) (vS FD) t8 t9 (.val 1 false (.lst C)) (vS (.lst M))) := by
    unfold B6
    rcases hk with rfl | rfl <;> simp -implicitDefEqProofs [eb]
  have k7 : B7 (eL ns s1 (.val 1 false p0) (vS (.int n)) (vS g) (vS LK) (vS (.int st)) (vS FD) t8 t9 (.val 1 false (.lst C)) (vS (.lst M))) = .ok .nx (eL ns s1 (.val 1 false p1) (vS (.int n)) (vS g) (vS LK) (vS (.int st)) (vS FD) t8 t9 (.val 1 false (.lst C)) (vS (.lst M))) := by
    unfold B7
    simp -implicitDefEqProofs [ew]
  have k8 : B8 (eL ns s1 (.val 1 false p1) (vS (.int n)) (vS g) (vS LK) (vS (.int st)) (vS FD) t8 t9 (.val 1 false (.lst C)) (vS (.lst M))) = .ok .nx (eL ns s1 (.val 1 false p2) (vS (.int n)) (vS g) (vS LK) (vS (.int st)) (vS FD) t8 t9 (.val 1 false (.lst C)) (vS (.lst M))) := by
    unfold B8
    simp -implicitDefEqProofs [ey]
  rw [t, B_eq, seq_ok k1, seq_ok el, seq_ok k3, seq_ok k4, seq_ok k5', seq_ok k6, seq_ok k7]
  exact k8
theorem ok_intsL (l : List Int) : neD (.lst (l.map D.int)) (.lst (l.map D.int)) = some false := neD_self (by simp) (by
  have : nbL (l.map D.int) = true := nbL_all fun d hd => by
    obtain ⟨x, _, rfl⟩ := List.mem_map.mp hd
    rfl
  simpa using this)
def SIx (s : DV.Slot) : Prop := s = .no ∨ ∃ i : Int, s = vS (.int i)
theorem SIx.free {s : DV.Slot} (h : SIx s) : s.free = true := by
  rcases h with rfl | ⟨i, rfl⟩ <;> rfl
def IStart (ns s1 : DV.Slot) (n : Int) (g LK : D) (m : Nat) (η : DV.Env) : Prop := ∃ (pt : D) (k5 : Nat) (s6 s7 s8 s9 s10 s11 : DV.Slot), (k5 = 0 ∨ k5 = 1) ∧ PotOk m pt ∧ SIx s6 ∧ s7.free = true ∧ s8.free = true ∧ s9.free = true ∧ s10.free = true ∧ s11.free = true ∧ η = eL ns s1 (.val 1 false pt) (vS (.int n)) (vS g) (.val k5 false LK) s6 s7 s8 s9 s10 s11
theorem start_ok {p : Nat} {ts : List (List Int)} (G : Grid p ts) {st : Int} (hs : 0 ≤ st ∧ st < p) {n : Nat} (hn : n ≤ 12) {m : Nat} (hm : m ≤ 700000) {ns s1 : DV.Slot} {η : DV.Env} (I : IStart ns s1 n (gridD p ts) (.lst (LL p ts n)) m η) :
    ∃ η', S.turn (S.name 6) Sem.b3_law (.int st) η = .ok .nx η' ∧ IStart ns s1 n (gridD p ts) (.lst (LL p ts n)) (m + 50) η' := by
  obtain ⟨pt, k5, s6, s7, s8, s9, s10, s11, hk, hp, f6, f7, f8, f9, f10, f11, rfl⟩ := I
  have K := lk_ok G hs n
  obtain ⟨p1, ew, q1⟩ := betw_ok G hs hn hp (by omega)
  obtain ⟨p2, ey, q2⟩ := ways_ok G hs hn q1 (by omega)
  have lr := look_right_ok G (st := st) (n := (n : Int)) (F := lkF ts st n) (K := .lst ((lkF ts st n).map prD)) (.inl rfl) K.three (by have := K.few hn; omega)
  rw [(look_iff (by omega)).mpr (rings_look G (goesL G) (fun P O => Iff.rfl) hs n)] at lr
  obtain ⟨t8, t9, el, g8, g9⟩ := near_all G hs hn (ns := ns) (s1 := s1) (s2 := .val 1 false pt) (s5 := .val k5 false (.lst (LL p ts n))) (s6 := vS (.int st)) (s10 := s10) (s11 := s11) f8 f9
  have ec := counts_ok (F := lkF ts st n) (n := n) (by omega) (ns := ns) (s1 := s1) (s2 := .val 1 false pt) (s4 := vS (gridD p ts)) (s5 := .val k5 false (.lst (LL p ts n))) (s6 := vS (.int st)) (s8 := t8) (s9 := t9) (s10 := s10) (s11 := s11)
  have t := start_turn hk f6.free f7 f10 f11 (LL_at hs) el ec (look_ok G hs hn) (shells_ok G hs hn) (ok_intsL _) lr (both_ok G hs) ew ey
  exact ⟨_, t, p2, 0, _, _, _, _, _, _, .inl rfl, q2.mono (by omega), .inr ⟨st, rfl⟩, rfl, g8, g9, rfl, rfl, rfl⟩
theorem looks_ok {p : Nat} {ts : List (List Int)} (G : Grid p ts) {n : Nat} (hn : n ≤ 12) {ns s1 s2 s5 s6 s7 s8 s9 s10 s11 : DV.Slot} (h6 : SIx s6) :
    Sem.c1_law (eL ns s1 s2 (vS (.int n)) (vS (gridD p ts)) s5 s6 s7 s8 s9 s10 s11) = .ok (1, .lst (LL p ts n)) (eL ns s1 s2 (vS (.int n)) (vS (gridD p ts)) s5 s6 s7 s8 s9 s10 s11) := by
  have gl := G.le
  have z : ((p : Nat) : Int).toNat = p := by omega
  have z1 : (p : Int) < 4611686018427387904 := by omega
  have z2 : (-4611686018427387904 : Int) ≤ p := by omega
  have ix : ixA (gridD p ts) (.int 0) = some (0, .int p) := rfl
  have e : LL p ts n = (S.rangeL 0 p).map fun d => match d with | .int k => farD (lkF ts k n) | _ => .non := by
    unfold LL S.rangeL
    rw [List.map_map]
    refine List.map_congr_left fun k _ => ?_
    simp
  rw [e]
  unfold Sem.c1_law
  refine comp_map _ (η1 := eL ns s1 s2 (vS (.int n)) (vS (gridD p ts)) s5 s6 s7 s8 s9 s10 s11) (by
    generalize gridD p ts = g at *
    simp -implicitDefEqProofs [z, z1, z2, ix]) (by rcases h6 with rfl | ⟨i, rfl⟩ <;> rfl) (small_ok (by rw [rangeL_len]; omega)) (by simp) ?_
  intro d hd
  obtain ⟨i, hi, rfl⟩ := List.getElem_of_mem hd
  rw [rangeL_get hi]
  rw [rangeL_len] at hi
  have hs : (0 : Int) ≤ 0 + (i : Int) ∧ 0 + (i : Int) < p := by omega
  have ek := look_ok G hs hn
  have ed := dict_far (lk_ok G hs n).nd
  refine ⟨(eL ns s1 s2 (vS (.int n)) (vS (gridD p ts)) s5 s6 s7 s8 s9 s10 s11).set 6 (vS (.int (0 + (i : Int)))), ?_, by simp [S.hide]⟩
  simp only
  generalize (0 + (i : Int)) = x at *
  generalize (lkF ts x n).map prD = M at *
  generalize farD (lkF ts x n) = FD at *
  generalize gridD p ts = g at *
  simp -implicitDefEqProofs [S.hide, ek, ed]
noncomputable def C1 : SS := S.asg 2 (S.call Sem.f__law_begun [.ex (S.var 1)])
noncomputable def C2 : SS := S.asg 3 (S.bin addD (.ex (S.c (.int 1))) (.ex (S.fz (S.call Sem.f__law_take [.lend 2, .ex (S.c (.int 8))]))))
noncomputable def C3 : SS := S.asg 4 (S.call Sem.f__law_grid [.lend 2])
noncomputable def C4 : SS := S.asg 3 (S.up (S.fnd minA [.nm 3, .ex (S.fz (S.bin subD (.ex (S.c (.int 9))) (.ex (S.fz (S.bin ixA (.nm 4) (.ex (S.c (.int 0))))))))]))
noncomputable def C5 : SS := S.asg 5 (Sem.c1_law)
theorem C_eq : Sem.b4_law = S.seq C1 (S.seq C2 (S.seq C3 (S.seq C4 (S.seq C5 Sem.l3_law)))) := rfl
def ILaw (ns : DV.Slot) (η : DV.Env) : Prop := ∃ s1 s2 s3 s4 s5 s6 s7 s8 s9 s10 s11 : DV.Slot, s1.free = true ∧ s2.free = true ∧ s3.free = true ∧ s4.free = true ∧ s5.free = true ∧ SIx s6 ∧ s7.free = true ∧ s8.free = true ∧ s9.free = true ∧ s10.free = true ∧ s11.free = true ∧ η = eL ns s1 s2 s3 s4 s5 s6 s7 s8 s9 s10 s11
theorem cell_core {ns : DV.Slot} {c a p n : Int} {p0 p1 p2 g : D} {L : List D} {s1 s2 s3 s4 s5 s6 s7 s8 s9 s10 s11 : DV.Slot} {η : DV.Env}
    (f1 : s1.free = true) (f2 : s2.free = true) (f3 : s3.free = true) (f4 : s4.free = true) (f5 : s5.free = true)
    (e0 : Sem.f__law_begun [(0, .int c)] = .ok 1 p0 [.no]) (e1 : Sem.f__law_take [(1, p0), (0, .int 8)] = .ok 0 (.int a) [.val 1 true p1, .no]) (eg : Sem.f__law_grid [(1, p1)] = .ok 0 g [.val 1 true p2])
    (ix : ixA g (.int 0) = some (0, .int p)) (mn : min (1 + a) (9 - p) = n)
    (ec : Sem.c1_law (eL ns (vS (.int c)) (.val 1 false p2) (vS (.int n)) (vS g) s5 s6 s7 s8 s9 s10 s11) = .ok (1, .lst L) (eL ns (vS (.int c)) (.val 1 false p2) (vS (.int n)) (vS g) s5 s6 s7 s8 s9 s10 s11))
    (el : Sem.l3_law (eL ns (vS (.int c)) (.val 1 false p2) (vS (.int n)) (vS g) (.val 1 false (.lst L)) s6 s7 s8 s9 s10 s11) = .ok .nx η) :
    S.turn (S.name 1) Sem.b4_law (.int c) (eL ns s1 s2 s3 s4 s5 s6 s7 s8 s9 s10 s11) = .ok .nx η := by
  have t : S.turn (S.name 1) Sem.b4_law (.int c) (eL ns s1 s2 s3 s4 s5 s6 s7 s8 s9 s10 s11) = Sem.b4_law (eL ns (vS (.int c)) s2 s3 s4 s5 s6 s7 s8 s9 s10 s11) := by
    simp -implicitDefEqProofs [f1]
  have k1 : C1 (eL ns (vS (.int c)) s2 s3 s4 s5 s6 s7 s8 s9 s10 s11) = .ok .nx (eL ns (vS (.int c)) (.val 1 false p0) s3 s4 s5 s6 s7 s8 s9 s10 s11) := by
    unfold C1
    simp -implicitDefEqProofs [f2, e0]
  have k2 : C2 (eL ns (vS (.int c)) (.val 1 false p0) s3 s4 s5 s6 s7 s8 s9 s10 s11) = .ok .nx (eL ns (vS (.int c)) (.val 1 false p1) (vS (.int (1 + a))) s4 s5 s6 s7 s8 s9 s10 s11) := by
    unfold C2
    simp -implicitDefEqProofs [f3, e1]
  have k3 : C3 (eL ns (vS (.int c)) (.val 1 false p1) (vS (.int (1 + a))) s4 s5 s6 s7 s8 s9 s10 s11) = .ok .nx (eL ns (vS (.int c)) (.val 1 false p2) (vS (.int (1 + a))) (vS g) s5 s6 s7 s8 s9 s10 s11) := by
    unfold C3
    simp -implicitDefEqProofs [f4, eg]
  have k4 : C4 (eL ns (vS (.int c)) (.val 1 false p2) (vS (.int (1 + a))) (vS g) s5 s6 s7 s8 s9 s10 s11) = .ok .nx (eL ns (vS (.int c)) (.val 1 false p2) (vS (.int n)) (vS g) s5 s6 s7 s8 s9 s10 s11) := by
    unfold C4
    simp -implicitDefEqProofs [ix, mn]
  have k5 : C5 (eL ns (vS (.int c)) (.val 1 false p2) (vS (.int n)) (vS g) s5 s6 s7 s8 s9 s10 s11) = .ok .nx (eL ns (vS (.int c)) (.val 1 false p2) (vS (.int n)) (vS g) (.val 1 false (.lst L)) s6 s7 s8 s9 s10 s11) := by
    unfold C5
    simp -implicitDefEqProofs [f5, ec]
  rw [t, C_eq, seq_ok k1, seq_ok k2, seq_ok k3, seq_ok k4, seq_ok k5]
  exact el
theorem l3_core {ns s1 s2 n s5 s6 s7 s8 s9 s10 s11 : DV.Slot} {g : D} {p : Nat} {η : DV.Env} (hp : p ≤ 4) (ix : ixA g (.int 0) = some (0, .int p)) (el : S.forL (S.name 6) Sem.b3_law (S.rangeL 0 p) (eL ns s1 s2 n (vS g) s5 s6 s7 s8 s9 s10 s11) = .ok .nx η) :
    Sem.l3_law (eL ns s1 s2 n (vS g) s5 s6 s7 s8 s9 s10 s11) = .ok .nx η := by
  have z : ((p : Nat) : Int).toNat = p := by omega
  have z1 : (p : Int) < 4611686018427387904 := by omega
  have z2 : (-4611686018427387904 : Int) ≤ p := by omega
  unfold Sem.l3_law
  rw [v_fors]
  simp -implicitDefEqProofs [ix, z, z1, z2, el]
theorem cell_ok {ns : DV.Slot} (c : Int) {η : DV.Env} (hI : ILaw ns η) : ∃ η', S.turn (S.name 1) Sem.b4_law (.int c) η = .ok .nx η' ∧ ILaw ns η' := by
  obtain ⟨s1, s2, s3, s4, s5, s6, s7, s8, s9, s10, s11, f1, f2, f3, f4, f5, f6, f7, f8, f9, f10, f11, rfl⟩ := hI
  obtain ⟨p0, q0, e0⟩ := begun_ok c
  obtain ⟨a, p1, ha, q1, e1⟩ := draw q0 (by omega) 8 (by decide) (by decide)
  obtain ⟨p, ts, p2, gs, q2, eg⟩ := grid_okS q1 (by omega)
  have G := gs.grid
  have gl := G.le
  have ix : ixA (gridD p ts) (.int 0) = some (0, .int p) := rfl
  have mn : min (1 + (a : Int)) (9 - (p : Int)) = ((min (1 + a) (9 - p) : Nat) : Int) := by omega
  have hn : min (1 + a) (9 - p) ≤ 12 := by omega
  generalize min (1 + a) (9 - p) = n at mn hn
  have ec := looks_ok G hn (ns := ns) (s1 := vS (.int c)) (s2 := .val 1 false p2) (s5 := s5) (s7 := s7) (s8 := s8) (s9 := s9) (s10 := s10) (s11 := s11) f6
  obtain ⟨η', el, I⟩ := forL_all (g := S.name 6) (body := Sem.b3_law) (ds := S.rangeL 0 p) (η := eL ns (vS (.int c)) (.val 1 false p2) (vS (.int n)) (vS (gridD p ts)) (.val 1 false (.lst (LL p ts n))) s6 s7 s8 s9 s10 s11)
    (fun i η => IStart ns (vS (.int c)) n (gridD p ts) (.lst (LL p ts n)) (1000 + 50 * i) η) ⟨p2, 1, s6, s7, s8, s9, s10, s11, .inr rfl, q2.mono (by omega), f6, f7, f8, f9, f10, f11, rfl⟩ (by
    intro i hi η hI
    rw [rangeL_get hi]
    rw [rangeL_len] at hi
    obtain ⟨η', e, I⟩ := start_ok G (st := 0 + (i : Int)) (by omega) hn (by omega) hI
    exact ⟨η', .inl e, I⟩)
  obtain ⟨pt, k5, t6, t7, t8, t9, t10, t11, hk, hp, g6, g7, g8, g9, g10, g11, rfl⟩ := I
  refine ⟨_, cell_core f1 f2 f3 f4 f5 e0 e1 eg ix mn ec (l3_core gl ix el), vS (.int c), .val 1 false pt, vS (.int n), vS (gridD p ts), .val k5 false (.lst (LL p ts n)), t6, t7, t8, t9, t10, t11, rfl, rfl, rfl, rfl, ?_, g6, g7, g8, g9, g10, g11, rfl⟩
  rcases hk with rfl | rfl <;> rfl
theorem hit_gen {F : FnSem} {d m : D} {xs : List D} {t : List DV.Slot} (ef : F [(0, d), (0, m)] = .ok 1 (.lst xs) [.no, .no]) : S.items (S.fz (S.call F [.ex (S.var 0), .ex (S.c m)])) (.val 0 false d :: t) = .ok xs (.val 0 false d :: t) := by
  unfold S.items
  simp -implicitDefEqProofs [ef]
theorem end_ok {ns : D} {η : DV.Env} (hI : ILaw (vS ns) η) (lp : Sem.l4_law (eL (vS ns) .no .no .no .no .no .no .no .no .no .no .no) = .ok .nx η) : Sem.f_law [(0, ns)] = .ok 0 (.bl true) [.no] := by
  obtain ⟨s1, s2, s3, s4, s5, s6, s7, s8, s9, s10, s11, _, _, _, _, _, _, _, _, _, _, _, rfl⟩ := hI
  (rw [Sem.f_law_eq]; unfold Sem.s_law)
  simp -implicitDefEqProofs [v_run, lp]
theorem l4_eq {η : DV.Env} : Sem.l4_law η = (S.items (S.fz (S.call Sem.f__law_folded [.ex (S.var 0), .ex (S.c (.int 2))])) η).bind fun ds η1 => S.forL (S.name 1) Sem.b4_law ds η1 := rfl
theorem holds (ns : List Int) (hn : ns.length ≤ 63) : ∃ k bk, Sem.f_law [(0, .lst (ns.map .int))] = .ok k (.bl true) bk := by
  obtain ⟨xs, ef, _⟩ := folded_ok ns 2 (by decide) (by decide)
  have ef : Sem.f__law_folded [(0, .lst (ns.map .int)), (0, .int 2)] = .ok 1 (.lst (xs.map .int)) [.no, .no] := ef
  obtain ⟨η', e1, e2⟩ := forL_same (g := S.name 1) (body := Sem.b4_law) (ds := xs.map .int) (η := eL (vS (.lst (ns.map .int))) .no .no .no .no .no .no .no .no .no .no .no) (ILaw (vS (.lst (ns.map .int)))) ⟨.no, .no, .no, .no, .no, .no, .no, .no, .no, .no, .no, rfl, rfl, rfl, rfl, rfl, .inl rfl, rfl, rfl, rfl, rfl, rfl, rfl⟩ fun d hd η hI => by
    obtain ⟨c, _, rfl⟩ := List.mem_map.mp hd
    obtain ⟨η', e, I⟩ := cell_ok c hI
    exact ⟨η', .inl e, I⟩
  refine ⟨0, [.no], end_ok e2 ?_⟩
  rw [l4_eq]
  show (S.items _ (vS (.lst (ns.map .int)) :: _)).bind _ = _
  rw [hit_gen ef, bind_ok]
  exact e1
end Maths

/-! ### the text, the meanings -/
namespace G
open PySem PySem.Spec PyProof.Rows L2 DV
def top (i : Nat) : Stmt := PySem.Challenge.pw_farwide_k20_whole_far_from_one_another.main.body.getD i (.Pass ⟨0, 0, 0, 0⟩)
def N_is_whole : List Str := ["thing"]
def N_steps_from : List Str := ["grid", "p", "found", "a", "b", "x", "y"]
def N__law_folded : List Str := ["cells", "many", "found", "k", "cell"]
def N__law_begun : List Str := ["cell", "rest"]
def N__law_take : List Str := ["pot", "size", "digit", "mixed"]
def N__law_turned : List Str := ["tie"]
def N__law_both_right : List Str := ["looks", "start", "n", "place", "number", "p", "x", "y"]
def N_is_of : List Str := ["places", "thing"]
def N_beside : List Str := ["grid", "place", "p", "x", "y", "q", "u", "v"]
def N__law_tie : List Str := ["pot", "places", "a", "b", "x", "y"]
def N__law_written : List Str := ["tie"]
def N__law_known : List Str := ["pot", "some"]
def N__law_between : List Str := ["pot", "looks", "start", "n", "some", "turn", "p", "x", "y", "q", "u", "v", "on"]
def N_is_place : List Str := ["grid", "thing", "number"]
def N_rings_from : List Str := ["grid", "start", "n", "far", "ring", "distance", "further", "place", "other"]
def N_one_nearer : List Str := ["grid", "place", "far", "other"]
def N_all_beside : List Str := ["grid", "place", "far", "other"]
def N_rings_to : List Str := ["grid", "start", "place", "far", "ring", "further", "one", "other"]
def N__law_grid : List Str := ["pot", "places", "ties", "turn", "tie"]
def N_neighbours_of : List Str := ["grid", "place"]
def N_look_from : List Str := ["grid", "start", "n"]
def N_look_right : List Str := ["grid", "start", "n", "look", "far", "place", "number", "begin", "one", "other"]
def N_shells_near : List Str := ["grid", "start", "n", "counts", "far", "place"]
def N_way_holds : List Str := ["grid", "way", "place", "one", "other"]
def N_way_to : List Str := ["grid", "start", "place", "far", "back", "nearer", "other"]
def N__law_ways_right : List Str := ["pot", "grid", "looks", "start", "some", "turn", "place", "way"]
def N_law : List Str := ["script", "cell", "pot", "n", "grid", "looks", "start", "far", "place", "other", "counts", "look", "distance"]
end G
namespace G
open PySem PySem.Spec PyProof.Rows L2 DV RZ Sem
/-- what the top has left -/
structure Tt (K : PySem.W.Frag) (mg : Str → Option Value) : Prop where
  g_is_whole : mg "is_whole" = some (.ref (He.ga K "is_whole"))
  d_is_whole : ∃ fd, FunD K "is_whole" "is_whole" (defArgs (top 5)) (defBody (top 5)) (defScope (top 5)) [] [] (He.ga K "is_whole") fd
  g_is_of : mg "is_of" = some (.ref (He.ga K "is_of"))
  d_is_of : ∃ fd, FunD K "is_of" "is_of" (defArgs (top 8)) (defBody (top 8)) (defScope (top 8)) [] [] (He.ga K "is_of") fd
  g_is_place : mg "is_place" = some (.ref (He.ga K "is_place"))
  d_is_place : ∃ fd, FunD K "is_place" "is_place" (defArgs (top 9)) (defBody (top 9)) (defScope (top 9)) [] [] (He.ga K "is_place") fd
  g_steps_from : mg "steps_from" = some (.ref (He.ga K "steps_from"))
  d_steps_from : ∃ fd, FunD K "steps_from" "steps_from" (defArgs (top 10)) (defBody (top 10)) (defScope (top 10)) [] [] (He.ga K "steps_from") fd
  g_beside : mg "beside" = some (.ref (He.ga K "beside"))
  d_beside : ∃ fd, FunD K "beside" "beside" (defArgs (top 11)) (defBody (top 11)) (defScope (top 11)) [] [] (He.ga K "beside") fd
  g_neighbours_of : mg "neighbours_of" = some (.ref (He.ga K "neighbours_of"))
  d_neighbours_of : ∃ fd, FunD K "neighbours_of" "neighbours_of" (defArgs (top 12)) (defBody (top 12)) (defScope (top 12)) [] [] (He.ga K "neighbours_of") fd
  g_rings_from : mg "rings_from" = some (.ref (He.ga K "rings_from"))
  d_rings_from : ∃ fd, FunD K "rings_from" "rings_from" (defArgs (top 14)) (defBody (top 14)) (defScope (top 14)) [] [] (He.ga K "rings_from") fd
  g_look_from : mg "look_from" = some (.ref (He.ga K "look_from"))
  d_look_from : ∃ fd, FunD K "look_from" "look_from" (defArgs (top 15)) (defBody (top 15)) (defScope (top 15)) [] [] (He.ga K "look_from") fd
  g_one_nearer : mg "one_nearer" = some (.ref (He.ga K "one_nearer"))
  d_one_nearer : ∃ fd, FunD K "one_nearer" "one_nearer" (defArgs (top 16)) (defBody (top 16)) (defScope (top 16)) [] [] (He.ga K "one_nearer") fd
  g_all_beside : mg "all_beside" = some (.ref (He.ga K "all_beside"))
  d_all_beside : ∃ fd, FunD K "all_beside" "all_beside" (defArgs (top 17)) (defBody (top 17)) (defScope (top 17)) [] [] (He.ga K "all_beside") fd
  g_look_right : mg "look_right" = some (.ref (He.ga K "look_right"))
  d_look_right : ∃ fd, FunD K "look_right" "look_right" (defArgs (top 18)) (defBody (top 18)) (defScope (top 18)) [] [] (He.ga K "look_right") fd
  g_shells_near : mg "shells_near" = some (.ref (He.ga K "shells_near"))
  d_shells_near : ∃ fd, FunD K "shells_near" "shells_near" (defArgs (top 19)) (defBody (top 19)) (defScope (top 19)) [] [] (He.ga K "shells_near") fd
  g_way_holds : mg "way_holds" = some (.ref (He.ga K "way_holds"))
  d_way_holds : ∃ fd, FunD K "way_holds" "way_holds" (defArgs (top 22)) (defBody (top 22)) (defScope (top 22)) [] [] (He.ga K "way_holds") fd
  g_rings_to : mg "rings_to" = some (.ref (He.ga K "rings_to"))
  d_rings_to : ∃ fd, FunD K "rings_to" "rings_to" (defArgs (top 23)) (defBody (top 23)) (defScope (top 23)) [] [] (He.ga K "rings_to") fd
  g_way_to : mg "way_to" = some (.ref (He.ga K "way_to"))
  d_way_to : ∃ fd, FunD K "way_to" "way_to" (defArgs (top 24)) (defBody (top 24)) (defScope (top 24)) [] [] (He.ga K "way_to") fd
  g__law_folded : mg "_law_folded" = some (.ref (He.ga K "_law_folded"))
  d__law_folded : ∃ fd, FunD K "_law_folded" "_law_folded" (defArgs (top 26)) (defBody (top 26)) (defScope (top 26)) [] [] (He.ga K "_law_folded") fd
  g__law_begun : mg "_law_begun" = some (.ref (He.ga K "_law_begun"))
  d__law_begun : ∃ fd, FunD K "_law_begun" "_law_begun" (defArgs (top 27)) (defBody (top 27)) (defScope (top 27)) [] [] (He.ga K "_law_begun") fd
  g__law_take : mg "_law_take" = some (.ref (He.ga K "_law_take"))
  d__law_take : ∃ fd, FunD K "_law_take" "_law_take" (defArgs (top 28)) (defBody (top 28)) (defScope (top 28)) [] [] (He.ga K "_law_take") fd
  g__law_tie : mg "_law_tie" = some (.ref (He.ga K "_law_tie"))
  d__law_tie : ∃ fd, FunD K "_law_tie" "_law_tie" (defArgs (top 29)) (defBody (top 29)) (defScope (top 29)) [] [] (He.ga K "_law_tie") fd
  g__law_turned : mg "_law_turned" = some (.ref (He.ga K "_law_turned"))
  d__law_turned : ∃ fd, FunD K "_law_turned" "_law_turned" (defArgs (top 30)) (defBody (top 30)) (defScope (top 30)) [] [] (He.ga K "_law_turned") fd
  g__law_written : mg "_law_written" = some (.ref (He.ga K "_law_written"))
  d__law_written : ∃ fd, FunD K "_law_written" "_law_written" (defArgs (top 31)) (defBody (top 31)) (defScope (top 31)) [] [] (He.ga K "_law_written") fd
  g__law_known : mg "_law_known" = some (.ref (He.ga K "_law_known"))
  d__law_known : ∃ fd, FunD K "_law_known" "_law_known" (defArgs (top 32)) (defBody (top 32)) (defScope (top 32)) [] [] (He.ga K "_law_known") fd
  g__law_grid : mg "_law_grid" = some (.ref (He.ga K "_law_grid"))
  d__law_grid : ∃ fd, FunD K "_law_grid" "_law_grid" (defArgs (top 33)) (defBody (top 33)) (defScope (top 33)) [] [] (He.ga K "_law_grid") fd
  g__law_both_right : mg "_law_both_right" = some (.ref (He.ga K "_law_both_right"))
  d__law_both_right : ∃ fd, FunD K "_law_both_right" "_law_both_right" (defArgs (top 34)) (defBody (top 34)) (defScope (top 34)) [] [] (He.ga K "_law_both_right") fd
  g__law_between : mg "_law_between" = some (.ref (He.ga K "_law_between"))
  d__law_between : ∃ fd, FunD K "_law_between" "_law_between" (defArgs (top 35)) (defBody (top 35)) (defScope (top 35)) [] [] (He.ga K "_law_between") fd
  g__law_ways_right : mg "_law_ways_right" = some (.ref (He.ga K "_law_ways_right"))
  d__law_ways_right : ∃ fd, FunD K "_law_ways_right" "_law_ways_right" (defArgs (top 36)) (defBody (top 36)) (defScope (top 36)) [] [] (He.ga K "_law_ways_right") fd
  g_law : mg "law" = some (.ref (He.ga K "law"))
  d_law : ∃ fd, FunD K "law" "law" (defArgs (top 37)) (defBody (top 37)) (defScope (top 37)) [] [] (He.ga K "law") fd
  b_abs : mg "abs" = none
  b_all : mg "all" = none
  b_any : mg "any" = none
  b_bool : mg "bool" = none
  b_dict : mg "dict" = none
  b_enumerate : mg "enumerate" = none
  b_int : mg "int" = none
  b_isinstance : mg "isinstance" = none
  b_len : mg "len" = none
  b_list : mg "list" = none
  b_max : mg "max" = none
  b_min : mg "min" = none
  b_range : mg "range" = none
  b_sorted : mg "sorted" = none
  b_tuple : mg "tuple" = none
  b_zip : mg "zip" = none
  c_FAR : ∃ t, mg "FAR" = some (.int 1000000000000000000000000000000 t)
  c_MOST_FAR : ∃ t, mg "MOST_FAR" = some (.int 12 t)
  g_NoPlace : mg "NoPlace" = some (.ref (He.ga K "NoPlace"))
  x_NoPlace : PySem.W.excIn K (He.ga K "NoPlace") He.veBase "ValueError.__new__" = true ∧ PySem.W.keepIn K (.ref (He.ga K "NoPlace")) = true ∧ PySem.W.subIn K (.ref (He.ga K "NoPlace")) (.type "BaseException") = some true ∧ PySem.W.typeIn K (.ref (He.ga K "NoPlace")) = some (.type "type")
  g_TooFar : mg "TooFar" = some (.ref (He.ga K "TooFar"))
  x_TooFar : PySem.W.excIn K (He.ga K "TooFar") He.veBase "ValueError.__new__" = true ∧ PySem.W.keepIn K (.ref (He.ga K "TooFar")) = true ∧ PySem.W.subIn K (.ref (He.ga K "TooFar")) (.type "BaseException") = some true ∧ PySem.W.typeIn K (.ref (He.ga K "TooFar")) = some (.type "type")
section
variable {P : Program} {w : World} {K : PySem.W.Frag} {mg : Str → Option Value} {base : Heap}
theorem sc_is_whole : FnScope N_is_whole ["thing"] (defScope (top 5)) := ⟨rfl, rfl, rfl, by decide +kernel, rfl, by decide +kernel, by decide +kernel⟩
theorem ok_is_whole (T : Tt K mg) : Has P w K mg base "is_whole" ["thing"] 1 f_is_whole [false] := by
  obtain ⟨fd, F⟩ := T.d_is_whole
  rw [f_is_whole_eq]
  exact has_of F sc_is_whole rfl T.g_is_whole (fun _ _ _ _ _ _ us hl => match us, hl with | [_], _ => rfl) fun cdv A outer s H E L hr =>
    (js_one (js_ret (jf_up (je_and (je_isi (jo_nm (pv 0)) rfl T.b_isinstance rfl T.b_int (by decide +kernel)) (je_one (je_not (je_isi (jo_nm (pv 0)) rfl T.b_isinstance rfl T.b_bool (by decide +kernel))))))))
theorem sc_steps_from : FnScope N_steps_from ["grid", "p"] (defScope (top 10)) := ⟨rfl, rfl, rfl, by decide +kernel, rfl, by decide +kernel, by decide +kernel⟩
theorem ok_steps_from (T : Tt K mg) : Has P w K mg base "steps_from" ["grid", "p"] 1 f_steps_from [false, false] := by
  obtain ⟨fd, F⟩ := T.d_steps_from
  rw [f_steps_from_eq]
  exact has_of F sc_steps_from rfl T.g_steps_from (fun _ _ _ _ _ _ us hl => match us, hl with | [_, _], _ => rfl) fun cdv A outer s H E L hr =>
    (js_cons (js_asg sc_steps_from.nd rfl (by first | exact Or.inl rfl | exact Or.inr rfl) (jf_lst jl_nil) rfl (by first | exact Or.inr rfl | exact Or.inl rfl)) (js_cons (js_for (passes_of rfl) rfl (ji_items (je_fz (jf_ixA (u1 hr) (jo_nm (pv 0)) (jo_ex je_int) (fun _ _ => rfl)))) (jg_tup rfl (jgs_cons (jg_name sc_steps_from.nd rfl (by first | exact Or.inl rfl | exact Or.inr rfl) (by first | exact Or.inr rfl | exact Or.inl rfl)) (jgs_cons (jg_name sc_steps_from.nd rfl (by first | exact Or.inl rfl | exact Or.inr rfl) (by first | exact Or.inr rfl | exact Or.inl rfl)) (jgs_cons (jg_name sc_steps_from.nd rfl (by first | exact Or.inl rfl | exact Or.inr rfl) (by first | exact Or.inr rfl | exact Or.inl rfl)) (jgs_cons (jg_name sc_steps_from.nd rfl (by first | exact Or.inl rfl | exact Or.inr rfl) (by first | exact Or.inr rfl | exact Or.inl rfl)) jgs_nil)))) rfl) (js_cons (js_if (jt_cmp (op_eqD hr.units) cz_eq (jo_nm (pv 3)) (jo_nm (pv 1)) (nomark _)) (js_one (js_expr (je_lm md_append PySem.F.slot_list_append PySem.F.type_list_append mt_append (pv 2) (jl_cons (je_tup (jl_cons (je_var (pv 4)) (jl_cons (je_var (pv 5)) (jl_cons (je_var (pv 6)) jl_nil)))) jl_nil)))) js_nil) (js_one (js_if (jt_cmp (op_eqD hr.units) cz_eq (jo_nm (pv 4)) (jo_nm (pv 1)) (nomark _)) (js_one (js_expr (je_lm md_append PySem.F.slot_list_append PySem.F.type_list_append mt_append (pv 2) (jl_cons (je_tup (jl_cons (je_var (pv 3)) (jl_cons (je_fz (jf_bin op_sub sz_sub (jo_ex je_int) (jo_nm (pv 5)))) (jl_cons (je_fz (jf_bin op_sub sz_sub (jo_ex je_int) (jo_nm (pv 6)))) jl_nil)))) jl_nil)))) js_nil))) (fun _ => rfl)) (js_one (js_ret (jf_mov (pv 2))))))
theorem sc__law_folded : FnScope N__law_folded ["cells", "many"] (defScope (top 26)) := ⟨rfl, rfl, rfl, by decide +kernel, rfl, by decide +kernel, by decide +kernel⟩
theorem ok__law_folded (T : Tt K mg) : Has P w K mg base "_law_folded" ["cells", "many"] 1 f__law_folded [false, false] := by
  obtain ⟨fd, F⟩ := T.d__law_folded
  rw [f__law_folded_eq]
  exact has_of F sc__law_folded rfl T.g__law_folded (fun _ _ _ _ _ _ us hl => match us, hl with | [_, _], _ => rfl) fun cdv A outer s H E L hr =>
    (js_cons (js_asg sc__law_folded.nd rfl (by first | exact Or.inl rfl | exact Or.inr rfl) (jf_bin op_mulA sz_mul (jo_ex (je_fz (jf_lst (jl_cons je_int jl_nil)))) (jo_ex (je_callD (cd_minA cd_min) (pe_callB (CallR.or' (cr_minT rfl (u65 hr)) (CallR.or' (call_min2 rfl) (cr_min rfl))) rfl T.b_min (by decide +kernel) (jos_cons (jo_nm (pv 1)) (jos_cons (jo_ex (je_callD (cd_maxA cd_max) (pe_callB (CallR.or' (cr_maxT rfl (u65 hr)) (CallR.or' (call_max2 rfl) (cr_max rfl))) rfl T.b_max (by decide +kernel) (jos_cons (jo_ex je_int) (jos_cons (jo_ex (je_callD cd_len (pe_callB call_len rfl T.b_len (by decide +kernel) (jos_cons (jo_nm (pv 0)) jos_nil)))) jos_nil))))) jos_nil)))))) rfl (by first | exact Or.inr rfl | exact Or.inl rfl)) (js_cons (js_for (passes_of rfl) rfl (ji_enum rfl T.b_enumerate (je_var (pv 0))) (jg_tup rfl (jgs_cons (jg_name sc__law_folded.nd rfl (by first | exact Or.inl rfl | exact Or.inr rfl) (by first | exact Or.inr rfl | exact Or.inl rfl)) (jgs_cons (jg_name sc__law_folded.nd rfl (by first | exact Or.inl rfl | exact Or.inr rfl) (by first | exact Or.inr rfl | exact Or.inl rfl)) jgs_nil)) rfl) (js_one (js_setA (u1 hr) (je_fz (jf_bin op_addA sz_op (jo_ex (je_fz (jf_bin op_mulA sz_mul (jo_ex (je_fz (jf_ixA (u1 hr) (jo_nm (pv 2)) (jo_ex (je_fz (jf_bin op_modN sz_mod (jo_nm (pv 3)) (jo_ex (je_callD cd_len (pe_callB call_len rfl T.b_len (by decide +kernel) (jos_cons (jo_nm (pv 2)) jos_nil))))))) (fun _ _ => rfl)))) (jo_ex je_int)))) (jo_nm (pv 4)))) (pv 2) (je_fz (jf_bin op_modN sz_mod (jo_nm (pv 3)) (jo_ex (je_callD cd_len (pe_callB call_len rfl T.b_len (by decide +kernel) (jos_cons (jo_nm (pv 2)) jos_nil)))))))) (fun _ => rfl)) (js_one (js_ret (jf_mov (pv 2))))))
theorem sc__law_begun : FnScope N__law_begun ["cell"] (defScope (top 27)) := ⟨rfl, rfl, rfl, by decide +kernel, rfl, by decide +kernel, by decide +kernel⟩
theorem ok__law_begun (T : Tt K mg) : Has P w K mg base "_law_begun" ["cell"] 1 f__law_begun [false] := by
  obtain ⟨fd, F⟩ := T.d__law_begun
  rw [f__law_begun_eq]
  exact has_of F sc__law_begun rfl T.g__law_begun (fun _ _ _ _ _ _ us hl => match us, hl with | [_], _ => rfl) fun cdv A outer s H E L hr =>
    (js_cons (js_asg sc__law_begun.nd rfl (by first | exact Or.inl rfl | exact Or.inr rfl) (jf_up je_int) rfl (by first | exact Or.inr rfl | exact Or.inl rfl)) (js_cons (js_if (jt_cmp (op_geX (u65 hr)) cz_geX (jo_ex (je_callD cd_abs (pe_callB call_abs rfl T.b_abs (by decide +kernel) (jos_cons (jo_nm (pv 0)) jos_nil)))) (jo_ex (je_fz (jf_bin op_pow sz_pow (jo_ex je_int) (jo_ex je_int)))) (nomark _)) (js_one (js_asg sc__law_begun.nd rfl (by first | exact Or.inl rfl | exact Or.inr rfl) (jf_bin op_addA sz_op (jo_ex (je_fz (jf_bin op_sub sz_sub (jo_ex (je_callD cd_abs (pe_callB call_abs rfl T.b_abs (by decide +kernel) (jos_cons (jo_nm (pv 0)) jos_nil)))) (jo_ex (je_fz (jf_bin op_pow sz_pow (jo_ex je_int) (jo_ex je_int))))))) (jo_ex je_int)) rfl (by first | exact Or.inr rfl | exact Or.inl rfl))) js_nil) (js_one (js_ret (jf_lst (jl_cons (je_var (pv 1)) (jl_cons je_int (jl_cons (je_fz (jf_bin op_modN sz_mod (jo_nm (pv 0)) (jo_ex je_int))) jl_nil))))))))
theorem sc__law_take : FnScope N__law_take ["pot", "size"] (defScope (top 28)) := ⟨rfl, rfl, rfl, by decide +kernel, rfl, by decide +kernel, by decide +kernel⟩
theorem ok__law_take (T : Tt K mg) : Has P w K mg base "_law_take" ["pot", "size"] 1 f__law_take [true, false] := by
  obtain ⟨fd, F⟩ := T.d__law_take
  rw [f__law_take_eq]
  exact has_of F sc__law_take rfl T.g__law_take (fun _ _ _ _ _ _ us hl => match us, hl with | [_, _], _ => rfl) fun cdv A outer s H E L hr =>
    (js_cons (js_if (jt_cmp (op_gtX (u65 hr)) cz_gtX (jo_ex (je_fz (jf_ixA (u1 hr) (jo_nm (pv 0)) (jo_ex je_int) (fun _ _ => rfl)))) (jo_ex je_int) (nomark _)) (js_cons (js_asg sc__law_take.nd rfl (by first | exact Or.inl rfl | exact Or.inr rfl) (jf_bin op_modN sz_mod (jo_ex (je_fz (jf_ixA (u1 hr) (jo_nm (pv 0)) (jo_ex je_int) (fun _ _ => rfl)))) (jo_nm (pv 1))) rfl (by first | exact Or.inr rfl | exact Or.inl rfl)) (js_cons (js_setA (u1 hr) (je_fz (jf_bin op_fdivA sz_fdiv (jo_ex (je_fz (jf_ixA (u1 hr) (jo_nm (pv 0)) (jo_ex je_int) (fun _ _ => rfl)))) (jo_nm (pv 1)))) (pv 0) je_int) (js_one (js_ret (jf_mov (pv 2)))))) js_nil) (js_cons (js_setA (u1 hr) (je_fz (jf_bin op_addA sz_op (jo_ex (je_fz (jf_ixA (u1 hr) (jo_nm (pv 0)) (jo_ex je_int) (fun _ _ => rfl)))) (jo_ex je_int))) (pv 0) je_int) (js_cons (js_asg sc__law_take.nd rfl (by first | exact Or.inl rfl | exact Or.inr rfl) (jf_bin op_modN sz_mod (jo_ex (je_fz (jf_bin op_addA sz_op (jo_ex (je_fz (jf_bin op_addA sz_op (jo_ex (je_fz (jf_bin op_addA sz_op (jo_ex (je_fz (jf_ixA (u1 hr) (jo_nm (pv 0)) (jo_ex je_int) (fun _ _ => rfl)))) (jo_ex (je_fz (jf_bin op_mulA sz_mul (jo_ex (je_fz (jf_bin op_mulA sz_mul (jo_ex je_int) (jo_ex (je_fz (jf_ixA (u1 hr) (jo_nm (pv 0)) (jo_ex je_int) (fun _ _ => rfl))))))) (jo_ex (je_fz (jf_ixA (u1 hr) (jo_nm (pv 0)) (jo_ex je_int) (fun _ _ => rfl)))))))))) (jo_ex (je_fz (jf_bin op_mulA sz_mul (jo_ex je_int) (jo_ex (je_fz (jf_ixA (u1 hr) (jo_nm (pv 0)) (jo_ex je_int) (fun _ _ => rfl)))))))))) (jo_ex je_int)))) (jo_ex je_int)) rfl (by first | exact Or.inr rfl | exact Or.inl rfl)) (js_cons (js_asg sc__law_take.nd rfl (by first | exact Or.inl rfl | exact Or.inr rfl) (jf_bin op_modN sz_mod (jo_ex (je_fz (jf_bin op_mulA sz_mul (jo_ex (je_fz (jf_bin op_modN sz_mod (jo_ex (je_fz (jf_bin op_mulA sz_mul (jo_nm (pv 3)) (jo_nm (pv 3))))) (jo_ex je_int)))) (jo_ex je_int)))) (jo_ex je_int)) rfl (by first | exact Or.inr rfl | exact Or.inl rfl)) (js_one (js_ret (jf_bin op_modN sz_mod (jo_ex (je_fz (jf_bin op_fdivA sz_fdiv (jo_nm (pv 3)) (jo_ex je_int)))) (jo_nm (pv 1)))))))))
theorem sc__law_turned : FnScope N__law_turned ["tie"] (defScope (top 30)) := ⟨rfl, rfl, rfl, by decide +kernel, rfl, by decide +kernel, by decide +kernel⟩
theorem ok__law_turned (T : Tt K mg) : Has P w K mg base "_law_turned" ["tie"] 1 f__law_turned [false] := by
  obtain ⟨fd, F⟩ := T.d__law_turned
  rw [f__law_turned_eq]
  exact has_of F sc__law_turned rfl T.g__law_turned (fun _ _ _ _ _ _ us hl => match us, hl with | [_], _ => rfl) fun cdv A outer s H E L hr =>
    (js_one (js_ret (jf_up (je_tup (jl_cons (je_fz (jf_ixA (u1 hr) (jo_nm (pv 0)) (jo_ex je_int) (fun _ _ => rfl))) (jl_cons (je_fz (jf_ixA (u1 hr) (jo_nm (pv 0)) (jo_ex je_int) (fun _ _ => rfl))) (jl_cons (je_fz (jf_bin op_sub sz_sub (jo_ex je_int) (jo_ex (je_fz (jf_ixA (u1 hr) (jo_nm (pv 0)) (jo_ex je_int) (fun _ _ => rfl)))))) (jl_cons (je_fz (jf_bin op_sub sz_sub (jo_ex je_int) (jo_ex (je_fz (jf_ixA (u1 hr) (jo_nm (pv 0)) (jo_ex je_int) (fun _ _ => rfl)))))) jl_nil))))))))
theorem sc__law_both_right : FnScope N__law_both_right ["looks", "start", "n"] (defScope (top 34)) := ⟨rfl, rfl, rfl, by decide +kernel, rfl, by decide +kernel, by decide +kernel⟩
theorem ok__law_both_right (T : Tt K mg) : Has P w K mg base "_law_both_right" ["looks", "start", "n"] 1 f__law_both_right [false, false, false] := by
  obtain ⟨fd, F⟩ := T.d__law_both_right
  rw [f__law_both_right_eq]
  exact has_of F sc__law_both_right rfl T.g__law_both_right (fun _ _ _ _ _ _ us hl => match us, hl with | [_, _, _], _ => rfl) fun cdv A outer s H E L hr =>
    (js_cons (js_for (passes_of rfl) rfl (ji_items (je_fz (jf_sortItO rfl (u65 hr) rfl T.b_sorted (jo_ex (je_fz (jf_ixA (u1 hr) (jo_nm (pv 0)) (jo_nm (pv 1)) (fun _ _ => rfl))))))) (jg_tup rfl (jgs_cons (jg_name sc__law_both_right.nd rfl (by first | exact Or.inl rfl | exact Or.inr rfl) (by first | exact Or.inr rfl | exact Or.inl rfl)) (jgs_cons (jg_name sc__law_both_right.nd rfl (by first | exact Or.inl rfl | exact Or.inr rfl) (by first | exact Or.inr rfl | exact Or.inl rfl)) jgs_nil)) rfl) (js_cons (js_asgG (je_var (pv 3)) (jg_tup rfl (jgs_cons (jg_name sc__law_both_right.nd rfl (by first | exact Or.inl rfl | exact Or.inr rfl) (by first | exact Or.inr rfl | exact Or.inl rfl)) (jgs_cons (jg_name sc__law_both_right.nd rfl (by first | exact Or.inl rfl | exact Or.inr rfl) (by first | exact Or.inr rfl | exact Or.inl rfl)) (jgs_cons (jg_name sc__law_both_right.nd rfl (by first | exact Or.inl rfl | exact Or.inr rfl) (by first | exact Or.inr rfl | exact Or.inl rfl)) jgs_nil))) rfl)) (js_one (js_if (jt_cmp (op_neD hr.units) cz_ne (jo_ex (je_fz (jf_dget2 (u1 hr) (jo_ex (je_fz (jf_ixA (u1 hr) (jo_nm (pv 0)) (jo_nm (pv 5)) (fun _ _ => rfl)))) (jo_ex (je_tup (jl_cons (je_var (pv 1)) (jl_cons (je_fz (jf_bin op_sub sz_sub (jo_ex je_int) (jo_nm (pv 6)))) (jl_cons (je_fz (jf_bin op_sub sz_sub (jo_ex je_int) (jo_nm (pv 7)))) jl_nil))))) (je_fz (jf_bin op_sub sz_sub (jo_ex je_int) (jo_ex je_int))) ⟨rfl, rfl, rfl, rfl⟩))) (jo_nm (pv 4)) (nomark _)) (js_one (js_ret (jf_up je_bl))) js_nil))) (fun _ => rfl)) (js_one (js_ret (jf_up je_bl))))
theorem sc_is_of : FnScope N_is_of ["places", "thing"] (defScope (top 8)) := ⟨rfl, rfl, rfl, by decide +kernel, rfl, by decide +kernel, by decide +kernel⟩
theorem ok_is_of (T : Tt K mg) : Has P w K mg base "is_of" ["places", "thing"] 2 f_is_of [false, false] := by
  obtain ⟨fd, F⟩ := T.d_is_of
  rw [f_is_of_eq]
  have h_is_whole : Has P w K mg base "is_whole" ["thing"] 1 f_is_whole [false] := ok_is_whole T
  exact has_of F sc_is_of rfl T.g_is_of (fun _ _ _ _ _ _ us hl => match us, hl with | [_, _], _ => rfl) fun cdv A outer s H E L hr =>
    (js_one (js_ret (jf_up (je_and (je_fz (jf_callH h_is_whole (hr.mono (by decide)) rfl (takes_of rfl rfl rfl rfl) rfl rfl (ja_ex (je_var (pv 1)) ja_nil))) (je_one (je_chain (op_leX (u65 hr)) (op_ltA hr.units0) cz_leX cz_lt je_int (je_var (pv 1)) (je_var (pv 0))))))))
theorem sc_beside : FnScope N_beside ["grid", "place"] (defScope (top 11)) := ⟨rfl, rfl, rfl, by decide +kernel, rfl, by decide +kernel, by decide +kernel⟩
theorem ok_beside (T : Tt K mg) : Has P w K mg base "beside" ["grid", "place"] 2 f_beside [false, false] := by
  obtain ⟨fd, F⟩ := T.d_beside
  rw [f_beside_eq]
  have h_steps_from : Has P w K mg base "steps_from" ["grid", "p"] 1 f_steps_from [false, false] := ok_steps_from T
  exact has_of F sc_beside rfl T.g_beside (fun _ _ _ _ _ _ us hl => match us, hl with | [_, _], _ => rfl) fun cdv A outer s H E L hr =>
    (js_cons (js_asgG (je_var (pv 1)) (jg_tup rfl (jgs_cons (jg_name sc_beside.nd rfl (by first | exact Or.inl rfl | exact Or.inr rfl) (by first | exact Or.inr rfl | exact Or.inl rfl)) (jgs_cons (jg_name sc_beside.nd rfl (by first | exact Or.inl rfl | exact Or.inr rfl) (by first | exact Or.inr rfl | exact Or.inl rfl)) (jgs_cons (jg_name sc_beside.nd rfl (by first | exact Or.inl rfl | exact Or.inr rfl) (by first | exact Or.inr rfl | exact Or.inl rfl)) jgs_nil))) rfl)) (js_one (js_ret (jf_lc rfl sc_beside.nd (ji_items (je_fz (jf_callH h_steps_from (hr.mono (by decide)) rfl (takes_of rfl rfl rfl rfl) rfl rfl (ja_ex (je_var (pv 0)) (ja_ex (je_var (pv 2)) ja_nil))))) (blkOk_by (own := [("q", 5), ("u", 6), ("v", 7)]) (N := N_beside) (sc := defScope (top 11)) (by decide +kernel)) rfl (fun _ _ _ _ _ => (jgv_tup rfl (jgsv_cons (jgv_name sc_beside.nd rfl (by first | exact Or.inl rfl | exact Or.inr rfl) (by first | exact Or.inr rfl | exact Or.inl rfl) (by decide)) (jgsv_cons (jgv_name sc_beside.nd rfl (by first | exact Or.inl rfl | exact Or.inr rfl) (by first | exact Or.inr rfl | exact Or.inl rfl) (by decide)) (jgsv_cons (jgv_name sc_beside.nd rfl (by first | exact Or.inl rfl | exact Or.inr rfl) (by first | exact Or.inr rfl | exact Or.inl rfl) (by decide)) jgsv_nil))) rfl)) (fun _ _ _ _ _ => jts_nil) (fun _ _ _ _ _ => (jf_up (je_tup (jl_cons (je_var (pv 5)) (jl_cons (je_fz (jf_bin op_addA sz_op (jo_nm (pv 3)) (jo_nm (pv 6)))) (jl_cons (je_fz (jf_bin op_addA sz_op (jo_nm (pv 4)) (jo_nm (pv 7)))) jl_nil))))))))))
theorem sc__law_tie : FnScope N__law_tie ["pot", "places"] (defScope (top 29)) := ⟨rfl, rfl, rfl, by decide +kernel, rfl, by decide +kernel, by decide +kernel⟩
theorem ok__law_tie (T : Tt K mg) : Has P w K mg base "_law_tie" ["pot", "places"] 2 f__law_tie [true, false] := by
  obtain ⟨fd, F⟩ := T.d__law_tie
  rw [f__law_tie_eq]
  have h__law_take : Has P w K mg base "_law_take" ["pot", "size"] 1 f__law_take [true, false] := ok__law_take T
  exact has_of F sc__law_tie rfl T.g__law_tie (fun _ _ _ _ _ _ us hl => match us, hl with | [_, _], _ => rfl) fun cdv A outer s H E L hr =>
    (js_cons (js_asg sc__law_tie.nd rfl (by first | exact Or.inl rfl | exact Or.inr rfl) (jf_callH h__law_take (hr.mono (by decide)) rfl (takes_of rfl rfl rfl rfl) rfl rfl (ja_lend (pv 0) (ja_ex (je_var (pv 1)) ja_nil))) rfl (by first | exact Or.inr rfl | exact Or.inl rfl)) (js_cons (js_asg sc__law_tie.nd rfl (by first | exact Or.inl rfl | exact Or.inr rfl) (jf_callH h__law_take (hr.mono (by decide)) rfl (takes_of rfl rfl rfl rfl) rfl rfl (ja_lend (pv 0) (ja_ex (je_var (pv 1)) ja_nil))) rfl (by first | exact Or.inr rfl | exact Or.inl rfl)) (js_cons (js_asg sc__law_tie.nd rfl (by first | exact Or.inl rfl | exact Or.inr rfl) (jf_bin op_sub sz_sub (jo_ex (je_fz (jf_callH h__law_take (hr.mono (by decide)) rfl (takes_of rfl rfl rfl rfl) rfl rfl (ja_lend (pv 0) (ja_ex je_int ja_nil))))) (jo_ex je_int)) rfl (by first | exact Or.inr rfl | exact Or.inl rfl)) (js_cons (js_asg sc__law_tie.nd rfl (by first | exact Or.inl rfl | exact Or.inr rfl) (jf_bin op_sub sz_sub (jo_ex (je_fz (jf_callH h__law_take (hr.mono (by decide)) rfl (takes_of rfl rfl rfl rfl) rfl rfl (ja_lend (pv 0) (ja_ex je_int ja_nil))))) (jo_ex je_int)) rfl (by first | exact Or.inr rfl | exact Or.inl rfl)) (js_cons (js_if (PW.pt (jw_and (jt_cmp (op_eqD hr.units) cz_eq (jo_nm (pv 2)) (jo_nm (pv 3)) (nomark _)) (jw_and1 (jt_cmp (op_eqD hr.units) cz_eq (jo_ex (je_tup (jl_cons (je_var (pv 4)) (jl_cons (je_var (pv 5)) jl_nil)))) (jo_ex (je_tup (jl_cons je_int (jl_cons je_int jl_nil)))) (nomark _))))) (js_one (js_asg sc__law_tie.nd rfl (by first | exact Or.inl rfl | exact Or.inr rfl) (jf_bin op_sub sz_sub (jo_ex je_int) (jo_ex (je_fz (jf_bin op_mulA sz_mul (jo_ex je_int) (jo_ex (je_fz (jf_callH h__law_take (hr.mono (by decide)) rfl (takes_of rfl rfl rfl rfl) rfl rfl (ja_lend (pv 0) (ja_ex je_int ja_nil))))))))) rfl (by first | exact Or.inr rfl | exact Or.inl rfl))) js_nil) (js_one (js_ret (jf_up (je_tup (jl_cons (je_var (pv 2)) (jl_cons (je_var (pv 3)) (jl_cons (je_var (pv 4)) (jl_cons (je_var (pv 5)) jl_nil)))))))))))))
theorem sc__law_written : FnScope N__law_written ["tie"] (defScope (top 31)) := ⟨rfl, rfl, rfl, by decide +kernel, rfl, by decide +kernel, by decide +kernel⟩
theorem ok__law_written (T : Tt K mg) : Has P w K mg base "_law_written" ["tie"] 2 f__law_written [false] := by
  obtain ⟨fd, F⟩ := T.d__law_written
  rw [f__law_written_eq]
  have h__law_turned : Has P w K mg base "_law_turned" ["tie"] 1 f__law_turned [false] := ok__law_turned T
  exact has_of F sc__law_written rfl T.g__law_written (fun _ _ _ _ _ _ us hl => match us, hl with | [_], _ => rfl) fun cdv A outer s H E L hr =>
    (js_cons (js_if (PW.pt (jw_or (jt_cmp (op_ltA hr.units0) cz_lt (jo_ex (je_fz (jf_ixA (u1 hr) (jo_nm (pv 0)) (jo_ex je_int) (fun _ _ => rfl)))) (jo_ex (je_fz (jf_ixA (u1 hr) (jo_nm (pv 0)) (jo_ex je_int) (fun _ _ => rfl)))) (nomark _)) (jw_or1 (PW.pt (jw_and (jt_cmp (op_eqD hr.units) cz_eq (jo_ex (je_fz (jf_ixA (u1 hr) (jo_nm (pv 0)) (jo_ex je_int) (fun _ _ => rfl)))) (jo_ex (je_fz (jf_ixA (u1 hr) (jo_nm (pv 0)) (jo_ex je_int) (fun _ _ => rfl)))) (nomark _)) (jw_and1 (jt_cmp (op_gtX (u65 hr)) cz_gtX (jo_ex (je_fz (jf_slc (jo_nm (pv 0)) (jp_some je_int) jp_none))) (jo_ex (je_tup (jl_cons je_int (jl_cons je_int jl_nil)))) (nomark _)))))))) (js_one (js_ret (jf_mov (pv 0)))) js_nil) (js_one (js_ret (jf_callH h__law_turned (hr.mono (by decide)) rfl (takes_of rfl rfl rfl rfl) rfl rfl (ja_ex (je_var (pv 0)) ja_nil)))))
theorem sc__law_known : FnScope N__law_known ["pot"] (defScope (top 32)) := ⟨rfl, rfl, rfl, by decide +kernel, rfl, by decide +kernel, by decide +kernel⟩
theorem ok__law_known (T : Tt K mg) : Has P w K mg base "_law_known" ["pot"] 2 f__law_known [true] := by
  obtain ⟨fd, F⟩ := T.d__law_known
  rw [f__law_known_eq]
  have h__law_take : Has P w K mg base "_law_take" ["pot", "size"] 1 f__law_take [true, false] := ok__law_take T
  exact has_of F sc__law_known rfl T.g__law_known (fun _ _ _ _ _ _ us hl => match us, hl with | [_], _ => rfl) fun cdv A outer s H E L hr =>
    (js_cons (js_asg sc__law_known.nd rfl (by first | exact Or.inl rfl | exact Or.inr rfl) (jf_lst (jl_cons (je_tup (jl_cons je_int (jl_cons (je_tup (jl_cons (je_tup (jl_cons je_int (jl_cons je_int (jl_cons je_int (jl_cons je_int jl_nil))))) (jl_cons (je_tup (jl_cons je_int (jl_cons je_int (jl_cons je_int (jl_cons je_int jl_nil))))) jl_nil))) jl_nil))) (jl_cons (je_tup (jl_cons je_int (jl_cons (je_tup (jl_cons (je_tup (jl_cons je_int (jl_cons je_int (jl_cons je_int (jl_cons je_int jl_nil))))) (jl_cons (je_tup (jl_cons je_int (jl_cons je_int (jl_cons je_int (jl_cons je_int jl_nil))))) (jl_cons (je_tup (jl_cons je_int (jl_cons je_int (jl_cons je_int (jl_cons je_int jl_nil))))) jl_nil)))) jl_nil))) jl_nil))) rfl (by first | exact Or.inr rfl | exact Or.inl rfl)) (js_cons (js_expr (je_lm md_append PySem.F.slot_list_append PySem.F.type_list_append mt_append (pv 1) (jl_cons (je_tup (jl_cons je_int (jl_cons (je_tup (jl_cons (je_tup (jl_cons je_int (jl_cons je_int (jl_cons je_int (jl_cons je_int jl_nil))))) (jl_cons (je_tup (jl_cons je_int (jl_cons je_int (jl_cons je_int (jl_cons (je_fz (jf_un un_neg sz_neg (jo_ex je_int))) jl_nil))))) (jl_cons (je_tup (jl_cons je_int (jl_cons je_int (jl_cons je_int (jl_cons je_int jl_nil))))) (jl_cons (je_tup (jl_cons je_int (jl_cons je_int (jl_cons je_int (jl_cons je_int jl_nil))))) jl_nil))))) jl_nil))) jl_nil))) (js_cons (js_expr (je_lm md_append PySem.F.slot_list_append PySem.F.type_list_append mt_append (pv 1) (jl_cons (je_tup (jl_cons je_int (jl_cons (je_tup (jl_cons (je_tup (jl_cons je_int (jl_cons je_int (jl_cons (je_fz (jf_un un_neg sz_neg (jo_ex je_int))) (jl_cons je_int jl_nil))))) (jl_cons (je_tup (jl_cons je_int (jl_cons je_int (jl_cons je_int (jl_cons (je_fz (jf_un un_neg sz_neg (jo_ex je_int))) jl_nil))))) (jl_cons (je_tup (jl_cons je_int (jl_cons je_int (jl_cons je_int (jl_cons je_int jl_nil))))) jl_nil)))) jl_nil))) jl_nil))) (js_cons (js_expr (je_lm md_append PySem.F.slot_list_append PySem.F.type_list_append mt_append (pv 1) (jl_cons (je_tup (jl_cons je_int (jl_cons (je_tup (jl_cons (je_tup (jl_cons je_int (jl_cons je_int (jl_cons (je_fz (jf_un un_neg sz_neg (jo_ex je_int))) (jl_cons je_int jl_nil))))) (jl_cons (je_tup (jl_cons je_int (jl_cons je_int (jl_cons je_int (jl_cons je_int jl_nil))))) (jl_cons (je_tup (jl_cons je_int (jl_cons je_int (jl_cons je_int (jl_cons (je_fz (jf_un un_neg sz_neg (jo_ex je_int))) jl_nil))))) (jl_cons (je_tup (jl_cons je_int (jl_cons je_int (jl_cons je_int (jl_cons je_int jl_nil))))) (jl_cons (je_tup (jl_cons je_int (jl_cons je_int (jl_cons je_int (jl_cons je_int jl_nil))))) (jl_cons (je_tup (jl_cons je_int (jl_cons je_int (jl_cons je_int (jl_cons (je_fz (jf_un un_neg sz_neg (jo_ex je_int))) jl_nil))))) jl_nil))))))) jl_nil))) jl_nil))) (js_cons (js_expr (je_lm md_append PySem.F.slot_list_append PySem.F.type_list_append mt_append (pv 1) (jl_cons (je_tup (jl_cons je_int (jl_cons (je_tup (jl_cons (je_tup (jl_cons je_int (jl_cons je_int (jl_cons je_int (jl_cons je_int jl_nil))))) (jl_cons (je_tup (jl_cons je_int (jl_cons je_int (jl_cons (je_fz (jf_un un_neg sz_neg (jo_ex je_int))) (jl_cons je_int jl_nil))))) (jl_cons (je_tup (jl_cons je_int (jl_cons je_int (jl_cons je_int (jl_cons je_int jl_nil))))) (jl_cons (je_tup (jl_cons je_int (jl_cons je_int (jl_cons je_int (jl_cons je_int jl_nil))))) (jl_cons (je_tup (jl_cons je_int (jl_cons je_int (jl_cons je_int (jl_cons je_int jl_nil))))) (jl_cons (je_tup (jl_cons je_int (jl_cons je_int (jl_cons je_int (jl_cons je_int jl_nil))))) jl_nil))))))) jl_nil))) jl_nil))) (js_cons (js_expr (je_lm md_append PySem.F.slot_list_append PySem.F.type_list_append mt_append (pv 1) (jl_cons (je_tup (jl_cons je_int (jl_cons (je_tup (jl_cons (je_tup (jl_cons je_int (jl_cons je_int (jl_cons je_int (jl_cons je_int jl_nil))))) jl_nil)) jl_nil))) jl_nil))) (js_cons (js_expr (je_lm md_append PySem.F.slot_list_append PySem.F.type_list_append mt_append (pv 1) (jl_cons (je_tup (jl_cons je_int (jl_cons (je_tup (jl_cons (je_tup (jl_cons je_int (jl_cons je_int (jl_cons je_int (jl_cons je_int jl_nil))))) (jl_cons (je_tup (jl_cons je_int (jl_cons je_int (jl_cons je_int (jl_cons je_int jl_nil))))) (jl_cons (je_tup (jl_cons je_int (jl_cons je_int (jl_cons je_int (jl_cons je_int jl_nil))))) (jl_cons (je_tup (jl_cons je_int (jl_cons je_int (jl_cons je_int (jl_cons je_int jl_nil))))) jl_nil))))) jl_nil))) jl_nil))) (js_one (js_ret (jf_ixA (u1 hr) (jo_nm (pv 1)) (jo_ex (je_fz (jf_callH h__law_take (hr.mono (by decide)) rfl (takes_of rfl rfl rfl rfl) rfl rfl (ja_lend (pv 0) (ja_ex je_int ja_nil))))) (fun _ _ => rfl)))))))))))
theorem sc__law_between : FnScope N__law_between ["pot", "looks", "start", "n"] (defScope (top 35)) := ⟨rfl, rfl, rfl, by decide +kernel, rfl, by decide +kernel, by decide +kernel⟩
theorem ok__law_between (T : Tt K mg) : Has P w K mg base "_law_between" ["pot", "looks", "start", "n"] 2 f__law_between [true, false, false, false] := by
  obtain ⟨fd, F⟩ := T.d__law_between
  rw [f__law_between_eq]
  have h__law_take : Has P w K mg base "_law_take" ["pot", "size"] 1 f__law_take [true, false] := ok__law_take T
  exact has_of F sc__law_between rfl T.g__law_between (fun _ _ _ _ _ _ us hl => match us, hl with | [_, _, _, _], _ => rfl) fun cdv A outer s H E L hr =>
    (js_cons (js_asg sc__law_between.nd rfl (by first | exact Or.inl rfl | exact Or.inr rfl) (jf_callR cf_sortedA (pe_callB (cr_sortedA rfl (u65 hr)) rfl T.b_sorted (by decide +kernel) (jos_cons (jo_ex (je_fz (jf_ixA (u1 hr) (jo_nm (pv 1)) (jo_nm (pv 2)) (fun _ _ => rfl)))) jos_nil))) rfl (by first | exact Or.inr rfl | exact Or.inl rfl)) (js_cons (js_for (passes_of rfl) rfl (ji_range1 rfl T.b_range je_int) (jg_name sc__law_between.nd rfl (by first | exact Or.inl rfl | exact Or.inr rfl) (by first | exact Or.inr rfl | exact Or.inl rfl)) (js_cons (js_asgG (je_fz (jf_ixA (u1 hr) (jo_nm (pv 4)) (jo_ex (je_fz (jf_callH h__law_take (hr.mono (by decide)) rfl (takes_of rfl rfl rfl rfl) rfl rfl (ja_lend (pv 0) (ja_ex (je_callD cd_len (pe_callB call_len rfl T.b_len (by decide +kernel) (jos_cons (jo_nm (pv 4)) jos_nil))) ja_nil))))) (fun _ _ => rfl))) (jg_tup rfl (jgs_cons (jg_name sc__law_between.nd rfl (by first | exact Or.inl rfl | exact Or.inr rfl) (by first | exact Or.inr rfl | exact Or.inl rfl)) (jgs_cons (jg_name sc__law_between.nd rfl (by first | exact Or.inl rfl | exact Or.inr rfl) (by first | exact Or.inr rfl | exact Or.inl rfl)) (jgs_cons (jg_name sc__law_between.nd rfl (by first | exact Or.inl rfl | exact Or.inr rfl) (by first | exact Or.inr rfl | exact Or.inl rfl)) jgs_nil))) rfl)) (js_cons (js_asgG (je_fz (jf_ixA (u1 hr) (jo_nm (pv 4)) (jo_ex (je_fz (jf_callH h__law_take (hr.mono (by decide)) rfl (takes_of rfl rfl rfl rfl) rfl rfl (ja_lend (pv 0) (ja_ex (je_callD cd_len (pe_callB call_len rfl T.b_len (by decide +kernel) (jos_cons (jo_nm (pv 4)) jos_nil))) ja_nil))))) (fun _ _ => rfl))) (jg_tup rfl (jgs_cons (jg_name sc__law_between.nd rfl (by first | exact Or.inl rfl | exact Or.inr rfl) (by first | exact Or.inr rfl | exact Or.inl rfl)) (jgs_cons (jg_name sc__law_between.nd rfl (by first | exact Or.inl rfl | exact Or.inr rfl) (by first | exact Or.inr rfl | exact Or.inl rfl)) (jgs_cons (jg_name sc__law_between.nd rfl (by first | exact Or.inl rfl | exact Or.inr rfl) (by first | exact Or.inr rfl | exact Or.inl rfl)) jgs_nil))) rfl)) (js_cons (js_asg sc__law_between.nd rfl (by first | exact Or.inl rfl | exact Or.inr rfl) (jf_dget2 (u1 hr) (jo_ex (je_fz (jf_ixA (u1 hr) (jo_nm (pv 1)) (jo_nm (pv 6)) (fun _ _ => rfl)))) (jo_ex (je_tup (jl_cons (je_var (pv 9)) (jl_cons (je_fz (jf_bin op_sub sz_sub (jo_nm (pv 10)) (jo_nm (pv 7)))) (jl_cons (je_fz (jf_bin op_sub sz_sub (jo_nm (pv 11)) (jo_nm (pv 8)))) jl_nil))))) (je_fz (jf_bin op_addA sz_op (jo_nm (pv 3)) (jo_ex je_int))) ⟨rfl, rfl, rfl, rfl⟩) rfl (by first | exact Or.inr rfl | exact Or.inl rfl)) (js_one (js_if (jt_cmp (op_gtX (u65 hr)) cz_gtX (jo_ex (je_fz (jf_ixA (u1 hr) (jo_ex (je_fz (jf_ixA (u1 hr) (jo_nm (pv 1)) (jo_nm (pv 2)) (fun _ _ => rfl)))) (jo_ex (je_tup (jl_cons (je_var (pv 9)) (jl_cons (je_var (pv 10)) (jl_cons (je_var (pv 11)) jl_nil))))) (fun _ _ => rfl)))) (jo_ex (je_fz (jf_bin op_addA sz_op (jo_ex (je_fz (jf_ixA (u1 hr) (jo_ex (je_fz (jf_ixA (u1 hr) (jo_nm (pv 1)) (jo_nm (pv 2)) (fun _ _ => rfl)))) (jo_ex (je_tup (jl_cons (je_var (pv 6)) (jl_cons (je_var (pv 7)) (jl_cons (je_var (pv 8)) jl_nil))))) (fun _ _ => rfl)))) (jo_nm (pv 12))))) (nomark _)) (js_one (js_ret (jf_up je_bl))) js_nil))))) (fun _ => rfl)) (js_one (js_ret (jf_up je_bl)))))
theorem sc_is_place : FnScope N_is_place ["grid", "thing"] (defScope (top 9)) := ⟨rfl, rfl, rfl, by decide +kernel, rfl, by decide +kernel, by decide +kernel⟩
theorem ok_is_place (T : Tt K mg) : Has P w K mg base "is_place" ["grid", "thing"] 3 f_is_place [false, false] := by
  obtain ⟨fd, F⟩ := T.d_is_place
  rw [f_is_place_eq]
  have h_is_of : Has P w K mg base "is_of" ["places", "thing"] 2 f_is_of [false, false] := ok_is_of T
  have h_is_whole : Has P w K mg base "is_whole" ["thing"] 1 f_is_whole [false] := ok_is_whole T
  exact has_of F sc_is_place rfl T.g_is_place (fun _ _ _ _ _ _ us hl => match us, hl with | [_, _], _ => rfl) fun cdv A outer s H E L hr =>
    (js_cons (js_if (PW.pt (jw_or (jt_not (jt_val (je_isi (jo_nm (pv 1)) rfl T.b_isinstance rfl T.b_tuple (by decide +kernel)) (fun _ => rfl))) (jw_or (jt_cmp (op_neD hr.units) cz_ne (jo_ex (je_callD cd_len (pe_callB call_len rfl T.b_len (by decide +kernel) (jos_cons (jo_nm (pv 1)) jos_nil)))) (jo_ex je_int) (nomark _)) (jw_or1 (jt_not (jt_val (je_fz (jf_callH h_is_of (hr.mono (by decide)) rfl (takes_of rfl rfl rfl rfl) rfl rfl (ja_ex (je_fz (jf_ixA (u1 hr) (jo_nm (pv 0)) (jo_ex je_int) (fun _ _ => rfl))) (ja_ex (je_fz (jf_ixA (u1 hr) (jo_nm (pv 1)) (jo_ex je_int) (fun _ _ => rfl))) ja_nil)))) (fun _ => rfl))))))) (js_one (js_ret (jf_up je_bl))) js_nil) (js_one (js_ret (jf_up (je_callD cd_all (pe_callB (cr_all rfl) rfl T.b_all (by decide +kernel) (jos_cons (jo_ex (je_fz (jf_lc rfl sc_is_place.nd (ji_items (je_fz (jf_slc (jo_nm (pv 1)) (jp_some je_int) jp_none))) (blkOk_by (own := [("number", 2)]) (N := N_is_place) (sc := defScope (top 9)) (by decide +kernel)) rfl (fun _ _ _ _ _ => (jgv_name sc_is_place.nd rfl (by first | exact Or.inl rfl | exact Or.inr rfl) (by first | exact Or.inr rfl | exact Or.inl rfl) (by decide))) (fun _ _ _ _ _ => jts_nil) (fun _ _ _ _ _ => (jf_up (je_and (je_fz (jf_callH h_is_whole (hr.mono (by decide)) rfl takes_blk rfl rfl (ja_ex (je_var (pv 2)) ja_nil))) (je_one (je_cmp (op_ltA hr.units0) cz_lt (jo_ex (je_callD cd_abs (pe_callB call_abs rfl T.b_abs (by decide +kernel) (jos_cons (jo_nm (pv 2)) jos_nil)))) (jo_ex (je_const (C8.pe_gc rfl (gc_int T.c_FAR)) fun _ => .int _)) (nomark _))))))))) jos_nil)))))))
theorem sc_rings_from : FnScope N_rings_from ["grid", "start", "n"] (defScope (top 14)) := ⟨rfl, rfl, rfl, by decide +kernel, rfl, by decide +kernel, by decide +kernel⟩
theorem ok_rings_from (T : Tt K mg) : Has P w K mg base "rings_from" ["grid", "start", "n"] 3 f_rings_from [false, false, false] := by
  obtain ⟨fd, F⟩ := T.d_rings_from
  rw [f_rings_from_eq]
  have h_beside : Has P w K mg base "beside" ["grid", "place"] 2 f_beside [false, false] := ok_beside T
  exact has_of F sc_rings_from rfl T.g_rings_from (fun _ _ _ _ _ _ us hl => match us, hl with | [_, _, _], _ => rfl) fun cdv A outer s H E L hr =>
    (js_cons (js_asg sc_rings_from.nd rfl (by first | exact Or.inl rfl | exact Or.inr rfl) (jf_disp (u1 hr) (je_tup (jl_cons (je_var (pv 1)) (jl_cons je_int (jl_cons je_int jl_nil)))) je_int) rfl (by first | exact Or.inr rfl | exact Or.inl rfl)) (js_cons (js_asg sc_rings_from.nd rfl (by first | exact Or.inl rfl | exact Or.inr rfl) (jf_lst (jl_cons (je_tup (jl_cons (je_var (pv 1)) (jl_cons je_int (jl_cons je_int jl_nil)))) jl_nil)) rfl (by first | exact Or.inr rfl | exact Or.inl rfl)) (js_cons (js_for (passes_of rfl) rfl (ji_range2 rfl T.b_range je_int (je_fz (jf_bin op_addA sz_op (jo_nm (pv 2)) (jo_ex je_int)))) (jg_name sc_rings_from.nd rfl (by first | exact Or.inl rfl | exact Or.inr rfl) (by first | exact Or.inr rfl | exact Or.inl rfl)) (js_cons (js_asg sc_rings_from.nd rfl (by first | exact Or.inl rfl | exact Or.inr rfl) (jf_lst jl_nil) rfl (by first | exact Or.inr rfl | exact Or.inl rfl)) (js_cons (js_forX (passes_of rfl) rfl (pv 4) (jg_name sc_rings_from.nd rfl (by first | exact Or.inl rfl | exact Or.inr rfl) (by first | exact Or.inr rfl | exact Or.inl rfl)) (js_one (js_for (passes_of rfl) rfl (ji_items (je_fz (jf_callH h_beside (hr.mono (by decide)) rfl (takes_of rfl rfl rfl rfl) rfl rfl (ja_ex (je_var (pv 0)) (ja_ex (je_var (pv 7)) ja_nil))))) (jg_name sc_rings_from.nd rfl (by first | exact Or.inl rfl | exact Or.inr rfl) (by first | exact Or.inr rfl | exact Or.inl rfl)) (js_one (js_if (jt_cmp (op_ninB (u65 hr)) cz_ninB (jo_nm (pv 8)) (jo_nm (pv 3)) (by with_unfolding_all rfl)) (js_cons (js_setA (u1 hr) (je_var (pv 5)) (pv 3) (je_var (pv 8))) (js_one (js_expr (je_lm md_append PySem.F.slot_list_append PySem.F.type_list_append mt_append (pv 6) (jl_cons (je_var (pv 8)) jl_nil))))) js_nil)) (fun _ => rfl))) (fun _ => rfl)) (js_one (js_asg sc_rings_from.nd rfl (by first | exact Or.inl rfl | exact Or.inr rfl) (jf_up (je_var (pv 6))) rfl (by first | exact Or.inr rfl | exact Or.inl rfl))))) (fun _ => rfl)) (js_one (js_ret (jf_mov (pv 3)))))))
theorem sc_one_nearer : FnScope N_one_nearer ["grid", "place", "far"] (defScope (top 16)) := ⟨rfl, rfl, rfl, by decide +kernel, rfl, by decide +kernel, by decide +kernel⟩
theorem ok_one_nearer (T : Tt K mg) : Has P w K mg base "one_nearer" ["grid", "place", "far"] 3 f_one_nearer [false, false, false] := by
  obtain ⟨fd, F⟩ := T.d_one_nearer
  rw [f_one_nearer_eq]
  have h_beside : Has P w K mg base "beside" ["grid", "place"] 2 f_beside [false, false] := ok_beside T
  exact has_of F sc_one_nearer rfl T.g_one_nearer (fun _ _ _ _ _ _ us hl => match us, hl with | [_, _, _], _ => rfl) fun cdv A outer s H E L hr =>
    (js_one (js_ret (jf_up (je_callD cd_any (pe_callB (cr_any rfl) rfl T.b_any (by decide +kernel) (jos_cons (jo_ex (je_fz (jf_lc rfl sc_one_nearer.nd (ji_items (je_fz (jf_callH h_beside (hr.mono (by decide)) rfl (takes_of rfl rfl rfl rfl) rfl rfl (ja_ex (je_var (pv 0)) (ja_ex (je_var (pv 1)) ja_nil))))) (blkOk_by (own := [("other", 3)]) (N := N_one_nearer) (sc := defScope (top 16)) (by decide +kernel)) rfl (fun _ _ _ _ _ => (jgv_name sc_one_nearer.nd rfl (by first | exact Or.inl rfl | exact Or.inr rfl) (by first | exact Or.inr rfl | exact Or.inl rfl) (by decide))) (fun _ _ _ _ _ => jts_nil) (fun _ _ _ _ _ => (jf_up (je_cmp (op_eqD hr.units) cz_eq (jo_ex (je_fz (jf_dget2 (u1 hr) (jo_nm (pv 2)) (jo_nm (pv 3)) (je_fz (jf_bin op_sub sz_sub (jo_ex je_int) (jo_ex je_int))) ⟨rfl, rfl, rfl, rfl⟩))) (jo_ex (je_fz (jf_bin op_sub sz_sub (jo_ex (je_fz (jf_ixA (u1 hr) (jo_nm (pv 2)) (jo_nm (pv 1)) (fun _ _ => rfl)))) (jo_ex je_int)))) (nomark _))))))) jos_nil))))))
theorem sc_all_beside : FnScope N_all_beside ["grid", "place", "far"] (defScope (top 17)) := ⟨rfl, rfl, rfl, by decide +kernel, rfl, by decide +kernel, by decide +kernel⟩
theorem ok_all_beside (T : Tt K mg) : Has P w K mg base "all_beside" ["grid", "place", "far"] 3 f_all_beside [false, false, false] := by
  obtain ⟨fd, F⟩ := T.d_all_beside
  rw [f_all_beside_eq]
  have h_beside : Has P w K mg base "beside" ["grid", "place"] 2 f_beside [false, false] := ok_beside T
  exact has_of F sc_all_beside rfl T.g_all_beside (fun _ _ _ _ _ _ us hl => match us, hl with | [_, _, _], _ => rfl) fun cdv A outer s H E L hr =>
    (js_one (js_ret (jf_up (je_callD cd_all (pe_callB (cr_all rfl) rfl T.b_all (by decide +kernel) (jos_cons (jo_ex (je_fz (jf_lc rfl sc_all_beside.nd (ji_items (je_fz (jf_callH h_beside (hr.mono (by decide)) rfl (takes_of rfl rfl rfl rfl) rfl rfl (ja_ex (je_var (pv 0)) (ja_ex (je_var (pv 1)) ja_nil))))) (blkOk_by (own := [("other", 3)]) (N := N_all_beside) (sc := defScope (top 17)) (by decide +kernel)) rfl (fun _ _ _ _ _ => (jgv_name sc_all_beside.nd rfl (by first | exact Or.inl rfl | exact Or.inr rfl) (by first | exact Or.inr rfl | exact Or.inl rfl) (by decide))) (fun _ _ _ _ _ => jts_nil) (fun _ _ _ _ _ => (jf_up (je_and (je_cmp (op_inB (u65 hr)) cz_inB (jo_nm (pv 3)) (jo_nm (pv 2)) (by with_unfolding_all rfl)) (je_one (je_cmp (op_leX (u65 hr)) cz_leX (jo_ex (je_callD cd_abs (pe_callB call_abs rfl T.b_abs (by decide +kernel) (jos_cons (jo_ex (je_fz (jf_bin op_sub sz_sub (jo_ex (je_fz (jf_ixA (u1 hr) (jo_nm (pv 2)) (jo_nm (pv 3)) (fun _ _ => rfl)))) (jo_ex (je_fz (jf_ixA (u1 hr) (jo_nm (pv 2)) (jo_nm (pv 1)) (fun _ _ => rfl))))))) jos_nil)))) (jo_ex je_int) (nomark _))))))))) jos_nil))))))
theorem sc_rings_to : FnScope N_rings_to ["grid", "start", "place"] (defScope (top 23)) := ⟨rfl, rfl, rfl, by decide +kernel, rfl, by decide +kernel, by decide +kernel⟩
theorem ok_rings_to (T : Tt K mg) : Has P w K mg base "rings_to" ["grid", "start", "place"] 3 f_rings_to [false, false, false] := by
  obtain ⟨fd, F⟩ := T.d_rings_to
  rw [f_rings_to_eq]
  have h_beside : Has P w K mg base "beside" ["grid", "place"] 2 f_beside [false, false] := ok_beside T
  exact has_of F sc_rings_to rfl T.g_rings_to (fun _ _ _ _ _ _ us hl => match us, hl with | [_, _, _], _ => rfl) fun cdv A outer s H E L hr =>
    (js_cons (js_asg sc_rings_to.nd rfl (by first | exact Or.inl rfl | exact Or.inr rfl) (jf_disp (u1 hr) (je_tup (jl_cons (je_var (pv 1)) (jl_cons je_int (jl_cons je_int jl_nil)))) je_int) rfl (by first | exact Or.inr rfl | exact Or.inl rfl)) (js_cons (js_asg sc_rings_to.nd rfl (by first | exact Or.inl rfl | exact Or.inr rfl) (jf_lst (jl_cons (je_tup (jl_cons (je_var (pv 1)) (jl_cons je_int (jl_cons je_int jl_nil)))) jl_nil)) rfl (by first | exact Or.inr rfl | exact Or.inl rfl)) (js_cons (js_while (passes_of rfl) (PW.pt (jw_and (jt_cmp (op_ninB (u65 hr)) cz_ninB (jo_nm (pv 2)) (jo_nm (pv 3)) (by with_unfolding_all rfl)) (jw_and (jt_cmp (op_gtX (u65 hr)) cz_gtX (jo_ex (je_callD cd_len (pe_callB call_len rfl T.b_len (by decide +kernel) (jos_cons (jo_nm (pv 4)) jos_nil)))) (jo_ex je_int) (nomark _)) (jw_and1 (jt_cmp (op_ltA hr.units0) cz_lt (jo_ex (je_fz (jf_ixA (u1 hr) (jo_nm (pv 3)) (jo_ex (je_fz (jf_ixA (u1 hr) (jo_nm (pv 4)) (jo_ex je_int) (fun _ _ => rfl)))) (fun _ _ => rfl)))) (jo_ex (je_const (C8.pe_gc rfl (gc_int T.c_MOST_FAR)) fun _ => .int _)) (nomark _)))))) (js_cons (js_asg sc_rings_to.nd rfl (by first | exact Or.inl rfl | exact Or.inr rfl) (jf_lst jl_nil) rfl (by first | exact Or.inr rfl | exact Or.inl rfl)) (js_cons (js_forX (passes_of rfl) rfl (pv 4) (jg_name sc_rings_to.nd rfl (by first | exact Or.inl rfl | exact Or.inr rfl) (by first | exact Or.inr rfl | exact Or.inl rfl)) (js_one (js_for (passes_of rfl) rfl (ji_items (je_fz (jf_callH h_beside (hr.mono (by decide)) rfl (takes_of rfl rfl rfl rfl) rfl rfl (ja_ex (je_var (pv 0)) (ja_ex (je_var (pv 6)) ja_nil))))) (jg_name sc_rings_to.nd rfl (by first | exact Or.inl rfl | exact Or.inr rfl) (by first | exact Or.inr rfl | exact Or.inl rfl)) (js_one (js_if (jt_cmp (op_ninB (u65 hr)) cz_ninB (jo_nm (pv 7)) (jo_nm (pv 3)) (by with_unfolding_all rfl)) (js_cons (js_setA (u1 hr) (je_fz (jf_bin op_addA sz_op (jo_ex (je_fz (jf_ixA (u1 hr) (jo_nm (pv 3)) (jo_nm (pv 6)) (fun _ _ => rfl)))) (jo_ex je_int))) (pv 3) (je_var (pv 7))) (js_one (js_expr (je_lm md_append PySem.F.slot_list_append PySem.F.type_list_append mt_append (pv 5) (jl_cons (je_var (pv 7)) jl_nil))))) js_nil)) (fun _ => rfl))) (fun _ => rfl)) (js_one (js_asg sc_rings_to.nd rfl (by first | exact Or.inl rfl | exact Or.inr rfl) (jf_up (je_var (pv 5))) rfl (by first | exact Or.inr rfl | exact Or.inl rfl)))))) (js_one (js_ret (jf_mov (pv 3)))))))
theorem sc__law_grid : FnScope N__law_grid ["pot"] (defScope (top 33)) := ⟨rfl, rfl, rfl, by decide +kernel, rfl, by decide +kernel, by decide +kernel⟩
theorem ok__law_grid (T : Tt K mg) : Has P w K mg base "_law_grid" ["pot"] 3 f__law_grid [true] := by
  obtain ⟨fd, F⟩ := T.d__law_grid
  rw [f__law_grid_eq]
  have h__law_take : Has P w K mg base "_law_take" ["pot", "size"] 1 f__law_take [true, false] := ok__law_take T
  have h__law_known : Has P w K mg base "_law_known" ["pot"] 2 f__law_known [true] := ok__law_known T
  have h__law_tie : Has P w K mg base "_law_tie" ["pot", "places"] 2 f__law_tie [true, false] := ok__law_tie T
  have h__law_written : Has P w K mg base "_law_written" ["tie"] 2 f__law_written [false] := ok__law_written T
  exact has_of F sc__law_grid rfl T.g__law_grid (fun _ _ _ _ _ _ us hl => match us, hl with | [_], _ => rfl) fun cdv A outer s H E L hr =>
    (js_cons (js_if (jt_cmp (op_eqD hr.units) cz_eq (jo_ex (je_fz (jf_callH h__law_take (hr.mono (by decide)) rfl (takes_of rfl rfl rfl rfl) rfl rfl (ja_lend (pv 0) (ja_ex je_int ja_nil))))) (jo_ex je_int) (nomark _)) (js_one (js_ret (jf_callH h__law_known (hr.mono (by decide)) rfl (takes_of rfl rfl rfl rfl) rfl rfl (ja_lend (pv 0) ja_nil)))) js_nil) (js_cons (js_asg sc__law_grid.nd rfl (by first | exact Or.inl rfl | exact Or.inr rfl) (jf_bin op_addA sz_op (jo_ex je_int) (jo_ex (je_fz (jf_callH h__law_take (hr.mono (by decide)) rfl (takes_of rfl rfl rfl rfl) rfl rfl (ja_lend (pv 0) (ja_ex je_int ja_nil)))))) rfl (by first | exact Or.inr rfl | exact Or.inl rfl)) (js_cons (js_asg sc__law_grid.nd rfl (by first | exact Or.inl rfl | exact Or.inr rfl) (jf_lst jl_nil) rfl (by first | exact Or.inr rfl | exact Or.inl rfl)) (js_cons (js_for (passes_of rfl) rfl (ji_range1 rfl T.b_range (je_fz (jf_ixA (u1 hr) (jo_ex (je_fz (jf_lst (jl_cons (je_fz (jf_callH h__law_take (hr.mono (by decide)) rfl (takes_of rfl rfl rfl rfl) rfl rfl (ja_lend (pv 0) (ja_ex je_int ja_nil)))) (jl_cons (je_fz (jf_bin op_addA sz_op (jo_ex je_int) (jo_ex (je_fz (jf_callH h__law_take (hr.mono (by decide)) rfl (takes_of rfl rfl rfl rfl) rfl rfl (ja_lend (pv 0) (ja_ex je_int ja_nil))))))) (jl_cons (je_fz (jf_callH h__law_take (hr.mono (by decide)) rfl (takes_of rfl rfl rfl rfl) rfl rfl (ja_lend (pv 0) (ja_ex je_int ja_nil)))) jl_nil)))))) (jo_ex (je_fz (jf_callH h__law_take (hr.mono (by decide)) rfl (takes_of rfl rfl rfl rfl) rfl rfl (ja_lend (pv 0) (ja_ex je_int ja_nil))))) (fun _ _ => rfl)))) (jg_name sc__law_grid.nd rfl (by first | exact Or.inl rfl | exact Or.inr rfl) (by first | exact Or.inr rfl | exact Or.inl rfl)) (js_cons (js_asg sc__law_grid.nd rfl (by first | exact Or.inl rfl | exact Or.inr rfl) (jf_callH h__law_written (hr.mono (by decide)) rfl (takes_of rfl rfl rfl rfl) rfl rfl (ja_ex (je_fz (jf_callH h__law_tie (hr.mono (by decide)) rfl (takes_of rfl rfl rfl rfl) rfl rfl (ja_lend (pv 0) (ja_ex (je_var (pv 1)) ja_nil)))) ja_nil)) rfl (by first | exact Or.inr rfl | exact Or.inl rfl)) (js_one (js_if (PW.pt (jw_and (jt_cmp (op_ninB (u65 hr)) cz_ninB (jo_nm (pv 4)) (jo_nm (pv 2)) (by with_unfolding_all rfl)) (jw_and1 (jt_cmp (op_ltA hr.units0) cz_lt (jo_ex (je_callD cd_len (pe_callB call_len rfl T.b_len (by decide +kernel) (jos_cons (jo_nm (pv 2)) jos_nil)))) (jo_ex je_int) (nomark _))))) (js_one (js_expr (je_lm md_append PySem.F.slot_list_append PySem.F.type_list_append mt_append (pv 2) (jl_cons (je_var (pv 4)) jl_nil)))) js_nil))) (fun _ => rfl)) (js_one (js_ret (jf_up (je_tup (jl_cons (je_var (pv 1)) (jl_cons (je_fz (jf_callR cf_tuple (pe_callTy call_tuple_of rfl T.b_tuple (by decide +kernel) (jos_cons (jo_ex (je_fz (jf_callR cf_sortedA (pe_callB (cr_sortedA rfl (u65 hr)) rfl T.b_sorted (by decide +kernel) (jos_cons (jo_nm (pv 2)) jos_nil))))) jos_nil)))) jl_nil))))))))))
theorem sc_neighbours_of : FnScope N_neighbours_of ["grid", "place"] (defScope (top 12)) := ⟨rfl, rfl, rfl, by decide +kernel, rfl, by decide +kernel, by decide +kernel⟩
theorem ok_neighbours_of (T : Tt K mg) : Has P w K mg base "neighbours_of" ["grid", "place"] 4 f_neighbours_of [false, false] := by
  obtain ⟨fd, F⟩ := T.d_neighbours_of
  rw [f_neighbours_of_eq]
  have h_is_place : Has P w K mg base "is_place" ["grid", "thing"] 3 f_is_place [false, false] := ok_is_place T
  have h_beside : Has P w K mg base "beside" ["grid", "place"] 2 f_beside [false, false] := ok_beside T
  exact has_of F sc_neighbours_of rfl T.g_neighbours_of (fun _ _ _ _ _ _ us hl => match us, hl with | [_, _], _ => rfl) fun cdv A outer s H E L hr =>
    (js_cons (js_if (jt_not (jt_val (je_fz (jf_callH h_is_place (hr.mono (by decide)) rfl (takes_of rfl rfl rfl rfl) rfl rfl (ja_ex (je_var (pv 0)) (ja_ex (je_var (pv 1)) ja_nil)))) (fun _ => rfl))) (js_one (js_raise rfl (takes_of rfl rfl rfl rfl) T.x_NoPlace.1 T.g_NoPlace T.x_NoPlace.2.1 T.x_NoPlace.2.2.1 T.x_NoPlace.2.2.2 rfl)) js_nil) (js_one (js_ret (jf_callR cf_sortedA (pe_callB (cr_sortedA rfl (u65 hr)) rfl T.b_sorted (by decide +kernel) (jos_cons (jo_ex (je_fz (jf_callH h_beside (hr.mono (by decide)) rfl (takes_of rfl rfl rfl rfl) rfl rfl (ja_ex (je_var (pv 0)) (ja_ex (je_var (pv 1)) ja_nil))))) jos_nil))))))
theorem sc_look_from : FnScope N_look_from ["grid", "start", "n"] (defScope (top 15)) := ⟨rfl, rfl, rfl, by decide +kernel, rfl, by decide +kernel, by decide +kernel⟩
theorem ok_look_from (T : Tt K mg) : Has P w K mg base "look_from" ["grid", "start", "n"] 4 f_look_from [false, false, false] := by
  obtain ⟨fd, F⟩ := T.d_look_from
  rw [f_look_from_eq]
  have h_rings_from : Has P w K mg base "rings_from" ["grid", "start", "n"] 3 f_rings_from [false, false, false] := ok_rings_from T
  exact has_of F sc_look_from rfl T.g_look_from (fun _ _ _ _ _ _ us hl => match us, hl with | [_, _, _], _ => rfl) fun cdv A outer s H E L hr =>
    (js_one (js_ret (jf_sortIt rfl (u65 hr) rfl T.b_sorted (jf_callH h_rings_from (hr.mono (by decide)) rfl (takes_of rfl rfl rfl rfl) rfl rfl (ja_ex (je_var (pv 0)) (ja_ex (je_var (pv 1)) (ja_ex (je_var (pv 2)) ja_nil)))))))
theorem sc_look_right : FnScope N_look_right ["grid", "start", "n", "look"] (defScope (top 18)) := ⟨rfl, rfl, rfl, by decide +kernel, rfl, by decide +kernel, by decide +kernel⟩
theorem ok_look_right (T : Tt K mg) : Has P w K mg base "look_right" ["grid", "start", "n", "look"] 4 f_look_right [false, false, false, false] := by
  obtain ⟨fd, F⟩ := T.d_look_right
  rw [f_look_right_eq]
  have h_one_nearer : Has P w K mg base "one_nearer" ["grid", "place", "far"] 3 f_one_nearer [false, false, false] := ok_one_nearer T
  have h_all_beside : Has P w K mg base "all_beside" ["grid", "place", "far"] 3 f_all_beside [false, false, false] := ok_all_beside T
  exact has_of F sc_look_right rfl T.g_look_right (fun _ _ _ _ _ _ us hl => match us, hl with | [_, _, _, _], _ => rfl) fun cdv A outer s H E L hr =>
    (js_cons (js_asg sc_look_right.nd rfl (by first | exact Or.inl rfl | exact Or.inr rfl) jf_dnewT rfl (by first | exact Or.inr rfl | exact Or.inl rfl)) (js_cons (js_forX (passes_of rfl) rfl (pv 3) (jg_tup rfl (jgs_cons (jg_name sc_look_right.nd rfl (by first | exact Or.inl rfl | exact Or.inr rfl) (by first | exact Or.inr rfl | exact Or.inl rfl)) (jgs_cons (jg_name sc_look_right.nd rfl (by first | exact Or.inl rfl | exact Or.inr rfl) (by first | exact Or.inr rfl | exact Or.inl rfl)) jgs_nil)) rfl) (js_cons (js_if (PW.pt (jw_or (jt_not (jt_chain (op_leX (u65 hr)) (op_ltA hr.units0) cz_leX cz_lt je_int (je_fz (jf_ixA (u1 hr) (jo_nm (pv 5)) (jo_ex je_int) (fun _ _ => rfl))) (je_fz (jf_ixA (u1 hr) (jo_nm (pv 0)) (jo_ex je_int) (fun _ _ => rfl))))) (jw_or1 (jt_cmp (op_inB (u65 hr)) cz_inB (jo_nm (pv 5)) (jo_nm (pv 4)) (by with_unfolding_all rfl))))) (js_one (js_ret (jf_up je_bl))) js_nil) (js_one (js_setA (u1 hr) (je_var (pv 6)) (pv 4) (je_var (pv 5))))) (fun _ => rfl)) (js_cons (js_asg sc_look_right.nd rfl (by first | exact Or.inl rfl | exact Or.inr rfl) (jf_up (je_tup (jl_cons (je_var (pv 1)) (jl_cons je_int (jl_cons je_int jl_nil))))) rfl (by first | exact Or.inr rfl | exact Or.inl rfl)) (js_cons (js_if (PW.pt (jw_or (jt_cmp (op_neD hr.units) cz_ne (jo_ex (je_fz (jf_dget2 (u1 hr) (jo_nm (pv 4)) (jo_nm (pv 7)) je_int ⟨rfl, rfl, rfl, rfl⟩))) (jo_ex je_int) (nomark _)) (jw_or1 (jt_not (jt_val (je_callD cd_all (pe_callB (cr_all rfl) rfl T.b_all (by decide +kernel) (jos_cons (jo_ex (je_fz (jf_lcX rfl sc_look_right.nd (pv 4) (blkOk_by (own := [("place", 5)]) (N := N_look_right) (sc := defScope (top 18)) (by decide +kernel)) rfl (fun _ _ _ _ _ => (jgv_name sc_look_right.nd rfl (by first | exact Or.inl rfl | exact Or.inr rfl) (by first | exact Or.inr rfl | exact Or.inl rfl) (by decide))) (fun _ _ _ _ _ => (jts_one (jt_cmp (op_neD hr.units) cz_ne (jo_nm (pv 5)) (jo_nm (pv 7)) (nomark _)))) (fun _ _ _ _ _ => (jf_up (je_chain (op_leX (u65 hr)) (op_leX (u65 hr)) cz_leX cz_leX je_int (je_fz (jf_ixA (u1 hr) (jo_nm (pv 4)) (jo_nm (pv 5)) (fun _ _ => rfl))) (je_var (pv 2)))))))) jos_nil))) (fun _ => rfl)))))) (js_one (js_ret (jf_up je_bl))) js_nil) (js_cons (js_if (jt_not (jt_val (je_callD cd_all (pe_callB (cr_all rfl) rfl T.b_all (by decide +kernel) (jos_cons (jo_ex (je_fz (jf_lc rfl sc_look_right.nd (ji_zip rfl T.b_zip (je_var (pv 3)) (je_fz (jf_slc (jo_nm (pv 3)) (jp_some je_int) jp_none))) (blkOk_by (own := [("one", 8), ("other", 9)]) (N := N_look_right) (sc := defScope (top 18)) (by decide +kernel)) rfl (fun _ _ _ _ _ => (jgv_tup rfl (jgsv_cons (jgv_name sc_look_right.nd rfl (by first | exact Or.inl rfl | exact Or.inr rfl) (by first | exact Or.inr rfl | exact Or.inl rfl) (by decide)) (jgsv_cons (jgv_name sc_look_right.nd rfl (by first | exact Or.inl rfl | exact Or.inr rfl) (by first | exact Or.inr rfl | exact Or.inl rfl) (by decide)) jgsv_nil)) rfl)) (fun _ _ _ _ _ => jts_nil) (fun _ _ _ _ _ => (jf_up (je_cmp (op_ltA hr.units0) cz_lt (jo_ex (je_fz (jf_ixA (u1 hr) (jo_nm (pv 8)) (jo_ex je_int) (fun _ _ => rfl)))) (jo_ex (je_fz (jf_ixA (u1 hr) (jo_nm (pv 9)) (jo_ex je_int) (fun _ _ => rfl)))) (nomark _))))))) jos_nil))) (fun _ => rfl))) (js_one (js_ret (jf_up je_bl))) js_nil) (js_cons (js_if (jt_not (jt_val (je_callD cd_all (pe_callB (cr_all rfl) rfl T.b_all (by decide +kernel) (jos_cons (jo_ex (je_fz (jf_lcX rfl sc_look_right.nd (pv 4) (blkOk_by (own := [("place", 5)]) (N := N_look_right) (sc := defScope (top 18)) (by decide +kernel)) rfl (fun _ _ _ _ _ => (jgv_name sc_look_right.nd rfl (by first | exact Or.inl rfl | exact Or.inr rfl) (by first | exact Or.inr rfl | exact Or.inl rfl) (by decide))) (fun _ _ _ _ _ => (jts_one (jt_cmp (op_neD hr.units) cz_ne (jo_nm (pv 5)) (jo_nm (pv 7)) (nomark _)))) (fun _ _ _ _ _ => (jf_callH h_one_nearer (hr.mono (by decide)) rfl takes_blk rfl rfl (ja_ex (je_var (pv 0)) (ja_ex (je_var (pv 5)) (ja_ex (je_var (pv 4)) ja_nil)))))))) jos_nil))) (fun _ => rfl))) (js_one (js_ret (jf_up je_bl))) js_nil) (js_one (js_ret (jf_up (je_callD cd_all (pe_callB (cr_all rfl) rfl T.b_all (by decide +kernel) (jos_cons (jo_ex (je_fz (jf_lcX rfl sc_look_right.nd (pv 4) (blkOk_by (own := [("place", 5)]) (N := N_look_right) (sc := defScope (top 18)) (by decide +kernel)) rfl (fun _ _ _ _ _ => (jgv_name sc_look_right.nd rfl (by first | exact Or.inl rfl | exact Or.inr rfl) (by first | exact Or.inr rfl | exact Or.inl rfl) (by decide))) (fun _ _ _ _ _ => (jts_one (jt_cmp (op_ltA hr.units0) cz_lt (jo_ex (je_fz (jf_ixA (u1 hr) (jo_nm (pv 4)) (jo_nm (pv 5)) (fun _ _ => rfl)))) (jo_nm (pv 2)) (nomark _)))) (fun _ _ _ _ _ => (jf_callH h_all_beside (hr.mono (by decide)) rfl takes_blk rfl rfl (ja_ex (je_var (pv 0)) (ja_ex (je_var (pv 5)) (ja_ex (je_var (pv 4)) ja_nil)))))))) jos_nil))))))))))))
theorem sc_shells_near : FnScope N_shells_near ["grid", "start", "n"] (defScope (top 19)) := ⟨rfl, rfl, rfl, by decide +kernel, rfl, by decide +kernel, by decide +kernel⟩
theorem ok_shells_near (T : Tt K mg) : Has P w K mg base "shells_near" ["grid", "start", "n"] 4 f_shells_near [false, false, false] := by
  obtain ⟨fd, F⟩ := T.d_shells_near
  rw [f_shells_near_eq]
  have h_rings_from : Has P w K mg base "rings_from" ["grid", "start", "n"] 3 f_rings_from [false, false, false] := ok_rings_from T
  exact has_of F sc_shells_near rfl T.g_shells_near (fun _ _ _ _ _ _ us hl => match us, hl with | [_, _, _], _ => rfl) fun cdv A outer s H E L hr =>
    (js_cons (js_asg sc_shells_near.nd rfl (by first | exact Or.inl rfl | exact Or.inr rfl) (jf_bin op_mulA sz_mul (jo_ex (je_fz (jf_lst (jl_cons je_int jl_nil)))) (jo_ex (je_fz (jf_bin op_addA sz_op (jo_nm (pv 2)) (jo_ex je_int))))) rfl (by first | exact Or.inr rfl | exact Or.inl rfl)) (js_cons (js_asg sc_shells_near.nd rfl (by first | exact Or.inl rfl | exact Or.inr rfl) (jf_callH h_rings_from (hr.mono (by decide)) rfl (takes_of rfl rfl rfl rfl) rfl rfl (ja_ex (je_var (pv 0)) (ja_ex (je_var (pv 1)) (ja_ex (je_var (pv 2)) ja_nil)))) rfl (by first | exact Or.inr rfl | exact Or.inl rfl)) (js_cons (js_forX (passes_of rfl) rfl (pv 4) (jg_name sc_shells_near.nd rfl (by first | exact Or.inl rfl | exact Or.inr rfl) (by first | exact Or.inr rfl | exact Or.inl rfl)) (js_one (js_setA (u1 hr) (je_fz (jf_bin op_addA sz_op (jo_ex (je_fz (jf_ixA (u1 hr) (jo_nm (pv 3)) (jo_ex (je_fz (jf_ixA (u1 hr) (jo_nm (pv 4)) (jo_nm (pv 5)) (fun _ _ => rfl)))) (fun _ _ => rfl)))) (jo_ex je_int))) (pv 3) (je_fz (jf_ixA (u1 hr) (jo_nm (pv 4)) (jo_nm (pv 5)) (fun _ _ => rfl))))) (fun _ => rfl)) (js_one (js_ret (jf_mov (pv 3)))))))
theorem sc_way_holds : FnScope N_way_holds ["grid", "way"] (defScope (top 22)) := ⟨rfl, rfl, rfl, by decide +kernel, rfl, by decide +kernel, by decide +kernel⟩
theorem ok_way_holds (T : Tt K mg) : Has P w K mg base "way_holds" ["grid", "way"] 4 f_way_holds [false, false] := by
  obtain ⟨fd, F⟩ := T.d_way_holds
  rw [f_way_holds_eq]
  have h_is_place : Has P w K mg base "is_place" ["grid", "thing"] 3 f_is_place [false, false] := ok_is_place T
  have h_beside : Has P w K mg base "beside" ["grid", "place"] 2 f_beside [false, false] := ok_beside T
  exact has_of F sc_way_holds rfl T.g_way_holds (fun _ _ _ _ _ _ us hl => match us, hl with | [_, _], _ => rfl) fun cdv A outer s H E L hr =>
    (js_cons (js_if (PW.pt (jw_or (jt_cmp (op_eqD hr.units) cz_eq (jo_ex (je_callD cd_len (pe_callB call_len rfl T.b_len (by decide +kernel) (jos_cons (jo_nm (pv 1)) jos_nil)))) (jo_ex je_int) (nomark _)) (jw_or1 (jt_not (jt_val (je_callD cd_all (pe_callB (cr_all rfl) rfl T.b_all (by decide +kernel) (jos_cons (jo_ex (je_fz (jf_lcX rfl sc_way_holds.nd (pv 1) (blkOk_by (own := [("place", 2)]) (N := N_way_holds) (sc := defScope (top 22)) (by decide +kernel)) rfl (fun _ _ _ _ _ => (jgv_name sc_way_holds.nd rfl (by first | exact Or.inl rfl | exact Or.inr rfl) (by first | exact Or.inr rfl | exact Or.inl rfl) (by decide))) (fun _ _ _ _ _ => jts_nil) (fun _ _ _ _ _ => (jf_callH h_is_place (hr.mono (by decide)) rfl takes_blk rfl rfl (ja_ex (je_var (pv 0)) (ja_ex (je_var (pv 2)) ja_nil))))))) jos_nil))) (fun _ => rfl)))))) (js_one (js_ret (jf_up je_bl))) js_nil) (js_one (js_ret (jf_up (je_callD cd_all (pe_callB (cr_all rfl) rfl T.b_all (by decide +kernel) (jos_cons (jo_ex (je_fz (jf_lc rfl sc_way_holds.nd (ji_zip rfl T.b_zip (je_var (pv 1)) (je_fz (jf_slc (jo_nm (pv 1)) (jp_some je_int) jp_none))) (blkOk_by (own := [("one", 3), ("other", 4)]) (N := N_way_holds) (sc := defScope (top 22)) (by decide +kernel)) rfl (fun _ _ _ _ _ => (jgv_tup rfl (jgsv_cons (jgv_name sc_way_holds.nd rfl (by first | exact Or.inl rfl | exact Or.inr rfl) (by first | exact Or.inr rfl | exact Or.inl rfl) (by decide)) (jgsv_cons (jgv_name sc_way_holds.nd rfl (by first | exact Or.inl rfl | exact Or.inr rfl) (by first | exact Or.inr rfl | exact Or.inl rfl) (by decide)) jgsv_nil)) rfl)) (fun _ _ _ _ _ => jts_nil) (fun _ _ _ _ _ => (jf_up (je_cmp (op_inB (u65 hr)) cz_inB (jo_nm (pv 4)) (jo_ex (je_fz (jf_callH h_beside (hr.mono (by decide)) rfl takes_blk rfl rfl (ja_ex (je_var (pv 0)) (ja_ex (je_var (pv 3)) ja_nil))))) (by with_unfolding_all rfl))))))) jos_nil)))))))
theorem sc_way_to : FnScope N_way_to ["grid", "start", "place"] (defScope (top 24)) := ⟨rfl, rfl, rfl, by decide +kernel, rfl, by decide +kernel, by decide +kernel⟩
theorem ok_way_to (T : Tt K mg) : Has P w K mg base "way_to" ["grid", "start", "place"] 4 f_way_to [false, false, false] := by
  obtain ⟨fd, F⟩ := T.d_way_to
  rw [f_way_to_eq]
  have h_rings_to : Has P w K mg base "rings_to" ["grid", "start", "place"] 3 f_rings_to [false, false, false] := ok_rings_to T
  have h_beside : Has P w K mg base "beside" ["grid", "place"] 2 f_beside [false, false] := ok_beside T
  exact has_of F sc_way_to rfl T.g_way_to (fun _ _ _ _ _ _ us hl => match us, hl with | [_, _, _], _ => rfl) fun cdv A outer s H E L hr =>
    (js_cons (js_if (jt_cmp (op_gtX (u65 hr)) cz_gtX (jo_ex (je_callD (cd_maxA cd_max) (pe_callB (CallR.or' (cr_maxT rfl (u65 hr)) (CallR.or' (call_max2 rfl) (cr_max rfl))) rfl T.b_max (by decide +kernel) (jos_cons (jo_ex (je_callD cd_abs (pe_callB call_abs rfl T.b_abs (by decide +kernel) (jos_cons (jo_ex (je_fz (jf_ixA (u1 hr) (jo_nm (pv 2)) (jo_ex je_int) (fun _ _ => rfl)))) jos_nil)))) (jos_cons (jo_ex (je_callD cd_abs (pe_callB call_abs rfl T.b_abs (by decide +kernel) (jos_cons (jo_ex (je_fz (jf_ixA (u1 hr) (jo_nm (pv 2)) (jo_ex je_int) (fun _ _ => rfl)))) jos_nil)))) jos_nil))))) (jo_ex (je_const (C8.pe_gc rfl (gc_int T.c_MOST_FAR)) fun _ => .int _)) (nomark _)) (js_one (js_raise rfl (takes_of rfl rfl rfl rfl) T.x_TooFar.1 T.g_TooFar T.x_TooFar.2.1 T.x_TooFar.2.2.1 T.x_TooFar.2.2.2 rfl)) js_nil) (js_cons (js_asg sc_way_to.nd rfl (by first | exact Or.inl rfl | exact Or.inr rfl) (jf_callH h_rings_to (hr.mono (by decide)) rfl (takes_of rfl rfl rfl rfl) rfl rfl (ja_ex (je_var (pv 0)) (ja_ex (je_var (pv 1)) (ja_ex (je_var (pv 2)) ja_nil)))) rfl (by first | exact Or.inr rfl | exact Or.inl rfl)) (js_cons (js_if (jt_cmp (op_ninB (u65 hr)) cz_ninB (jo_nm (pv 2)) (jo_nm (pv 3)) (by with_unfolding_all rfl)) (js_one (js_raise rfl (takes_of rfl rfl rfl rfl) T.x_TooFar.1 T.g_TooFar T.x_TooFar.2.1 T.x_TooFar.2.2.1 T.x_TooFar.2.2.2 rfl)) js_nil) (js_cons (js_asg sc_way_to.nd rfl (by first | exact Or.inl rfl | exact Or.inr rfl) (jf_lst (jl_cons (je_var (pv 2)) jl_nil)) rfl (by first | exact Or.inr rfl | exact Or.inl rfl)) (js_cons (js_while (passes_of rfl) (jt_cmp (op_gtX (u65 hr)) cz_gtX (jo_ex (je_fz (jf_ixA (u1 hr) (jo_nm (pv 3)) (jo_ex (je_fz (jf_ixA (u1 hr) (jo_nm (pv 4)) (jo_ex (je_fz (jf_un un_neg sz_neg (jo_ex je_int)))) (fun _ _ => rfl)))) (fun _ _ => rfl)))) (jo_ex je_int) (nomark _)) (js_cons (js_setLc rfl sc_way_to.nd rfl rfl (sw_true rfl rfl rfl (by decide +kernel)) (ji_items (je_fz (jf_callH h_beside (hr.mono (by decide)) rfl (takes_of rfl rfl rfl rfl) rfl rfl (ja_ex (je_var (pv 0)) (ja_ex (je_fz (jf_ixA (u1 hr) (jo_nm (pv 4)) (jo_ex (je_fz (jf_un un_neg sz_neg (jo_ex je_int)))) (fun _ _ => rfl))) ja_nil))))) (blkOk_by (own := [("other", 6)]) (N := N_way_to) (sc := defScope (top 24)) (by decide +kernel)) rfl (fun _ _ _ _ _ => (jgv_name sc_way_to.nd rfl (by first | exact Or.inl rfl | exact Or.inr rfl) (by first | exact Or.inr rfl | exact Or.inl rfl) (by decide))) (fun _ _ _ _ _ => (jts_one (jt_cmp (op_eqD hr.units) cz_eq (jo_ex (je_fz (jf_dget2 (u1 hr) (jo_nm (pv 3)) (jo_nm (pv 6)) (je_fz (jf_bin op_addA sz_op (jo_ex (je_const (C8.pe_gc rfl (gc_int T.c_MOST_FAR)) fun _ => .int _)) (jo_ex je_int))) ⟨rfl, rfl, rfl, rfl⟩))) (jo_ex (je_fz (jf_bin op_sub sz_sub (jo_ex (je_fz (jf_ixA (u1 hr) (jo_nm (pv 3)) (jo_ex (je_fz (jf_ixA (u1 hr) (jo_nm (pv 4)) (jo_ex (je_fz (jf_un un_neg sz_neg (jo_ex je_int)))) (fun _ _ => rfl)))) (fun _ _ => rfl)))) (jo_ex je_int)))) (nomark _)))) (fun _ _ _ _ _ => (jf_up (je_var (pv 6))))) (js_one (js_expr (je_lm md_append PySem.F.slot_list_append PySem.F.type_list_append mt_append (pv 4) (jl_cons (je_fz (jf_ixA (u1 hr) (jo_nm (pv 5)) (jo_ex je_int) (fun _ _ => rfl))) jl_nil)))))) (js_one (js_ret (jf_revL (jo_nm (pv 4))))))))))
theorem sc__law_ways_right : FnScope N__law_ways_right ["pot", "grid", "looks", "start"] (defScope (top 36)) := ⟨rfl, rfl, rfl, by decide +kernel, rfl, by decide +kernel, by decide +kernel⟩
theorem ok__law_ways_right (T : Tt K mg) : Has P w K mg base "_law_ways_right" ["pot", "grid", "looks", "start"] 5 f__law_ways_right [true, false, false, false] := by
  obtain ⟨fd, F⟩ := T.d__law_ways_right
  rw [f__law_ways_right_eq]
  have h__law_take : Has P w K mg base "_law_take" ["pot", "size"] 1 f__law_take [true, false] := ok__law_take T
  have h_way_to : Has P w K mg base "way_to" ["grid", "start", "place"] 4 f_way_to [false, false, false] := ok_way_to T
  have h_way_holds : Has P w K mg base "way_holds" ["grid", "way"] 4 f_way_holds [false, false] := ok_way_holds T
  exact has_of F sc__law_ways_right rfl T.g__law_ways_right (fun _ _ _ _ _ _ us hl => match us, hl with | [_, _, _, _], _ => rfl) fun cdv A outer s H E L hr =>
    (js_cons (js_asg sc__law_ways_right.nd rfl (by first | exact Or.inl rfl | exact Or.inr rfl) (jf_callR cf_sortedA (pe_callB (cr_sortedA rfl (u65 hr)) rfl T.b_sorted (by decide +kernel) (jos_cons (jo_ex (je_fz (jf_ixA (u1 hr) (jo_nm (pv 2)) (jo_nm (pv 3)) (fun _ _ => rfl)))) jos_nil))) rfl (by first | exact Or.inr rfl | exact Or.inl rfl)) (js_cons (js_for (passes_of rfl) rfl (ji_range1 rfl T.b_range je_int) (jg_name sc__law_ways_right.nd rfl (by first | exact Or.inl rfl | exact Or.inr rfl) (by first | exact Or.inr rfl | exact Or.inl rfl)) (js_cons (js_asg sc__law_ways_right.nd rfl (by first | exact Or.inl rfl | exact Or.inr rfl) (jf_ixA (u1 hr) (jo_nm (pv 4)) (jo_ex (je_fz (jf_callH h__law_take (hr.mono (by decide)) rfl (takes_of rfl rfl rfl rfl) rfl rfl (ja_lend (pv 0) (ja_ex (je_callD cd_len (pe_callB call_len rfl T.b_len (by decide +kernel) (jos_cons (jo_nm (pv 4)) jos_nil))) ja_nil))))) (fun _ _ => rfl)) rfl (by first | exact Or.inr rfl | exact Or.inl rfl)) (js_cons (js_asg sc__law_ways_right.nd rfl (by first | exact Or.inl rfl | exact Or.inr rfl) (jf_callH h_way_to (hr.mono (by decide)) rfl (takes_of rfl rfl rfl rfl) rfl rfl (ja_ex (je_var (pv 1)) (ja_ex (je_var (pv 3)) (ja_ex (je_var (pv 6)) ja_nil)))) rfl (by first | exact Or.inr rfl | exact Or.inl rfl)) (js_cons (js_if (PW.pt (jw_or (jt_cmp (op_neD hr.units) cz_ne (jo_ex (je_callD cd_len (pe_callB call_len rfl T.b_len (by decide +kernel) (jos_cons (jo_nm (pv 7)) jos_nil)))) (jo_ex (je_fz (jf_bin op_addA sz_op (jo_ex (je_fz (jf_ixA (u1 hr) (jo_ex (je_fz (jf_ixA (u1 hr) (jo_nm (pv 2)) (jo_nm (pv 3)) (fun _ _ => rfl)))) (jo_nm (pv 6)) (fun _ _ => rfl)))) (jo_ex je_int)))) (nomark _)) (jw_or1 (jt_cmp op_isnC cz_isn (jo_ex (je_fz (jf_callH h_way_holds (hr.mono (by decide)) rfl (takes_of rfl rfl rfl rfl) rfl rfl (ja_ex (je_var (pv 1)) (ja_ex (je_var (pv 7)) ja_nil))))) (jo_ex je_bl) (nomark _))))) (js_one (js_ret (jf_up je_bl))) js_nil) (js_one (js_if (PW.pt (jw_or (jt_cmp op_isnC cz_isn (jo_ex (je_fz (jf_callH h_way_holds (hr.mono (by decide)) rfl (takes_of rfl rfl rfl rfl) rfl rfl (ja_ex (je_var (pv 1)) (ja_ex (je_fz (jf_revL (jo_nm (pv 7)))) ja_nil))))) (jo_ex je_bl) (nomark _)) (jw_or (jt_cmp (op_neD hr.units) cz_ne (jo_ex (je_fz (jf_ixA (u1 hr) (jo_nm (pv 7)) (jo_ex je_int) (fun _ _ => rfl)))) (jo_ex (je_tup (jl_cons (je_var (pv 3)) (jl_cons je_int (jl_cons je_int jl_nil))))) (nomark _)) (jw_or1 (jt_cmp (op_neD hr.units) cz_ne (jo_ex (je_fz (jf_ixA (u1 hr) (jo_nm (pv 7)) (jo_ex (je_fz (jf_un un_neg sz_neg (jo_ex je_int)))) (fun _ _ => rfl)))) (jo_nm (pv 6)) (nomark _)))))) (js_one (js_ret (jf_up je_bl))) js_nil))))) (fun _ => rfl)) (js_one (js_ret (jf_up je_bl)))))
theorem sc_law : FnScope N_law ["script"] (defScope (top 37)) := ⟨rfl, rfl, rfl, by decide +kernel, rfl, by decide +kernel, by decide +kernel⟩
theorem ok_law (T : Tt K mg) {fd : FuncData} (F : FunD K "law" "law" (defArgs (top 37)) (defBody (top 37)) (defScope (top 37)) [] [] (He.ga K "law") fd) : FnOk P w K mg base (L2.CX P w) 6 (He.ga K "law") fd ["script"] (spF K f_law [false]) := by
  rw [f_law_eq]
  have h__law_folded : Has P w K mg base "_law_folded" ["cells", "many"] 1 f__law_folded [false, false] := ok__law_folded T
  have h__law_begun : Has P w K mg base "_law_begun" ["cell"] 1 f__law_begun [false] := ok__law_begun T
  have h__law_take : Has P w K mg base "_law_take" ["pot", "size"] 1 f__law_take [true, false] := ok__law_take T
  have h__law_grid : Has P w K mg base "_law_grid" ["pot"] 3 f__law_grid [true] := ok__law_grid T
  have h_look_from : Has P w K mg base "look_from" ["grid", "start", "n"] 4 f_look_from [false, false, false] := ok_look_from T
  have h_neighbours_of : Has P w K mg base "neighbours_of" ["grid", "place"] 4 f_neighbours_of [false, false] := ok_neighbours_of T
  have h_shells_near : Has P w K mg base "shells_near" ["grid", "start", "n"] 4 f_shells_near [false, false, false] := ok_shells_near T
  have h_look_right : Has P w K mg base "look_right" ["grid", "start", "n", "look"] 4 f_look_right [false, false, false, false] := ok_look_right T
  have h__law_both_right : Has P w K mg base "_law_both_right" ["looks", "start", "n"] 1 f__law_both_right [false, false, false] := ok__law_both_right T
  have h__law_between : Has P w K mg base "_law_between" ["pot", "looks", "start", "n"] 2 f__law_between [true, false, false, false] := ok__law_between T
  have h__law_ways_right : Has P w K mg base "_law_ways_right" ["pot", "grid", "looks", "start"] 5 f__law_ways_right [true, false, false, false] := ok__law_ways_right T
  exact fn_sem F sc_law rfl fun cdv A outer s H E L hr =>
    (js_cons (js_for (passes_of rfl) rfl (ji_items (je_fz (jf_callH h__law_folded (hr.mono (by decide)) rfl (takes_of rfl rfl rfl rfl) rfl rfl (ja_ex (je_var (pv 0)) (ja_ex je_int ja_nil))))) (jg_name sc_law.nd rfl (by first | exact Or.inl rfl | exact Or.inr rfl) (by first | exact Or.inr rfl | exact Or.inl rfl)) (js_cons (js_asg sc_law.nd rfl (by first | exact Or.inl rfl | exact Or.inr rfl) (jf_callH h__law_begun (hr.mono (by decide)) rfl (takes_of rfl rfl rfl rfl) rfl rfl (ja_ex (je_var (pv 1)) ja_nil)) rfl (by first | exact Or.inr rfl | exact Or.inl rfl)) (js_cons (js_asg sc_law.nd rfl (by first | exact Or.inl rfl | exact Or.inr rfl) (jf_bin op_addA sz_op (jo_ex je_int) (jo_ex (je_fz (jf_callH h__law_take (hr.mono (by decide)) rfl (takes_of rfl rfl rfl rfl) rfl rfl (ja_lend (pv 2) (ja_ex je_int ja_nil)))))) rfl (by first | exact Or.inr rfl | exact Or.inl rfl)) (js_cons (js_asg sc_law.nd rfl (by first | exact Or.inl rfl | exact Or.inr rfl) (jf_callH h__law_grid (hr.mono (by decide)) rfl (takes_of rfl rfl rfl rfl) rfl rfl (ja_lend (pv 2) ja_nil)) rfl (by first | exact Or.inr rfl | exact Or.inl rfl)) (js_cons (js_asg sc_law.nd rfl (by first | exact Or.inl rfl | exact Or.inr rfl) (jf_up (je_callD (cd_minA cd_min) (pe_callB (CallR.or' (cr_minT rfl (u65 hr)) (CallR.or' (call_min2 rfl) (cr_min rfl))) rfl T.b_min (by decide +kernel) (jos_cons (jo_nm (pv 3)) (jos_cons (jo_ex (je_fz (jf_bin op_sub sz_sub (jo_ex je_int) (jo_ex (je_fz (jf_ixA (u1 hr) (jo_nm (pv 4)) (jo_ex je_int) (fun _ _ => rfl))))))) jos_nil))))) rfl (by first | exact Or.inr rfl | exact Or.inl rfl)) (js_cons (js_setLc rfl sc_law.nd rfl rfl (sw_true rfl rfl rfl (by decide +kernel)) (ji_range1 rfl T.b_range (je_fz (jf_ixA (u1 hr) (jo_nm (pv 4)) (jo_ex je_int) (fun _ _ => rfl)))) (blkOk_by (own := [("start", 6)]) (N := N_law) (sc := defScope (top 37)) (by decide +kernel)) rfl (fun _ _ _ _ _ => (jgv_name sc_law.nd rfl (by first | exact Or.inl rfl | exact Or.inr rfl) (by first | exact Or.inr rfl | exact Or.inl rfl) (by decide))) (fun _ _ _ _ _ => jts_nil) (fun _ _ _ _ _ => (jf_up (je_fz (jf_callR cf_dict (pe_callTy (cr_dictT rfl (u65 hr)) rfl T.b_dict (by decide +kernel) (jos_cons (jo_ex (je_fz (jf_callH h_look_from (hr.mono (by decide)) rfl takes_blk rfl rfl (ja_ex (je_var (pv 4)) (ja_ex (je_var (pv 6)) (ja_ex (je_var (pv 3)) ja_nil)))))) jos_nil))))))) (js_one (js_for (passes_of rfl) rfl (ji_range1 rfl T.b_range (je_fz (jf_ixA (u1 hr) (jo_nm (pv 4)) (jo_ex je_int) (fun _ _ => rfl)))) (jg_name sc_law.nd rfl (by first | exact Or.inl rfl | exact Or.inr rfl) (by first | exact Or.inr rfl | exact Or.inl rfl)) (js_cons (js_asg sc_law.nd rfl (by first | exact Or.inl rfl | exact Or.inr rfl) (jf_ixA (u1 hr) (jo_nm (pv 5)) (jo_nm (pv 6)) (fun _ _ => rfl)) rfl (by first | exact Or.inr rfl | exact Or.inl rfl)) (js_cons (js_for (passes_of rfl) rfl (ji_items (je_fz (jf_slc (jo_ex (je_fz (jf_callR cf_sortedA (pe_callB (cr_sortedA rfl (u65 hr)) rfl T.b_sorted (by decide +kernel) (jos_cons (jo_nm (pv 7)) jos_nil))))) jp_none (jp_some je_int)))) (jg_name sc_law.nd rfl (by first | exact Or.inl rfl | exact Or.inr rfl) (by first | exact Or.inr rfl | exact Or.inl rfl)) (js_one (js_for (passes_of rfl) rfl (ji_items (je_fz (jf_callH h_neighbours_of (hr.mono (by decide)) rfl (takes_of rfl rfl rfl rfl) rfl rfl (ja_ex (je_var (pv 4)) (ja_ex (je_var (pv 8)) ja_nil))))) (jg_name sc_law.nd rfl (by first | exact Or.inl rfl | exact Or.inr rfl) (by first | exact Or.inr rfl | exact Or.inl rfl)) (js_one (js_if (jt_cmp (op_gtX (u65 hr)) cz_gtX (jo_ex (je_callD cd_abs (pe_callB call_abs rfl T.b_abs (by decide +kernel) (jos_cons (jo_ex (je_fz (jf_bin op_sub sz_sub (jo_ex (je_fz (jf_dget2 (u1 hr) (jo_nm (pv 7)) (jo_nm (pv 9)) (je_fz (jf_bin op_addA sz_op (jo_nm (pv 3)) (jo_ex je_int))) ⟨rfl, rfl, rfl, rfl⟩))) (jo_ex (je_fz (jf_ixA (u1 hr) (jo_nm (pv 7)) (jo_nm (pv 8)) (fun _ _ => rfl))))))) jos_nil)))) (jo_ex je_int) (nomark _)) (js_one (js_ret (jf_up je_bl))) js_nil)) (fun _ => rfl))) (fun _ => rfl)) (js_cons (js_setLc rfl sc_law.nd rfl rfl (sw_true rfl rfl rfl (by decide +kernel)) (ji_range1 rfl T.b_range (je_fz (jf_bin op_addA sz_op (jo_nm (pv 3)) (jo_ex je_int)))) (blkOk_by (own := [("distance", 12)]) (N := N_law) (sc := defScope (top 37)) (by decide +kernel)) rfl (fun _ _ _ _ _ => (jgv_name sc_law.nd rfl (by first | exact Or.inl rfl | exact Or.inr rfl) (by first | exact Or.inr rfl | exact Or.inl rfl) (by decide))) (fun _ _ _ _ _ => jts_nil) (fun _ _ _ _ _ => (jf_up (je_rm rm_cnt PySem.F.slot_list_count PySem.F.type_list_count (mt_cntD (u65 hr)) (jo_ex (je_fz (jf_valsL rfl rfl T.b_list (jo_nm (pv 7))))) (jo_nm (pv 12)))))) (js_cons (js_asg sc_law.nd rfl (by first | exact Or.inl rfl | exact Or.inr rfl) (jf_callH h_look_from (hr.mono (by decide)) rfl (takes_of rfl rfl rfl rfl) rfl rfl (ja_ex (je_var (pv 4)) (ja_ex (je_var (pv 6)) (ja_ex (je_var (pv 3)) ja_nil)))) rfl (by first | exact Or.inr rfl | exact Or.inl rfl)) (js_cons (js_if (PW.pt (jw_or (jt_cmp (op_neD hr.units) cz_ne (jo_ex (je_fz (jf_callH h_shells_near (hr.mono (by decide)) rfl (takes_of rfl rfl rfl rfl) rfl rfl (ja_ex (je_var (pv 4)) (ja_ex (je_var (pv 6)) (ja_ex (je_var (pv 3)) ja_nil)))))) (jo_nm (pv 10)) (nomark _)) (jw_or1 (jt_cmp op_isnC cz_isn (jo_ex (je_fz (jf_callH h_look_right (hr.mono (by decide)) rfl (takes_of rfl rfl rfl rfl) rfl rfl (ja_ex (je_var (pv 4)) (ja_ex (je_var (pv 6)) (ja_ex (je_var (pv 3)) (ja_ex (je_var (pv 11)) ja_nil))))))) (jo_ex je_bl) (nomark _))))) (js_one (js_ret (jf_up je_bl))) js_nil) (js_cons (js_if (jt_not (jt_val (je_fz (jf_callH h__law_both_right (hr.mono (by decide)) rfl (takes_of rfl rfl rfl rfl) rfl rfl (ja_ex (je_var (pv 5)) (ja_ex (je_var (pv 6)) (ja_ex (je_var (pv 3)) ja_nil))))) (fun _ => rfl))) (js_one (js_ret (jf_up je_bl))) js_nil) (js_cons (js_if (jt_not (jt_val (je_fz (jf_callH h__law_between (hr.mono (by decide)) rfl (takes_of rfl rfl rfl rfl) rfl rfl (ja_lend (pv 2) (ja_ex (je_var (pv 5)) (ja_ex (je_var (pv 6)) (ja_ex (je_var (pv 3)) ja_nil)))))) (fun _ => rfl))) (js_one (js_ret (jf_up je_bl))) js_nil) (js_one (js_if (jt_not (jt_val (je_fz (jf_callH h__law_ways_right (hr.mono (by decide)) rfl (takes_of rfl rfl rfl rfl) rfl rfl (ja_lend (pv 2) (ja_ex (je_var (pv 4)) (ja_ex (je_var (pv 5)) (ja_ex (je_var (pv 6)) ja_nil)))))) (fun _ => rfl))) (js_one (js_ret (jf_up je_bl))) js_nil))))))))) (fun _ => rfl)))))))) (fun _ => rfl)) (js_one (js_ret (jf_up je_bl))))
end
end G

namespace G
open PySem PySem.Spec PyProof.Rows L2 DV RZ Sem
def d_is_whole : He.DefD := ⟨("is_whole", none), "is_whole", "is_whole", defArgs (top 5), defBody (top 5), defScope (top 5), [], []⟩
def d_is_of : He.DefD := ⟨("is_of", none), "is_of", "is_of", defArgs (top 8), defBody (top 8), defScope (top 8), [], []⟩
def d_is_place : He.DefD := ⟨("is_place", none), "is_place", "is_place", defArgs (top 9), defBody (top 9), defScope (top 9), [], []⟩
def d_steps_from : He.DefD := ⟨("steps_from", none), "steps_from", "steps_from", defArgs (top 10), defBody (top 10), defScope (top 10), [], []⟩
def d_beside : He.DefD := ⟨("beside", none), "beside", "beside", defArgs (top 11), defBody (top 11), defScope (top 11), [], []⟩
def d_neighbours_of : He.DefD := ⟨("neighbours_of", none), "neighbours_of", "neighbours_of", defArgs (top 12), defBody (top 12), defScope (top 12), [], []⟩
def d_rings_from : He.DefD := ⟨("rings_from", none), "rings_from", "rings_from", defArgs (top 14), defBody (top 14), defScope (top 14), [], []⟩
def d_look_from : He.DefD := ⟨("look_from", none), "look_from", "look_from", defArgs (top 15), defBody (top 15), defScope (top 15), [], []⟩
def d_one_nearer : He.DefD := ⟨("one_nearer", none), "one_nearer", "one_nearer", defArgs (top 16), defBody (top 16), defScope (top 16), [], []⟩
def d_all_beside : He.DefD := ⟨("all_beside", none), "all_beside", "all_beside", defArgs (top 17), defBody (top 17), defScope (top 17), [], []⟩
def d_look_right : He.DefD := ⟨("look_right", none), "look_right", "look_right", defArgs (top 18), defBody (top 18), defScope (top 18), [], []⟩
def d_shells_near : He.DefD := ⟨("shells_near", none), "shells_near", "shells_near", defArgs (top 19), defBody (top 19), defScope (top 19), [], []⟩
def d_way_holds : He.DefD := ⟨("way_holds", none), "way_holds", "way_holds", defArgs (top 22), defBody (top 22), defScope (top 22), [], []⟩
def d_rings_to : He.DefD := ⟨("rings_to", none), "rings_to", "rings_to", defArgs (top 23), defBody (top 23), defScope (top 23), [], []⟩
def d_way_to : He.DefD := ⟨("way_to", none), "way_to", "way_to", defArgs (top 24), defBody (top 24), defScope (top 24), [], []⟩
def d__law_folded : He.DefD := ⟨("_law_folded", none), "_law_folded", "_law_folded", defArgs (top 26), defBody (top 26), defScope (top 26), [], []⟩
def d__law_begun : He.DefD := ⟨("_law_begun", none), "_law_begun", "_law_begun", defArgs (top 27), defBody (top 27), defScope (top 27), [], []⟩
def d__law_take : He.DefD := ⟨("_law_take", none), "_law_take", "_law_take", defArgs (top 28), defBody (top 28), defScope (top 28), [], []⟩
def d__law_tie : He.DefD := ⟨("_law_tie", none), "_law_tie", "_law_tie", defArgs (top 29), defBody (top 29), defScope (top 29), [], []⟩
def d__law_turned : He.DefD := ⟨("_law_turned", none), "_law_turned", "_law_turned", defArgs (top 30), defBody (top 30), defScope (top 30), [], []⟩
def d__law_written : He.DefD := ⟨("_law_written", none), "_law_written", "_law_written", defArgs (top 31), defBody (top 31), defScope (top 31), [], []⟩
def d__law_known : He.DefD := ⟨("_law_known", none), "_law_known", "_law_known", defArgs (top 32), defBody (top 32), defScope (top 32), [], []⟩
def d__law_grid : He.DefD := ⟨("_law_grid", none), "_law_grid", "_law_grid", defArgs (top 33), defBody (top 33), defScope (top 33), [], []⟩
def d__law_both_right : He.DefD := ⟨("_law_both_right", none), "_law_both_right", "_law_both_right", defArgs (top 34), defBody (top 34), defScope (top 34), [], []⟩
def d__law_between : He.DefD := ⟨("_law_between", none), "_law_between", "_law_between", defArgs (top 35), defBody (top 35), defScope (top 35), [], []⟩
def d__law_ways_right : He.DefD := ⟨("_law_ways_right", none), "_law_ways_right", "_law_ways_right", defArgs (top 36), defBody (top 36), defScope (top 36), [], []⟩
def d_law : He.DefD := ⟨("law", none), "law", "law", defArgs (top 37), defBody (top 37), defScope (top 37), [], []⟩
def fn : List He.DefD := ([d_is_whole, d_is_of, d_is_place, d_steps_from, d_beside, d_neighbours_of, d_rings_from, d_look_from, d_one_nearer, d_all_beside, d_look_right, d_shells_near, d_way_holds, d_rings_to, d_way_to, d__law_folded, d__law_begun, d__law_take, d__law_tie, d__law_turned] : List He.DefD) ++ ([d__law_written, d__law_known, d__law_grid, d__law_both_right, d__law_between, d__law_ways_right, d_law] : List He.DefD)
def fa : List He.Fa := ([.glo "is_whole", .glo "is_of", .glo "is_place", .glo "steps_from", .glo "beside", .glo "neighbours_of", .glo "rings_from", .glo "look_from", .glo "one_nearer", .glo "all_beside", .glo "look_right", .glo "shells_near", .glo "way_holds", .glo "rings_to", .glo "way_to", .glo "_law_folded", .glo "_law_begun", .glo "_law_take", .glo "_law_tie", .glo "_law_turned"] : List He.Fa) ++ ([.glo "_law_written", .glo "_law_known", .glo "_law_grid", .glo "_law_both_right", .glo "_law_between", .glo "_law_ways_right", .glo "law", .free "abs", .free "all", .free "any", .free "bool", .free "dict", .free "enumerate", .free "int", .free "isinstance", .free "len", .free "list", .free "max", .free "min", .free "range"] : List He.Fa) ++ ([.free "sorted", .free "tuple", .free "zip", .int "FAR" 1000000000000000000000000000000, .int "MOST_FAR" 12, .glo "NoPlace", .exc "NoPlace", .glo "TooFar", .exc "TooFar"] : List He.Fa)
abbrev R : PySem.W.OpenRow := PySem.W.OpenLaw.row PySem.Challenge.rw_farwide_k20_whole_far_from_one_another
abbrev hk : PySem.W.Hook := hookN 4 fa fn
def ob (s : PySem.W.SharedT) : He.AlD := obsN 4 fa fn (HandSHeadRun.getT s)
theorem ob_eq (s : PySem.W.SharedT) : ob s = hk.obs s.abs := obsN_eq (HandSHeadRun.getT_eq s)
def loose : List PySem.Str := (["ShellError", "NoPlace", "TooFar", "is_whole", "FAR", "is_of", "is_place", "steps_from", "beside", "neighbours_of", "rings_from", "look_from", "one_nearer", "all_beside", "look_right", "shells_near", "MOST_FAR", "way_holds", "rings_to", "way_to"] : List PySem.Str) ++ (["_law_folded", "_law_begun", "_law_take", "_law_tie", "_law_turned", "_law_written", "_law_known", "_law_grid", "_law_both_right", "_law_between", "_law_ways_right"] : List PySem.Str)
theorem run (w : World) : HandSHeadRun.RunEq R (PySem.W.view R.prog [37]) hk ob 4000 loose w := by
  intro os
  kernel_rfl
theorem facts {K : PySem.W.Frag} {h : Heap} {mg : Str → Option Value} (X : K.In h) (G : h.Ns mainGlobals mg) (c : He.SaysD fa fn K) : Tt K mg where
  g_is_whole := He.glo_ok X G (c.fact 0 (f := .glo "is_whole") rfl)
  g_is_of := He.glo_ok X G (c.fact 1 (f := .glo "is_of") rfl)
  g_is_place := He.glo_ok X G (c.fact 2 (f := .glo "is_place") rfl)
  g_steps_from := He.glo_ok X G (c.fact 3 (f := .glo "steps_from") rfl)
  g_beside := He.glo_ok X G (c.fact 4 (f := .glo "beside") rfl)
  g_neighbours_of := He.glo_ok X G (c.fact 5 (f := .glo "neighbours_of") rfl)
  g_rings_from := He.glo_ok X G (c.fact 6 (f := .glo "rings_from") rfl)
  g_look_from := He.glo_ok X G (c.fact 7 (f := .glo "look_from") rfl)
  g_one_nearer := He.glo_ok X G (c.fact 8 (f := .glo "one_nearer") rfl)
  g_all_beside := He.glo_ok X G (c.fact 9 (f := .glo "all_beside") rfl)
  g_look_right := He.glo_ok X G (c.fact 10 (f := .glo "look_right") rfl)
  g_shells_near := He.glo_ok X G (c.fact 11 (f := .glo "shells_near") rfl)
  g_way_holds := He.glo_ok X G (c.fact 12 (f := .glo "way_holds") rfl)
  g_rings_to := He.glo_ok X G (c.fact 13 (f := .glo "rings_to") rfl)
  g_way_to := He.glo_ok X G (c.fact 14 (f := .glo "way_to") rfl)
  g__law_folded := He.glo_ok X G (c.fact 15 (f := .glo "_law_folded") rfl)
  g__law_begun := He.glo_ok X G (c.fact 16 (f := .glo "_law_begun") rfl)
  g__law_take := He.glo_ok X G (c.fact 17 (f := .glo "_law_take") rfl)
  g__law_tie := He.glo_ok X G (c.fact 18 (f := .glo "_law_tie") rfl)
  g__law_turned := He.glo_ok X G (c.fact 19 (f := .glo "_law_turned") rfl)
  g__law_written := He.glo_ok X G (c.fact 20 (f := .glo "_law_written") rfl)
  g__law_known := He.glo_ok X G (c.fact 21 (f := .glo "_law_known") rfl)
  g__law_grid := He.glo_ok X G (c.fact 22 (f := .glo "_law_grid") rfl)
  g__law_both_right := He.glo_ok X G (c.fact 23 (f := .glo "_law_both_right") rfl)
  g__law_between := He.glo_ok X G (c.fact 24 (f := .glo "_law_between") rfl)
  g__law_ways_right := He.glo_ok X G (c.fact 25 (f := .glo "_law_ways_right") rfl)
  g_law := He.glo_ok X G (c.fact 26 (f := .glo "law") rfl)
  b_abs := He.free_ok X G (c.fact 27 (f := .free "abs") rfl)
  b_all := He.free_ok X G (c.fact 28 (f := .free "all") rfl)
  b_any := He.free_ok X G (c.fact 29 (f := .free "any") rfl)
  b_bool := He.free_ok X G (c.fact 30 (f := .free "bool") rfl)
  b_dict := He.free_ok X G (c.fact 31 (f := .free "dict") rfl)
  b_enumerate := He.free_ok X G (c.fact 32 (f := .free "enumerate") rfl)
  b_int := He.free_ok X G (c.fact 33 (f := .free "int") rfl)
  b_isinstance := He.free_ok X G (c.fact 34 (f := .free "isinstance") rfl)
  b_len := He.free_ok X G (c.fact 35 (f := .free "len") rfl)
  b_list := He.free_ok X G (c.fact 36 (f := .free "list") rfl)
  b_max := He.free_ok X G (c.fact 37 (f := .free "max") rfl)
  b_min := He.free_ok X G (c.fact 38 (f := .free "min") rfl)
  b_range := He.free_ok X G (c.fact 39 (f := .free "range") rfl)
  b_sorted := He.free_ok X G (c.fact 40 (f := .free "sorted") rfl)
  b_tuple := He.free_ok X G (c.fact 41 (f := .free "tuple") rfl)
  b_zip := He.free_ok X G (c.fact 42 (f := .free "zip") rfl)
  c_FAR := He.int_ok X G (c.fact 43 (f := .int "FAR" 1000000000000000000000000000000) rfl)
  c_MOST_FAR := He.int_ok X G (c.fact 44 (f := .int "MOST_FAR" 12) rfl)
  g_NoPlace := He.glo_ok X G (c.fact 45 (f := .glo "NoPlace") rfl)
  x_NoPlace := He.exc_ok (c.fact 46 (f := .exc "NoPlace") rfl)
  g_TooFar := He.glo_ok X G (c.fact 47 (f := .glo "TooFar") rfl)
  x_TooFar := He.exc_ok (c.fact 48 (f := .exc "TooFar") rfl)
  d_is_whole := c.def_ 0 (d := d_is_whole) rfl
  d_is_of := c.def_ 1 (d := d_is_of) rfl
  d_is_place := c.def_ 2 (d := d_is_place) rfl
  d_steps_from := c.def_ 3 (d := d_steps_from) rfl
  d_beside := c.def_ 4 (d := d_beside) rfl
  d_neighbours_of := c.def_ 5 (d := d_neighbours_of) rfl
  d_rings_from := c.def_ 6 (d := d_rings_from) rfl
  d_look_from := c.def_ 7 (d := d_look_from) rfl
  d_one_nearer := c.def_ 8 (d := d_one_nearer) rfl
  d_all_beside := c.def_ 9 (d := d_all_beside) rfl
  d_look_right := c.def_ 10 (d := d_look_right) rfl
  d_shells_near := c.def_ 11 (d := d_shells_near) rfl
  d_way_holds := c.def_ 12 (d := d_way_holds) rfl
  d_rings_to := c.def_ 13 (d := d_rings_to) rfl
  d_way_to := c.def_ 14 (d := d_way_to) rfl
  d__law_folded := c.def_ 15 (d := d__law_folded) rfl
  d__law_begun := c.def_ 16 (d := d__law_begun) rfl
  d__law_take := c.def_ 17 (d := d__law_take) rfl
  d__law_tie := c.def_ 18 (d := d__law_tie) rfl
  d__law_turned := c.def_ 19 (d := d__law_turned) rfl
  d__law_written := c.def_ 20 (d := d__law_written) rfl
  d__law_known := c.def_ 21 (d := d__law_known) rfl
  d__law_grid := c.def_ 22 (d := d__law_grid) rfl
  d__law_both_right := c.def_ 23 (d := d__law_both_right) rfl
  d__law_between := c.def_ 24 (d := d__law_between) rfl
  d__law_ways_right := c.def_ 25 (d := d__law_ways_right) rfl
  d_law := c.def_ 26 (d := d_law) rfl
end G
open PySem PySem.W PySem.Calls PyProof.Rows
theorem PySem.Challenge.cw_farwide_k20_whole_far_from_one_another_holds : PySem.Challenge.rw_farwide_k20_whole_far_from_one_another.Holds := by
  w_on; o_law
  refine HandSHeadRun.head_any (r := OpenLaw.row PySem.Challenge.rw_farwide_k20_whole_far_from_one_another) (q := view (OpenLaw.row PySem.Challenge.rw_farwide_k20_whole_far_from_one_another).prog [37]) (H := G.hk) (ob := G.ob) (M := 4000) (loose := G.loose) (d := HandSHeadRun.topDef (OpenLaw.row PySem.Challenge.rw_farwide_k20_whole_far_from_one_another).prog 37) (kwd := []) G.ob_eq
    (by kernel_rfl) (fun s => by kernel_rfl) G.run (by kernel_rfl) (by kernel_rfl) (by kernel_rfl) (by rfl) (by first | assumption | decide +kernel) (by decide +kernel) ⟨rfl, rfl, rfl, rfl, rfl, by decide +kernel⟩ ?hw ?hc
  case hw => w_witness2
  case hc =>
    refine DV.law_end (l := PySem.Challenge.rw_farwide_k20_whole_far_from_one_another) (n := 63) (k := 6) (x := "script") (F := Sem.f_law) rfl (by decide) (by kernel_rfl) ⟨rfl, by decide, by decide⟩ ?F Maths.holds
    intro w mg fa h Y Gh hmg0
    obtain ⟨K, ⟨KX, nl⟩, c⟩ := Y
    have T := G.facts KX Gh c
    obtain ⟨fd, F⟩ := T.d_law
    have hmg : mg ("law" : PySem.Str) = some (.ref fa) := by
      have e : (HandSHeadRun.topDef (OpenLaw.row PySem.Challenge.rw_farwide_k20_whole_far_from_one_another).prog 37).name = ("law" : PySem.Str) := by kernel_rfl
      rw [← e]
      exact hmg0
    have e := hmg.symm.trans T.g_law
    cases e
    have b := L2.FunD.bindsA (ps := ["script"]) F fun _ _ _ _ _ _ us hl => match us, hl with | [_], _ => rfl
    exact ⟨K, fd, KX, nl, fun s v => b s [v] rfl, fun base _ _ => G.ok_law T F⟩

