import PyProof.Rows.All
import Wide.All
import OpenK.AllK
import Wide.FinOn
import KE.KStateDown
import HandS.ForMost
import HandS.Exc
import HandS.WordsExc
import HandS.Defaults
import HandS.Deep
import HandS.TupAny
import HandS.IsInst
import KE.SortData
import KE.SortKeyHeap
import PyProof.ReprRoads
import HandS.Ends
import HandS.HeadEnd
import HandS.Small
import HandS.Text
import PyProof.Rows.SeqMore
import HandS.More
import HandS.Set
import HandS.SetFor
import HandS.SetTxt0
import Lean
import HandS.Head0
import HandS.Head1
import HandS.Head2
import HandS.HeadHook1
import HandS.HeadHook2
import PySem.Challenge.RW_claimshold_k70_letters
set_option Elab.async false
set_option linter.all false
set_option maxRecDepth 100000
set_option maxHeartbeats 4000000
/-! A1: abstract values with ownership, and how they lie in the abstract heap. -/
namespace TT
open PySem PySem.Spec PyProof.Rows L2

abbrev D := PyData

/-- an abstract value: data (never changed again), or what one alone owns -/
inductive X where
  | d (x : D)
  | lst (xs : List X)
  | tup (xs : List X)
  | dct (t : Bool) (ks : List D) (xs : List X)
  | obj (c : Nat) (xs : List X)

/-- the classes of the text: address and fields, by number -/
structure Cls1 where
  addr : Addr
  flds : List Str

def kD : Key → D
  | .inl i => .int i
  | .inr s => .str s

section
variable (K : PySem.W.Frag) (H : Hp)
/-- a list that stays as it is -/
def FrL (a : Addr) (vs : List V) : Prop :=
  (∃ o, H a = some (.frz o (.lst vs))) ∨
    ∃ (o : Obj) (its : Array Value) (n : Nat), K.lookup a = some o ∧ o.cls = .type "list" ∧ o.dict = none ∧ o.data = .seq its n ∧ its.size ≤ sizeLine ∧ Vals vs its.toList
mutual
/-- data that stays as it is -/
inductive DI : V → D → Prop
  | non : DI .non .none
  | bl (b : Bool) : DI (.bl b) (.bool b)
  | int (i : Int) : DI (.int i) (.int i)
  | str (x : Str) : DI (.str x) (.str x)
  | lst {a : Addr} {vs : List V} {ds : List D} : FrL K H a vs → DIs vs ds → DI (.ref a) (.list ds)
  | tup {a : Addr} {vs : List V} {ds : List D} : H a = some (.tup vs) → DIs vs ds → DI (.ref a) (.tuple ds)
  | dK {a : Addr} {o : Obj} {hk : List (Key × V)} {ds : List D} : H a = some (.frz o (.dK hk)) → DIs (hk.map (·.2)) ds → DI (.ref a) (.dict ((hk.map fun p => kD p.1).zip ds))
  | dT {a : Addr} {o : Obj} {hk : List (List Key × V)} {ds : List D} : H a = some (.frz o (.dT hk)) → hk ≠ [] → DIs (hk.map (·.2)) ds → DI (.ref a) (.dict ((hk.map fun p => PyData.tuple (p.1.map kD)).zip ds))
inductive DIs : List V → List D → Prop
  | nil : DIs [] []
  | cons {v : V} {vs : List V} {d : D} {ds : List D} : DI v d → DIs vs ds → DIs (v :: vs) (d :: ds)
end
end

/-- what never changes -/
def Imm : HO → Prop
  | .tup _ => True
  | .frz _ _ => True
  | _ => False
def ImmK (H H' : Hp) : Prop := ∀ c o, Imm o → H c = some o → H' c = some o

section
variable {K : PySem.W.Frag} {H H' : Hp}
theorem ImmK.sqT {a : Addr} {vs : List V} (k : ImmK H H') (h : SqT K H a vs) : SqT K H' a vs := by
  rcases h with (h | ⟨o, h⟩) | h
  · exact .inl (.inl (k _ _ trivial h))
  · exact .inl (.inr ⟨o, k _ _ trivial h⟩)
  · exact .inr h
theorem ImmK.frL {a : Addr} {vs : List V} (k : ImmK H H') (h : FrL K H a vs) : FrL K H' a vs := by
  rcases h with ⟨o, h⟩ | h
  · exact .inl ⟨o, k _ _ trivial h⟩
  · exact .inr h
mutual
theorem DI.keep (k : ImmK H H') : ∀ {v : V} {d : D}, DI K H v d → DI K H' v d
  | _, _, .non => .non
  | _, _, .bl b => .bl b
  | _, _, .int i => .int i
  | _, _, .str x => .str x
  | _, _, .lst h hs => .lst (k.frL h) (DIs.keep k hs)
  | _, _, .tup h hs => .tup (k _ _ trivial h) (DIs.keep k hs)
  | _, _, .dK h hs => .dK (k _ _ trivial h) (DIs.keep k hs)
  | _, _, .dT h ne hs => .dT (k _ _ trivial h) ne (DIs.keep k hs)
theorem DIs.keep (k : ImmK H H') : ∀ {vs : List V} {ds : List D}, DIs K H vs ds → DIs K H' vs ds
  | _, _, .nil => .nil
  | _, _, .cons h hs => .cons (DI.keep k h) (DIs.keep k hs)
end
theorem DIs.length : ∀ {vs : List V} {ds : List D}, DIs K H vs ds → vs.length = ds.length
  | _, _, .nil => rfl
  | _, _, .cons _ hs => by rw [List.length_cons, List.length_cons, DIs.length hs]
theorem DIs.at : ∀ {vs : List V} {ds : List D} {i : Nat} {v : V}, DIs K H vs ds → vs[i]? = some v → ∃ d, ds[i]? = some d ∧ DI K H v d
  | _, _, _, _, .nil, e => by simp at e
  | _, _, 0, _, .cons h _, e => by simp at e; subst e; exact ⟨_, rfl, h⟩
  | _, _, i + 1, _, .cons _ hs, e => by
    obtain ⟨d, h1, h2⟩ := DIs.at (i := i) hs (by simpa using e)
    exact ⟨d, by simpa using h1, h2⟩
theorem DIs.at' : ∀ {vs : List V} {ds : List D} {i : Nat} {d : D}, DIs K H vs ds → ds[i]? = some d → ∃ v, vs[i]? = some v ∧ DI K H v d
  | _, _, _, _, .nil, e => by simp at e
  | _, _, 0, _, .cons h _, e => by simp at e; subst e; exact ⟨_, rfl, h⟩
  | _, _, i + 1, _, .cons _ hs, e => by
    obtain ⟨d, h1, h2⟩ := DIs.at' (i := i) hs (by simpa using e)
    exact ⟨d, by simpa using h1, h2⟩
theorem DIs.append : ∀ {vs ws : List V} {ds es : List D}, DIs K H vs ds → DIs K H ws es → DIs K H (vs ++ ws) (ds ++ es)
  | _, _, _, _, .nil, h => h
  | _, _, _, _, .cons h hs, t => .cons h (DIs.append hs t)
theorem DIs.take : ∀ {vs : List V} {ds : List D} (n : Nat), DIs K H vs ds → DIs K H (vs.take n) (ds.take n)
  | _, _, 0, _ => .nil
  | _, _, _ + 1, .nil => .nil
  | _, _, n + 1, .cons h hs => .cons h (DIs.take n hs)
theorem DIs.drop : ∀ {vs : List V} {ds : List D} (n : Nat), DIs K H vs ds → DIs K H (vs.drop n) (ds.drop n)
  | _, _, 0, h => h
  | _, _, _ + 1, .nil => .nil
  | _, _, n + 1, .cons _ hs => DIs.drop n hs
end

/-! ### what is owned -/
abbrev Foot := Addr → Prop
def MutF (F : Foot) (H : Hp) : Prop := ∀ c, F c → Mut (H c)
def Frame (F : Foot) (H H' : Hp) : Prop := ∀ c o, H c = some o → ¬ F c → H' c = some o
def Sub (A F : Foot) (H : Hp) : Prop := ∀ c, A c → F c ∨ H c = none
def Dj (A B : Foot) : Prop := ∀ c, A c → B c → False
def noF : Foot := fun _ => False
def but (F : Foot) (a : Addr) : Foot := fun b => F b ∧ b ≠ a

section
variable (K : PySem.W.Frag) (cx : List Cls1) (H : Hp)
mutual
inductive RepX : V → X → Foot → Prop
  | d {v : V} {x : D} {F : Foot} : DI K H v x → RepX v (.d x) F
  | lst {a : Addr} {vs : List V} {xs : List X} {F : Foot} : H a = some (.lst vs) → F a → RepXs vs xs (but F a) → RepX (.ref a) (.lst xs) F
  | tup {a : Addr} {vs : List V} {xs : List X} {F : Foot} : H a = some (.tup vs) → RepXs vs xs F → RepX (.ref a) (.tup xs) F
  | dK {a : Addr} {hk : List (Key × V)} {xs : List X} {F : Foot} : H a = some (.dK hk) → F a → (hk.map (·.1)).Nodup → RepXs (hk.map (·.2)) xs (but F a) → RepX (.ref a) (.dct false (hk.map fun p => kD p.1) xs) F
  | dT {a : Addr} {hk : List (List Key × V)} {xs : List X} {F : Foot} : H a = some (.dT hk) → F a → (hk.map (·.1)).Nodup → RepXs (hk.map (·.2)) xs (but F a) → RepX (.ref a) (.dct true (hk.map fun p => PyData.tuple (p.1.map kD)) xs) F
  | obj {a dx : Addr} {c : Nat} {C : Cls1} {fs : List (Str × V)} {xs : List X} {F : Foot} : H a = some (.ins C.addr dx fs) → F a → cx[c]? = some C → fs.map (·.1) = C.flds.take xs.length → RepXs (fs.map (·.2)) xs (but F a) → RepX (.ref a) (.obj c xs) F
inductive RepXs : List V → List X → Foot → Prop
  | nil {F : Foot} : RepXs [] [] F
  | cons {v : V} {vs : List V} {x : X} {xs : List X} {F1 F2 F : Foot} : RepX v x F1 → RepXs vs xs F2 → Dj F1 F2 → (∀ a, F1 a → F a) → (∀ a, F2 a → F a) → RepXs (v :: vs) (x :: xs) F
end
end

section
variable {K : PySem.W.Frag} {cx : List Cls1} {H H' H1 H2 : Hp}
theorem Frame.refl (F : Foot) (H : Hp) : Frame F H H := fun _ _ h _ => h
theorem Frame.trans {F F1 : Foot} (a : Frame F H H1) (b : Frame F1 H1 H2) (s : Sub F1 F H) : Frame F H H2 := fun c o h n => by
  refine b c o (a c o h n) fun q => ?_
  rcases s c q with z | z
  · exact n z
  · rw [h] at z; cases z
theorem Sub.refl (F : Foot) (H : Hp) : Sub F F H := fun _ h => .inl h
theorem none_of_frame {F : Foot} (a : Frame F H H1) (m : MutF F H) {c : Addr} (h : H1 c = none) : F c ∨ H c = none := by
  cases e : H c with
  | none => exact .inr rfl
  | some o =>
    by_cases f : F c
    · exact .inl f
    · rw [a c o e f] at h; cases h
theorem mut_imm {c : Addr} {o : HO} (m : Mut (H c)) (e : H c = some o) : ¬ Imm o := by
  rw [e] at m
  cases o <;> first | exact fun z => z | exact m.elim
theorem Frame.imm {F : Foot} (a : Frame F H H1) (m : MutF F H) : ImmK H H1 := fun c o i e => a c o e fun f => mut_imm (m c f) e i
theorem MutF.keep {T F : Foot} (m : MutF T H) (d : Dj T F) (a : Frame F H H1) : MutF T H1 := fun c t => by
  have q := m c t
  cases e : H c with
  | none => rw [e] at q; exact q.elim
  | some o =>
    rw [e] at q
    rw [a c o e fun f => d c t f]
    exact q
theorem Dj.of_sub {T F A : Foot} (m : MutF T H) (d : Dj T F) (s : Sub A F H) : Dj T A := fun c t q => by
  rcases s c q with z | z
  · exact d c t z
  · have w := m c t
    rw [z] at w
    exact w
theorem Dj.symm {A B : Foot} (d : Dj A B) : Dj B A := fun c a b => d c b a

mutual
theorem RepX.mono {v : V} {x : X} {F G : Foot} (k : ∀ c, F c → G c) : RepX K cx H v x F → RepX K cx H v x G
  | .d h => .d h
  | .lst h f hs => .lst h (k _ f) (RepXs.mono (fun c q => ⟨k c q.1, q.2⟩) hs)
  | .tup h hs => .tup h (RepXs.mono k hs)
  | .dK h f nd hs => .dK h (k _ f) nd (RepXs.mono (fun c q => ⟨k c q.1, q.2⟩) hs)
  | .dT h f nd hs => .dT h (k _ f) nd (RepXs.mono (fun c q => ⟨k c q.1, q.2⟩) hs)
  | .obj h f h1 h2 hs => .obj h (k _ f) h1 h2 (RepXs.mono (fun c q => ⟨k c q.1, q.2⟩) hs)
theorem RepXs.mono {vs : List V} {xs : List X} {F G : Foot} (k : ∀ c, F c → G c) : RepXs K cx H vs xs F → RepXs K cx H vs xs G
  | .nil => .nil
  | .cons h hs d s1 s2 => .cons h hs d (fun c q => k c (s1 c q)) (fun c q => k c (s2 c q))
end
mutual
/-- it stays where its footprint and what never changes stay -/
theorem RepX.keep {v : V} {x : X} {F : Foot} (k : ImmK H H') (f : ∀ c, F c → H' c = H c) : RepX K cx H v x F → RepX K cx H' v x F
  | .d h => .d (h.keep k)
  | .lst h q hs => .lst ((f _ q).trans h) q (RepXs.keep k (fun c z => f c z.1) hs)
  | .tup h hs => .tup (k _ _ trivial h) (RepXs.keep k f hs)
  | .dK h q nd hs => .dK ((f _ q).trans h) q nd (RepXs.keep k (fun c z => f c z.1) hs)
  | .dT h q nd hs => .dT ((f _ q).trans h) q nd (RepXs.keep k (fun c z => f c z.1) hs)
  | .obj h q h1 h2 hs => .obj ((f _ q).trans h) q h1 h2 (RepXs.keep k (fun c z => f c z.1) hs)
theorem RepXs.keep {vs : List V} {xs : List X} {F : Foot} (k : ImmK H H') (f : ∀ c, F c → H' c = H c) : RepXs K cx H vs xs F → RepXs K cx H' vs xs F
  | .nil => .nil
  | .cons h hs d s1 s2 => .cons (RepX.keep k (fun c z => f c (s1 c z)) h) (RepXs.keep k (fun c z => f c (s2 c z)) hs) d s1 s2
end
theorem frame_at {T F : Foot} (m : MutF T H) (d : Dj T F) (a : Frame F H H1) : ∀ c, T c → H1 c = H c := fun c t => by
  have q := m c t
  cases e : H c with
  | none => rw [e] at q; exact q.elim
  | some o => exact a c o e fun f => d c t f
theorem RepX.frame {v : V} {x : X} {T F : Foot} (r : RepX K cx H v x T) (m : MutF T H) (d : Dj T F) (a : Frame F H H1) (mf : MutF F H) : RepX K cx H1 v x T := r.keep (a.imm mf) (frame_at m d a)
theorem RepXs.frame {vs : List V} {xs : List X} {T F : Foot} (r : RepXs K cx H vs xs T) (m : MutF T H) (d : Dj T F) (a : Frame F H H1) (mf : MutF F H) : RepXs K cx H1 vs xs T := r.keep (a.imm mf) (frame_at m d a)
theorem RepXs.length {F : Foot} : ∀ {vs : List V} {xs : List X} {F : Foot}, RepXs K cx H vs xs F → vs.length = xs.length
  | _, _, _, .nil => rfl
  | _, _, _, .cons _ hs _ _ _ => by rw [List.length_cons, List.length_cons, RepXs.length (F := noF) hs]
theorem RepXs.at : ∀ {vs : List V} {xs : List X} {F : Foot} {i : Nat} {v : V}, RepXs K cx H vs xs F → vs[i]? = some v → ∃ x, xs[i]? = some x ∧ RepX K cx H v x F
  | _, _, _, _, _, .nil, e => by simp at e
  | _, _, _, 0, _, .cons h _ _ s1 _, e => by simp at e; subst e; exact ⟨_, rfl, h.mono s1⟩
  | _, _, _, i + 1, _, .cons _ hs _ _ s2, e => by
    obtain ⟨d, h1, h2⟩ := RepXs.at (i := i) hs (by simpa using e)
    exact ⟨d, by simpa using h1, h2.mono s2⟩
theorem RepXs.at' : ∀ {vs : List V} {xs : List X} {F : Foot} {i : Nat} {x : X}, RepXs K cx H vs xs F → xs[i]? = some x → ∃ v, vs[i]? = some v ∧ RepX K cx H v x F
  | _, _, _, _, _, .nil, e => by simp at e
  | _, _, _, 0, _, .cons h _ _ s1 _, e => by simp at e; subst e; exact ⟨_, rfl, h.mono s1⟩
  | _, _, _, i + 1, _, .cons _ hs _ _ s2, e => by
    obtain ⟨d, h1, h2⟩ := RepXs.at' (i := i) hs (by simpa using e)
    exact ⟨d, by simpa using h1, h2.mono s2⟩
theorem RepXs.of_dis {F : Foot} : ∀ {vs : List V} {ds : List D}, DIs K H vs ds → RepXs K cx H vs (ds.map X.d) F
  | _, _, .nil => .nil
  | _, _, .cons h hs => .cons (F1 := noF) (F2 := noF) (.d h) (RepXs.of_dis hs) (fun _ z => z.elim) (fun _ z => z.elim) (fun _ z => z.elim)
end

/-! ### a value read as data: its items never change -/
mutual
def dat1 : X → Option D
  | .d x => some x
  | .lst xs => (allD xs).map .list
  | .tup xs => (allD xs).map .tuple
  | .dct t ks xs => if t && ks.isEmpty then none else (allD xs).map fun ds => .dict (ks.zip ds)
  | .obj _ _ => none
def allD : List X → Option (List D)
  | [] => some []
  | .d x :: r => (allD r).map (x :: ·)
  | _ :: _ => none
end
theorem allD_map (ds : List D) : allD (ds.map X.d) = some ds := by
  induction ds with
  | nil => rfl
  | cons d ds ih => simp [allD, ih]
theorem allD_eq : ∀ {xs : List X} {ds : List D}, allD xs = some ds → xs = ds.map X.d
  | [], ds, h => by simp [allD] at h; subst h; rfl
  | .d x :: r, ds, h => by
    simp only [allD, Option.map_eq_some_iff] at h
    obtain ⟨e, h1, rfl⟩ := h
    rw [allD_eq h1]
    rfl
  | .lst _ :: r, ds, h => by simp [allD] at h
  | .tup _ :: r, ds, h => by simp [allD] at h
  | .dct _ _ _ :: r, ds, h => by simp [allD] at h
  | .obj _ _ :: r, ds, h => by simp [allD] at h

section
variable (K : PySem.W.Frag) (H : Hp)
/-- v reads as the datum, here and now; its items never change -/
inductive DV : V → D → Prop
  | non : DV .non .none
  | bl (b : Bool) : DV (.bl b) (.bool b)
  | int (i : Int) : DV (.int i) (.int i)
  | str (x : Str) : DV (.str x) (.str x)
  | lst {a : Addr} {vs : List V} {ds : List D} : SqL K H a vs → DIs K H vs ds → DV (.ref a) (.list ds)
  | tup {a : Addr} {vs : List V} {ds : List D} : H a = some (.tup vs) → DIs K H vs ds → DV (.ref a) (.tuple ds)
  | dK {a : Addr} {hk : List (Key × V)} {ds : List D} : Rd H a (.dK hk) → DIs K H (hk.map (·.2)) ds → DV (.ref a) (.dict ((hk.map fun p => kD p.1).zip ds))
  | dT {a : Addr} {hk : List (List Key × V)} {ds : List D} : Rd H a (.dT hk) → hk ≠ [] → DIs K H (hk.map (·.2)) ds → DV (.ref a) (.dict ((hk.map fun p => PyData.tuple (p.1.map kD)).zip ds))
inductive DVs : List V → List D → Prop
  | nil : DVs [] []
  | cons {v : V} {vs : List V} {d : D} {ds : List D} : DV K H v d → DVs vs ds → DVs (v :: vs) (d :: ds)
end
section
variable {K : PySem.W.Frag} {cx : List Cls1} {H H' : Hp}
theorem FrL.sqL {a : Addr} {vs : List V} (h : FrL K H a vs) : SqL K H a vs := by
  rcases h with ⟨o, h⟩ | h
  · exact .inl (.inr ⟨o, h⟩)
  · exact .inr h
theorem DI.dv {v : V} {d : D} (h : DI K H v d) : DV K H v d := by
  cases h with
  | non => exact .non
  | bl b => exact .bl b
  | int i => exact .int i
  | str x => exact .str x
  | lst h hs => exact .lst h.sqL hs
  | tup h hs => exact .tup h hs
  | dK h hs => exact .dK (.inr ⟨_, h⟩) hs
  | dT h ne hs => exact .dT (.inr ⟨_, h⟩) ne hs
theorem RepXs.dis : ∀ {vs : List V} {ds : List D} {F : Foot}, RepXs K cx H vs (ds.map X.d) F → DIs K H vs ds
  | _, [], _, r => by cases r; exact .nil
  | _, d :: ds, _, r => by
    cases r with
    | cons h hs _ _ _ =>
      cases h with
      | d h => exact .cons h (RepXs.dis hs)
theorem RepX.dv {v : V} {x : X} {F : Foot} {d : D} (r : RepX K cx H v x F) (e : dat1 x = some d) : DV K H v d := by
  cases r with
  | d h => simp [dat1] at e; subst e; exact h.dv
  | lst h f hs =>
    simp only [dat1, Option.map_eq_some_iff] at e
    obtain ⟨ds, e1, rfl⟩ := e
    rw [allD_eq e1] at hs
    exact .lst (SqL.of h) hs.dis
  | tup h hs =>
    simp only [dat1, Option.map_eq_some_iff] at e
    obtain ⟨ds, e1, rfl⟩ := e
    rw [allD_eq e1] at hs
    exact .tup h hs.dis
  | dK h f nd hs =>
    simp only [dat1, Bool.false_and, Bool.false_eq_true, if_false, Option.map_eq_some_iff] at e
    obtain ⟨ds, e1, rfl⟩ := e
    rw [allD_eq e1] at hs
    exact .dK (.inl h) hs.dis
  | dT h f nd hs =>
    simp only [dat1, Bool.true_and, Option.ite_none_left_eq_some, Option.map_eq_some_iff] at e
    obtain ⟨ne, ds, e1, rfl⟩ := e
    rw [allD_eq e1] at hs
    exact .dT (.inl h) (fun z => ne (by rw [z]; rfl)) hs.dis
  | obj => simp [dat1] at e
theorem DIs.dvs : ∀ {vs : List V} {ds : List D}, DIs K H vs ds → DVs K H vs ds
  | _, _, .nil => .nil
  | _, _, .cons h hs => .cons h.dv (DIs.dvs hs)
end
end TT

/-! A2: what one owns is locked for good (a ghost step); the frame's slots. -/
namespace TT
open PySem PySem.Spec PyProof.Rows L2

mutual
/-- all of it as data, when it is locked -/
def datF : X → Option D
  | .d x => some x
  | .lst xs => (datFs xs).map .list
  | .tup xs => (datFs xs).map .tuple
  | .dct t ks xs => if t && ks.isEmpty then none else (datFs xs).map fun ds => .dict (ks.zip ds)
  | .obj _ _ => none
def datFs : List X → Option (List D)
  | [] => some []
  | x :: r => (datF x).bind fun d => (datFs r).map (d :: ·)
end

section
variable {C : Cx} {pins : List (Addr × Obj)} {σ : L2.St} {H : Hp} {s : Shared}
theorem frz1 {a : Addr} {u : HO} (I : Inv C pins σ H s) (h : H a = some u) (mu : Mut (some u)) (ho : ∃ o, s.heap.get? a = some o) : ∃ o, Inv C pins σ (upd H a (.frz o u)) s := by
  obtain ⟨o, e⟩ := ho
  refine ⟨o, I.write (t' := s.toks) (h' := s.heap) (e := a) (by rw [h]; exact mu) (.inl rfl) (fun _ _ _ q => q) ⟨o, e⟩ ⟨e, ?_⟩⟩
  have hn : ∀ b w, H b = some w → ¬ Mut (some w) → b ≠ a := fun b w q nm z => by
    subst z
    rw [h] at q
    cases q
    exact nm mu
  refine (I.hok a u h).stay (fun _ _ _ q => q) (fun b q => ?_) fun b xs q => ?_
  · rw [upd_ne (hn b _ q fun z => z)]
    exact q
  · rw [upd_ne (hn b _ q fun z => z)]
    exact q
theorem frz_lst {a : Addr} {vs : List V} (I : Inv C pins σ H s) (h : H a = some (.lst vs)) : ∃ o, Inv C pins σ (upd H a (.frz o (.lst vs))) s :=
  frz1 I h trivial (let ⟨_, _, _, _, e⟩ := I.hok a _ h; ⟨_, e⟩)
theorem frz_dK {a : Addr} {vs : List (Key × V)} (I : Inv C pins σ H s) (h : H a = some (.dK vs)) : ∃ o, Inv C pins σ (upd H a (.frz o (.dK vs))) s :=
  frz1 I h trivial (let ⟨_, _, _, _, _, _, _, e, _⟩ := I.hok a _ h; ⟨_, e⟩)
theorem frz_dT {a : Addr} {vs : List (List Key × V)} (I : Inv C pins σ H s) (h : H a = some (.dT vs)) : ∃ o, Inv C pins σ (upd H a (.frz o (.dT vs))) s :=
  frz1 I h trivial (let ⟨_, _, _, _, _, _, _, e, _⟩ := I.hok a _ h; ⟨_, e⟩)

/-- what a locking leaves -/
structure Locked (F : Foot) (H H' : Hp) : Prop where
  out : ∀ c, ¬ F c → H' c = H c
  dom : ∀ c, H c ≠ none → H' c ≠ none
  dom' : ∀ c, H' c ≠ none → H c ≠ none
theorem Locked.refl (F : Foot) (H : Hp) : Locked F H H := ⟨fun _ _ => rfl, fun _ h => h, fun _ h => h⟩
theorem Locked.imm {F : Foot} {H' : Hp} (l : Locked F H H') (m : MutF F H) : ImmK H H' := fun c o i e => by
  rw [l.out c fun f => mut_imm (m c f) e i]
  exact e
theorem Locked.mono {F G : Foot} {H' : Hp} (l : Locked F H H') (k : ∀ c, F c → G c) : Locked G H H' := ⟨fun c n => l.out c fun f => n (k c f), l.dom, l.dom'⟩
theorem Locked.trans {F : Foot} {H1 H2 : Hp} (a : Locked F H H1) (b : Locked F H1 H2) : Locked F H H2 := ⟨fun c n => (b.out c n).trans (a.out c n), fun c n => b.dom c (a.dom c n), fun c n => a.dom' c (b.dom' c n)⟩
theorem MutF.mono {F G : Foot} (m : MutF G H) (k : ∀ c, F c → G c) : MutF F H := fun c f => m c (k c f)
theorem Locked.mut {F G : Foot} {H' : Hp} (l : Locked F H H') (m : MutF G H) (d : Dj G F) : MutF G H' := fun c g => by
  rw [l.out c fun f => d c g f]
  exact m c g
theorem lock_upd {a : Addr} {u o : HO} {F : Foot} (f : F a) (h : H a = some u) : Locked F H (upd H a o) := ⟨fun c n => upd_ne fun e => n (e ▸ f), fun c n => by
  by_cases e : c = a
  · subst e
    rw [upd_same]
    exact fun z => nomatch z
  · rw [upd_ne e]
    exact n, fun c n => by
  by_cases e : c = a
  · subst e
    rw [h]
    exact fun z => nomatch z
  · rw [upd_ne e] at n
    exact n⟩

mutual
theorem lock_all {cx : List Cls1} : ∀ (x : X) (v : V) (F : Foot) (d : D) (H : Hp), Inv C pins σ H s → RepX C.K cx H v x F → MutF F H → datF x = some d → ∃ H', Inv C pins σ H' s ∧ DI C.K H' v d ∧ Locked F H H'
  | .d x, v, F, d, H, I, R, m, e => by
    cases R with
    | d h =>
      simp [datF] at e
      subst e
      exact ⟨H, I, h, Locked.refl F H⟩
  | .lst xs, v, F, d, H, I, R, m, e => by
    simp only [datF, Option.map_eq_some_iff] at e
    obtain ⟨ds, e1, rfl⟩ := e
    cases R with
    | lst h f hs =>
      rename_i a vs
      obtain ⟨H1, I1, h1, l1⟩ := lock_list xs vs (but F a) ds H I hs (m.mono fun c q => q.1) e1
      have ha : H1 a = some (.lst vs) := (l1.out a fun q => q.2 rfl).trans h
      obtain ⟨o, I2⟩ := frz_lst I1 ha
      refine ⟨_, I2, .lst (.inl ⟨o, upd_same⟩) (h1.keep fun c u i q => ?_), (l1.mono fun c q => q.1).trans (lock_upd f ha)⟩
      rw [upd_ne fun z => ?_]
      · exact q
      · subst z
        rw [ha] at q
        cases q
        exact i
  | .tup xs, v, F, d, H, I, R, m, e => by
    simp only [datF, Option.map_eq_some_iff] at e
    obtain ⟨ds, e1, rfl⟩ := e
    cases R with
    | tup h hs =>
      obtain ⟨H1, I1, h1, l1⟩ := lock_list xs _ F ds H I hs m e1
      exact ⟨H1, I1, .tup ((l1.imm m) _ _ trivial h) h1, l1⟩
  | .dct t ks xs, v, F, d, H, I, R, m, e => by
    simp only [datF, Option.ite_none_left_eq_some, Option.map_eq_some_iff] at e
    obtain ⟨ne, ds, e1, rfl⟩ := e
    cases R with
    | dK h f nd hs =>
      rename_i a hk
      obtain ⟨H1, I1, h1, l1⟩ := lock_list xs _ (but F a) ds H I hs (m.mono fun c q => q.1) e1
      have ha : H1 a = some (.dK hk) := (l1.out a fun q => q.2 rfl).trans h
      obtain ⟨o, I2⟩ := frz_dK I1 ha
      refine ⟨_, I2, .dK upd_same (h1.keep fun c u i q => ?_), (l1.mono fun c q => q.1).trans (lock_upd f ha)⟩
      rw [upd_ne fun z => ?_]
      · exact q
      · subst z
        rw [ha] at q
        cases q
        exact i
    | dT h f nd hs =>
      rename_i a hk
      obtain ⟨H1, I1, h1, l1⟩ := lock_list xs _ (but F a) ds H I hs (m.mono fun c q => q.1) e1
      have ha : H1 a = some (.dT hk) := (l1.out a fun q => q.2 rfl).trans h
      obtain ⟨o, I2⟩ := frz_dT I1 ha
      refine ⟨_, I2, .dT upd_same (fun z => ne (by rw [z]; rfl)) (h1.keep fun c u i q => ?_), (l1.mono fun c q => q.1).trans (lock_upd f ha)⟩
      rw [upd_ne fun z => ?_]
      · exact q
      · subst z
        rw [ha] at q
        cases q
        exact i
  | .obj _ _, v, F, d, H, I, R, m, e => by simp [datF] at e
theorem lock_list {cx : List Cls1} : ∀ (xs : List X) (vs : List V) (F : Foot) (ds : List D) (H : Hp), Inv C pins σ H s → RepXs C.K cx H vs xs F → MutF F H → datFs xs = some ds → ∃ H', Inv C pins σ H' s ∧ DIs C.K H' vs ds ∧ Locked F H H'
  | [], vs, F, ds, H, I, R, m, e => by
    cases R
    simp [datFs] at e
    subst e
    exact ⟨H, I, .nil, Locked.refl F H⟩
  | x :: r, vs, F, ds, H, I, R, m, e => by
    simp only [datFs, Option.bind_eq_some_iff, Option.map_eq_some_iff] at e
    obtain ⟨d, e1, ds', e2, rfl⟩ := e
    cases R with
    | cons h hs dj s1 s2 =>
      rename_i v vs F1 F2
      have m1 := m.mono s1
      have m2 := m.mono s2
      obtain ⟨H1, I1, h1, l1⟩ := lock_all x v F1 d H I h m1 e1
      have hs1 : RepXs C.K cx H1 vs r F2 := hs.keep (l1.imm m1) fun c f => l1.out c fun q => dj c q f
      have m3 : MutF F2 H1 := l1.mut m2 dj.symm
      obtain ⟨H2, I2, h2, l2⟩ := lock_list r vs F2 ds' H1 I1 hs1 m3 e2
      exact ⟨H2, I2, .cons (h1.keep (l2.imm m3)) h2, (l1.mono s1).trans (l2.mono s2)⟩
end
end

/-! ### the slots -/
abbrev Env := List (Option X)
def un (φ : Nat → Foot) : Foot := fun c => ∃ i, φ i c
structure RepE (K : PySem.W.Frag) (cx : List Cls1) (σ : L2.St) (H : Hp) (ρ : TT.Env) (φ : Nat → Foot) : Prop where
  len : σ.length = ρ.length
  rep : ∀ (i : Nat) (x : X), ρ[i]? = some (some x) → ∃ v, σ[i]? = some (some v) ∧ RepX K cx H v x (φ i)
  dj : ∀ (i j : Nat) (c : Addr), φ i c → φ j c → i = j
  mu : MutF (un φ) H
section
variable {K : PySem.W.Frag} {cx : List Cls1} {σ : L2.St} {H H' : Hp} {ρ : TT.Env} {φ : Nat → Foot}
theorem RepE.mui (R : RepE K cx σ H ρ φ) (i : Nat) : MutF (φ i) H := fun c f => R.mu c ⟨i, f⟩
/-- a wider frame of the same slots -/
theorem RepE.same (R : RepE K cx σ H ρ φ) (s : Same H H') : RepE K cx σ H' ρ φ := by
  have st : ∀ c, un φ c → H' c = H c := fun c f => by
    have m := R.mu c f
    cases e : H c with
    | none => rw [e] at m; exact m.elim
    | some o => exact s c o e
  refine ⟨R.len, fun i x e => ?_, R.dj, fun c f => by rw [st c f]; exact R.mu c f⟩
  obtain ⟨v, e1, r⟩ := R.rep i x e
  exact ⟨v, e1, r.keep (fun c o _ q => s c o q) fun c f => st c ⟨i, f⟩⟩
def setF (φ : Nat → Foot) (i : Nat) (G : Foot) : Nat → Foot := fun j => if j = i then G else φ j
theorem setF_same {φ : Nat → Foot} {i : Nat} {G : Foot} : setF φ i G i = G := if_pos rfl
theorem setF_ne {φ : Nat → Foot} {i j : Nat} {G : Foot} (h : j ≠ i) : setF φ i G j = φ j := if_neg h
theorem un_setF {φ : Nat → Foot} {i : Nat} {G : Foot} {c : Addr} (h : un (setF φ i G) c) : G c ∨ un φ c := by
  obtain ⟨j, f⟩ := h
  by_cases e : j = i
  · subst e
    rw [setF_same] at f
    exact .inl f
  · rw [setF_ne e] at f
    exact .inr ⟨j, f⟩
/-- a slot takes a value -/
theorem RepE.set (R : RepE K cx σ H ρ φ) {i : Nat} {v : V} {x : X} {G : Foot} (r : RepX K cx H v x G) (m : MutF G H) (d : Dj G (un φ)) : RepE K cx (σ.set i (some v)) H (ρ.set i (some x)) (setF φ i G) := by
  refine ⟨by rw [List.length_set, List.length_set]; exact R.len, fun j y e => ?_, fun j k c f g => ?_, fun c f => ?_⟩
  · by_cases h : i = j
    · subst h
      by_cases hl : i < ρ.length
      · rw [List.getElem?_set_self hl] at e
        cases e
        refine ⟨v, List.getElem?_set_self (by rw [R.len]; exact hl), ?_⟩
        rw [setF_same]
        exact r
      · rw [List.getElem?_eq_none (by rw [List.length_set]; omega)] at e
        cases e
    · rw [List.getElem?_set_ne h] at e
      rw [List.getElem?_set_ne h, setF_ne (Ne.symm h)]
      exact R.rep j y e
  · by_cases h1 : j = i
    · by_cases h2 : k = i
      · rw [h1, h2]
      · subst h1
        rw [setF_same] at f
        rw [setF_ne h2] at g
        exact absurd ⟨k, g⟩ (d c f)
    · by_cases h2 : k = i
      · subst h2
        rw [setF_same] at g
        rw [setF_ne h1] at f
        exact absurd ⟨j, f⟩ (d c g)
      · rw [setF_ne h1] at f
        rw [setF_ne h2] at g
        exact R.dj j k c f g
  · rcases un_setF f with g | g
    · exact m c g
    · exact R.mu c g
/-- a slot is given away, or forgotten -/
theorem RepE.drop (R : RepE K cx σ H ρ φ) (i : Nat) : RepE K cx σ H (ρ.set i none) (setF φ i noF) := by
  refine ⟨by rw [List.length_set]; exact R.len, fun j y e => ?_, fun j k c f g => ?_, fun c f => ?_⟩
  · by_cases h : i = j
    · subst h
      by_cases hl : i < ρ.length
      · rw [List.getElem?_set_self hl] at e
        cases e
      · rw [List.getElem?_eq_none (by rw [List.length_set]; omega)] at e
        cases e
    · rw [List.getElem?_set_ne h] at e
      rw [setF_ne (Ne.symm h)]
      exact R.rep j y e
  · by_cases h1 : j = i
    · subst h1
      rw [setF_same] at f
      exact f.elim
    · by_cases h2 : k = i
      · subst h2
        rw [setF_same] at g
        exact g.elim
      · rw [setF_ne h1] at f
        rw [setF_ne h2] at g
        exact R.dj j k c f g
  · rcases un_setF f with g | g
    · exact g.elim
    · exact R.mu c g
/-- what one slot holds is changed in its place; all else stays -/
theorem RepE.put (R : RepE K cx σ H ρ φ) {i : Nat} {v : V} {x : X} {G : Foot} (hv : σ[i]? = some (some v)) (r : RepX K cx H' v x G) (k : ImmK H H') (ot : ∀ j, j ≠ i → ∀ c, φ j c → H' c = H c) (m : MutF G H') (d : ∀ j, j ≠ i → Dj G (φ j)) : RepE K cx σ H' (ρ.set i (some x)) (setF φ i G) := by
  refine ⟨by rw [List.length_set]; exact R.len, fun j y e => ?_, fun j l c f g => ?_, fun c f => ?_⟩
  · by_cases h : i = j
    · subst h
      by_cases hl : i < ρ.length
      · rw [List.getElem?_set_self hl] at e
        cases e
        refine ⟨v, hv, ?_⟩
        rw [setF_same]
        exact r
      · rw [List.getElem?_eq_none (by rw [List.length_set]; omega)] at e
        cases e
    · rw [List.getElem?_set_ne h] at e
      rw [setF_ne (Ne.symm h)]
      obtain ⟨w, e1, r1⟩ := R.rep j y e
      exact ⟨w, e1, r1.keep k fun c f => ot j (Ne.symm h) c f⟩
  · by_cases h1 : j = i
    · by_cases h2 : l = i
      · rw [h1, h2]
      · subst h1
        rw [setF_same] at f
        rw [setF_ne h2] at g
        exact absurd g (d l h2 c f)
    · by_cases h2 : l = i
      · subst h2
        rw [setF_same] at g
        rw [setF_ne h1] at f
        exact absurd f (d j h1 c g)
      · rw [setF_ne h1] at f
        rw [setF_ne h2] at g
        exact R.dj j l c f g
  · obtain ⟨j, g⟩ := f
    by_cases h : j = i
    · subst h
      rw [setF_same] at g
      exact m c g
    · rw [setF_ne h] at g
      rw [ot j h c g]
      exact R.mu c ⟨j, g⟩
end
end TT

/-! A3: the small language and its evaluator. -/
namespace TT
open PySem PySem.Spec PyProof.Rows L2

/-- a place: a slot, then fields -/
structure Pl where
  i : Nat
  fs : List (Nat × Nat) := []
  deriving DecidableEq

/-- operators on data -/
inductive Op where
  | add | sub | mul | mod | fdiv | pow | neg
  | eq | ne | lt | le | gt | ge | inn | nin | isN | notN
  | ix | sl (lo hi : Bool)
  | len | int1 | str1 | abs1 | min2 | max2 | min3 | min1 | max1 | sum1 | any1 | all1
  | sorted1 | list1 | tuple1 | dict1 | repr1 | isa (l t d : Bool)
  | get1 | get2 | index | lenset | sortset | sortkey (hi : Option Nat)
  deriving DecidableEq

inductive Tg where
  | n (i : Nat) | t (is : List Nat)
  deriving DecidableEq

mutual
inductive E where
  | rd (i : Nat) | rdp (p : Pl) | mv (i : Nat) | rf (i : Nat)
  | c (x : D) | gl (x : Str) (v : D)
  | op (o : Op) (as : As)
  | chain (o1 o2 : Op) (a b : A) (c : A)
  | and_ (a b : E) | or_ (a b : E) | not_ (a : E)
  | ifx (t : T) (a b : E)
  | tup (as : As) | lst (as : As) | dic (t : Bool) (kvs : Kv)
  | call (f : Nat) (io : List Nat) (as : As)
  | meth (f c : Nat) (io : List Nat) (a : A) (as : As)
  | mk (c f : Nat) (io : List Nat) (as : As)
  | comp (own : List Nat) (tg : Tg) (it : It) (t : Option1) (e : E)
  | frz (e : E)
  | reprF (a : A)
  | pop (p : Pl) (as : As)
inductive A where
  | e (e : E) | p (p : Pl)
inductive As where
  | nil | cons (a : A) (as : As)
inductive Kv where
  | nil | cons (k v : E) (r : Kv)
inductive Option1 where
  | no | yes (t : T)
inductive T where
  | op (o : Op) (as : As) | chain (o1 o2 : Op) (a b : A) (c : A) | tr (a : A) | and_ (a b : T) | or_ (a b : T) | not_ (a : T)
inductive It where
  | l (e : E) | r1 (e : E) | r2 (a b : E) | en (e : E) | zip (a b : E) | keys (e : E) | items (e : E)
end
mutual
inductive S where
  | set (i : Nat) (e : E) | setT (is : List Nat) (e : E) | seti (p : Pl) (i e : E) | setf (p : Pl) (c f : Nat) (e : E)
  | app (p : Pl) (e : E) | ext (p : Pl) (e : E) | expr (e : E)
  | iff (t : T) (a b : Ss) | whl (t : T) (b : Ss) | for_ (tg : Tg) (it : It) (b : Ss)
  | ret (e : E) | retN | brk | ct | pass | zap (i j : Nat)
inductive Ss where
  | nil | cons (s : S) (r : Ss)
end

/-! ### data by the operators -/
def toKey : D → Option Key
  | .int i => some (.inl i)
  | .str s => some (.inr s)
  | _ => none
def toKeys : List D → Option (List Key)
  | [] => some []
  | d :: r => (toKey d).bind fun k => (toKeys r).map (k :: ·)
def toKeyT : D → Option (List Key)
  | .tuple ds => toKeys ds
  | _ => none
/-- equality of keys (ints, texts, tuples of these) -/
def keq (a b : D) : Bool := PyData.eqv a b
def dlook : List (D × D) → D → Option D
  | [], _ => none
  | (k, v) :: r, x => if keq k x then some v else dlook r x
/-- a key of a dict of this make -/
def keyOk (t : Bool) (k : D) : Bool := if t then (toKeyT k).isSome else (toKey k).isSome
def putX {α : Type} : List D → List α → D → α → List D × List α
  | k :: ks, x :: xs, j, y => if keq k j then (k :: ks, y :: xs) else let r := putX ks xs j y; (k :: r.1, x :: r.2)
  | _, _, j, y => ([j], [y])
def dInts : List D → Option (List Int)
  | [] => some []
  | .int i :: r => (dInts r).map (i :: ·)
  | _ => none
def dBools : List D → Option (List Bool)
  | [] => some []
  | .bool i :: r => (dBools r).map (i :: ·)
  | _ => none
def own1 (ds : List D) : X := .lst (ds.map X.d)
def cutD (xs : List D) (lo hi : Option Int) : List D := (xs.drop (HT.sIx xs.length 0 lo)).take (HT.sIx xs.length xs.length hi - HT.sIx xs.length 0 lo)
def shp (d : D) : Bool := SeqAt.shaped d
/-- rows of items, compared by < as far as the first that differ -/
def cmpAll : List D → List D → Bool
  | x :: xs, y :: ys => if PyData.eqv x y then cmpAll xs ys else PySem.W.alike x y
  | _, _ => true
def cmpT : D → D → Bool
  | .tuple (x :: xs), .tuple (y :: ys) => PySem.W.alike x y && cmpAll (x :: xs) (y :: ys)
  | _, _ => false
def noTupD : D → Bool
  | .tuple _ => false
  | .none => false
  | _ => true
def sortB (ds : List D) : Bool := ((ds.all fun a => ds.all fun b => cmpT a b) || (ds.all noTupD && ds.all fun a => ds.all fun b => PySem.W.alike a b)) && (ds.all shp) && decide (ds.length ≤ sizeLine)
def leD (a b : D) : Bool := !PySem.W.dataLt b a
def sortD (ds : List D) : List D := ds.mergeSort leD
def dedupD : List D → List D → List D
  | [], acc => acc
  | x :: r, acc => if acc.any (fun y => PyData.eqv y x) then dedupD r acc else dedupD r (acc ++ [x])
def idxD (x : D) : List D → Nat → Option Nat
  | [], _ => none
  | y :: r, i => if PyData.eqv y x then some i else idxD x r (i + 1)
def ltS (a b : Str) : Bool := decide (a.cps.toList < b.cps.toList)
def minI : List Int → Option Int
  | [] => none
  | x :: r => some (r.foldl min x)
def maxI : List Int → Option Int
  | [] => none
  | x :: r => some (r.foldl max x)
def small64 (i : Int) : Bool := decide (-(2 ^ 64) < i ∧ i < 2 ^ 64)
def fits (n : Nat) : Bool := decide (n ≤ sizeLine)
def dictOf : List D → List D → List D → Option (List D × List D)
  | [], ks, xs => some (ks, xs)
  | .tuple [k, v] :: r, ks, xs => if keyOk false k then dictOf r (putX ks xs k v).1 (putX ks xs k v).2 else none
  | _, _, _ => none
def bl (b : Bool) : Option X := some (.d (.bool b))
def ii (i : Int) : Option X := some (.d (.int i))
def isStrD : D → Bool
  | .str _ => true
  | _ => false
def opF : Op → List D → Option X
  | .add, [.int i, .int j] => ii (i + j)
  | .add, [.str a, .str b] => if fits (a.length + b.length) then some (.d (.str (a ++ b))) else none
  | .add, [.list a, .list b] => if fits (a.length + b.length) then some (own1 (a ++ b)) else none
  | .add, [.tuple a, .tuple b] => if fits (a.length + b.length) then some (.d (.tuple (a ++ b))) else none
  | .sub, [.int i, .int j] => ii (i - j)
  | .mul, [.int i, .int j] => if small64 i || small64 j then ii (i * j) else none
  | .mod, [.int i, .int j] => if j = 0 then none else ii (i.fmod j)
  | .fdiv, [.int i, .int j] => if j = 0 ∨ ¬ j.natAbs < 1073741824 then none else ii (i.fdiv j)
  | .pow, [.int i, .int j] => if 0 ≤ j ∧ j ≤ 1000000 ∧ i.natAbs < 2 ^ 64 then ii (i ^ j.toNat) else none
  | .neg, [.int i] => ii (-i)
  | .eq, [a, b] => if shp a && shp b then bl (PyData.eqv a b) else none
  | .ne, [a, b] => if shp a && shp b then bl (!PyData.eqv a b) else none
  | .lt, [.int i, .int j] => bl (decide (i < j))
  | .le, [.int i, .int j] => bl (decide (i ≤ j))
  | .gt, [.int i, .int j] => bl (decide (j < i))
  | .ge, [.int i, .int j] => bl (decide (j ≤ i))
  | .lt, [.str i, .str j] => bl (ltS i j)
  | .inn, [x, .list ds] => if shp x && shp (.list ds) then bl (ds.any fun z => PyData.eqv z x) else none
  | .nin, [x, .list ds] => if shp x && shp (.list ds) then bl (!ds.any fun z => PyData.eqv z x) else none
  | .inn, [x, .tuple ds] => if shp x && shp (.tuple ds) then bl (ds.any fun z => PyData.eqv z x) else none
  | .nin, [x, .tuple ds] => if shp x && shp (.tuple ds) then bl (!ds.any fun z => PyData.eqv z x) else none
  | .inn, [x, .dict kvs] => if (kvs.all fun p => keyOk false p.1) && keyOk false x || !kvs.isEmpty && (kvs.all fun p => keyOk true p.1) && keyOk true x then bl (dlook kvs x).isSome else none
  | .nin, [x, .dict kvs] => if (kvs.all fun p => keyOk false p.1) && keyOk false x || !kvs.isEmpty && (kvs.all fun p => keyOk true p.1) && keyOk true x then bl (!(dlook kvs x).isSome) else none
  | .isN, [x] => bl (match x with | .none => true | _ => false)
  | .notN, [x] => bl (match x with | .none => false | _ => true)
  | .ix, [.list ds, .int i] => (atI ds i).map X.d
  | .ix, [.tuple ds, .int i] => (atI ds i).map X.d
  | .ix, [.str s, .int i] => if fits s.length then (atI s.cps.toList i).map fun c => .d (.str ⟨#[c]⟩) else none
  | .sl false false, [.list ds] => some (own1 (cutD ds none none))
  | .sl true false, [.list ds, .int i] => some (own1 (cutD ds (some i) none))
  | .sl false true, [.list ds, .int j] => some (own1 (cutD ds none (some j)))
  | .sl true true, [.list ds, .int i, .int j] => some (own1 (cutD ds (some i) (some j)))
  | .sl false false, [.tuple ds] => some (.d (.tuple (cutD ds none none)))
  | .sl true false, [.tuple ds, .int i] => some (.d (.tuple (cutD ds (some i) none)))
  | .sl false true, [.tuple ds, .int j] => some (.d (.tuple (cutD ds none (some j))))
  | .sl true true, [.tuple ds, .int i, .int j] => some (.d (.tuple (cutD ds (some i) (some j))))
  | .len, [.list ds] => ii ds.length
  | .len, [.tuple ds] => ii ds.length
  | .len, [.str s] => if fits s.length then ii s.length else none
  | .int1, [.int i] => ii i
  | .int1, [.bool b] => ii (if b then 1 else 0)
  | .str1, [.int i] => if i.natAbs.log2 < 1920 then some (.d (.str (toString i))) else none
  | .abs1, [.int i] => ii (if i < 0 then -i else i)
  | .min2, [.int i, .int j] => ii (if j < i then j else i)
  | .max2, [.int i, .int j] => ii (if j > i then j else i)
  | .min3, [.int i, .int j, .int k] => ii (min i (min j k))
  | .min1, [.list ds] => (dInts ds).bind fun l => (minI l).bind ii
  | .max1, [.list ds] => (dInts ds).bind fun l => (maxI l).bind ii
  | .sum1, [.list ds] => (dInts ds).bind fun l => ii l.sum
  | .any1, [.list ds] => (dBools ds).bind fun l => bl (l.any id)
  | .all1, [.list ds] => (dBools ds).bind fun l => bl (l.all id)
  | .sorted1, [.list ds] => if sortB ds then some (own1 (sortD ds)) else none
  | .list1, [.list ds] => some (own1 ds)
  | .list1, [.tuple ds] => some (own1 ds)
  | .list1, [.dict kvs] => if kvs.all fun p => keyOk false p.1 then some (own1 (kvs.map (·.1))) else none
  | .tuple1, [.list ds] => some (.d (.tuple ds))
  | .tuple1, [.tuple ds] => some (.d (.tuple ds))
  | .dict1, [.list ds] => (dictOf ds [] []).map fun p => .dct false p.1 (p.2.map X.d)
  | .dict1, [.dict kvs] => if kvs.all fun p => keyOk false p.1 then some (.dct false (kvs.map (·.1)) (kvs.map fun p => X.d p.2)) else none
  | .isa l t dd, [x] => bl (match x with | .list _ => l | .tuple _ => t | .dict _ => dd | _ => false)
  | .get1, [.dict kvs, x] => if (kvs.all fun p => keyOk false p.1) && keyOk false x || !kvs.isEmpty && (kvs.all fun p => keyOk true p.1) && keyOk true x then some (.d ((dlook kvs x).getD .none)) else none
  | .get2, [.dict kvs, x, y] => if (kvs.all fun p => keyOk false p.1) && keyOk false x || !kvs.isEmpty && (kvs.all fun p => keyOk true p.1) && keyOk true x then some (.d ((dlook kvs x).getD y)) else none
  | .index, [.list ds, x] => if shp x && shp (.list ds) then (idxD x ds 0).bind fun (i : Nat) => ii i else none
  | .sortset, [.list ds] => if (ds.all isStrD) && decide (ds.length < 4000) then some (own1 (sortD (dedupD ds []))) else none
  | _, _ => none

/-! ### the evaluator -/
abbrev DF := List X → Option (X × List X)
inductive Hd where
  | x (x : X) | p (p : Pl)
def walkX : X → List (Nat × Nat) → Option X
  | x, [] => some x
  | .obj c xs, f :: fs => if c = f.1 then (xs[f.2]?).bind fun y => walkX y fs else none
  | _, _ :: _ => none
def getPl (ρ : TT.Env) (p : Pl) : Option X := (ρ[p.i]?).join.bind fun x => walkX x p.fs
def storeX : X → List (Nat × Nat) → X → Option X
  | _, [], y => some y
  | .obj c xs, f :: fs, y => if c = f.1 then (xs[f.2]?).bind fun x => (storeX x fs y).map fun z => .obj c (xs.set f.2 z) else none
  | _, _ :: _, _ => none
def setPl (ρ : TT.Env) (p : Pl) (y : X) : Option TT.Env := (ρ[p.i]?).join.bind fun x => (storeX x p.fs y).map fun z => ρ.set p.i (some z)
def resolve (ρ : TT.Env) : Hd → Option X
  | .x x => some x
  | .p p => getPl ρ p
def resAll (ρ : TT.Env) : List Hd → Option (List X)
  | [] => some []
  | h :: r => (resolve ρ h).bind fun x => (resAll ρ r).map (x :: ·)
def datAll : List X → Option (List D)
  | [] => some []
  | x :: r => (dat1 x).bind fun d => (datAll r).map (d :: ·)
def tmpAll : List Hd → Option (List X)
  | [] => some []
  | .x x :: r => (tmpAll r).map (x :: ·)
  | .p _ :: _ => none
/-- the arguments at io may be places, of different slots; the others are values -/
def okIo (io : List Nat) : List Hd → Nat → List Nat → Bool
  | [], _, _ => true
  | .x _ :: r, k, sl => okIo io r (k + 1) sl
  | .p p :: r, k, sl => p.fs.isEmpty && io.contains k && !sl.contains p.i && okIo io r (k + 1) (p.i :: sl)
/-- the places among the arguments are given away -/
def clearPl : List Hd → TT.Env → TT.Env
  | [], ρ => ρ
  | .x _ :: r, ρ => clearPl r ρ
  | .p p :: r, ρ => clearPl r (ρ.set p.i none)
def backIo (hs : List Hd) : List Nat → List X → TT.Env → Option TT.Env
  | [], [], ρ => some ρ
  | k :: io, y :: ys, ρ => match hs[k]? with
    | some (.p p) => backIo hs io ys (ρ.set p.i (some y))
    | some (.x _) => backIo hs io ys ρ
    | none => none
  | _, _, _ => none
def wipeE (ρ : TT.Env) : List Nat → TT.Env
  | [] => ρ
  | v :: vs => (wipeE ρ vs).set v none
/-- slots that a comprehension's own names hide hold data or nothing -/
def hidOk (ρ : TT.Env) (own : List Nat) : Bool := own.all fun i => match ρ[i]? with
  | some none => true
  | some (some (.d _)) => true
  | _ => false
def backE (ρ0 ρ : TT.Env) : List Nat → TT.Env
  | [] => ρ
  | v :: vs => (backE ρ0 ρ vs).set v ((ρ0[v]?).join)
def setTgs : List Nat → List X → TT.Env → Option TT.Env
  | [], [], ρ => some ρ
  | i :: is, x :: xs, ρ => setTgs is xs (ρ.set i (some x))
  | _, _, _ => none
def tupX : X → Option (List X)
  | .d (.tuple ds) => some (ds.map X.d)
  | .tup xs => some xs
  | _ => none
def setTg : Tg → D → TT.Env → Option TT.Env
  | .n i, d, ρ => some (ρ.set i (some (.d d)))
  | .t is, .tuple ds, ρ => setTgs is (ds.map X.d) ρ
  | .t _, _, _ => none
def compLoop (tg : Tg) (vs : List Nat) (tt : TT.Env → Option (Bool × TT.Env)) (te : TT.Env → Option (X × TT.Env)) : List D → TT.Env → List X → Option (List X × TT.Env)
  | [], ρ, acc => some (acc, ρ)
  | d :: r, ρ, acc => (setTg tg d ρ).bind fun ρ1 => (tt ρ1).bind fun (b, ρ2) =>
    if b then (te ρ2).bind fun (x, ρ3) => if acc.length < sizeLine then compLoop tg vs tt te r (wipeE ρ3 vs) (acc ++ [x]) else none
    else compLoop tg vs tt te r (wipeE ρ2 vs) acc
def seqD : X → Option (List D)
  | x => (dat1 x).bind fun d => match d with
    | .list ds => some ds
    | .tuple ds => some ds
    | _ => none
def lstD : X → Option (List D)
  | x => (dat1 x).bind fun d => match d with
    | .list ds => some ds
    | _ => none
def dicD : X → Option (List (D × D))
  | x => (dat1 x).bind fun d => match d with
    | .dict ds => some ds
    | _ => none
def intD : X → Option Int
  | .d (.int i) => some i
  | _ => none
def boolD : X → Option Bool
  | .d (.bool b) => some b
  | _ => none
def truD : D → Option Bool
  | .none => some false
  | .bool b => some b
  | .int i => some (i != 0)
  | .str s => if fits s.length then some (s.length != 0) else none
  | .list ds => some (!ds.isEmpty)
  | .tuple ds => some (!ds.isEmpty)
  | .dict _ => none
def rngOk (i : Int) : Bool := decide (-(2 ^ 62) ≤ i ∧ i < 2 ^ 62)
def rngD (lo : Int) (n : Nat) : List D := (List.range n).map fun (k : Nat) => .int (lo + (k : Int))

mutual
/-- the keys of its dicts are numbers and texts -/
def kOk : D → Bool
  | .list xs => kOks xs
  | .tuple xs => kOks xs
  | .dict kvs => kOkv kvs
  | _ => true
def kOks : List D → Bool
  | [] => true
  | x :: xs => kOk x && kOks xs
def kOkv : List (D × D) → Bool
  | [] => true
  | (k, v) :: r => keyOk false k && kOk v && kOkv r
end
def reprOk (d : D) : Bool := d.showable && decide (d.depth ≤ 64) && fits d.shown.length && kOk d
def isLst : X → Bool
  | .lst _ => true
  | _ => false

section
variable (G : Nat → DF)
mutual
def evE : E → TT.Env → Option (X × TT.Env)
  | .rd i, ρ => match (ρ[i]?).join with
    | some (.d x) => some (.d x, ρ)
    | _ => none
  | .rdp p, ρ => match getPl ρ p with
    | some (.d x) => some (.d x, ρ)
    | _ => none
  | .mv i, ρ => (ρ[i]?).join.bind fun x => some (x, ρ.set i none)
  | .rf i, ρ => (ρ[i]?).join.bind fun x => (datF x).bind fun d => some (.d d, ρ.set i (some (.d d)))
  | .c x, ρ => some (.d x, ρ)
  | .gl _ v, ρ => some (.d v, ρ)
  | .op o as, ρ => (evAs as ρ).bind fun (hs, ρ1) => (resAll ρ1 hs).bind fun xs => (datAll xs).bind fun ds => (opF o ds).bind fun z => some (z, ρ1)
  | .chain o1 o2 a b c, ρ => (evA a ρ).bind fun (h1, ρ1) => (evA b ρ1).bind fun (h2, ρ2) => (resolve ρ2 h1).bind fun x => (resolve ρ2 h2).bind fun y => (datAll [x, y]).bind fun ds => (opF o1 ds).bind fun r => (boolD r).bind fun k =>
      if k then (evA c ρ2).bind fun (h3, ρ3) => (resolve ρ3 h2).bind fun y => (resolve ρ3 h3).bind fun z => (datAll [y, z]).bind fun ds => (opF o2 ds).bind fun r => some (r, ρ3)
      else some (.d (.bool false), ρ2)
  | .and_ a b, ρ => (evE a ρ).bind fun (x, ρ1) => (boolD x).bind fun k => if k then evE b ρ1 else some (.d (.bool false), ρ1)
  | .or_ a b, ρ => (evE a ρ).bind fun (x, ρ1) => (boolD x).bind fun k => if k then some (.d (.bool true), ρ1) else evE b ρ1
  | .not_ a, ρ => (evE a ρ).bind fun (x, ρ1) => (boolD x).bind fun k => some (.d (.bool (!k)), ρ1)
  | .ifx t a b, ρ => (evT t ρ).bind fun (k, ρ1) => if k then evE a ρ1 else evE b ρ1
  | .tup as, ρ => (evAs as ρ).bind fun (hs, ρ1) => (tmpAll hs).bind fun xs => if xs.length ≤ sizeLine then (match allD xs with
    | some ds => some (.d (.tuple ds), ρ1)
    | none => some (.tup xs, ρ1)) else none
  | .lst as, ρ => (evAs as ρ).bind fun (hs, ρ1) => (tmpAll hs).bind fun xs => if xs.length ≤ sizeLine then some (.lst xs, ρ1) else none
  | .dic t kvs, ρ => (evKv t kvs [] [] ρ).bind fun (ks, xs, ρ1) => some (.dct t ks xs, ρ1)
  | .call f io as, ρ => (evAs as ρ).bind fun (hs, ρ1) => if okIo io hs 0 [] then (resAll ρ1 hs).bind fun xs => (G f xs).bind fun (r, ys) => (backIo hs io ys (clearPl hs ρ1)).bind fun ρ2 => some (r, ρ2) else none
  | .meth f c io a as, ρ => (evA a ρ).bind fun (h0, ρ0) => (resolve ρ0 h0).bind fun x0 => (match x0 with
    | .obj c' _ => if c' = c then (evAs as ρ0).bind fun (hs, ρ1) => if okIo io (h0 :: hs) 0 [] then (resAll ρ1 (h0 :: hs)).bind fun xs => (G f xs).bind fun (r, ys) => (backIo (h0 :: hs) io ys (clearPl (h0 :: hs) ρ1)).bind fun ρ2 => some (r, ρ2) else none else none
    | _ => none)
  | .mk c f io as, ρ => (evAs as ρ).bind fun (hs, ρ1) => if okIo io (.x (.obj c []) :: hs) 0 [] then (resAll ρ1 hs).bind fun xs => (G f (.obj c [] :: xs)).bind fun (r, ys) => (match r, io, ys with
    | .d .none, 0 :: io', y :: ys' => (backIo (.x (.obj c []) :: hs) io' ys' (clearPl hs ρ1)).bind fun ρ2 => some (y, ρ2)
    | _, _, _ => none) else none
  | .comp own tg it t e, ρ => (evIt it ρ).bind fun (ds, ρ1) => if hidOk ρ1 own then (compLoop tg own (evO t) (evE e) ds (wipeE ρ1 own) []).bind fun (xs, ρ2) => some (.lst xs, backE ρ1 ρ2 own) else none
  | .reprF a, ρ => (evA a ρ).bind fun (h, ρ1) => (resolve ρ1 h).bind fun x => (datF x).bind fun d => if reprOk d then some (.d (.str d.shown), ρ1) else none
  | .frz e, ρ => (evE e ρ).bind fun (x, ρ1) => (datF x).bind fun d => some (.d d, ρ1)
  | .pop p as, ρ => (getPl ρ p).bind fun u0 => if isLst u0 = false then none else (evAs as ρ).bind fun (hs, ρ1) => (resAll ρ1 hs).bind fun xs => (datAll xs).bind fun ds => (getPl ρ1 p).bind fun x => (match x, ds with
    | .lst ys, [] => (ys[ys.length - 1]?).bind fun y => (setPl ρ1 p (.lst ys.dropLast)).bind fun ρ2 => some (y, ρ2)
    | .lst ys, [.int i] => if decide (-(2 ^ 63) ≤ i ∧ i < 2 ^ 63) then (seqIndex? i ys.length).bind fun k => (ys[k]?).bind fun y => (setPl ρ1 p (.lst (ys.eraseIdx k))).bind fun ρ2 => some (y, ρ2) else none
    | _, _ => none)
def evA : A → TT.Env → Option (Hd × TT.Env)
  | .e e, ρ => (evE e ρ).bind fun (x, ρ1) => some (.x x, ρ1)
  | .p p, ρ => (getPl ρ p).bind fun _ => some (.p p, ρ)
def evAs : As → TT.Env → Option (List Hd × TT.Env)
  | .nil, ρ => some ([], ρ)
  | .cons a as, ρ => (evA a ρ).bind fun (h, ρ1) => (evAs as ρ1).bind fun (hs, ρ2) => some (h :: hs, ρ2)
def evKv (t : Bool) : Kv → List D → List X → TT.Env → Option (List D × List X × TT.Env)
  | .nil, ks, xs, ρ => some (ks, xs, ρ)
  | .cons k v r, ks, xs, ρ => (evE k ρ).bind fun (x, ρ1) => (evE v ρ1).bind fun (y, ρ2) => (dat1 x).bind fun kd => if keyOk t kd then evKv t r (putX ks xs kd y).1 (putX ks xs kd y).2 ρ2 else none
def evO : Option1 → TT.Env → Option (Bool × TT.Env)
  | .no, ρ => some (true, ρ)
  | .yes t, ρ => evT t ρ
def evT : T → TT.Env → Option (Bool × TT.Env)
  | .op o as, ρ => (evAs as ρ).bind fun (hs, ρ1) => (resAll ρ1 hs).bind fun xs => (datAll xs).bind fun ds => (opF o ds).bind fun z => (boolD z).bind fun k => some (k, ρ1)
  | .chain o1 o2 a b c, ρ => (evA a ρ).bind fun (h1, ρ1) => (evA b ρ1).bind fun (h2, ρ2) => (resolve ρ2 h1).bind fun x => (resolve ρ2 h2).bind fun y => (datAll [x, y]).bind fun ds => (opF o1 ds).bind fun r => (boolD r).bind fun k =>
      if k then (evA c ρ2).bind fun (h3, ρ3) => (resolve ρ3 h2).bind fun y => (resolve ρ3 h3).bind fun z => (datAll [y, z]).bind fun ds => (opF o2 ds).bind fun r => (boolD r).bind fun k => some (k, ρ3)
      else some (false, ρ2)
  | .tr a, ρ => (evA a ρ).bind fun (h, ρ1) => (resolve ρ1 h).bind fun x => (dat1 x).bind fun d => (truD d).bind fun k => some (k, ρ1)
  | .and_ a b, ρ => (evT a ρ).bind fun (k, ρ1) => if k then evT b ρ1 else some (false, ρ1)
  | .or_ a b, ρ => (evT a ρ).bind fun (k, ρ1) => if k then some (true, ρ1) else evT b ρ1
  | .not_ a, ρ => (evT a ρ).bind fun (k, ρ1) => some (!k, ρ1)
def evIt : It → TT.Env → Option (List D × TT.Env)
  | .l e, ρ => (evE e ρ).bind fun (x, ρ1) => (seqD x).bind fun ds => some (ds, ρ1)
  | .r1 e, ρ => (evE e ρ).bind fun (x, ρ1) => (intD x).bind fun n => if rngOk n then some (rngD 0 n.toNat, ρ1) else none
  | .r2 a b, ρ => (evE a ρ).bind fun (x, ρ1) => (evE b ρ1).bind fun (y, ρ2) => (intD x).bind fun i => (intD y).bind fun j => if rngOk i && rngOk j then some (rngD i (j - i).toNat, ρ2) else none
  | .en e, ρ => (evE e ρ).bind fun (x, ρ1) => (lstD x).bind fun ds => some (ds.zipIdx.map fun p => .tuple [.int (p.2 : Nat), p.1], ρ1)
  | .zip a b, ρ => (evE a ρ).bind fun (x, ρ1) => (evE b ρ1).bind fun (y, ρ2) => (lstD x).bind fun ds => (lstD y).bind fun es => some ((ds.zip es).map fun p => .tuple [p.1, p.2], ρ2)
  | .keys e, ρ => (evE e ρ).bind fun (x, ρ1) => (dicD x).bind fun kvs => some (kvs.map (·.1), ρ1)
  | .items e, ρ => (evE e ρ).bind fun (x, ρ1) => (dicD x).bind fun kvs => some (kvs.map fun p => .tuple [p.1, p.2], ρ1)
end
/-- a row (x, g, c) of which g and c are owned lists -/
def zapOk : X → Bool
  | .tup [_, .lst g, .lst c] => decide (g.length < sizeLine) && decide (c.length < sizeLine)
  | _ => false
/-- how a statement ends -/
inductive Fl where
  | nx | bk | ct | rt (x : X)
def wfuel : Nat := 1000000
def whlLoop (tt : TT.Env → Option (Bool × TT.Env)) (tb : TT.Env → Option (Fl × TT.Env)) : Nat → TT.Env → Option (Fl × TT.Env)
  | 0, _ => none
  | n + 1, ρ => (tt ρ).bind fun (k, ρ1) => if k then (tb ρ1).bind fun (f, ρ2) => (match f with
    | .nx => whlLoop tt tb n ρ2
    | .ct => whlLoop tt tb n ρ2
    | .bk => some (.nx, ρ2)
    | .rt x => some (.rt x, ρ2)) else some (.nx, ρ1)
def forLoop (tg : Tg) (tb : TT.Env → Option (Fl × TT.Env)) : List D → TT.Env → Option (Fl × TT.Env)
  | [], ρ => some (.nx, ρ)
  | d :: r, ρ => (setTg tg d ρ).bind fun ρ1 => (tb ρ1).bind fun (f, ρ2) => (match f with
    | .nx => forLoop tg tb r ρ2
    | .ct => forLoop tg tb r ρ2
    | .bk => some (.nx, ρ2)
    | .rt x => some (.rt x, ρ2))
mutual
def evS : S → TT.Env → Option (Fl × TT.Env)
  | .set i e, ρ => (evE G e ρ).bind fun (x, ρ1) => some (.nx, ρ1.set i (some x))
  | .setT is e, ρ => (evE G e ρ).bind fun (x, ρ1) => (tupX x).bind fun xs => (setTgs is xs ρ1).bind fun ρ2 => some (.nx, ρ2)
  | .seti p i e, ρ => (evE G e ρ).bind fun (y, ρ1) => (getPl ρ1 p).bind fun _ => (evE G i ρ1).bind fun (k, ρ2) => (getPl ρ2 p).bind fun x => (dat1 k).bind fun kd => (match x, kd with
    | .lst xs, .int j => (ixN xs.length j).bind fun n => (setPl ρ2 p (.lst (xs.set n y))).bind fun ρ3 => some (.nx, ρ3)
    | .dct t ks xs, _ => if keyOk t kd && decide (ks.length < sizeLine) then (setPl ρ2 p (.dct t (putX ks xs kd y).1 (putX ks xs kd y).2)).bind fun ρ3 => some (.nx, ρ3) else none
    | _, _ => none)
  | .setf p c' f e, ρ => (evE G e ρ).bind fun (y, ρ1) => (getPl ρ1 p).bind fun x => (match x with
    | .obj c xs => if c ≠ c' then none else if f < xs.length then (setPl ρ1 p (.obj c (xs.set f y))).bind fun ρ2 => some (.nx, ρ2) else if f = xs.length then (setPl ρ1 p (.obj c (xs ++ [y]))).bind fun ρ2 => some (.nx, ρ2) else none
    | _ => none)
  | .app p e, ρ => (getPl ρ p).bind fun u0 => if isLst u0 = false then none else (evE G e ρ).bind fun (y, ρ1) => (getPl ρ1 p).bind fun x => (match x with
    | .lst xs => if xs.length < sizeLine then (setPl ρ1 p (.lst (xs ++ [y]))).bind fun ρ2 => some (.nx, ρ2) else none
    | _ => none)
  | .ext p e, ρ => (getPl ρ p).bind fun u0 => if isLst u0 = false then none else (evE G e ρ).bind fun (y, ρ1) => (lstD y).bind fun ds => (getPl ρ1 p).bind fun x => (match x with
    | .lst xs => if xs.length + ds.length ≤ sizeLine then (setPl ρ1 p (.lst (xs ++ ds.map X.d))).bind fun ρ2 => some (.nx, ρ2) else none
    | _ => none)
  | .expr e, ρ => (evE G e ρ).bind fun (_, ρ1) => some (.nx, ρ1)
  | .iff t a b, ρ => (evT G t ρ).bind fun (k, ρ1) => if k then evSs a ρ1 else evSs b ρ1
  | .whl t b, ρ => whlLoop (evT G t) (evSs b) wfuel ρ
  | .for_ tg it b, ρ => (evIt G it ρ).bind fun (ds, ρ1) => forLoop tg (evSs b) ds ρ1
  | .ret e, ρ => (evE G e ρ).bind fun (x, ρ1) => some (.rt x, ρ1)
  | .retN, ρ => some (.rt (.d .none), ρ)
  | .brk, ρ => some (.bk, ρ)
  | .ct, ρ => some (.ct, ρ)
  | .pass, ρ => some (.nx, ρ)
  | .zap i j, ρ => match (ρ[i]?).join with
    | some (.lst xs) => if xs.all zapOk && decide (j < ρ.length) then some (.nx, (ρ.set i none).set j none) else none
    | _ => none
def evSs : Ss → TT.Env → Option (Fl × TT.Env)
  | .nil, ρ => some (.nx, ρ)
  | .cons s r, ρ => (evS s ρ).bind fun (f, ρ1) => (match f with
    | .nx => evSs r ρ1
    | f => some (f, ρ1))
end
end

/-- a def of the text -/
structure DefT where
  name : Str
  ps : Nat
  N : List Str
  io : List Nat
  body : Ss
def getAll (ρ : TT.Env) : List Nat → Option (List X)
  | [] => some []
  | i :: is => (ρ[i]?).join.bind fun x => (getAll ρ is).map (x :: ·)
def runDef (d : DefT) (G : Nat → DF) : DF := fun xs =>
  if xs.length = d.ps then (evSs G d.body (xs.map some ++ List.replicate (d.N.length - d.ps) none)).bind fun (f, ρ) => (match f with
    | .nx => (getAll ρ d.io).map fun ys => (.d .none, ys)
    | .rt x => (getAll ρ d.io).map fun ys => (x, ys)
    | _ => none)
  else none
/-- the program: calls at most n deep -/
def sem (tab : Nat → Option DefT) : Nat → Nat → DF
  | 0, _ => fun _ => none
  | n + 1, j => match tab j with
    | some d => runDef d (sem tab n)
    | none => fun _ => none
end TT

/-! A4: the readings of the small language; places; arguments. -/
namespace TT
open PySem PySem.Spec PyProof.Rows L2

/-! ### weaker readings -/
theorem pe_weak {C : Cx} {e : Expr} {t t' : TE} (h : PE C e t) (w : ∀ σ H Q, t' σ H Q → t σ H Q) : PE C e t' := ⟨fun pins s σ H Q I q => h.run pins s σ H Q I (w σ H Q q)⟩
theorem pt_weak {C : Cx} {e : Expr} {t t' : TT} (h : PT C e t) (w : ∀ σ H Q, t' σ H Q → t σ H Q) : PT C e t' := ⟨fun pins s σ H Q I q => h.run pins s σ H Q I (w σ H Q q)⟩
theorem pw_weak {C : Cx} {e : Expr} {t t' : TT} (h : PW C e t) (w : ∀ σ H Q, t' σ H Q → t σ H Q) : PW C e t' := ⟨fun wh pins s σ H Q I q => h.run wh pins s σ H Q I (w σ H Q q)⟩
theorem pa_weak {C : Cx} {es : List Expr} {t t' : TA} (h : PA C es t) (w : ∀ σ H Q, t' σ H Q → t σ H Q) : PA C es t' := ⟨fun pos pins s σ H Q I q => h.run pos pins s σ H Q I (w σ H Q q)⟩
theorem ps_weak {C : Cx} {st : Stmt} {t t' : TS} (h : PS C st t) (w : ∀ D σ H, t' D σ H → t D σ H) : PS C st t' := ⟨fun pins s σ H D I q => h.run pins s σ H D I (w D σ H q)⟩
theorem pss_weak {C : Cx} {st : List Stmt} {t t' : TS} (h : PSs C st t) (w : ∀ D σ H, t' D σ H → t D σ H) : PSs C st t' := ⟨fun pins s σ H D I q => h.run pins s σ H D I (w D σ H q)⟩

/-! ### places -/
def PlV (H : Hp) : V → List (Nat × Nat) → V → Prop
  | v, [], w => v = w
  | v, f :: fs, w => ∃ a C dx l p, v = .ref a ∧ H a = some (.ins C dx l) ∧ l[f.2]? = some p ∧ PlV H p.2 fs w
def PlAt (σ : L2.St) (H : Hp) (p : Pl) (w : V) : Prop := ∃ v, σ[p.i]? = some (some v) ∧ PlV H v p.fs w
theorem PlV.same {H H' : Hp} (s : Same H H') : ∀ {fs : List (Nat × Nat)} {v w : V}, PlV H v fs w → PlV H' v fs w
  | [], _, _, h => h
  | _ :: _, _, _, ⟨a, C, dx, l, p, e, h, hp, r⟩ => ⟨a, C, dx, l, p, e, s _ _ h, hp, PlV.same s r⟩
theorem PlAt.same {σ : L2.St} {H H' : Hp} {p : Pl} {w : V} (s : Same H H') (h : PlAt σ H p w) : PlAt σ H' p w := let ⟨v, e, r⟩ := h; ⟨v, e, r.same s⟩

section
variable {K : PySem.W.Frag} {cx : List Cls1} {H : Hp}
theorem map2_at {l : List (Str × V)} {f : Nat} {p : Str × V} (h : l[f]? = some p) : (l.map (·.2))[f]? = some p.2 := by
  rw [List.getElem?_map, h]
  rfl
/-- what a place holds -/
theorem walk_rep : ∀ {fs : List (Nat × Nat)} {v w : V} {x s : X} {F : Foot}, RepX K cx H v x F → PlV H v fs w → walkX x fs = some s → RepX K cx H w s F
  | [], _, _, x, _, _, R, h, e => by
    cases h
    simp only [walkX, Option.some.injEq] at e
    rw [← e]
    exact R
  | f :: fs, v, w, x, s, F, R, h, e => by
    obtain ⟨a, C, dx, l, p, rfl, h1, hp, r⟩ := h
    cases R with
    | obj h2 hf hc hn hs =>
      rw [h1] at h2
      cases h2
      simp only [walkX, Option.ite_none_right_eq_some, Option.bind_eq_some_iff] at e
      obtain ⟨_, y, ey, e⟩ := e
      obtain ⟨y', ey', ry⟩ := hs.at (map2_at hp)
      rw [ey] at ey'
      cases ey'
      exact walk_rep (ry.mono fun c q => q.1) r e
    | _ => simp [walkX] at e
theorem place_rep {σ : L2.St} {ρ : TT.Env} {φ : Nat → Foot} {p : Pl} {w : V} {s : X} (R : RepE K cx σ H ρ φ) (h : PlAt σ H p w) (e : getPl ρ p = some s) : RepX K cx H w s (φ p.i) := by
  obtain ⟨v, hv, r⟩ := h
  simp only [getPl, Option.bind_eq_some_iff, Option.join_eq_some_iff] at e
  obtain ⟨x, ex, e⟩ := e
  obtain ⟨v', hv', rx⟩ := R.rep _ _ ex
  rw [hv] at hv'
  cases hv'
  exact walk_rep rx r e
/-- one item of a row put anew -/
theorem RepXs.focus : ∀ {vs : List V} {xs : List X} {F : Foot} {f : Nat} {u : V} {x : X}, RepXs K cx H vs xs F → vs[f]? = some u → xs[f]? = some x → ∃ F1 : Foot, (∀ c, F1 c → F c) ∧ RepX K cx H u x F1 ∧
    ∀ (H' : Hp) (y : X) (G : Foot), ImmK H H' → (∀ c, F c → ¬ F1 c → H' c = H c) → RepX K cx H' u y G → (∀ c, F c → ¬ F1 c → ¬ G c) → RepXs K cx H' vs (xs.set f y) (fun c => (F c ∧ ¬ F1 c) ∨ G c)
  | _, _, _, _, _, _, .nil, e, _ => by simp at e
  | _, _, F, 0, u, x, .cons (F1 := F1) (F2 := F2) h hs dj s1 s2, e1, e2 => by
    simp at e1 e2
    subst e1 e2
    refine ⟨F1, s1, h, fun H' y G k st r d => ?_⟩
    have st2 : ∀ c, F2 c → ¬ F1 c := fun c q z => dj c z q
    exact .cons (F1 := G) (F2 := F2) r (hs.keep k fun c q => st c (s2 c q) (st2 c q)) (fun c g q => d c (s2 c q) (st2 c q) g) (fun c g => .inr g) fun c q => .inl ⟨s2 c q, st2 c q⟩
  | _, _, F, f + 1, u, x, .cons (F1 := F0) (F2 := F2) h hs dj s1 s2, e1, e2 => by
    obtain ⟨F1, k1, r1, put⟩ := RepXs.focus (f := f) hs (by simpa using e1) (by simpa using e2)
    refine ⟨F1, fun c q => s2 c (k1 c q), r1, fun H' y G k st r d => ?_⟩
    have n0 : ∀ c, F0 c → ¬ F1 c := fun c q z => dj c q (k1 c z)
    refine .cons (F1 := F0) (F2 := fun c => (F2 c ∧ ¬ F1 c) ∨ G c) (h.keep k fun c q => st c (s1 c q) (n0 c q)) (put H' y G k (fun c q n => st c (s2 c q) n) r fun c q n => d c (s2 c q) n) (fun c q z => ?_) (fun c q => .inl ⟨s1 c q, n0 c q⟩) fun c z => ?_
    · rcases z with z | z
      · exact dj c q z.1
      · exact d c (s1 c q) (n0 c q) z
    · rcases z with z | z
      · exact .inl ⟨s2 c z.1, z.2⟩
      · exact .inr z
theorem set_self' {fs : List (Str × V)} {C : List Str} {xs : List X} {f : Nat} {y : X} (h : fs.map (·.1) = C.take xs.length) : fs.map (·.1) = C.take (xs.set f y).length := by
  rw [List.length_set]
  exact h
/-- what a place holds is put anew -/
theorem RepX.focus : ∀ {fs : List (Nat × Nat)} {v w : V} {x s : X} {F : Foot}, RepX K cx H v x F → PlV H v fs w → walkX x fs = some s → ∃ Fs : Foot, (∀ c, Fs c → F c) ∧ RepX K cx H w s Fs ∧
    ∀ (H' : Hp) (y : X) (G : Foot), ImmK H H' → (∀ c, F c → ¬ Fs c → H' c = H c) → RepX K cx H' w y G → (∀ c, F c → ¬ Fs c → ¬ G c) → ∃ x', storeX x fs y = some x' ∧ RepX K cx H' v x' (fun c => (F c ∧ ¬ Fs c) ∨ G c)
  | [], v, w, x, s, F, R, h, e => by
    cases h
    simp only [walkX, Option.some.injEq] at e
    subst e
    exact ⟨F, fun _ q => q, R, fun H' y G k st r d => ⟨y, rfl, r.mono fun c g => .inr g⟩⟩
  | f :: fs, v, w, x, s, F, R, h, e => by
    obtain ⟨a, C, dx, l, p, rfl, h1, hp, r⟩ := h
    cases R with
    | @obj _ _ c _ _ xs _ h2 hf hc hn hs =>
      rw [h1] at h2
      cases h2
      simp only [walkX, Option.ite_none_right_eq_some, Option.bind_eq_some_iff] at e
      obtain ⟨ec, y, ey, e⟩ := e
      obtain ⟨F1, k1, r1, put1⟩ := hs.focus (map2_at hp) ey
      obtain ⟨Fs, k2, r2, put2⟩ := RepX.focus r1 r e
      refine ⟨Fs, fun c q => (k1 c (k2 c q)).1, r2, fun H' z G k st rz d => ?_⟩
      have s1 : ∀ c, F1 c → ¬ Fs c → H' c = H c := fun c q n => st c (k1 c q).1 n
      obtain ⟨x', e', r'⟩ := put2 H' z G k s1 rz fun c q n => d c (k1 c q).1 n
      have na : ¬ Fs a := fun q => (k1 a (k2 a q)).2 rfl
      have hs' := put1 H' x' _ k (fun c q n => st c q.1 fun z => n (k2 c z)) r' fun c q n z => by
        rcases z with z | z
        · exact n z.1
        · exact d c q.1 (fun w => n (k2 c w)) z
      refine ⟨.obj c (xs.set f.2 x'), ?_, ?_⟩
      · show (if c = f.1 then (xs[f.2]?).bind fun x => (storeX x fs z).map fun z => X.obj c (xs.set f.2 z) else none) = _
        rw [if_pos ec, ey, Option.bind_some, e']
        rfl
      · refine .obj ((st a hf na).trans h1) (.inl ⟨hf, na⟩) hc (set_self' hn) (hs'.mono fun c q => ?_)
        rcases q with ⟨q, n⟩ | q
        · exact ⟨.inl ⟨q.1, fun w => n (k2 c w)⟩, q.2⟩
        · rcases q with ⟨q, n⟩ | q
          · exact ⟨.inl ⟨(k1 c q).1, n⟩, (k1 c q).2⟩
          · refine ⟨.inr q, fun z => ?_⟩
            subst z
            exact d c hf na q
    | _ => simp [walkX] at e
/-- a place of the frame is put anew -/
theorem place_put {σ : L2.St} {ρ : TT.Env} {φ : Nat → Foot} {p : Pl} {w : V} {s : X} (R : RepE K cx σ H ρ φ) (h : PlAt σ H p w) (e : getPl ρ p = some s) : ∃ Fs : Foot, (∀ c, Fs c → φ p.i c) ∧ RepX K cx H w s Fs ∧
    ∀ (H' : Hp) (y : X) (G : Foot), ImmK H H' → (∀ c, un φ c → ¬ Fs c → H' c = H c) → RepX K cx H' w y G → MutF G H' → (∀ c, un φ c → ¬ Fs c → ¬ G c) →
      ∃ ρ' φ', setPl ρ p y = some ρ' ∧ RepE K cx σ H' ρ' φ' ∧ (∀ c, un φ' c → (un φ c ∧ ¬ Fs c) ∨ G c) := by
  obtain ⟨v, hv, r⟩ := h
  simp only [getPl, Option.bind_eq_some_iff, Option.join_eq_some_iff] at e
  obtain ⟨x, ex, e⟩ := e
  obtain ⟨v', hv', rx⟩ := R.rep _ _ ex
  rw [hv] at hv'
  cases hv'
  obtain ⟨Fs, k, r1, put⟩ := rx.focus r e
  refine ⟨Fs, k, r1, fun H' y G ki st ry m d => ?_⟩
  obtain ⟨x', e', r'⟩ := put H' y G ki (fun c q n => st c ⟨_, q⟩ n) ry fun c q n => d c ⟨_, q⟩ n
  refine ⟨ρ.set p.i (some x'), setF φ p.i fun c => (φ p.i c ∧ ¬ Fs c) ∨ G c, ?_, R.put hv r' ki (fun j hj c q => st c ⟨j, q⟩ fun z => hj (R.dj j p.i c q (k c z))) (fun c q => ?_) fun j hj c q z => ?_, fun c q => ?_⟩
  · show ((ρ[p.i]?).join.bind fun x => (storeX x p.fs y).map fun z => ρ.set p.i (some z)) = _
    rw [ex]
    show ((storeX x p.fs y).map fun z => ρ.set p.i (some z)) = _
    rw [e']
    rfl
  · rcases q with q | q
    · rw [st c ⟨_, q.1⟩ q.2]
      exact R.mu c ⟨_, q.1⟩
    · exact m c q
  · rcases q with q | q
    · exact hj (R.dj j p.i c z q.1)
    · exact d c ⟨j, z⟩ (fun w => hj (R.dj j p.i c z (k c w))) q
  · obtain ⟨j, q⟩ := q
    by_cases hj : j = p.i
    · subst hj
      rw [setF_same] at q
      rcases q with q | q
      · exact .inl ⟨⟨_, q.1⟩, q.2⟩
      · exact .inr q
    · rw [setF_ne hj] at q
      exact .inl ⟨⟨j, q⟩, fun w => hj (R.dj j p.i c q (k c w))⟩
end

/-! ### the readings -/
section
variable (K : PySem.W.Frag) (cx : List Cls1)
/-- what a piece of code leaves: the frame at ρ', φ' and new things at T, from H to H' -/
structure Post (σ : L2.St) (H : Hp) (ρ : TT.Env) (φ : Nat → Foot) (p : Bool) (H' : Hp) (ρ' : TT.Env) (φ' : Nat → Foot) (T : Foot) : Prop where
  rep : RepE K cx σ H' ρ' φ'
  mt : MutF T H'
  dj : Dj T (un φ')
  fr : Frame (un φ) H H'
  s1 : Sub (un φ') (un φ) H
  s2 : Sub T (un φ) H
  pure : p = true → Same H H' ∧ ρ' = ρ ∧ φ' = φ
def TX (p : Bool) (m : TT.Env → Option (X × TT.Env)) : TE := fun σ H Q => ∃ ρ φ r ρ', RepE K cx σ H ρ φ ∧ m ρ = some (r, ρ') ∧ ∀ v H' φ' T, Post K cx σ H ρ φ p H' ρ' φ' T → RepX K cx H' v r T → Q v H'
def TB (p : Bool) (m : TT.Env → Option (Bool × TT.Env)) : TT := fun σ H Q => ∃ ρ φ r ρ', RepE K cx σ H ρ φ ∧ m ρ = some (r, ρ') ∧ ∀ H' φ' T, Post K cx σ H ρ φ p H' ρ' φ' T → Q r H'
def HRep (σ : L2.St) (H : Hp) (v : V) : Hd → Foot → Prop
  | .x x, T => RepX K cx H v x T
  | .p p, _ => PlAt σ H p v
def TO (p : Bool) (m : TT.Env → Option (Hd × TT.Env)) : TE := fun σ H Q => ∃ ρ φ h ρ', RepE K cx σ H ρ φ ∧ m ρ = some (h, ρ') ∧ ∀ v H' φ' T, Post K cx σ H ρ φ p H' ρ' φ' T → HRep K cx σ H' v h T → Q v H'
inductive HReps (σ : L2.St) (H : Hp) : List V → List Hd → Foot → Prop
  | nil {T : Foot} : HReps σ H [] [] T
  | cons {v : V} {vs : List V} {h : Hd} {hs : List Hd} {T1 T2 T : Foot} : HRep K cx σ H v h T1 → HReps σ H vs hs T2 → Dj T1 T2 → (∀ c, T1 c → T c) → (∀ c, T2 c → T c) → HReps σ H (v :: vs) (h :: hs) T
def TAs (p : Bool) (m : TT.Env → Option (List Hd × TT.Env)) : TA := fun σ H Q => ∃ ρ φ hs ρ', RepE K cx σ H ρ φ ∧ m ρ = some (hs, ρ') ∧ ∀ vs H' φ' T, Post K cx σ H ρ φ p H' ρ' φ' T → HReps K cx σ H' vs hs T → Q vs H'
end

section
variable {K : PySem.W.Frag} {cx : List Cls1} {σ : L2.St} {H H1 H2 : Hp} {ρ ρ1 ρ2 : TT.Env} {φ φ1 φ2 : Nat → Foot} {p q : Bool} {T T1 T2 : Foot}
theorem Post.refl (R : RepE K cx σ H ρ φ) : Post K cx σ H ρ φ p H ρ φ noF :=
  ⟨R, fun _ z => z.elim, fun _ z => z.elim, Frame.refl _ _, Sub.refl _ _, fun _ z => z.elim, fun _ => ⟨fun _ _ h => h, rfl, rfl⟩⟩
/-- one piece after another: what the first has made stands -/
theorem Post.seq (R : RepE K cx σ H ρ φ) (a : Post K cx σ H ρ φ p H1 ρ1 φ1 T1) (b : Post K cx σ H1 ρ1 φ1 q H2 ρ2 φ2 T2) : Post K cx σ H ρ φ (p && q) H2 ρ2 φ2 (fun c => T1 c ∨ T2 c) ∧ Dj T1 T2 ∧ (∀ c, T1 c → H2 c = H1 c) ∧ ImmK H1 H2 := by
  have d1 : Dj T1 (un φ2) := Dj.of_sub a.mt a.dj b.s1
  have d2 : Dj T1 T2 := Dj.of_sub a.mt a.dj b.s2
  have back : ∀ c, (un φ1 c ∨ H1 c = none) → un φ c ∨ H c = none := fun c z => by
    rcases z with z | z
    · exact a.s1 c z
    · exact none_of_frame a.fr R.mu z
  refine ⟨⟨b.rep, fun c z => ?_, fun c z f => ?_, a.fr.trans b.fr a.s1, fun c z => back c (b.s1 c z), fun c z => ?_, fun e => ?_⟩, d2, frame_at a.mt a.dj b.fr, b.fr.imm a.rep.mu⟩
  · rcases z with z | z
    · exact a.mt.keep a.dj b.fr c z
    · exact b.mt c z
  · rcases z with z | z
    · exact d1 c z f
    · exact b.dj c z f
  · rcases z with z | z
    · exact a.s2 c z
    · exact back c (b.s2 c z)
  · obtain ⟨e1, e2⟩ := Bool.and_eq_true_iff.mp e
    obtain ⟨h1, h2, h3⟩ := a.pure e1
    obtain ⟨k1, k2, k3⟩ := b.pure e2
    exact ⟨h1.trans k1, k2.trans h2, k3.trans h3⟩
/-- a new value on top -/
theorem Post.new (a : Post K cx σ H ρ φ p H1 ρ1 φ1 T1) (s : Same H1 H2) (m : MutF T2 H2) (n : ∀ c, T2 c → H1 c = none) (R : RepE K cx σ H ρ φ) : Post K cx σ H ρ φ p H2 ρ1 φ1 T2 := by
  refine ⟨a.rep.same s, m, fun c z f => ?_, fun c o h nf => s _ _ (a.fr c o h nf), a.s1, fun c z => none_of_frame a.fr R.mu (n c z), fun e => ?_⟩
  · have w := a.rep.mu c f
    rw [n c z] at w
    exact w
  · obtain ⟨h1, h2, h3⟩ := a.pure e
    exact ⟨h1.trans s, h2, h3⟩
theorem Post.less {T' : Foot} (a : Post K cx σ H ρ φ p H1 ρ1 φ1 T) (k : ∀ c, T' c → T c) : Post K cx σ H ρ φ p H1 ρ1 φ1 T' := ⟨a.rep, a.mt.mono k, fun c z f => a.dj c (k c z) f, a.fr, a.s1, fun c z => a.s2 c (k c z), a.pure⟩
theorem Post.impure (a : Post K cx σ H ρ φ p H1 ρ1 φ1 T) : Post K cx σ H ρ φ false H1 ρ1 φ1 T := ⟨a.rep, a.mt, a.dj, a.fr, a.s1, a.s2, fun e => nomatch e⟩
theorem HRep.keep {H' : Hp} {v : V} {h : Hd} (r : HRep K cx σ H v h T) (k : ImmK H H') (f : ∀ c, T c → H' c = H c) (pl : ∀ p, h = .p p → PlAt σ H p v → PlAt σ H' p v) : HRep K cx σ H' v h T := by
  cases h with
  | x x => exact RepX.keep k f r
  | p p => exact pl p rfl r
theorem HRep.rep {v : V} {h : Hd} {x : X} (R : RepE K cx σ H ρ φ) (r : HRep K cx σ H v h T) (e : resolve ρ h = some x) : ∃ F : Foot, RepX K cx H v x F ∧ ∀ c, F c → T c ∨ un φ c := by
  cases h with
  | x y =>
    simp only [resolve, Option.some.injEq] at e
    subst e
    exact ⟨T, r, fun c z => .inl z⟩
  | p p => exact ⟨φ p.i, place_rep R r e, fun c z => .inr ⟨_, z⟩⟩
theorem HReps.mono {vs : List V} {hs : List Hd} {T' : Foot} (k : ∀ c, T c → T' c) (r : HReps K cx σ H vs hs T) : HReps K cx σ H vs hs T' := by
  cases r with
  | nil => exact .nil
  | cons h hr d s1 s2 => exact .cons h hr d (fun c z => k c (s1 c z)) fun c z => k c (s2 c z)
/-- the contents of the arguments, as they are at the end -/
inductive RepL (K : PySem.W.Frag) (cx : List Cls1) (H : Hp) : List V → List X → Prop
  | nil : RepL K cx H [] []
  | cons {v : V} {vs : List V} {x : X} {xs : List X} {F : Foot} : RepX K cx H v x F → RepL K cx H vs xs → RepL K cx H (v :: vs) (x :: xs)
theorem HReps.repL (R : RepE K cx σ H ρ φ) : ∀ {vs : List V} {hs : List Hd} {xs : List X} {T : Foot}, HReps K cx σ H vs hs T → resAll ρ hs = some xs → RepL K cx H vs xs
  | _, _, xs, _, .nil, e => by
    simp only [resAll, Option.some.injEq] at e
    subst e
    exact .nil
  | _, _, xs, _, .cons h hr d s1 s2, e => by
    simp only [resAll, Option.bind_eq_some_iff, Option.map_eq_some_iff] at e
    obtain ⟨x, e1, ys, e2, rfl⟩ := e
    obtain ⟨F, r, _⟩ := h.rep R e1
    exact .cons r (HReps.repL R hr e2)
theorem RepL.dvs : ∀ {vs : List V} {xs : List X} {ds : List D}, RepL K cx H vs xs → datAll xs = some ds → DVs K H vs ds
  | _, _, ds, .nil, e => by
    simp only [datAll, Option.some.injEq] at e
    subst e
    exact .nil
  | _, _, ds, .cons r rs, e => by
    simp only [datAll, Option.bind_eq_some_iff, Option.map_eq_some_iff] at e
    obtain ⟨d, e1, es, e2, rfl⟩ := e
    exact .cons (r.dv e1) (RepL.dvs rs e2)
end
end TT

/-! A5: expressions. -/
namespace TT
open PySem PySem.Spec PyProof.Rows L2

structure CxOk (K : PySem.W.Frag) (cx : List Cls1) : Prop where
  ok : ∀ (c : Nat) (C : Cls1), cx[c]? = some C → Cls K C.addr ∧ (∀ f ∈ C.flds, NoAttr K C.addr f) ∧ C.flds.Nodup ∧ C.flds.length ≤ 900

theorem lookup_at {α : Type} : ∀ {l : List (Str × α)} {f : Nat} {p : Str × α}, (l.map (·.1)).Nodup → l[f]? = some p → l.lookup p.1 = some p.2
  | [], f, p, _, e => by simp at e
  | q :: l, 0, p, _, e => by
    have e : q = p := by simpa using e
    subst e
    show (match q.1 == q.1 with | true => some q.2 | false => l.lookup q.1) = some q.2
    rw [beq_self_eq_true]
  | q :: l, f + 1, p, n, e => by
    rw [List.map_cons, List.nodup_cons] at n
    have e' : l[f]? = some p := by simpa using e
    have ne : p.1 ≠ q.1 := fun z => n.1 (z ▸ List.mem_map_of_mem (List.mem_of_getElem? e'))
    have b : (p.1 == q.1) = false := beq_eq_false_iff_ne.mpr ne
    simp only [List.lookup, b]
    exact lookup_at n.2 e'
theorem walkX_app : ∀ (fs : List (Nat × Nat)) (x : X) (f : Nat × Nat), walkX x (fs ++ [f]) = (walkX x fs).bind fun y => walkX y [f]
  | [], x, f => rfl
  | g :: fs, x, f => by
    cases x with
    | obj c xs =>
      show (if c = g.1 then (xs[g.2]?).bind fun y => walkX y (fs ++ [f]) else none) = _
      simp only [walkX]
      by_cases h : c = g.1
      · rw [if_pos h, if_pos h]
        cases xs[g.2]? with
        | none => rfl
        | some y => exact walkX_app fs y f
      · rw [if_neg h, if_neg h]
        rfl
    | _ => rfl
theorem getPl_app (ρ : TT.Env) (p : Pl) (f : Nat × Nat) : getPl ρ ⟨p.i, p.fs ++ [f]⟩ = (getPl ρ p).bind fun y => walkX y [f] := by
  show ((ρ[p.i]?).join.bind fun x => walkX x (p.fs ++ [f])) = ((ρ[p.i]?).join.bind fun x => walkX x p.fs).bind fun y => walkX y [f]
  cases (ρ[p.i]?).join with
  | none => rfl
  | some x => exact walkX_app p.fs x f
theorem PlV.app {H : Hp} {c k : Nat} {a C dx : Addr} {l : List (Str × V)} {p : Str × V} (h : H a = some (.ins C dx l)) (hp : l[k]? = some p) : ∀ {fs : List (Nat × Nat)} {v : V}, PlV H v fs (.ref a) → PlV H v (fs ++ [(c, k)]) p.2
  | [], v, e => by
    cases e
    exact ⟨a, C, dx, l, p, rfl, h, hp, rfl⟩
  | g :: fs, v, ⟨a', C', dx', l', p', e1, h1, hp1, r⟩ => ⟨a', C', dx', l', p', e1, h1, hp1, PlV.app h hp r⟩

section
variable {C : Cx} {cx : List Cls1} {G : Nat → DF} {e : Expr} {es : List Expr}
theorem obj_of {H : Hp} {v : V} {c : Nat} {xs : List X} {F : Foot} (R : RepX C.K cx H v (.obj c xs) F) : ∃ (a dx : Addr) (C1 : Cls1) (fs : List (Str × V)), v = .ref a ∧ H a = some (.ins C1.addr dx fs) ∧ F a ∧ cx[c]? = some C1 ∧ fs.map (·.1) = C1.flds.take xs.length ∧ RepXs C.K cx H (fs.map (·.2)) xs (but F a) := by
  cases R with
  | @obj a dx _ C1 fs _ _ h hf hc hn hs => exact ⟨a, dx, C1, fs, rfl, h, hf, hc, hn, hs⟩

/-! ### operands -/
theorem to_e {p : Bool} {e' : E} (h : PE C e (TX C.K cx p (evE G e'))) : PE C e (TO C.K cx p (evA G (.e e'))) := pe_weak h fun σ H Q ⟨ρ, φ, r, ρ', R, hm, q⟩ => by
  have hm : ((evE G e' ρ).bind fun x => some (Hd.x x.1, x.2)) = some (r, ρ') := hm
  simp only [Option.bind_eq_some_iff, Option.some.injEq] at hm
  obtain ⟨⟨x, ρ1⟩, h1, e1⟩ := hm
  cases e1
  exact ⟨ρ, φ, x, ρ1, R, h1, fun v H' φ' T P r => q v H' φ' T P r⟩
theorem to_v {i : Nat} (h : PE C e (tVar i)) : PE C e (TO C.K cx true (evA G (.p ⟨i, []⟩))) := pe_weak h fun σ H Q ⟨ρ, φ, r, ρ', R, hm, q⟩ => by
  have hm : ((getPl ρ ⟨i, []⟩).bind fun _ => some (Hd.p ⟨i, []⟩, ρ)) = some (r, ρ') := hm
  simp only [Option.bind_eq_some_iff, Option.some.injEq, Prod.mk.injEq] at hm
  obtain ⟨x, h1, rfl, rfl⟩ := hm
  have h1 : ((ρ[i]?).join.bind fun x => walkX x []) = some x := h1
  simp only [Option.bind_eq_some_iff, Option.join_eq_some_iff] at h1
  obtain ⟨y, h1, _⟩ := h1
  obtain ⟨v, hv, _⟩ := R.rep _ _ h1
  exact ⟨v, hv, q v H φ noF (Post.refl R) ⟨v, hv, rfl⟩⟩
theorem fld_read {H : Hp} {σ : L2.St} {ρ : TT.Env} {φ : Nat → Foot} {p : Pl} {c k : Nat} {f : Str} {w : V} {x : X} (hx : CxOk C.K cx) (hf : ((cx[c]?).map (·.flds)).bind (·[k]?) = some f) (R : RepE C.K cx σ H ρ φ) (hp : PlAt σ H p w)
    (hg : getPl ρ ⟨p.i, p.fs ++ [(c, k)]⟩ = some x) : ∃ (a dx : Addr) (C1 : Cls1) (fs : List (Str × V)) (v : V), w = .ref a ∧ H a = some (.ins C1.addr dx fs) ∧ Cls C.K C1.addr ∧ NoAttr C.K C1.addr f ∧ fs.lookup f = some v ∧ PlAt σ H ⟨p.i, p.fs ++ [(c, k)]⟩ v := by
  rw [getPl_app, Option.bind_eq_some_iff] at hg
  obtain ⟨y, h1, h2⟩ := hg
  cases y with
  | obj c' xs =>
    simp only [walkX, Option.ite_none_right_eq_some, Option.bind_eq_some_iff] at h2
    obtain ⟨rfl, z, hz, e⟩ := h2
    obtain ⟨a, dx, C1, fs, rfl, ha, _, hc, hn, hs⟩ := obj_of (place_rep R hp h1)
    obtain ⟨cl, na, nd, le⟩ := hx.ok _ _ hc
    rw [hc] at hf
    have hf : C1.flds[k]? = some f := hf
    obtain ⟨v, hv, _⟩ := hs.at' hz
    rw [List.getElem?_map, Option.map_eq_some_iff] at hv
    obtain ⟨q, hq, rfl⟩ := hv
    have kl : k < xs.length := (List.getElem?_eq_some_iff.mp hz).1
    have e1 : (fs.map (·.1))[k]? = some q.1 := by rw [List.getElem?_map, hq]; rfl
    rw [hn, List.getElem?_take, if_pos kl, hf] at e1
    obtain rfl := Option.some.inj e1
    obtain ⟨v0, hv0, r0⟩ := hp
    exact ⟨a, dx, C1, fs, q.2, rfl, ha, cl, na _ (List.mem_of_getElem? hf), lookup_at (by rw [hn]; exact nd.sublist (List.take_sublist _ _)) hq, v0, hv0, PlV.app ha hq r0⟩
  | _ => simp [walkX] at h2
theorem to_fld {o : Expr} {p : Pl} {c k : Nat} {f : Str} {pos : Pos} (hx : CxOk C.K cx) (ho : PE C o (TO C.K cx true (evA G (.p p)))) (hf : ((cx[c]?).map (·.flds)).bind (·[k]?) = some f) (hb : attributeBase o f C.env (eval o C.env) = eval o C.env) :
    PE C (.Attribute o f pos) (TO C.K cx true (evA G (.p ⟨p.i, p.fs ++ [(c, k)]⟩))) := pe_weak (pe_fld ho hb) fun σ H Q ⟨ρ, φ, r, ρ', R, hm, q⟩ => by
  have hm : ((getPl ρ ⟨p.i, p.fs ++ [(c, k)]⟩).bind fun _ => some (Hd.p ⟨p.i, p.fs ++ [(c, k)]⟩, ρ)) = some (r, ρ') := hm
  simp only [Option.bind_eq_some_iff, Option.some.injEq, Prod.mk.injEq] at hm
  obtain ⟨x, h1, rfl, rfl⟩ := hm
  have h0 : ∃ y, getPl ρ p = some y := by
    rw [getPl_app, Option.bind_eq_some_iff] at h1
    obtain ⟨y, h1, _⟩ := h1
    exact ⟨y, h1⟩
  obtain ⟨y, h0⟩ := h0
  refine ⟨ρ, φ, .p p, ρ, R, by show ((getPl ρ p).bind fun _ => some (Hd.p p, ρ)) = _; rw [h0]; rfl, fun w H' φ' T P hr => ?_⟩
  obtain ⟨_, e1, e2⟩ := P.pure rfl
  subst e2
  obtain ⟨a, dx, C1, fs, v, rfl, ha, cl, na, l, pl⟩ := fld_read (C := C) hx hf P.rep hr h1
  exact ⟨a, C1.addr, dx, fs, v, rfl, ha, cl, na, l, q v H' φ' T P pl⟩

/-! ### names, constants -/
theorem te_rd {i : Nat} (h : PE C e (tVar i)) : PE C e (TX C.K cx true (evE G (.rd i))) := pe_weak h fun σ H Q ⟨ρ, φ, r, ρ', R, hm, q⟩ => by
  have hm : (match (ρ[i]?).join with
    | some (.d x) => some (X.d x, ρ)
    | _ => none) = some (r, ρ') := hm
  cases e1 : (ρ[i]?).join with
  | none => rw [e1] at hm; cases hm
  | some y =>
    rw [e1] at hm
    cases y with
    | d x =>
      cases hm
      obtain ⟨v, hv, rx⟩ := R.rep _ _ (Option.join_eq_some_iff.mp e1)
      refine ⟨v, hv, q v H φ noF (Post.refl R) ?_⟩
      cases rx with
      | d h => exact .d h
    | _ => cases hm
theorem te_rdp {p : Pl} (h : PE C e (TO C.K cx true (evA G (.p p)))) : PE C e (TX C.K cx true (evE G (.rdp p))) := pe_weak h fun σ H Q ⟨ρ, φ, r, ρ', R, hm, q⟩ => by
  have hm : (match getPl ρ p with
    | some (.d x) => some (X.d x, ρ)
    | _ => none) = some (r, ρ') := hm
  cases e1 : getPl ρ p with
  | none => rw [e1] at hm; cases hm
  | some y =>
    rw [e1] at hm
    cases y with
    | d x =>
      cases hm
      refine ⟨ρ, φ, .p p, ρ, R, by show ((getPl ρ p).bind fun _ => some (Hd.p p, ρ)) = _; rw [e1]; rfl, fun v H' φ' T P hr => ?_⟩
      obtain ⟨_, _, e3⟩ := P.pure rfl
      subst e3
      refine q v H' φ' T P ?_
      cases place_rep P.rep hr e1 with
      | d h => exact .d h
    | _ => cases hm
theorem te_mv {i : Nat} (h : PE C e (tVar i)) : PE C e (TX C.K cx false (evE G (.mv i))) := pe_weak h fun σ H Q ⟨ρ, φ, r, ρ', R, hm, q⟩ => by
  have hm : ((ρ[i]?).join.bind fun x => some (x, ρ.set i none)) = some (r, ρ') := hm
  simp only [Option.bind_eq_some_iff, Option.join_eq_some_iff, Option.some.injEq, Prod.mk.injEq] at hm
  obtain ⟨x, h1, rfl, rfl⟩ := hm
  obtain ⟨v, hv, rx⟩ := R.rep _ _ h1
  refine ⟨v, hv, q v H (setF φ i noF) (φ i) ⟨R.drop i, R.mui i, fun c z f => ?_, Frame.refl _ _, fun c f => ?_, fun c z => .inl ⟨i, z⟩, fun z => nomatch z⟩ rx⟩
  · obtain ⟨j, f⟩ := f
    by_cases hj : j = i
    · subst hj
      rw [setF_same] at f
      exact f
    · rw [setF_ne hj] at f
      exact hj (R.dj j i c f z)
  · rcases un_setF f with z | z
    · exact z.elim
    · exact .inl z
theorem te_const {v : V} {x : D} (hv : ∀ H, DI C.K H v x) {m : TT.Env → Option (X × TT.Env)} (hm : ∀ ρ, m ρ = some (.d x, ρ)) (h : PE C e (tC v)) : PE C e (TX C.K cx true m) := pe_weak h fun σ H Q ⟨ρ, φ, r, ρ', R, h1, q⟩ => by
  rw [hm] at h1
  cases h1
  exact q v H φ noF (Post.refl R) (.d (hv H))

/-! ### arguments -/
theorem tas_nil {σ : L2.St} {H : Hp} {Q : List V → Hp → Prop} (h : TAs C.K cx true (evAs G .nil) σ H Q) : Q [] H := by
  obtain ⟨ρ, φ, hs, ρ', R, hm, q⟩ := h
  have hm : some (([] : List Hd), ρ) = some (hs, ρ') := hm
  cases hm
  exact q [] H φ noF (Post.refl R) .nil
/-- a place along fields asks that what follows changes nothing -/
def fldA : A → Bool
  | .p p => !p.fs.isEmpty
  | _ => false
theorem tas_cons {p q : Bool} {a : A} {as : As} {σ : L2.St} {H : Hp} {Q : List V → Hp → Prop} (hp : fldA a = true → q = true) (h : TAs C.K cx (p && q) (evAs G (.cons a as)) σ H Q) :
    TO C.K cx p (evA G a) σ H fun x H1 => TAs C.K cx q (evAs G as) σ H1 fun xs H2 => Q (x :: xs) H2 := by
  obtain ⟨ρ, φ, hs, ρ', R, hm, k⟩ := h
  have hm : ((evA G a ρ).bind fun x => (evAs G as x.2).bind fun y => some (x.1 :: y.1, y.2)) = some (hs, ρ') := hm
  simp only [Option.bind_eq_some_iff, Option.some.injEq, Prod.mk.injEq] at hm
  obtain ⟨⟨h, ρ1⟩, e1, ⟨hs', ρ2⟩, e2, rfl, rfl⟩ := hm
  refine ⟨ρ, φ, h, ρ1, R, e1, fun v H1 φ1 T1 P1 r1 => ⟨ρ1, φ1, hs', ρ2, P1.rep, e2, fun vs H2 φ2 T2 P2 r2 => ?_⟩⟩
  obtain ⟨P, d, st, ki⟩ := Post.seq R P1 P2
  refine k (v :: vs) H2 φ2 _ P (.cons (r1.keep ki st fun pl epl pa => ?_) r2 d (fun c z => .inl z) fun c z => .inr z)
  have ha : a = .p pl := by
    cases a with
    | e e' =>
      have e1 : ((evE G e' ρ).bind fun x => some (Hd.x x.1, x.2)) = some (h, ρ1) := e1
      simp only [Option.bind_eq_some_iff, Option.some.injEq, Prod.mk.injEq] at e1
      obtain ⟨_, _, e3, _⟩ := e1
      rw [← e3] at epl
      cases epl
    | p p' =>
      have e1 : ((getPl ρ p').bind fun _ => some (Hd.p p', ρ)) = some (h, ρ1) := e1
      simp only [Option.bind_eq_some_iff, Option.some.injEq, Prod.mk.injEq] at e1
      obtain ⟨_, _, e3, _⟩ := e1
      rw [← e3] at epl
      cases epl
      rfl
  subst ha
  cases hfs : pl.fs with
  | nil =>
    obtain ⟨u, hu, r⟩ := pa
    refine ⟨u, hu, ?_⟩
    rw [hfs] at r ⊢
    exact r
  | cons f fs =>
    have hq := hp (by show (!pl.fs.isEmpty) = true; rw [hfs]; rfl)
    exact pa.same (P2.pure hq).1
theorem pa_tnil : PA C [] (TAs C.K cx true (evAs G .nil)) := pa_weak pa_nil fun σ H Q h => tas_nil h
theorem pa_tcons {p q : Bool} {a : A} {as : As} (hp : fldA a = true → q = true) (h1 : PE C e (TO C.K cx p (evA G a))) (h2 : PA C es (TAs C.K cx q (evAs G as))) (hs : starEach (e :: es) C.env = (false, eval e C.env) :: starEach es C.env) :
    PA C (e :: es) (TAs C.K cx (p && q) (evAs G (.cons a as))) := pa_weak (pa_cons h1 h2 hs) fun σ H Q h => tas_cons hp h

/-! ### operators on data -/
/-- what a rule of values must do for an operator -/
def OpOk (C : Cx) (cx : List Cls1) (o : Op) (r : List V → Hp → VK → Prop) : Prop := ∀ (H : Hp) (vs : List V) (ds : List D) (z : X) (Q : VK), DVs C.K H vs ds → opF o ds = some z →
  (∀ v H' T, Same H H' → RepX C.K cx H' v z T → MutF T H' → (∀ c, T c → H c = none) → Q v H') → r vs H Q
theorem op_red {p : Bool} {o : Op} {as : As} {r : List V → Hp → VK → Prop} (ok : OpOk C cx o r) {σ : L2.St} {H : Hp} {Q : VK} (h : TX C.K cx p (evE G (.op o as)) σ H Q) : TAs C.K cx p (evAs G as) σ H fun vs H' => r vs H' Q := by
  obtain ⟨ρ, φ, z, ρ', R, hm, q⟩ := h
  have hm : ((evAs G as ρ).bind fun y => (resAll y.2 y.1).bind fun xs => (datAll xs).bind fun ds => (opF o ds).bind fun z => some (z, y.2)) = some (z, ρ') := hm
  simp only [Option.bind_eq_some_iff, Option.some.injEq, Prod.mk.injEq] at hm
  obtain ⟨⟨hs, ρ1⟩, e1, xs, e2, ds, e3, z', e4, rfl, rfl⟩ := hm
  refine ⟨ρ, φ, hs, ρ1, R, e1, fun vs H1 φ1 T P hr => ok H1 vs ds z' Q ((hr.repL P.rep e2).dvs e3) e4 fun v H2 T2 s rx m n => ?_⟩
  exact q v H2 φ1 T2 (P.new s m n R) rx
theorem opt_red {p : Bool} {o : Op} {as : As} {r : List V → Hp → VK → Prop} (ok : OpOk C cx o r) {σ : L2.St} {H : Hp} {Q : Bool → Hp → Prop} (h : TB C.K cx p (evT G (.op o as)) σ H Q) : TAs C.K cx p (evAs G as) σ H fun vs H' => r vs H' fun x H'' => ∃ k, x = .bl k ∧ Q k H'' := by
  obtain ⟨ρ, φ, z, ρ', R, hm, q⟩ := h
  have hm : ((evAs G as ρ).bind fun y => (resAll y.2 y.1).bind fun xs => (datAll xs).bind fun ds => (opF o ds).bind fun z => (boolD z).bind fun k => some (k, y.2)) = some (z, ρ') := hm
  simp only [Option.bind_eq_some_iff, Option.some.injEq, Prod.mk.injEq] at hm
  obtain ⟨⟨hs, ρ1⟩, e1, xs, e2, ds, e3, z', e4, k, e5, rfl, rfl⟩ := hm
  refine ⟨ρ, φ, hs, ρ1, R, e1, fun vs H1 φ1 T P hr => ok H1 vs ds z' _ ((hr.repL P.rep e2).dvs e3) e4 fun v H2 T2 s rx m n => ?_⟩
  have hz : z' = .d (.bool k) := by
    cases z' with
    | d x => cases x <;> simp [boolD] at e5; subst e5; rfl
    | _ => simp [boolD] at e5
  subst hz
  cases rx with
  | d h =>
    cases h
    exact ⟨k, rfl, q H2 φ1 T2 (P.new s m n R)⟩
/-- operands of two: as the rules of operators take them -/
theorem two_ops {p q : Bool} {a b : A} {R2 : V → V → Hp → Prop} {σ : L2.St} {H : Hp} (hp : fldA a = true → q = true) (h : TAs C.K cx (p && (q && true)) (evAs G (.cons a (.cons b .nil))) σ H fun vs H' => ∀ x y, vs = [x, y] → R2 x y H') :
    TO C.K cx p (evA G a) σ H fun x H1 => TO C.K cx q (evA G b) σ H1 fun y H2 => R2 x y H2 := by
  have h1 := tas_cons (p := p) (q := q && true) (fun e => by rw [hp e]; rfl) h
  obtain ⟨ρ, φ, h0, ρ1, R, e1, k1⟩ := h1
  refine ⟨ρ, φ, h0, ρ1, R, e1, fun v H1 φ1 T1 P1 r1 => ?_⟩
  have h2 := tas_cons (p := q) (q := true) (fun _ => rfl) (k1 v H1 φ1 T1 P1 r1)
  obtain ⟨ρ2, φ2, h3, ρ3, R2', e2, k2⟩ := h2
  refine ⟨ρ2, φ2, h3, ρ3, R2', e2, fun w H2 φ3 T2 P2 r2 => ?_⟩
  exact tas_nil (k2 w H2 φ3 T2 P2 r2) v w rfl
theorem one_op {p : Bool} {a : A} {R1 : V → Hp → Prop} {σ : L2.St} {H : Hp} (h : TAs C.K cx (p && true) (evAs G (.cons a .nil)) σ H fun vs H' => ∀ x, vs = [x] → R1 x H') : TO C.K cx p (evA G a) σ H fun x H1 => R1 x H1 := by
  have h1 := tas_cons (p := p) (q := true) (fun _ => rfl) h
  obtain ⟨ρ, φ, h0, ρ1, R, e1, k1⟩ := h1
  exact ⟨ρ, φ, h0, ρ1, R, e1, fun v H1 φ1 T1 P1 r1 => tas_nil (k1 v H1 φ1 T1 P1 r1) v rfl⟩
theorem tas_mono {p : Bool} {m : TT.Env → Option (List Hd × TT.Env)} {σ : L2.St} {H : Hp} {Q Q' : List V → Hp → Prop} (h : TAs C.K cx p m σ H Q) (k : ∀ vs H', Q vs H' → Q' vs H') : TAs C.K cx p m σ H Q' := by
  obtain ⟨ρ, φ, hs, ρ', R, e1, q⟩ := h
  exact ⟨ρ, φ, hs, ρ', R, e1, fun vs H' φ' T P hr => k _ _ (q vs H' φ' T P hr)⟩
/-- a rule of two values as a rule of a row -/
def rr2 (r : R2) : List V → Hp → VK → Prop := fun vs H Q => ∀ x y, vs = [x, y] → r x y H Q
def rr1 (r : V → Hp → VK → Prop) : List V → Hp → VK → Prop := fun vs H Q => ∀ x, vs = [x] → r x H Q
theorem te_bin {op : Operator} {r : R2} {o : Op} {p q : Bool} {a b : A} {x y : Expr} {pos : Pos} (ho : OpR C (binaryOp op) r) (ok : OpOk C cx o (rr2 r)) (hp : fldA a = true → q = true) (ha : PE C x (TO C.K cx p (evA G a))) (hb : PE C y (TO C.K cx q (evA G b))) :
    PE C (.BinOp x op y pos) (TX C.K cx (p && (q && true)) (evE G (.op o (.cons a (.cons b .nil))))) := pe_weak (pe_op ho ha hb) fun σ H Q h => two_ops hp (op_red ok h)
theorem te_un {op : UnaryOp} {r : V → Hp → VK → Prop} {o : Op} {p : Bool} {a : A} {x : Expr} {pos : Pos} (ho : UnR C (unaryOp op) r) (ok : OpOk C cx o (rr1 r)) (ha : PE C x (TO C.K cx p (evA G a))) :
    PE C (.UnaryOp op x pos) (TX C.K cx (p && true) (evE G (.op o (.cons a .nil)))) := pe_weak (pe_un ho ha) fun σ H Q h => one_op (op_red ok h)
theorem te_cmp {op : CmpOp} {r : R2} {o : Op} {p q : Bool} {a b : A} {x y : Expr} {pos : Pos} (ho : OpR C (compareOp op) r) (ok : OpOk C cx o (rr2 r)) (hp : fldA a = true → q = true) (ha : PE C x (TO C.K cx p (evA G a))) (hb : PE C y (TO C.K cx q (evA G b))) (hm : behindInMarks op y = false) :
    PE C (.Compare x [op] [y] pos) (TX C.K cx (p && (q && true)) (evE G (.op o (.cons a (.cons b .nil))))) := pe_weak (pe_cmpR ho ha hb hm) fun σ H Q h => two_ops hp (op_red ok h)
theorem tt_cmp {op : CmpOp} {r : R2} {o : Op} {p q : Bool} {a b : A} {x y : Expr} {pos : Pos} (ho : OpR C (compareOp op) r) (ok : OpOk C cx o (rr2 r)) (hp : fldA a = true → q = true) (ha : PE C x (TO C.K cx p (evA G a))) (hb : PE C y (TO C.K cx q (evA G b))) (hm : behindInMarks op y = false) :
    PT C (.Compare x [op] [y] pos) (TB C.K cx (p && (q && true)) (evT G (.op o (.cons a (.cons b .nil))))) := pt_weak (pt_cmpR ho ha hb hm) fun σ H Q h => two_ops hp (opt_red ok h)
theorem te_ix {r : R2} {o : Op} {p q : Bool} {a b : A} {x y : Expr} {pos : Pos} (ho : IxR C r) (ok : OpOk C cx o (rr2 r)) (hp : fldA a = true → q = true) (ha : PE C x (TO C.K cx p (evA G a))) (hb : PE C y (TO C.K cx q (evA G b))) (hs : PlainIx y) :
    PE C (.Subscript x y pos) (TX C.K cx (p && (q && true)) (evE G (.op o (.cons a (.cons b .nil))))) := pe_weak (pe_ix ho ha hb hs) fun σ H Q h => two_ops hp (op_red ok h)
/-- is None, is not None -/
def rIsN : V → Hp → VK → Prop := fun x H Q => Q (.bl (decide (x = .non))) H
def rNotN : V → Hp → VK → Prop := fun x H Q => Q (.bl (!decide (x = .non))) H
theorem te_isN {p : Bool} {a : A} {x : Expr} {j pos' pos} (ok : OpOk C cx .isN (rr1 rIsN)) (ha : PE C x (TO C.K cx p (evA G a))) : PE C (.Compare x [.Is] [.Constant .none j pos'] pos) (TX C.K cx (p && true) (evE G (.op .isN (.cons a .nil)))) :=
  pe_weak (pe_cmp (pc_isN ha) rfl) fun σ H Q h => one_op (op_red ok h)
theorem te_notN {p : Bool} {a : A} {x : Expr} {j pos' pos} (ok : OpOk C cx .notN (rr1 rNotN)) (ha : PE C x (TO C.K cx p (evA G a))) : PE C (.Compare x [.IsNot] [.Constant .none j pos'] pos) (TX C.K cx (p && true) (evE G (.op .notN (.cons a .nil)))) :=
  pe_weak (pe_cmp (pc_notN ha) rfl) fun σ H Q h => one_op (op_red ok h)
theorem tt_isN {p : Bool} {a : A} {x : Expr} {j pos' pos} (ok : OpOk C cx .isN (rr1 rIsN)) (ha : PE C x (TO C.K cx p (evA G a))) : PT C (.Compare x [.Is] [.Constant .none j pos'] pos) (TB C.K cx (p && true) (evT G (.op .isN (.cons a .nil)))) :=
  pt_weak (pt_cmp (pc_isN ha) rfl) fun σ H Q h => one_op (opt_red ok h)
theorem tt_notN {p : Bool} {a : A} {x : Expr} {j pos' pos} (ok : OpOk C cx .notN (rr1 rNotN)) (ha : PE C x (TO C.K cx p (evA G a))) : PT C (.Compare x [.IsNot] [.Constant .none j pos'] pos) (TB C.K cx (p && true) (evT G (.op .notN (.cons a .nil)))) :=
  pt_weak (pt_cmp (pc_notN ha) rfl) fun σ H Q h => one_op (opt_red ok h)
theorem te_callB {id : String} {r : List V → Hp → VK → Prop} {o : Op} {p : Bool} {as : As} {x : Str} {pn pos : Pos} (hc : CallR C (.builtin id) r) (ok : OpOk C cx o r) (hg : Gl C x) (hm : C.mg x = none) (hv : bootBuiltins x = some (.builtin id)) (ha : PA C (e :: es) (TAs C.K cx p (evAs G as))) (hn : x ≠ "__name__") (hdb : (x == ("__debug__" : Str)) = false)
    (he : starEach (e :: es) C.env = (false, eval e C.env) :: starEach es C.env) (hpl : (backTo pos (starEach es C.env)).any (·.1) = false) :
    PE C (.Call (.Name x pn) (e :: es) [] pos) (TX C.K cx p (evE G (.op o as))) := pe_weak (pe_callB hc hg hm hv ha hn hdb he hpl) fun σ H Q h => op_red ok h
theorem te_callTy {id : String} {r : List V → Hp → VK → Prop} {o : Op} {p : Bool} {as : As} {x : Str} {pn pos : Pos} (hc : CallR C (.type id) r) (ok : OpOk C cx o r) (hg : Gl C x) (hm : C.mg x = none) (hv : bootBuiltins x = some (.type id)) (ha : PA C (e :: es) (TAs C.K cx p (evAs G as))) (hn : x ≠ "__name__") (hdb : (x == ("__debug__" : Str)) = false)
    (he : starEach (e :: es) C.env = (false, eval e C.env) :: starEach es C.env) (hpl : (backTo pos (starEach es C.env)).any (·.1) = false) :
    PE C (.Call (.Name x pn) (e :: es) [] pos) (TX C.K cx p (evE G (.op o as))) := pe_weak (pe_callTy hc hg hm hv ha hn hdb he hpl) fun σ H Q h => op_red ok h
end
end TT

/-! A6: more expressions: truth, chains, displays, locking. -/
namespace TT
open PySem PySem.Spec PyProof.Rows L2
section
variable {K : PySem.W.Frag} {cx : List Cls1} {σ : L2.St} {H H1 H2 : Hp} {ρ ρ1 ρ2 : TT.Env} {φ φ1 φ2 : Nat → Foot} {p q : Bool} {T T1 T2 : Foot}
theorem Post.weak (a : Post K cx σ H ρ φ p H1 ρ1 φ1 T) (k : q = true → p = true) : Post K cx σ H ρ φ q H1 ρ1 φ1 T := ⟨a.rep, a.mt, a.dj, a.fr, a.s1, a.s2, fun e => a.pure (k e)⟩
theorem Post.same (a : Post K cx σ H ρ φ p H1 ρ1 φ1 T) (s : Same H1 H2) : Post K cx σ H ρ φ p H2 ρ1 φ1 T := by
  refine ⟨a.rep.same s, fun c z => ?_, a.dj, fun c o h n => s _ _ (a.fr c o h n), a.s1, a.s2, fun e => ?_⟩
  · have m := a.mt c z
    cases e : H1 c with
    | none => rw [e] at m; exact m.elim
    | some o =>
      rw [e] at m
      rw [s c o e]
      exact m
  · obtain ⟨h1, h2, h3⟩ := a.pure e
    exact ⟨h1.trans s, h2, h3⟩
theorem same_imm (s : Same H H1) : ImmK H H1 := fun c o _ h => s c o h
theorem same_at (s : Same H H1) (m : MutF T H) : ∀ c, T c → H1 c = H c := fun c z => by
  have w := m c z
  cases e : H c with
  | none => rw [e] at w; exact w.elim
  | some o => exact s c o e
theorem HRep.same {v : V} {h : Hd} (r : HRep K cx σ H v h T) (s : Same H H1) (m : MutF T H) : HRep K cx σ H1 v h T := r.keep (same_imm s) (same_at s m) fun _ _ z => z.same s
/-- what has been made stands behind a further piece -/
theorem HRep.seq {v : V} {h : Hd} (R : RepE K cx σ H ρ φ) (a : Post K cx σ H ρ φ p H1 ρ1 φ1 T1) (b : Post K cx σ H1 ρ1 φ1 q H2 ρ2 φ2 T2) (r : HRep K cx σ H1 v h T1) (hf : ∀ pl, h = .p pl → pl.fs ≠ [] → q = true) : HRep K cx σ H2 v h T1 := by
  obtain ⟨_, _, st, ki⟩ := Post.seq R a b
  refine r.keep ki st fun pl e pa => ?_
  cases hfs : pl.fs with
  | nil =>
    obtain ⟨u, hu, r⟩ := pa
    refine ⟨u, hu, ?_⟩
    rw [hfs] at r ⊢
    exact r
  | cons g gs => exact pa.same (b.pure (hf pl e (by rw [hfs]; simp))).1
theorem hd_of {G : Nat → DF} {a : A} {h : Hd} (e : evA G a ρ = some (h, ρ1)) {pl : Pl} (hp : h = .p pl) : a = .p pl ∧ ρ1 = ρ := by
  cases a with
  | e e' =>
    have e : ((evE G e' ρ).bind fun x => some (Hd.x x.1, x.2)) = some (h, ρ1) := e
    simp only [Option.bind_eq_some_iff, Option.some.injEq, Prod.mk.injEq] at e
    obtain ⟨_, _, e3, _⟩ := e
    rw [← e3] at hp
    cases hp
  | p p' =>
    have e : ((getPl ρ p').bind fun _ => some (Hd.p p', ρ)) = some (h, ρ1) := e
    simp only [Option.bind_eq_some_iff, Option.some.injEq, Prod.mk.injEq] at e
    obtain ⟨_, _, e3, e4⟩ := e
    rw [← e3] at hp
    cases hp
    exact ⟨rfl, e4.symm⟩
theorem fld_of {G : Nat → DF} {a : A} {h : Hd} (e : evA G a ρ = some (h, ρ1)) (hq : fldA a = true → q = true) : ∀ pl, h = .p pl → pl.fs ≠ [] → q = true := fun pl hp hn => by
  obtain ⟨rfl, _⟩ := hd_of e hp
  refine hq ?_
  show (!pl.fs.isEmpty) = true
  cases h : pl.fs with
  | nil => exact absurd h hn
  | cons _ _ => rfl
theorem bool_of {x : X} {k : Bool} (e : boolD x = some k) : x = .d (.bool k) := by
  cases x with
  | d x => cases x <;> simp [boolD] at e; subst e; rfl
  | _ => simp [boolD] at e
theorem rep_bool {v : V} {k : Bool} (r : RepX K cx H v (.d (.bool k)) T) : v = .bl k := by
  cases r with
  | d h => cases h; rfl
theorem rep_int {v : V} {k : Int} (r : RepX K cx H v (.d (.int k)) T) : v = .int k := by
  cases r with
  | d h => cases h; rfl
theorem int_of {x : X} {k : Int} (e : intD x = some k) : x = .d (.int k) := by
  cases x with
  | d x => cases x <;> simp [intD] at e; subst e; rfl
  | _ => simp [intD] at e
end

section
variable {C : Cx} {cx : List Cls1} {G : Nat → DF} {e a b : Expr} {es rest : List Expr} {p q : Bool} {pos : Pos}
/-- two pieces in a row, the second behind a decision -/
theorem tx_seq {σ : L2.St} {H : Hp} {Q : VK} {p q pq : Bool} (hpq : pq = true → p = true ∧ q = true) {ρ : TT.Env} {φ : Nat → Foot} {r : X} {ρ1 ρ2 : TT.Env} {φ1 : Nat → Foot} {H1 : Hp} {T1 : Foot} {m : TT.Env → Option (X × TT.Env)} (R : RepE C.K cx σ H ρ φ) (P : Post C.K cx σ H ρ φ p H1 ρ1 φ1 T1)
    (hm : m ρ1 = some (r, ρ2)) (k : ∀ v H' φ' T, Post C.K cx σ H ρ φ pq H' ρ2 φ' T → RepX C.K cx H' v r T → Q v H') : TX C.K cx q m σ H1 Q :=
  ⟨ρ1, φ1, r, ρ2, P.rep, hm, fun v H2 φ2 T2 P2 r2 => k v H2 φ2 T2 (((Post.seq R P P2).1.less fun c z => .inr z).weak fun e => by
    obtain ⟨h1, h2⟩ := hpq e
    rw [h1, h2] <;> rfl) r2⟩
theorem tb_seq {σ : L2.St} {H : Hp} {Q : Bool → Hp → Prop} {p q pq : Bool} (hpq : pq = true → p = true ∧ q = true) {ρ : TT.Env} {φ : Nat → Foot} {r : Bool} {ρ1 ρ2 : TT.Env} {φ1 : Nat → Foot} {H1 : Hp} {T1 : Foot} {m : TT.Env → Option (Bool × TT.Env)} (R : RepE C.K cx σ H ρ φ) (P : Post C.K cx σ H ρ φ p H1 ρ1 φ1 T1)
    (hm : m ρ1 = some (r, ρ2)) (k : ∀ H' φ' T, Post C.K cx σ H ρ φ pq H' ρ2 φ' T → Q r H') : TB C.K cx q m σ H1 Q :=
  ⟨ρ1, φ1, r, ρ2, P.rep, hm, fun H2 φ2 T2 P2 => k H2 φ2 T2 (((Post.seq R P P2).1.less fun c z => .inr z).weak fun e => by
    obtain ⟨h1, h2⟩ := hpq e
    rw [h1, h2] <;> rfl)⟩
theorem band {p q : Bool} : (p && q) = true → p = true ∧ q = true := fun h => Bool.and_eq_true_iff.mp h
theorem te_and {x y : E} (ha : PE C a (TX C.K cx p (evE G x))) (hb : PE C (.BoolOp .And (b :: rest) pos) (TX C.K cx q (evE G y))) : PE C (.BoolOp .And (a :: b :: rest) pos) (TX C.K cx (p && q) (evE G (.and_ x y))) :=
  pe_weak (pe_and ha hb) fun σ H Q ⟨ρ, φ, r, ρ', R, hm, k⟩ => by
    have hm : ((evE G x ρ).bind fun z => (boolD z.1).bind fun k => if k then evE G y z.2 else some (X.d (.bool false), z.2)) = some (r, ρ') := hm
    simp only [Option.bind_eq_some_iff] at hm
    obtain ⟨⟨z, ρ1⟩, e1, c, e2, e3⟩ := hm
    have ez : z = _ := bool_of e2
    subst ez
    refine ⟨ρ, φ, _, ρ1, R, e1, fun v H1 φ1 T1 P1 r1 => ⟨c, rep_bool r1, ?_⟩⟩
    cases c with
    | true => exact tx_seq band R P1 (by simpa using e3) k
    | false =>
      have e3 : some (X.d (.bool false), ρ1) = some (r, ρ') := by simpa using e3
      cases e3
      exact k (.bl false) H1 φ1 noF ((P1.less fun c z => z.elim).weak fun e => (band e).1) (.d (.bl false))
theorem te_or {x y : E} (ha : PE C a (TX C.K cx p (evE G x))) (hb : PE C (.BoolOp .Or (b :: rest) pos) (TX C.K cx q (evE G y))) : PE C (.BoolOp .Or (a :: b :: rest) pos) (TX C.K cx (p && q) (evE G (.or_ x y))) :=
  pe_weak (pe_or ha hb) fun σ H Q ⟨ρ, φ, r, ρ', R, hm, k⟩ => by
    have hm : ((evE G x ρ).bind fun z => (boolD z.1).bind fun k => if k then some (X.d (.bool true), z.2) else evE G y z.2) = some (r, ρ') := hm
    simp only [Option.bind_eq_some_iff] at hm
    obtain ⟨⟨z, ρ1⟩, e1, c, e2, e3⟩ := hm
    have ez : z = _ := bool_of e2
    subst ez
    refine ⟨ρ, φ, _, ρ1, R, e1, fun v H1 φ1 T1 P1 r1 => ⟨c, rep_bool r1, ?_⟩⟩
    cases c with
    | false => exact tx_seq band R P1 (by simpa using e3) k
    | true =>
      have e3 : some (X.d (.bool true), ρ1) = some (r, ρ') := by simpa using e3
      cases e3
      exact k (.bl true) H1 φ1 noF ((P1.less fun c z => z.elim).weak fun e => (band e).1) (.d (.bl true))
theorem te_not {x : E} (ha : PE C a (TX C.K cx p (evE G x))) : PE C (.UnaryOp .Not a pos) (TX C.K cx p (evE G (.not_ x))) :=
  pe_weak (pe_not ha) fun σ H Q ⟨ρ, φ, r, ρ', R, hm, k⟩ => by
    have hm : ((evE G x ρ).bind fun z => (boolD z.1).bind fun k => some (X.d (.bool (!k)), z.2)) = some (r, ρ') := hm
    simp only [Option.bind_eq_some_iff, Option.some.injEq, Prod.mk.injEq] at hm
    obtain ⟨⟨z, ρ1⟩, e1, c, e2, rfl, rfl⟩ := hm
    have ez : z = _ := bool_of e2
    subst ez
    exact ⟨ρ, φ, _, ρ1, R, e1, fun v H1 φ1 T1 P1 r1 => ⟨c, rep_bool r1, k _ H1 φ1 noF (P1.less fun c z => z.elim) (.d (.bl _))⟩⟩
theorem tt_and {x y : T} (ha : PT C a (TB C.K cx p (evT G x))) (hb : PW C (.BoolOp .And (b :: rest) pos) (TB C.K cx q (evT G y))) : PW C (.BoolOp .And (a :: b :: rest) pos) (TB C.K cx (p && q) (evT G (.and_ x y))) :=
  pw_weak (pw_and ha hb) fun σ H Q ⟨ρ, φ, r, ρ', R, hm, k⟩ => by
    have hm : ((evT G x ρ).bind fun z => if z.1 then evT G y z.2 else some (false, z.2)) = some (r, ρ') := hm
    simp only [Option.bind_eq_some_iff] at hm
    obtain ⟨⟨c, ρ1⟩, e1, e3⟩ := hm
    refine ⟨ρ, φ, c, ρ1, R, e1, fun H1 φ1 T1 P1 => ?_⟩
    cases c with
    | true => exact tb_seq band R P1 (by simpa using e3) k
    | false =>
      have e3 : some (false, ρ1) = some (r, ρ') := by simpa using e3
      cases e3
      exact k H1 φ1 T1 (P1.weak fun e => (band e).1)
theorem tt_or {x y : T} (ha : PT C a (TB C.K cx p (evT G x))) (hb : PW C (.BoolOp .Or (b :: rest) pos) (TB C.K cx q (evT G y))) : PW C (.BoolOp .Or (a :: b :: rest) pos) (TB C.K cx (p && q) (evT G (.or_ x y))) :=
  pw_weak (pw_or ha hb) fun σ H Q ⟨ρ, φ, r, ρ', R, hm, k⟩ => by
    have hm : ((evT G x ρ).bind fun z => if z.1 then some (true, z.2) else evT G y z.2) = some (r, ρ') := hm
    simp only [Option.bind_eq_some_iff] at hm
    obtain ⟨⟨c, ρ1⟩, e1, e3⟩ := hm
    refine ⟨ρ, φ, c, ρ1, R, e1, fun H1 φ1 T1 P1 => ?_⟩
    cases c with
    | false => exact tb_seq band R P1 (by simpa using e3) k
    | true =>
      have e3 : some (true, ρ1) = some (r, ρ') := by simpa using e3
      cases e3
      exact k H1 φ1 T1 (P1.weak fun e => (band e).1)
theorem tt_not {x : T} (ha : PT C a (TB C.K cx p (evT G x))) : PT C (.UnaryOp .Not a pos) (TB C.K cx p (evT G (.not_ x))) :=
  pt_weak (pt_not ha) fun σ H Q ⟨ρ, φ, r, ρ', R, hm, k⟩ => by
    have hm : ((evT G x ρ).bind fun z => some (!z.1, z.2)) = some (r, ρ') := hm
    simp only [Option.bind_eq_some_iff, Option.some.injEq, Prod.mk.injEq] at hm
    obtain ⟨⟨c, ρ1⟩, e1, rfl, rfl⟩ := hm
    exact ⟨ρ, φ, c, ρ1, R, e1, fun H1 φ1 T1 P1 => k H1 φ1 T1 P1⟩
theorem te_if {t : T} {x y : E} {c : Expr} {s : Bool} (hc : PT C c (TB C.K cx s (evT G t))) (ha : PE C a (TX C.K cx p (evE G x))) (hb : PE C b (TX C.K cx q (evE G y))) : PE C (.IfExp c a b pos) (TX C.K cx (s && (p && q)) (evE G (.ifx t x y))) :=
  pe_weak (pe_ifExp hc ha hb) fun σ H Q ⟨ρ, φ, r, ρ', R, hm, k⟩ => by
    have hm : ((evT G t ρ).bind fun z => if z.1 then evE G x z.2 else evE G y z.2) = some (r, ρ') := hm
    simp only [Option.bind_eq_some_iff] at hm
    obtain ⟨⟨c, ρ1⟩, e1, e3⟩ := hm
    refine ⟨ρ, φ, c, ρ1, R, e1, fun H1 φ1 T1 P1 => ?_⟩
    cases c with
    | true => exact tx_seq (fun e => ⟨(band e).1, (band (band e).2).1⟩) R P1 (by simpa using e3) k
    | false => exact tx_seq (fun e => ⟨(band e).1, (band (band e).2).2⟩) R P1 (by simpa using e3) k

/-! ### truth of a value -/
theorem tru_of {H : Hp} {v : V} {d : D} {k : Bool} (h : DV C.K H v d) (e : truD d = some k) : TruV C.K v H k := by
  cases h with
  | non => simp [truD] at e; subst e; rfl
  | bl b => simp [truD] at e; subst e; rfl
  | int i => simp [truD] at e; subst e; rfl
  | str x =>
    simp only [truD, Option.ite_none_right_eq_some, Option.some.injEq] at e
    obtain ⟨h1, rfl⟩ := e
    refine ⟨of_decide_eq_true h1, ?_⟩
    show (x.length != 0) = ((x.length : Int) != 0)
    cases x.length <;> rfl
  | lst hl hs =>
    rename_i a vs ds
    have e : some (!ds.isEmpty) = some k := e
    cases e
    refine .inl ⟨vs, hl, ?_⟩
    have n := hs.length
    cases vs <;> cases ds <;> first | rfl | simp at n
  | tup ht hs =>
    rename_i a vs ds
    have e : some (!ds.isEmpty) = some k := e
    cases e
    refine .inr (.inl ⟨vs, SqT.of ht, ?_⟩)
    have n := hs.length
    cases vs <;> cases ds <;> first | rfl | simp at n
  | dK _ _ => simp [truD] at e
  | dT _ _ _ => simp [truD] at e
theorem tt_tr {x : A} (ha : PE C a (TO C.K cx p (evA G x))) (he : ∀ whole, isTrue a C.env whole = (do let v ← whole; standAt a.pos; holding [v] (truthy v))) : PT C a (TB C.K cx p (evT G (.tr x))) :=
  pt_weak (pt_truth ha he) fun σ H Q ⟨ρ, φ, r, ρ', R, hm, k⟩ => by
    have hm : ((evA G x ρ).bind fun z => (resolve z.2 z.1).bind fun x => (dat1 x).bind fun d => (truD d).bind fun k => some (k, z.2)) = some (r, ρ') := hm
    simp only [Option.bind_eq_some_iff, Option.some.injEq, Prod.mk.injEq] at hm
    obtain ⟨⟨h, ρ1⟩, e1, y, e2, d, e3, c, e4, rfl, rfl⟩ := hm
    refine ⟨ρ, φ, h, ρ1, R, e1, fun v H1 φ1 T1 P1 r1 => ⟨c, ?_, k H1 φ1 T1 P1⟩⟩
    obtain ⟨F, rx, _⟩ := r1.rep P1.rep e2
    exact tru_of (rx.dv e3) e4

/-! ### a op b op c -/
theorem chain_read {op op' : CmpOp} {r r' : R2} {o1 o2 : Op} (ok1 : OpOk C cx o1 (rr2 r)) (ok2 : OpOk C cx o2 (rr2 r')) {x y z : A} {s : Bool} (h1 : fldA x = true → q = true) (h2 : fldA y = true → s = true) {σ : L2.St} {H : Hp} {Q : VK}
    (hm : TX C.K cx (p && (q && s)) (evE G (.chain o1 o2 x y z)) σ H Q) : tChain r r' (TO C.K cx p (evA G x)) (TO C.K cx q (evA G y)) (TO C.K cx s (evA G z)) σ H Q := by
  obtain ⟨ρ, φ, w, ρ', R, hm, k⟩ := hm
  have hm : ((evA G x ρ).bind fun a1 => (evA G y a1.2).bind fun a2 => (resolve a2.2 a1.1).bind fun u => (resolve a2.2 a2.1).bind fun v => (datAll [u, v]).bind fun ds => (opF o1 ds).bind fun t => (boolD t).bind fun c =>
    if c then (evA G z a2.2).bind fun a3 => (resolve a3.2 a2.1).bind fun v => (resolve a3.2 a3.1).bind fun w => (datAll [v, w]).bind fun ds => (opF o2 ds).bind fun t => some (t, a3.2) else some (X.d (.bool false), a2.2)) = some (w, ρ') := hm
  simp only [Option.bind_eq_some_iff] at hm
  obtain ⟨⟨g1, ρ1⟩, e1, ⟨g2, ρ2⟩, e2, u, e3, v, e4, ds, e5, t, e6, c, e7, e8⟩ := hm
  refine ⟨ρ, φ, g1, ρ1, R, e1, fun v1 H1 φ1 T1 P1 r1 => ⟨ρ1, φ1, g2, ρ2, P1.rep, e2, fun v2 H2 φ2 T2 P2 r2 => ?_⟩⟩
  have r1' := HRep.seq R P1 P2 r1 (fld_of e1 h1)
  obtain ⟨P12, d12, _, _⟩ := Post.seq R P1 P2
  obtain ⟨F1, x1, _⟩ := r1'.rep P12.rep e3
  obtain ⟨F2, x2, _⟩ := r2.rep P12.rep e4
  have dv : DVs C.K H2 [v1, v2] ds := RepL.dvs (.cons x1 (.cons x2 .nil)) e5
  refine ok1 H2 [v1, v2] ds t (fun z H3 => ∃ k, z = V.bl k ∧ (if k = true then TO C.K cx s (evA G _) σ H3 fun w' H4 => r' v2 w' H4 Q else Q (.bl false) H3)) dv e6 (fun w3 H3 T3 sm rx m n => ?_) v1 v2 rfl
  rw [bool_of e7] at rx
  refine ⟨c, rep_bool rx, ?_⟩
  have P3 := P12.same sm
  cases c with
  | false =>
    have e8 : some (X.d (.bool false), ρ2) = some (w, ρ') := by simpa using e8
    cases e8
    rw [if_neg Bool.false_ne_true]
    exact k (.bl false) H3 φ2 noF ((P3.less fun c z => z.elim).weak fun e => by
      obtain ⟨a1, a2⟩ := band e
      rw [a1, (band a2).1] <;> rfl) (.d (.bl false))
  | true =>
    rw [if_pos rfl] at e8 ⊢
    simp only [Option.bind_eq_some_iff, Option.some.injEq, Prod.mk.injEq] at e8
    obtain ⟨⟨g3, ρ3⟩, f1, v', f2, w', f3, ds', f4, t', f5, rfl, rfl⟩ := e8
    refine ⟨ρ2, φ2, g3, ρ3, P3.rep, f1, fun v3 H4 φ4 T4 P4 r3 => ?_⟩
    have r2' : HRep C.K cx σ H3 v2 g2 T2 := r2.same sm P2.mt
    have P2' : Post C.K cx σ H1 ρ1 φ1 q H3 ρ2 φ2 T2 := P2.same sm
    have r2'' := HRep.seq P1.rep P2' P4 r2' (fld_of e2 h2)
    obtain ⟨P34, _, _, _⟩ := Post.seq R P3 P4
    obtain ⟨F2, y2, _⟩ := r2''.rep P34.rep f2
    obtain ⟨F3, y3, _⟩ := r3.rep P34.rep f3
    have dv' : DVs C.K H4 [v2, v3] ds' := RepL.dvs (.cons y2 (.cons y3 .nil)) f4
    refine ok2 H4 [v2, v3] ds' t' Q dv' f5 (fun w5 H5 T5 sm' rx' m' n' => ?_) v2 v3 rfl
    exact k w5 H5 φ4 T5 ((P34.new sm' m' n' R).weak fun e => by
      obtain ⟨a1, a2⟩ := band e
      obtain ⟨a3, a4⟩ := band a2
      rw [a1, a3, a4] <;> rfl) rx'
theorem te_chain {op op' : CmpOp} {r r' : R2} {o1 o2 : Op} {x y z : A} {s : Bool} {c : Expr} (ho : OpR C (compareOp op) r) (ho' : OpR C (compareOp op') r') (ok1 : OpOk C cx o1 (rr2 r)) (ok2 : OpOk C cx o2 (rr2 r')) (h1 : fldA x = true → q = true) (h2 : fldA y = true → s = true)
    (ha : PE C a (TO C.K cx p (evA G x))) (hb : PE C b (TO C.K cx q (evA G y))) (hc : PE C c (TO C.K cx s (evA G z))) (hm : lastMarks [op, op'] [b, c] = false) : PE C (.Compare a [op, op'] [b, c] pos) (TX C.K cx (p && (q && s)) (evE G (.chain o1 o2 x y z))) :=
  pe_weak (pe_chain ho ho' ha hb hc hm) fun σ H Q h => chain_read (op := op) (op' := op') ok1 ok2 h1 h2 h
theorem chain_tb {o1 o2 : Op} {x y z : A} {σ : L2.St} {H : Hp} {Q : Bool → Hp → Prop} (h : TB C.K cx p (evT G (.chain o1 o2 x y z)) σ H Q) : TX C.K cx p (evE G (.chain o1 o2 x y z)) σ H fun x H' => ∃ k, x = .bl k ∧ Q k H' := by
  obtain ⟨ρ, φ, w, ρ', R, hm, k⟩ := h
  have hm : ((evA G x ρ).bind fun a1 => (evA G y a1.2).bind fun a2 => (resolve a2.2 a1.1).bind fun u => (resolve a2.2 a2.1).bind fun v => (datAll [u, v]).bind fun ds => (opF o1 ds).bind fun t => (boolD t).bind fun c =>
    if c then (evA G z a2.2).bind fun a3 => (resolve a3.2 a2.1).bind fun v => (resolve a3.2 a3.1).bind fun w => (datAll [v, w]).bind fun ds => (opF o2 ds).bind fun t => (boolD t).bind fun k => some (k, a3.2) else some (false, a2.2)) = some (w, ρ') := hm
  refine ⟨ρ, φ, .d (.bool w), ρ', R, ?_, fun v H' φ' T P r => ⟨w, rep_bool r, k H' φ' T P⟩⟩
  show ((evA G x ρ).bind fun a1 => (evA G y a1.2).bind fun a2 => (resolve a2.2 a1.1).bind fun u => (resolve a2.2 a2.1).bind fun v => (datAll [u, v]).bind fun ds => (opF o1 ds).bind fun t => (boolD t).bind fun c =>
    if c then (evA G z a2.2).bind fun a3 => (resolve a3.2 a2.1).bind fun v => (resolve a3.2 a3.1).bind fun w => (datAll [v, w]).bind fun ds => (opF o2 ds).bind fun t => some (t, a3.2) else some (X.d (.bool false), a2.2)) = some (X.d (.bool w), ρ')
  simp only [Option.bind_eq_some_iff] at hm ⊢
  obtain ⟨a1, e1, a2, e2, u, e3, v, e4, ds, e5, t, e6, c, e7, e8⟩ := hm
  refine ⟨a1, e1, a2, e2, u, e3, v, e4, ds, e5, t, e6, c, e7, ?_⟩
  cases c with
  | false =>
    have e8 : some (false, a2.2) = some (w, ρ') := by simpa using e8
    cases e8
    rfl
  | true =>
    rw [if_pos rfl] at e8 ⊢
    simp only [Option.bind_eq_some_iff, Option.some.injEq, Prod.mk.injEq] at e8 ⊢
    obtain ⟨a3, f1, v', f2, w', f3, ds', f4, t', f5, k', f6, rfl, rfl⟩ := e8
    exact ⟨a3, f1, v', f2, w', f3, ds', f4, t', f5, bool_of f6, rfl⟩
theorem tt_chain {op op' : CmpOp} {r r' : R2} {o1 o2 : Op} {x y z : A} {s : Bool} {c : Expr} (ho : OpR C (compareOp op) r) (ho' : OpR C (compareOp op') r') (ok1 : OpOk C cx o1 (rr2 r)) (ok2 : OpOk C cx o2 (rr2 r')) (h1 : fldA x = true → q = true) (h2 : fldA y = true → s = true)
    (ha : PE C a (TO C.K cx p (evA G x))) (hb : PE C b (TO C.K cx q (evA G y))) (hc : PE C c (TO C.K cx s (evA G z))) (hm : lastMarks [op, op'] [b, c] = false) : PT C (.Compare a [op, op'] [b, c] pos) (TB C.K cx (p && (q && s)) (evT G (.chain o1 o2 x y z))) :=
  pt_weak (pt_chain ho ho' ha hb hc hm) fun σ H Q h => chain_read (op := op) (op' := op') ok1 ok2 h1 h2 (chain_tb h)
end
end TT

/-! A7: displays, locking, calls of defs. -/
namespace TT
open PySem PySem.Spec PyProof.Rows L2

/-! ### displays -/
section
variable {K : PySem.W.Frag} {cx : List Cls1} {σ : L2.St} {H H1 : Hp} {ρ ρ1 : TT.Env} {φ φ1 : Nat → Foot} {p q : Bool} {T : Foot}
theorem tmp_reps : ∀ {vs : List V} {hs : List Hd} {xs : List X} {T : Foot}, HReps K cx σ H vs hs T → tmpAll hs = some xs → RepXs K cx H vs xs T
  | _, _, xs, _, .nil, e => by
    simp only [tmpAll, Option.some.injEq] at e
    subst e
    exact .nil
  | _, _, xs, _, .cons (h := h) hr hrs d s1 s2, e => by
    cases h with
    | x x =>
      simp only [tmpAll, Option.map_eq_some_iff] at e
      obtain ⟨ys, e1, rfl⟩ := e
      exact .cons hr (tmp_reps hrs e1) d s1 s2
    | p p => simp [tmpAll] at e
theorem foot_or {T : Foot} {a : Addr} {c : Addr} (h : (fun c => T c ∨ c = a) c) : T c ∨ c = a := h
end
section
variable {C : Cx} {cx : List Cls1} {G : Nat → DF} {e a b : Expr} {es rest : List Expr} {p q : Bool} {pos : Pos}
theorem te_tup {as : As} {k : Nat} (ha : PA C es (TAs C.K cx p (evAs G as))) : PE C (.Tuple es k pos) (TX C.K cx p (evE G (.tup as))) :=
  pe_weak (pe_tup ha) fun σ H Q ⟨ρ, φ, r, ρ', R, hm, q⟩ => by
    have hm : ((evAs G as ρ).bind fun z => (tmpAll z.1).bind fun xs => if xs.length ≤ sizeLine then (match allD xs with
      | some ds => some (X.d (.tuple ds), z.2)
      | none => some (X.tup xs, z.2)) else none) = some (r, ρ') := hm
    simp only [Option.bind_eq_some_iff, Option.ite_none_right_eq_some] at hm
    obtain ⟨⟨hs, ρ1⟩, e1, xs, e2, hl, e3⟩ := hm
    refine ⟨ρ, φ, hs, ρ1, R, e1, fun vs H1 φ1 T P hr => ?_⟩
    have rs := tmp_reps hr e2
    refine ⟨by rw [RepXs.length (F := noF) rs]; exact hl, fun t ht => ?_⟩
    have sm : Same H1 (upd H1 t (.tup vs)) := fun c o h => by
      rw [upd_ne (ne_of_none h ht)]
      exact h
    have P2 := P.same sm
    have rs2 : RepXs C.K cx (upd H1 t (.tup vs)) vs xs T := rs.keep (same_imm sm) (same_at sm P.mt)
    cases e4 : allD xs with
    | none =>
      rw [e4] at e3
      cases e3
      exact q (.ref t) _ φ1 T P2 (.tup upd_same rs2)
    | some ds =>
      rw [e4] at e3
      cases e3
      rw [allD_eq e4] at rs2
      exact q (.ref t) _ φ1 T P2 (.d (.tup upd_same rs2.dis))
theorem te_lst {as : As} (ha : PA C es (TAs C.K cx p (evAs G as))) : PE C (.List es pos) (TX C.K cx p (evE G (.lst as))) :=
  pe_weak (pe_lst ha) fun σ H Q ⟨ρ, φ, r, ρ', R, hm, q⟩ => by
    have hm : ((evAs G as ρ).bind fun z => (tmpAll z.1).bind fun xs => if xs.length ≤ sizeLine then some (X.lst xs, z.2) else none) = some (r, ρ') := hm
    simp only [Option.bind_eq_some_iff, Option.ite_none_right_eq_some, Option.some.injEq, Prod.mk.injEq] at hm
    obtain ⟨⟨hs, ρ1⟩, e1, xs, e2, hl, rfl, rfl⟩ := hm
    refine ⟨ρ, φ, hs, ρ1, R, e1, fun vs H1 φ1 T P hr => ?_⟩
    have rs := tmp_reps hr e2
    refine ⟨by rw [RepXs.length (F := noF) rs]; exact hl, fun t ht => ?_⟩
    have sm : Same H1 (upd H1 t (.lst vs)) := fun c o h => by
      rw [upd_ne (ne_of_none h ht)]
      exact h
    have P2 := P.same sm
    have rs2 : RepXs C.K cx (upd H1 t (.lst vs)) vs xs T := rs.keep (same_imm sm) (same_at sm P.mt)
    refine q (.ref t) _ φ1 (fun c => T c ∨ c = t) ⟨P2.rep, fun c z => ?_, fun c z f => ?_, P2.fr, P2.s1, fun c z => ?_, P2.pure⟩ (.lst upd_same (.inr rfl) (rs2.mono fun c z => ⟨.inl z, fun w => ?_⟩))
    · rcases z with z | rfl
      · exact P2.mt c z
      · rw [upd_same]
        trivial
    · rcases z with z | rfl
      · exact P2.dj c z f
      · have w := P.rep.mu _ f
        rw [ht] at w
        exact w
    · rcases z with z | rfl
      · exact P2.s2 c z
      · exact none_of_frame P.fr R.mu ht
    · subst w
      have w := P.mt _ z
      rw [ht] at w
      exact w

/-! ### locking -/
theorem RepE.stay {K : PySem.W.Frag} {σ : L2.St} {H H' : Hp} {ρ : TT.Env} {φ : Nat → Foot} (R : RepE K cx σ H ρ φ) (k : ImmK H H') (f : ∀ c, un φ c → H' c = H c) : RepE K cx σ H' ρ φ := by
  refine ⟨R.len, fun i x e => ?_, R.dj, fun c z => by rw [f c z]; exact R.mu c z⟩
  obtain ⟨v, e1, r⟩ := R.rep i x e
  exact ⟨v, e1, r.keep k fun c z => f c ⟨i, z⟩⟩
theorem te_frz {x : E} (ha : PE C e (TX C.K cx p (evE G x))) : PE C e (TX C.K cx p (evE G (.frz x))) := by
  refine ⟨fun pins s σ H Q I h => ?_⟩
  obtain ⟨ρ, φ, r, ρ', R, hm, q⟩ := h
  have hm : ((evE G x ρ).bind fun z => (datF z.1).bind fun d => some (X.d d, z.2)) = some (r, ρ') := hm
  simp only [Option.bind_eq_some_iff, Option.some.injEq, Prod.mk.injEq] at hm
  obtain ⟨⟨y, ρ1⟩, e1, d, e2, rfl, rfl⟩ := hm
  refine thn (ha.run pins s σ H (fun v H' => ∃ φ' T, Post C.K cx σ H ρ φ p H' ρ1 φ' T ∧ RepX C.K cx H' v y T) I ⟨ρ, φ, y, ρ1, R, e1, fun v H' φ' T P r => ⟨φ', T, P, r⟩⟩) fun u s1 ⟨v, H1, I1, rv, φ1, T, P, r1⟩ => ?_
  obtain ⟨H2, I2, di, lk⟩ := lock_all y v T d H1 I1 r1 P.mt e2
  refine ⟨v, H2, I2, rv, q v H2 φ1 noF ⟨P.rep.stay (lk.imm P.mt) fun c z => lk.out c fun w => P.dj c w z, fun c z => z.elim, fun c z => z.elim, fun c o h n => ?_, P.s1, fun c z => z.elim, fun ep => ?_⟩ (.d di)⟩
  · rw [lk.out c fun w => ?_]
    · exact P.fr c o h n
    · rcases P.s2 c w with z | z
      · exact n z
      · rw [h] at z; cases z
  · obtain ⟨h1, h2, h3⟩ := P.pure ep
    refine ⟨fun c o h => ?_, h2, h3⟩
    rw [lk.out c fun w => ?_]
    · exact h1 c o h
    · rcases P.s2 c w with z | z
      · exact P.dj c w (by rw [h3]; exact z)
      · rw [h] at z; cases z
theorem te_rf {i : Nat} (h : PE C e (tVar i)) : PE C e (TX C.K cx false (evE G (.rf i))) := by
  refine ⟨fun pins s σ H Q I hq => ?_⟩
  obtain ⟨ρ, φ, r, ρ', R, hm, q⟩ := hq
  have hm : ((ρ[i]?).join.bind fun x => (datF x).bind fun d => some (X.d d, ρ.set i (some (X.d d)))) = some (r, ρ') := hm
  simp only [Option.bind_eq_some_iff, Option.join_eq_some_iff, Option.some.injEq, Prod.mk.injEq] at hm
  obtain ⟨x, e1, d, e2, rfl, rfl⟩ := hm
  obtain ⟨v, hv, rx⟩ := R.rep _ _ e1
  refine thn (h.run pins s σ H (fun w H' => w = v ∧ H' = H) I ⟨v, hv, rfl, rfl⟩) fun u s1 ⟨w, H1, I1, rv, ew, eh⟩ => ?_
  subst ew eh
  obtain ⟨H2, I2, di, lk⟩ := lock_all x w (φ i) d H1 I1 rx (R.mui i) e2
  have ki := lk.imm (R.mui i)
  refine ⟨w, H2, I2, rv, q w H2 (setF φ i noF) noF ⟨R.put hv (.d di) ki (fun j hj c z => lk.out c fun y => hj (R.dj j i c z y)) (fun c z => z.elim) fun j hj c z => z.elim, fun c z => z.elim, fun c z => z.elim, fun c o h n => ?_, fun c z => ?_, fun c z => z.elim, fun z => nomatch z⟩ (.d di)⟩
  · rw [lk.out c fun y => n ⟨i, y⟩]
    exact h
  · rcases un_setF z with y | y
    · exact y.elim
    · exact .inl y
end

/-! ### a def's promise -/
def sel (vs : List V) (io : List Nat) : List V := io.map fun k => vs.getD k .non
def spF (K : PySem.W.Frag) (cx : List Cls1) (f : DF) (io : List Nat) : Sp := fun vs H Q _ => ∃ xs F, RepXs K cx H vs xs F ∧ MutF F H ∧ ∃ r ys, f xs = some (r, ys) ∧ ∀ v H' F', RepXs K cx H' (v :: sel vs io) (r :: ys) F' → MutF F' H' → Frame F H H' → Sub F' F H → Q v H'

section
variable {K : PySem.W.Frag} {cx : List Cls1} {σ : L2.St} {H H1 : Hp} {ρ ρ1 : TT.Env} {φ φ1 : Nat → Foot} {p q : Bool} {T : Foot}
/-- the slots of the places among the handles -/
def plS : List Hd → List Nat
  | [] => []
  | .x _ :: r => plS r
  | .p p :: r => p.i :: plS r
theorem okIo_out {io : List Nat} : ∀ {hs : List Hd} {k : Nat} {sl : List Nat}, okIo io hs k sl = true → ∀ i ∈ plS hs, i ∉ sl
  | [], _, _, _, i, h => nomatch h
  | .x _ :: r, k, sl, e, i, h => okIo_out (hs := r) (k := k + 1) (by simpa [okIo] using e) i h
  | .p p :: r, k, sl, e, i, h => by
    simp only [okIo, Bool.and_eq_true, Bool.not_eq_true', plS, List.mem_cons] at e h
    obtain ⟨⟨⟨_, _⟩, e1⟩, e2⟩ := e
    rcases h with rfl | h
    · exact fun z => by
        rw [List.contains_iff_mem.mpr z] at e1
        cases e1
    · exact fun z => okIo_out e2 i h (List.mem_cons_of_mem _ z)
theorem args_rep {io : List Nat} (R : RepE K cx σ H ρ φ) : ∀ {vs : List V} {hs : List Hd} {xs : List X} {T : Foot} {k : Nat} {sl : List Nat}, HReps K cx σ H vs hs T → Dj T (un φ) → okIo io hs k sl = true → resAll ρ hs = some xs →
    RepXs K cx H vs xs fun c => T c ∨ ∃ i ∈ plS hs, φ i c
  | _, _, xs, _, _, _, .nil, _, _, e => by
    simp only [resAll, Option.some.injEq] at e
    subst e
    exact .nil
  | _, _, xs, T, k, sl, .cons (h := h) (T1 := T1) (T2 := T2) hr hrs d s1 s2, dj, ok, e => by
    simp only [resAll, Option.bind_eq_some_iff, Option.map_eq_some_iff] at e
    obtain ⟨x, e1, ys, e2, rfl⟩ := e
    have dj2 : Dj T2 (un φ) := fun c z f => dj c (s2 c z) f
    cases h with
    | x y =>
      simp only [resolve, Option.some.injEq] at e1
      subst e1
      have ih := args_rep (k := k + 1) (sl := sl) R hrs dj2 (by simpa [okIo] using ok) e2
      refine .cons hr ih (fun c z w => ?_) (fun c z => .inl (s1 c z)) fun c z => ?_
      · rcases w with w | ⟨i, _, w⟩
        · exact d c z w
        · exact dj c (s1 c z) ⟨i, w⟩
      · rcases z with z | ⟨i, hi, z⟩
        · exact .inl (s2 c z)
        · exact .inr ⟨i, hi, z⟩
    | p pl =>
      rename_i hs0
      have ok' : okIo io hs0 (k + 1) (pl.i :: sl) = true := by
        simp only [okIo, Bool.and_eq_true] at ok
        exact ok.2
      have ih := args_rep R hrs dj2 ok' e2
      have rx := place_rep R hr e1
      refine .cons rx ih (fun c z w => ?_) (fun c z => .inr ⟨pl.i, List.mem_cons_self .., z⟩) fun c z => ?_
      · rcases w with w | ⟨i, hi, w⟩
        · exact dj c (s2 c w) ⟨_, z⟩
        · have e3 := R.dj pl.i i c z w
          subst e3
          exact okIo_out ok' _ hi (List.mem_cons_self ..)
      · rcases z with z | ⟨i, hi, z⟩
        · exact .inl (s2 c z)
        · exact .inr ⟨i, List.mem_cons_of_mem _ hi, z⟩
theorem clear_rep : ∀ {hs : List Hd} {ρ : TT.Env} {φ : Nat → Foot}, RepE K cx σ H ρ φ → ∃ φ', RepE K cx σ H (clearPl hs ρ) φ' ∧ (∀ c, un φ' c → un φ c) ∧ ∀ i ∈ plS hs, ∀ c, φ i c → ¬ un φ' c
  | [], ρ, φ, R => ⟨φ, R, fun _ z => z, fun i h => nomatch h⟩
  | .x _ :: r, ρ, φ, R => clear_rep (hs := r) R
  | .p p :: r, ρ, φ, R => by
    obtain ⟨φ', R', k, o⟩ := clear_rep (hs := r) (R.drop p.i)
    refine ⟨φ', R', fun c z => ?_, fun i hi c f z => ?_⟩
    · rcases un_setF (k c z) with y | y
      · exact y.elim
      · exact y
    · by_cases e : i = p.i
      · subst e
        obtain ⟨j, w⟩ := k c z
        by_cases h : j = p.i
        · subst h
          rw [setF_same] at w
          exact w
        · rw [setF_ne h] at w
          exact h (R.dj j p.i c w f)
      · have hi' : i ∈ plS r := by
          rcases List.mem_cons.mp hi with h | h
          · exact absurd h e
          · exact h
        exact o i hi' c (by rw [setF_ne e]; exact f) z
theorem hreps_at : ∀ {vs : List V} {hs : List Hd} {T : Foot} {k : Nat} {p : Pl}, HReps K cx σ H vs hs T → hs[k]? = some (.p p) → ∃ v, vs[k]? = some v ∧ PlAt σ H p v
  | _, _, _, _, _, .nil, e => by simp at e
  | _, _, _, 0, p, .cons hr _ _ _ _, e => by
    simp at e
    subst e
    exact ⟨_, rfl, hr⟩
  | _, _, _, k + 1, p, .cons _ hrs _ _ _, e => by
    obtain ⟨v, h1, h2⟩ := hreps_at (k := k) hrs (by simpa using e)
    exact ⟨v, by simpa using h1, h2⟩
theorem okIo_fs {io : List Nat} : ∀ {hs : List Hd} {k : Nat} {sl : List Nat} {j : Nat} {p : Pl}, okIo io hs k sl = true → hs[j]? = some (.p p) → p.fs = []
  | [], _, _, _, _, _, e => by simp at e
  | .x _ :: r, k, sl, 0, p, ok, e => by simp at e
  | .x _ :: r, k, sl, j + 1, p, ok, e => okIo_fs (hs := r) (k := k + 1) (sl := sl) (j := j) (by simpa [okIo] using ok) (by simpa using e)
  | .p q :: r, k, sl, 0, p, ok, e => by
    simp at e
    subst e
    simp only [okIo, Bool.and_eq_true, List.isEmpty_iff] at ok
    exact ok.1.1.1
  | .p q :: r, k, sl, j + 1, p, ok, e => by
    simp only [okIo, Bool.and_eq_true] at ok
    exact okIo_fs (j := j) ok.2 (by simpa using e)
/-- what comes back is put into its places -/
theorem back_rep {vs : List V} {hs : List Hd} (hpl : ∀ (k : Nat) (p : Pl), hs[k]? = some (Hd.p p) → ∃ v, vs[k]? = some v ∧ σ[p.i]? = some (some v)) : ∀ {io : List Nat} {ys : List X} {ρ ρ' : TT.Env} {φ : Nat → Foot} {F : Foot}, RepE K cx σ H ρ φ → RepXs K cx H (sel vs io) ys F → MutF F H → Dj F (un φ) →
    backIo hs io ys ρ = some ρ' → ∃ φ', RepE K cx σ H ρ' φ' ∧ ∀ c, un φ' c → un φ c ∨ F c
  | [], ys, ρ, ρ', φ, F, R, rs, m, d, e => by
    cases rs
    simp only [backIo, Option.some.injEq] at e
    subst e
    exact ⟨φ, R, fun c z => .inl z⟩
  | k :: io, ys, ρ, ρ', φ, F, R, rs, m, d, e => by
    cases rs with
    | cons r rs dj s1 s2 =>
      rename_i y ys F1 F2
      have m2 := m.mono s2
      cases eh : hs[k]? with
      | none => simp [backIo, eh] at e
      | some h =>
        cases h with
        | x x =>
          have e : backIo hs io ys ρ = some ρ' := by simpa [backIo, eh] using e
          obtain ⟨φ', R', kk⟩ := back_rep hpl R rs m2 (fun c z f => d c (s2 c z) f) e
          refine ⟨φ', R', fun c z => ?_⟩
          rcases kk c z with w | w
          · exact .inl w
          · exact .inr (s2 c w)
        | p p =>
          have e : backIo hs io ys (ρ.set p.i (some y)) = some ρ' := by simpa [backIo, eh] using e
          obtain ⟨v, hv, hσ⟩ := hpl k p eh
          have ev : vs.getD k .non = v := by simp [List.getD, hv]
          have r' : RepX K cx H v y F1 := by rw [← ev]; exact r
          have R2 : RepE K cx σ H (ρ.set p.i (some y)) (setF φ p.i F1) := R.put hσ r' (fun _ _ _ h => h) (fun _ _ _ _ => rfl) (m.mono s1) fun j hj c z f => d c (s1 c z) ⟨j, f⟩
          have dn : Dj F2 (un (setF φ p.i F1)) := fun c z f => by
            rcases un_setF f with u | u
            · exact dj c u z
            · exact d c (s2 c z) u
          obtain ⟨φ', R', kk⟩ := back_rep hpl R2 rs m2 dn e
          refine ⟨φ', R', fun c z => ?_⟩
          rcases kk c z with w | w
          · rcases un_setF w with u | u
            · exact .inr (s1 c u)
            · exact .inl u
          · exact .inr (s2 c w)
/-- a call: what the callee leaves, put back into the frame -/
theorem call_end {io : List Nat} {hs : List Hd} {vs : List V} {xs : List X} {ρ2 : TT.Env} {Hc : Hp} {r : X} {ys : List X} {v : V} {F' : Foot} {pp : Bool} (R : RepE K cx σ H ρ φ) (P : Post K cx σ H ρ φ p H1 ρ1 φ1 T) (hr : HReps K cx σ H1 vs hs T) (ok : okIo io hs 0 [] = true)
    (rs : RepXs K cx Hc (v :: sel vs io) (r :: ys) F') (m : MutF F' Hc) (fr : Frame (fun c => T c ∨ ∃ i ∈ plS hs, φ1 i c) H1 Hc) (sb : Sub F' (fun c => T c ∨ ∃ i ∈ plS hs, φ1 i c) H1)
    (eb : backIo hs io ys (clearPl hs ρ1) = some ρ2) (hpp : pp = true → p = true ∧ io = []) : ∃ φ2 T2, Post K cx σ H ρ φ pp Hc ρ2 φ2 T2 ∧ RepX K cx Hc v r T2 := by
  obtain ⟨φc, Rc, kc, oc⟩ := clear_rep (hs := hs) P.rep
  have mF : MutF (fun c => T c ∨ ∃ i ∈ plS hs, φ1 i c) H1 := fun c z => by
    rcases z with z | ⟨i, _, z⟩
    · exact P.mt c z
    · exact P.rep.mu c ⟨i, z⟩
  have djc : Dj (un φc) (fun c => T c ∨ ∃ i ∈ plS hs, φ1 i c) := fun c z w => by
    rcases w with w | ⟨i, hi, w⟩
    · exact P.dj c w (kc c z)
    · exact oc i hi c w z
  have Rc' : RepE K cx σ Hc (clearPl hs ρ1) φc := Rc.stay (fr.imm mF) (frame_at Rc.mu djc fr)
  have djF : Dj F' (un φc) := fun c z w => by
    rcases sb c z with u | u
    · exact djc c w u
    · have y := Rc.mu c w
      rw [u] at y
      exact y
  cases rs with
  | cons rv rs dj s1 s2 =>
    rename_i F1 F2
    obtain ⟨φ2, R2, k2⟩ := back_rep (vs := vs) (hs := hs) (fun k p e => by
      obtain ⟨v, h1, u, h2, h3⟩ := hreps_at hr e
      rw [okIo_fs ok e] at h3
      cases h3
      exact ⟨_, h1, h2⟩) Rc' rs (m.mono s2) (fun c z w => djF c (s2 c z) w) eb
    have back : ∀ c, F' c → un φ c ∨ H c = none := fun c z => by
      rcases sb c z with u | u
      · rcases u with u | ⟨i, _, u⟩
        · exact P.s2 c u
        · exact P.s1 c ⟨i, u⟩
      · exact none_of_frame P.fr R.mu u
    have P2 : Post K cx σ H ρ φ false Hc ρ2 φ2 F1 := by
      refine ⟨R2, m.mono s1, fun c z w => ?_, P.fr.trans fr fun c z => ?_, fun c z => ?_, fun c z => back c (s1 c z), fun e => nomatch e⟩
      · rcases k2 c w with u | u
        · exact djF c (s1 c z) u
        · exact dj c z u
      · rcases z with z | ⟨i, _, z⟩
        · exact P.s2 c z
        · exact P.s1 c ⟨i, z⟩
      · rcases k2 c z with u | u
        · exact P.s1 c (kc c u)
        · exact back c (s2 c u)
    cases pp with
    | false => exact ⟨φ2, F1, P2, rv⟩
    | true =>
      obtain ⟨hp, hio⟩ := hpp rfl
      subst hio
      obtain ⟨a1, a2, a3⟩ := P.pure hp
      have np : ∀ (hs : List Hd) (k : Nat) (sl : List Nat), okIo [] hs k sl = true → plS hs = [] ∧ ∀ ρ, clearPl hs ρ = ρ := by
        intro hs
        induction hs with
        | nil => exact fun _ _ _ => ⟨rfl, fun _ => rfl⟩
        | cons h t ih =>
          intro k sl o
          cases h with
          | x x => exact ih (k + 1) sl (by simpa [okIo] using o)
          | p p => simp [okIo] at o
      obtain ⟨n1, n2⟩ := np hs 0 [] ok
      cases rs
      simp only [backIo, Option.some.injEq] at eb
      rw [n2] at eb
      subst eb
      subst a2 a3
      have nT : ∀ c, T c → H c = none := fun c z => by
        rcases P.s2 c z with u | u
        · exact absurd u (P.dj c z)
        · exact u
      have sm : Same H Hc := fun c o h => by
        refine fr c o (a1 c o h) fun z => ?_
        rcases z with z | ⟨i, hi, _⟩
        · rw [nT c z] at h; cases h
        · rw [n1] at hi
          cases hi
      refine ⟨_, F1, ⟨R.same sm, m.mono s1, fun c z w => ?_, P2.fr, Sub.refl _ _, P2.s2, fun _ => ⟨sm, rfl, rfl⟩⟩, rv⟩
      have hw := R.mu c w
      rcases sb c (s1 c z) with u | u
      · rcases u with u | ⟨i, hi, _⟩
        · rw [nT c u] at hw
          exact hw
        · rw [n1] at hi
          cases hi
      · cases eo : H c with
        | none =>
          rw [eo] at hw
          exact hw
        | some o =>
          rw [a1 c o eo] at u
          cases u
end
end TT

/-! AG: a def's promise where no repr is under way (repr of containers asks for it); calls by it; its end at the law. -/
namespace TT
open PySem PySem.Spec PyProof.Rows L2

structure FnG (P : Program) (w : World) (K : PySem.W.Frag) (mg : Str → Option Value) (base : Heap) (k : Nat) (f : Addr) (fd : FuncData) (ps : List Str) (sp : Sp) : Prop where
  len : ∀ vs H Q E, sp vs H Q E → vs.length = ps.length
  run : ∀ (A : Around) (outer : List PySem.Env) (s : Shared) (H : Hp) (args : Args) (us : List Value) (vs : List V) (Q : VK) (E : XK), Room k A → A.guards = some [] → Env0 P w K mg base A outer s H → BindsTo s fd args (ps.zip us) → Vals vs us → sp vs H Q E →
    codeAny (model P w) A (.call (.ref f) args) (CR CX0 outer P w H s Q E) s
section
variable {X : Cx} {k : Nat} {f C : Addr} {fd : FuncData} {ps : List Str} {sp : Sp} {x m : Str} {p pos apos : Pos} {e o : Expr} {es : List Expr} {ta : TE} {t : TA}
theorem run_fnG {pins : List (Addr × Obj)} {σ : L2.St} {H : Hp} {s : Shared} {Q : VK} {us : List Value} {vs : List V} (F : FnG X.prog X.w X.K X.mg X.base k f fd ps sp) (hr : Room k X.A) (hgd : X.A.guards = some []) (hb : Binds X.K fd ps [])
    (I : Inv X pins σ H s) (r : Vals vs us) (h : sp (vs ++ []) H Q E0) : wpAny (model X.prog X.w) X.A (call (.ref f) us) (EP X pins σ Q) X.xe s := by
  have r2 : Vals (vs ++ []) (us ++ []) := r.append .nil
  have hl : (us ++ []).length = ps.length := by rw [← r2.length]; exact F.len _ _ _ _ h
  refine wpAny_call (codeAny_mono (F.run X.A X.stack s H ⟨us, []⟩ (us ++ []) (vs ++ []) Q E0 hr hgd I.env0 (hb s us I.kIn hl) r2 h) fun r s' hq => ?_)
  cases r with
  | error e => exact False.elim hq
  | ok fl =>
    cases fl with
    | ret u => exact I.after hq
    | next => exact False.elim hq
    | brk => exact False.elim hq
    | cont => exact False.elim hq
theorem pe_callG (F : FnG X.prog X.w X.K X.mg X.base k f fd ps sp) (hr : Room k X.A) (hgd : X.A.guards = some []) (hg : Gl X x) (hm : X.mg x = some (.ref f)) (hk : PySem.W.keepIn X.K (.ref f) = true) (hb : Binds X.K fd ps [])
    (ha : PA X (e :: es) t) (hdb : (x == ("__debug__" : Str)) = false) (he : starEach (e :: es) X.env = (false, eval e X.env) :: starEach es X.env) (hpl : (backTo pos (starEach es X.env)).any (·.1) = false) :
    PE X (.Call (.Name x p) (e :: es) [] pos) (tCall sp [] E0 t) := by
  refine ⟨fun pins s σ H Q I h => ?_⟩
  refine wpAny_Call_Name_kw (ld_glob I hg hm ?_ hdb)
  refine PySem.W.callWith_K (h₀ := X.base) I.ok.mod.kin hk (thn (ha.run pos pins s σ H _ I h) fun us s1 ⟨vs, H1, I1, r, q⟩ => ⟨I1.kIn, ?_⟩) he hpl
  exact run_fnG F hr hgd hb I1 r q
theorem pe_call0G (F : FnG X.prog X.w X.K X.mg X.base k f fd ps sp) (hr : Room k X.A) (hgd : X.A.guards = some []) (hg : Gl X x) (hm : X.mg x = some (.ref f)) (hk : PySem.W.keepIn X.K (.ref f) = true) (hb : Binds X.K fd ps [])
    (hdb : (x == ("__debug__" : Str)) = false) : PE X (.Call (.Name x p) [] [] pos) (tCall sp [] E0 tNil) := by
  refine ⟨fun pins s σ H Q I h => ?_⟩
  refine wpAny_Call_Name_kw (ld_glob I hg hm ?_ hdb)
  exact PySem.W.callWith_K0 I.kIn hk (run_fnG (us := []) F hr hgd hb I .nil h)
theorem pe_methG {pl : Sem Bool} (he : PE X o ta) (c : Cls X.K C) (hm : Meth X.K C m f) (F : FnG X.prog X.w X.K X.mg X.base k f fd ps sp) (hr : Room k X.A) (hgd : X.A.guards = some []) (hb : Binds X.K fd ps []) (ha : PA X (e :: es) t)
    (hst : starEach (e :: es) X.env = (false, eval e X.env) :: starEach es X.env) (hpl : (backTo pos (starEach es X.env)).any (·.1) = false)
    (ht : eval (.Call (.Attribute o m apos) (e :: es) [] pos) X.env = (do
      let ov ← eval o X.env
      standAt apos.atName
      let (f, first) ← holding [ov] (getMethod ov m pl)
      callWith pos f first (backTo pos (starEach (e :: es) X.env)) (backToKw pos (keywordEach [] X.env)))) :
    PE X (.Call (.Attribute o m apos) (e :: es) [] pos) (tMeth C m sp [] E0 ta t) := by
  refine ⟨fun pins s σ H Q I h => ?_⟩
  refine PySem.W.methodCall_KW (pl := pl) (thn (he.run pins s σ H _ I h) fun u s1 ⟨x, H1, I1, rx, a, dx, fs, ex, ea, l, q⟩ => ?_) ht
  subst ex
  obtain rfl : u = Value.ref a := rx
  refine getmeth_ok I1 ea c hm l ?_
  refine PySem.W.callWith_K (first := [.ref a]) (h₀ := X.base) I.ok.mod.kin hm.kp (thn (ha.run pos pins s1 σ H1 _ I1 q) fun us s2 ⟨vs, H2, I2, r, q2⟩ => ⟨I2.kIn, ?_⟩) hst hpl
  exact run_fnG (us := .ref a :: us) (vs := .ref a :: vs) F hr hgd hb I2 (.cons rfl r) q2
theorem pe_meth0G {pl : Sem Bool} (he : PE X o ta) (c : Cls X.K C) (hm : Meth X.K C m f) (F : FnG X.prog X.w X.K X.mg X.base k f fd ps sp) (hr : Room k X.A) (hgd : X.A.guards = some []) (hb : Binds X.K fd ps [])
    (ht : eval (.Call (.Attribute o m apos) [] [] pos) X.env = (do
      let ov ← eval o X.env
      standAt apos.atName
      let (f, first) ← holding [ov] (getMethod ov m pl)
      callWith pos f first (backTo pos (starEach [] X.env)) (backToKw pos (keywordEach [] X.env)))) :
    PE X (.Call (.Attribute o m apos) [] [] pos) (tMeth C m sp [] E0 ta tNil) := by
  refine ⟨fun pins s σ H Q I h => ?_⟩
  refine PySem.W.methodCall_KW (pl := pl) (thn (he.run pins s σ H _ I h) fun u s1 ⟨x, H1, I1, rx, a, dx, fs, ex, ea, l, q⟩ => ?_) ht
  subst ex
  obtain rfl : u = Value.ref a := rx
  refine getmeth_ok I1 ea c hm l ?_
  exact PySem.W.callWith_K0 (first := [.ref a]) I1.kIn hm.kp (run_fnG (us := [.ref a]) (vs := [.ref a]) F hr hgd hb I1 (.cons rfl .nil) q)
theorem make_guards {A : Around} {us : List Value} {kw : List (Str × Value)} (h : A.guards = some []) : (A.under (.builtin "type.__call__" ⟨.ref C :: us, kw⟩)).guards = some [] := by
  have e : (A.under (.builtin "type.__call__" ⟨.ref C :: us, kw⟩)).guards = pushGuards (Code.guards (.builtin "type.__call__" ⟨.ref C :: us, kw⟩)) A.guards := rfl
  rw [e, h]
  first | rfl | simp [Code.guards, Code.isGuard, guardIds, pushGuards]
theorem run_makeG {pins : List (Addr × Obj)} {σ : L2.St} {H : Hp} {s : Shared} {Q : VK} {us : List Value} {vs : List V} (M : Mk X.K C f) (F : FnG X.prog X.w X.K X.mg X.base k f fd ps sp) (hr : Room (k + 1) X.A) (hgd : X.A.guards = some []) (hb : Binds X.K fd ps [])
    (I : Inv X pins σ H s) (r : Vals vs us)
    (h : ∀ x dx, H x = none → H dx = none → dx ≠ x → sp (.ref x :: (vs ++ [])) (upd (upd H dx (.own x)) x (.ins C dx [])) (fun v H2 => v = .non ∧ Q (.ref x) H2) E0) :
    wpAny (model X.prog X.w) X.A (call (.ref C) us) (EP X pins σ Q) X.xe s := by
  have hq := h (s.heap.objs.size + 1) s.heap.objs.size (I.hok.fresh (Nat.le_succ _)) (I.hok.fresh (Nat.le_refl _)) (Nat.ne_of_lt (Nat.lt_succ_self _))
  have I2 := Inv.made (C := C) I
  have r2 : Vals (V.ref (s.heap.objs.size + 1) :: (vs ++ [])) (Value.ref (s.heap.objs.size + 1) :: (us ++ [])) := .cons rfl (r.append .nil)
  have hl : (Value.ref (s.heap.objs.size + 1) :: us ++ []).length = ps.length := by
    have e := r2.length
    rw [F.len _ _ _ _ hq] at e
    exact e.symm
  refine wpAny_call (make_map (f := f) I.kIn M.makes M.init (beq_iff_eq.mp M.fn) (codeAny_mono (F.run _ X.stack _ _ ⟨Value.ref (s.heap.objs.size + 1) :: us, []⟩ (Value.ref (s.heap.objs.size + 1) :: (us ++ [])) _ _ E0 (hr.make C us []) (make_guards hgd)
    (I2.env0.make C us []) (by rw [← List.cons_append]; exact hb _ (Value.ref (s.heap.objs.size + 1) :: us) I2.kIn hl) r2 hq) fun r s' hq' => ?_))
  cases r with
  | error e => exact False.elim hq'
  | ok fl =>
    cases fl with
    | ret u =>
      obtain ⟨v, H', I3, rv, ev, q3⟩ := I2.after hq'
      subst ev
      exact ⟨rv, ⟨V.ref (s.heap.objs.size + 1), H', I3, rfl, q3⟩⟩
    | next => exact False.elim hq'
    | brk => exact False.elim hq'
    | cont => exact False.elim hq'
theorem pe_makeG (M : Mk X.K C f) (F : FnG X.prog X.w X.K X.mg X.base k f fd ps sp) (hr : Room (k + 1) X.A) (hgd : X.A.guards = some []) (hg : Gl X x) (hm : X.mg x = some (.ref C)) (hb : Binds X.K fd ps [])
    (ha : PA X (e :: es) t) (hdb : (x == ("__debug__" : Str)) = false) (he : starEach (e :: es) X.env = (false, eval e X.env) :: starEach es X.env) (hpl : (backTo pos (starEach es X.env)).any (·.1) = false) :
    PE X (.Call (.Name x p) (e :: es) [] pos) (tMake C sp [] E0 t) := by
  refine ⟨fun pins s σ H Q I h => ?_⟩
  refine wpAny_Call_Name_kw (ld_glob I hg hm ?_ hdb)
  refine PySem.W.callWith_K (h₀ := X.base) I.ok.mod.kin M.kp (thn (ha.run pos pins s σ H _ I h) fun us s1 ⟨vs, H1, I1, r, q⟩ => ⟨I1.kIn, ?_⟩) he hpl
  exact run_makeG M F hr hgd hb I1 r q
theorem pe_make0G (M : Mk X.K C f) (F : FnG X.prog X.w X.K X.mg X.base k f fd ps sp) (hr : Room (k + 1) X.A) (hgd : X.A.guards = some []) (hg : Gl X x) (hm : X.mg x = some (.ref C)) (hb : Binds X.K fd ps [])
    (hdb : (x == ("__debug__" : Str)) = false) : PE X (.Call (.Name x p) [] [] pos) (tMake C sp [] E0 tNil) := by
  refine ⟨fun pins s σ H Q I h => ?_⟩
  refine wpAny_Call_Name_kw (ld_glob I hg hm ?_ hdb)
  exact PySem.W.callWith_K0 I.kIn M.kp (run_makeG (us := []) M F hr hgd hb I .nil h)
end

/-! ### a def by its body -/
theorem fng_of {P : Program} {w : World} {K : PySem.W.Frag} {mg : Str → Option Value} {base : Heap} {k : Nat} {f : Addr} {name qual : Str} {params : Arguments} {body : List Stmt} {scope : Scope} {dV kV doc pm cdv ct oc : Value} {an od : Option Addr}
    {osl : Array (Option Value)} {N ps : List Str} {sp : Sp} (lk : K.lookup f = some ⟨oc, od, .func (PySem.W.fnOf name qual params body scope dV kV doc pm an cdv ct), osl⟩) (hcd : PySem.W.codeIn K cdv qual = true) (S : FnScope N ps scope)
    (len : ∀ vs H Q E, sp vs H Q E → vs.length = ps.length)
    (hbody : ∀ (A : Around) (outer : List PySem.Env) (s : Shared) (H : Hp) (vs : List V) (Q : VK) (E : XK), Room k (A.deeper (envOfC qual scope s.heap.objs.size f cdv)) → (A.deeper (envOfC qual scope s.heap.objs.size f cdv)).guards = some [] → sp vs H Q E →
      ∃ t, PSs (cxOf CX0 P w K mg base N qual scope f cdv A outer s H E) body t ∧ t { nx := fun _ H' => Q .non H', rt := Q } (start N vs) H) :
    FnG P w K mg base (k + 1) f (PySem.W.fnOf name qual params body scope dV kV doc pm an cdv ct) ps sp := by
  refine ⟨len, fun A outer s H args us vs Q E hr hgd e0 hb r hsp => ?_⟩
  have hl := len _ _ _ _ hsp
  have KX : K.In s.heap := e0.mod.kin.keeps fun b o e => (e0.bs b o e).1
  have lim : s.heap.NoLimit := e0.mod.nolimit.keeps fun b o e => (e0.bs b o e).1
  have hkind : ∀ y ∈ ps.zip us, scope.names.lookup y.1 = some .local ∨ (scope.names.lookup y.1 = some .cell ∧ ((cellsFrom (s.heap.objs.size + 1) scope.names []).lookup y.1).isSome = true) := fun ⟨n, v⟩ hy => by
    rcases S.par n (List.of_mem_zip hy).1 with q | q
    · exact .inl q
    · exact .inr ⟨q, PySem.W.cellsFrom_some _ _ _ (.inl q)⟩
  refine codeAny_call_function hr.depth (KX _ _ lk) rfl S.co S.gen rfl (PySem.W.codeRec_of KX hcd) (hb _ _ _ _ ?_)
  refine wpAny_newFunctionEnv_cells S.kind hkind fun env he s1 x => ?_
  subst he
  refine ⟨lim.keeps x.toInCall.keep, codeAny_func ?_⟩
  obtain ⟨t, ht, hq⟩ := hbody A outer s H vs Q E (hr.deeper _) hgd hsp
  have I : Inv (cxOf CX0 P w K mg base N qual scope f cdv A outer s H E) [] (start N vs) H s1 := inv_start S hr.hd e0 hl r x
  refine wpAny_mono (ht.run [] s1 (start N vs) H _ I hq) (fun fl s' hs => ?_) fun e s' hs => hs
  have fin : ∀ {σ' : L2.St} {H' : Hp} {v : V} {u : Value}, Inv (cxOf CX0 P w K mg base N qual scope f cdv A outer s H E) [] σ' H' s' → RelV v u → Q v H' → CE outer P w H s Q u s' :=
    fun {σ' H' v u} J rv q => ⟨v, H', J.os, J.bare, J.base, J.hok, rv, q⟩
  cases fl with
  | ret u =>
    obtain ⟨v, σ', H', J, rv, q⟩ := hs
    exact fin J rv q
  | next =>
    obtain ⟨σ', H', J, q⟩ := hs
    exact fin (v := V.non) (u := Value.none) J rfl q
  | brk =>
    obtain ⟨_, _, _, q⟩ := hs
    exact False.elim q
  | cont =>
    obtain ⟨_, _, _, q⟩ := hs
    exact False.elim q
theorem funG {P : Program} {w : World} {K : PySem.W.Frag} {mg : Str → Option Value} {base : Heap} {x qual : Str} {st : Stmt} {f : Addr} {fd : FuncData} {N ps : List Str} {k : Nat} {sp : Sp} (F : Fun K x qual st f fd) (S : FnScope N ps (defScope st)) (len : ∀ vs H Q E, sp vs H Q E → vs.length = ps.length)
    (hbody : ∀ (cdv : Value) (A : Around) (outer : List PySem.Env) (s : Shared) (H : Hp) (vs : List V) (Q : VK) (E : XK), Room k (A.deeper (envOfC qual (defScope st) s.heap.objs.size f cdv)) → (A.deeper (envOfC qual (defScope st) s.heap.objs.size f cdv)).guards = some [] → sp vs H Q E →
      ∃ t, PSs (cxOf CX0 P w K mg base N qual (defScope st) f cdv A outer s H E).nox (defBody st) t ∧ t { nx := fun _ H' => Q .non H', rt := Q } (start N vs) H) : FnG P w K mg base (k + 1) f fd ps sp := by
  obtain ⟨oc, od, kV, doc, pm, an, cdv, ct, osl, rfl, lk, hcd⟩ := F.ex
  refine fng_of lk hcd S len fun A outer s H vs Q E hr hgd hsp => ?_
  obtain ⟨t, h, q⟩ := hbody cdv A outer s H vs Q E hr hgd hsp
  exact ⟨t, h.nox, q⟩

/-! ### the law's end -/
theorem law_callG {P : Program} {w : World} {K : PySem.W.Frag} {mg mb : Str → Option Value} {k : Nat} {fa a : Addr} {fd : FuncData} {x : Str} {sp : Sp} {s₁ : Shared} {vs : List Value} {ns : List Int}
    (KX : K.In s₁.heap) (hns : s₁.heap.Ns mainGlobals mg) (hb : s₁.heap.Ns builtinsNs mb) (hbb : ∀ x : Str, x ≠ "__name__" → mb x = bootBuiltins x) (hlim : s₁.heap.NoLimit) (hg : s₁.gens = #[])
    (ha : s₁.heap.get? a = some { cls := .type "list", data := .seq vs.toArray }) (hi : IntsAre vs ns) (hl : ns.length ≤ sizeLine) (hr : Room k callerA)
    (hsm : ∃ mm, s₁.heap.Ns sysModules mm) (F : ∀ base : Heap, K.In base → base.Ns mainGlobals mg → (∃ mm, base.Ns sysModules mm) → FnG P w K mg base k fa fd [x] sp) (hbind : ∀ (s : Shared) (u : Value), BindsTo s fd ⟨[u], []⟩ [(x, u)])
    (hsp : ∀ H : Hp, Only H → FrL K H a (ns.map V.int) → sp [.ref a] H (fun v _ => v = .bl true) fun _ _ _ => False) :
    codeAny (model P w) callerA (.call (.ref fa) ⟨[.ref a], []⟩) (fun r s' => r = .ok (.ret (.bool true)) ∧ OldK s₁.heap s'.heap ∧ s'.os = s₁.os ∧ AllBare s'.gens) s₁ := by
  have rv := vals_ints hi
  have lenV := hi.length
  have core : ∀ H : Hp, Only H → FrL K H a (ns.map V.int) → HOk P w H s₁.heap → (∀ b, H b ≠ none → b = a) → (H a ≠ none → K.lookup a = none) →
      codeAny (model P w) callerA (.call (.ref fa) ⟨[.ref a], []⟩) (fun r s' => r = .ok (.ret (.bool true)) ∧ OldK s₁.heap s'.heap ∧ s'.os = s₁.os ∧ AllBare s'.gens) s₁ := by
    intro H hO hS hok hA hK
    have base_of : ∀ {b : Addr} {o : Obj}, s₁.heap.get? b = some o → H b = none → (hidT s₁.heap H).get? b = some o := fun e n => hidT_get e n
    have noA : ∀ {b : Addr} {o : Obj} {es : Array DictEntry} {ep : Nat}, s₁.heap.get? b = some o → o.data = .dict es ep → H b = none := fun {b o es ep} e d => by
      cases q : H b with
      | none => rfl
      | some u =>
        have e' : b = a := hA b (by rw [q]; simp)
        subst e'
        rw [ha] at e; cases e
        have d' : Data.seq vs.toArray _ = Data.dict es ep := d
        cases d'
    have nsK : ∀ {b : Addr} {m : Str → Option Value}, s₁.heap.Ns b m → (hidT s₁.heap H).Ns b m := fun {b m} ⟨o, es, ep, e, d, r⟩ => ⟨o, es, ep, base_of e (noA e d), d, r⟩
    have hKb : K.In (hidT s₁.heap H) := fun b o e => base_of (KX b o e) (by
      cases q : H b with
      | none => rfl
      | some u =>
        have e' : b = a := hA b (by rw [q]; simp)
        subst e'
        rw [hK (by rw [q]; simp)] at e; cases e)
    have hM : Mod K mg (hidT s₁.heap H) := ⟨hKb, nsK hns, ⟨mb, nsK hb, hbb⟩, let ⟨mc, h1, h2⟩ := hlim; ⟨mc, nsK h1, h2⟩⟩
    have e0 : Env0 P w K mg (hidT s₁.heap H) callerA [] s₁ H := ⟨rfl, hM, fun b o e => of_hidT e, Nat.le_of_eq (hidT_size _ _), trivial, fun b hb => absurd (show b ∈ ([] : List Addr) from hb) (by simp), hok, .of_eq hg⟩
    refine codeAny_mono ((F _ hKb (nsK hns) (let ⟨mm, h⟩ := hsm; ⟨mm, nsK h⟩)).run callerA [] s₁ H ⟨[.ref a], []⟩ [.ref a] [.ref a] _ _ hr rfl e0 (hbind s₁ (.ref a)) (.cons rfl .nil) (hsp H hO hS)) fun r s' h => ?_
    cases r with
    | error e => exact False.elim h
    | ok fl =>
      cases fl with
      | next => exact False.elim h
      | brk => exact False.elim h
      | cont => exact False.elim h
      | ret u =>
        obtain ⟨v, H', os, bare, un, hok', r', q⟩ := h
        have q' : v = .bl true := q
        subst q'
        obtain rfl : u = Value.bool true := r'
        refine ⟨rfl, OldK.of_keep fun b o e => ?_, os, bare⟩
        cases q : H b with
        | none => exact un.keep b o e q (by intro z; exact absurd (show b ∈ ([] : List Addr) from z) (by simp)) (by simp)
        | some u =>
          rcases hO b with z | ⟨ob, xs, z⟩
          · rw [q] at z; cases z
          · have z2 := un.frzs b ob _ z
            obtain ⟨e1, _⟩ := hok b _ z
            obtain ⟨e2, _⟩ := hok' b _ z2
            rw [e] at e1; cases e1
            exact e2
  cases hk : K.lookup a with
  | some o =>
    have e := KX a o hk
    rw [ha] at e
    cases e
    exact core (fun _ => none) (fun _ => .inl rfl) (.inr ⟨_, vs.toArray, _, hk, rfl, rfl, rfl, by rw [List.size_toArray, lenV]; exact hl, by simpa using rv⟩) (fun b u z => by have z' : (none : Option HO) = some u := z; cases z') (fun b z => absurd rfl z) fun z => absurd rfl z
  | none =>
    refine core (fun b => if b = a then some (.frz { cls := .type "list", data := .seq vs.toArray } (.lst (ns.map V.int))) else none) (fun b => ?_) (.inl ⟨{ cls := .type "list", data := .seq vs.toArray }, if_pos rfl⟩) (fun b u z => ?_) (fun b z => ?_) fun _ => hk
    · by_cases hb : b = a
      · exact .inr ⟨_, _, if_pos hb⟩
      · exact .inl (if_neg hb)
    · by_cases hb : b = a
      · have z' := (if_pos hb).symm.trans z
        cases z'
        subst hb
        exact ⟨ha, by rw [List.length_map]; exact hl, vs, _, rv, ha⟩
      · have z' := (if_neg hb).symm.trans z
        cases z'
    · by_cases hb : b = a
      · exact hb
      · exact absurd (if_neg hb) z
theorem walk_ofG {l : PySem.W.OpenLaw} {n k : Nat} {q : Program} {loose : List Str} {XP : (Str → Option Value) → Heap → Prop} {YP : World → Heap → Prop} {d : DefRec} {x : Str}
    (hn : l.most = some n) (hn2 : n ≤ sizeLine) (hdf : d.params.defaults = []) (hi : importsNone q = true) (hr : Room k callerA)
    (F : ∀ (w : World) (mg : Str → Option Value) (fa : Addr) (h : Heap), YP w h → h.Ns mainGlobals mg → mg d.name = some (.ref fa) →
      ∃ (K : PySem.W.Frag) (fd : FuncData) (sp : Sp), K.In h ∧ (∀ (s : Shared) (u : Value), BindsTo s fd ⟨[u], []⟩ [(x, u)]) ∧
        (∀ (H : Hp) (a : Addr) (ns : List Int), ns.length ≤ n → Only H → FrL K H a (ns.map V.int) → sp [.ref a] H (fun v _ => v = .bl true) fun _ _ _ => False) ∧
        ∀ base : Heap, K.In base → base.Ns mainGlobals mg → (∃ mm, base.Ns sysModules mm) → FnG l.prog w K mg base k fa fd [x] sp) :
    PySem.W.WalkO q loose XP YP l.row.toRowW d [] (fun f vs => PySem.call f vs) := by
  refine Att.attach_call hn hdf fun w s₀ s₁ mg mb fa o pm cd doc a vs ns G Y ho hd hcd hmg hobj hints hlen hg => ?_
  obtain ⟨K, fd, sp, KX, hb, hsp, hF⟩ := F w mg fa _ Y G.T.g hmg
  exact law_callG KX G.T.g G.T.b G.T.builtins G.T.nolimit hg hobj hints (Nat.le_trans hlen hn2) hr (let ⟨mm, h, _⟩ := (G.T.seer hi).mods; ⟨mm, h⟩) hF hb (fun H hO hS => hsp H a ns hlen hO hS)
end TT

/-! A8: calls of defs, of methods, of classes. -/
namespace TT
open PySem PySem.Spec PyProof.Rows L2

/-- a def, a method, a class's __init__ that can be called here -/
structure FnAt (C : Cx) (cx : List Cls1) (G : Nat → DF) (f : Nat) (io : List Nat) (a : Addr) (j : Nat) : Prop where
  gd : C.A.guards = some []
  ok : ∃ (k : Nat) (fd : FuncData) (ps : List Str), FnG C.prog C.w C.K C.mg C.base k a fd ps (spF C.K cx (G f) io) ∧ Room (k + j) C.A ∧ Binds C.K fd ps []
section
variable {C : Cx} {cx : List Cls1} {G : Nat → DF} {e a b : Expr} {es rest : List Expr} {p q : Bool} {pos : Pos}
theorem getD_cons {vs : List V} {x : V} {k : Nat} : (x :: vs).getD (k + 1) .non = vs.getD k .non := rfl
theorem call_red {f : Nat} {io : List Nat} {as : As} {σ : L2.St} {H : Hp} {Q : VK} (h : TX C.K cx (p && io.isEmpty) (evE G (.call f io as)) σ H Q) : TAs C.K cx p (evAs G as) σ H fun vs H1 => spF C.K cx (G f) io (vs ++ []) H1 Q E0 := by
  obtain ⟨ρ, φ, r, ρ', R, hm, q⟩ := h
  have hm : ((evAs G as ρ).bind fun z => if okIo io z.1 0 [] then (resAll z.2 z.1).bind fun xs => (G f xs).bind fun w => (backIo z.1 io w.2 (clearPl z.1 z.2)).bind fun ρ2 => some (w.1, ρ2) else none) = some (r, ρ') := hm
  simp only [Option.bind_eq_some_iff, Option.ite_none_right_eq_some, Option.some.injEq, Prod.mk.injEq] at hm
  obtain ⟨⟨hs, ρ1⟩, e1, ok, xs, e2, ⟨r0, ys⟩, e3, ρ2, e4, rfl, rfl⟩ := hm
  refine ⟨ρ, φ, hs, ρ1, R, e1, fun vs H1 φ1 T P hr => ?_⟩
  show spF C.K cx (G f) io (vs ++ []) H1 Q E0
  rw [List.append_nil]
  refine ⟨xs, _, args_rep P.rep hr P.dj ok e2, fun c z => ?_, r0, ys, e3, fun v Hc F' rs m fr sb => ?_⟩
  · rcases z with z | ⟨i, _, z⟩
    · exact P.mt c z
    · exact P.rep.mu c ⟨i, z⟩
  · obtain ⟨φ2, T2, P2, rv⟩ := call_end (xs := xs) (pp := p && io.isEmpty) R P hr ok rs m fr sb e4 fun e => by
      obtain ⟨h1, h2⟩ := Bool.and_eq_true_iff.mp e
      exact ⟨h1, List.isEmpty_iff.mp h2⟩
    exact q v Hc φ2 T2 P2 rv
theorem te_call {f : Nat} {io : List Nat} {as : As} {x : Str} {pn : Pos} {ad : Addr} (F : FnAt C cx G f io ad 0) (hg : Gl C x) (hm : C.mg x = some (.ref ad)) (hk : PySem.W.keepIn C.K (.ref ad) = true) (ha : PA C (e :: es) (TAs C.K cx p (evAs G as))) (hdb : (x == ("__debug__" : Str)) = false)
    (he : starEach (e :: es) C.env = (false, eval e C.env) :: starEach es C.env) (hpl : (backTo pos (starEach es C.env)).any (·.1) = false) : PE C (.Call (.Name x pn) (e :: es) [] pos) (TX C.K cx (p && io.isEmpty) (evE G (.call f io as))) := by
  obtain ⟨k, fd, ps, ok, hr, hb⟩ := F.ok
  exact pe_weak (pe_callG ok hr F.gd hg hm hk hb ha hdb he hpl) fun σ H Q h => call_red h
theorem te_call0 {f : Nat} {io : List Nat} {x : Str} {pn : Pos} {ad : Addr} (F : FnAt C cx G f io ad 0) (hg : Gl C x) (hm : C.mg x = some (.ref ad)) (hk : PySem.W.keepIn C.K (.ref ad) = true) (hdb : (x == ("__debug__" : Str)) = false) :
    PE C (.Call (.Name x pn) [] [] pos) (TX C.K cx (true && io.isEmpty) (evE G (.call f io .nil))) := by
  obtain ⟨k, fd, ps, ok, hr, hb⟩ := F.ok
  exact pe_weak (pe_call0G ok hr F.gd hg hm hk hb hdb) fun σ H Q h => tas_nil (call_red h)

/-- o.m(..) -/
theorem meth_red {f c : Nat} {io : List Nat} {a : A} {as : As} {C1 : Cls1} {m : Str} {σ : L2.St} {H : Hp} {Q : VK} (hc : cx[c]? = some C1) (hmn : m ∉ C1.flds) (hf : fldA a = true → q = true) (h : TX C.K cx ((p && q) && io.isEmpty) (evE G (.meth f c io a as)) σ H Q) :
    TO C.K cx p (evA G a) σ H fun x H1 => ∃ ad dx fs, x = .ref ad ∧ H1 ad = some (.ins C1.addr dx fs) ∧ fs.lookup m = none ∧ TAs C.K cx q (evAs G as) σ H1 fun vs H2 => spF C.K cx (G f) io (x :: (vs ++ [])) H2 Q E0 := by
  obtain ⟨ρ, φ, r, ρ', R, hm, k⟩ := h
  have hm : ((evA G a ρ).bind fun z0 => (resolve z0.2 z0.1).bind fun x0 => (match x0 with
    | .obj c' _ => if c' = c then (evAs G as z0.2).bind fun z => if okIo io (z0.1 :: z.1) 0 [] then (resAll z.2 (z0.1 :: z.1)).bind fun xs => (G f xs).bind fun w => (backIo (z0.1 :: z.1) io w.2 (clearPl (z0.1 :: z.1) z.2)).bind fun ρ2 => some (w.1, ρ2) else none else none
    | _ => none)) = some (r, ρ') := hm
  simp only [Option.bind_eq_some_iff] at hm
  obtain ⟨⟨h0, ρ0⟩, e0, x0, e1, hm⟩ := hm
  cases x0 with
  | obj c' zs =>
    simp only [Option.bind_eq_some_iff, Option.ite_none_right_eq_some, Option.some.injEq, Prod.mk.injEq] at hm
    obtain ⟨ec, ⟨hs, ρ1⟩, e2, ok, xs, e3, ⟨r0, ys⟩, e4, ρ2, e5, rfl, rfl⟩ := hm
    subst ec
    refine ⟨ρ, φ, h0, ρ0, R, e0, fun v H1 φ1 T1 P1 r1 => ?_⟩
    obtain ⟨F, rx, _⟩ := r1.rep P1.rep e1
    obtain ⟨ad, dx, C2, fs, rfl, ha, _, hc2, hn, _⟩ := obj_of rx
    rw [hc] at hc2
    cases hc2
    refine ⟨ad, dx, fs, rfl, ha, ?_, ρ0, φ1, hs, ρ1, P1.rep, e2, fun vs H2 φ2 T2 P2 r2 => ?_⟩
    · cases el : fs.lookup m with
      | none => rfl
      | some w =>
        have z : m ∈ fs.map (·.1) := List.mem_map.mpr ⟨(m, w), PySem.mem_of_lookup el, rfl⟩
        rw [hn] at z
        exact absurd (List.mem_of_mem_take z) hmn
    · show spF C.K cx (G f) io (V.ref ad :: (vs ++ [])) H2 Q E0
      rw [List.append_nil]
      have r1' := HRep.seq R P1 P2 r1 (fld_of e0 hf)
      obtain ⟨P, d, _, _⟩ := Post.seq R P1 P2
      have hr : HReps C.K cx σ H2 (.ref ad :: vs) (h0 :: hs) (fun c => T1 c ∨ T2 c) := .cons r1' r2 d (fun c z => .inl z) fun c z => .inr z
      refine ⟨xs, _, args_rep P.rep hr P.dj ok e3, fun c z => ?_, r0, ys, e4, fun v Hc F' rs m fr sb => ?_⟩
      · rcases z with z | ⟨i, _, z⟩
        · exact P.mt c z
        · exact P.rep.mu c ⟨i, z⟩
      · obtain ⟨φ3, T3, P3, rv⟩ := call_end (xs := xs) (pp := (p && q) && io.isEmpty) R P hr ok rs m fr sb e5 fun e => by
          obtain ⟨h1, h2⟩ := Bool.and_eq_true_iff.mp e
          exact ⟨h1, List.isEmpty_iff.mp h2⟩
        exact k v Hc φ3 T3 P3 rv
  | _ => cases hm
theorem te_meth {pl : Sem Bool} {o : Expr} {f c : Nat} {io : List Nat} {a : A} {as : As} {m : Str} {apos : Pos} {ad : Addr} {C1 : Cls1} (F : FnAt C cx G f io ad 0) (hx : CxOk C.K cx) (hc : cx[c]? = some C1) (hmt : Meth C.K C1.addr m ad) (hmn : m ∉ C1.flds) (hf : fldA a = true → q = true) (ho : PE C o (TO C.K cx p (evA G a)))
    (ha : PA C (e :: es) (TAs C.K cx q (evAs G as))) (hst : starEach (e :: es) C.env = (false, eval e C.env) :: starEach es C.env) (hpl : (backTo pos (starEach es C.env)).any (·.1) = false)
    (ht : eval (.Call (.Attribute o m apos) (e :: es) [] pos) C.env = (do
      let ov ← eval o C.env
      standAt apos.atName
      let (f, first) ← holding [ov] (getMethod ov m pl)
      callWith pos f first (backTo pos (starEach (e :: es) C.env)) (backToKw pos (keywordEach [] C.env)))) : PE C (.Call (.Attribute o m apos) (e :: es) [] pos) (TX C.K cx ((p && q) && io.isEmpty) (evE G (.meth f c io a as))) := by
  obtain ⟨k, fd, ps, ok, hr, hb⟩ := F.ok
  exact pe_weak (pe_methG ho (hx.ok c C1 hc).1 hmt ok hr F.gd hb ha hst hpl ht) fun σ H Q h => meth_red hc hmn hf h
theorem te_meth0 {pl : Sem Bool} {o : Expr} {f c : Nat} {io : List Nat} {a : A} {m : Str} {apos : Pos} {ad : Addr} {C1 : Cls1} (F : FnAt C cx G f io ad 0) (hx : CxOk C.K cx) (hc : cx[c]? = some C1) (hmt : Meth C.K C1.addr m ad) (hmn : m ∉ C1.flds) (ho : PE C o (TO C.K cx p (evA G a)))
    (ht : eval (.Call (.Attribute o m apos) [] [] pos) C.env = (do
      let ov ← eval o C.env
      standAt apos.atName
      let (f, first) ← holding [ov] (getMethod ov m pl)
      callWith pos f first (backTo pos (starEach [] C.env)) (backToKw pos (keywordEach [] C.env)))) : PE C (.Call (.Attribute o m apos) [] [] pos) (TX C.K cx ((p && true) && io.isEmpty) (evE G (.meth f c io a .nil))) := by
  obtain ⟨k, fd, ps, ok, hr, hb⟩ := F.ok
  refine pe_weak (pe_meth0G ho (hx.ok c C1 hc).1 hmt ok hr F.gd hb ht) fun σ H Q h => ?_
  obtain ⟨ρ, φ, h0, ρ1, R, e0, k⟩ := meth_red (q := true) hc hmn (fun _ => rfl) h
  refine ⟨ρ, φ, h0, ρ1, R, e0, fun v H1 φ1 T1 P1 r1 => ?_⟩
  obtain ⟨ad', dx, fs, e1, e2, e3, k2⟩ := k v H1 φ1 T1 P1 r1
  exact ⟨ad', dx, fs, e1, e2, e3, tas_nil k2⟩

theorem hreps_same {σ : L2.St} {H1 H2 : Hp} (sm : Same H1 H2) : ∀ {vs : List V} {hs : List Hd} {T : Foot}, HReps C.K cx σ H1 vs hs T → MutF T H1 → HReps C.K cx σ H2 vs hs T
  | _, _, _, .nil, _ => .nil
  | _, _, _, .cons h hrs d s1 s2, m => .cons (h.same sm (m.mono s1)) (hreps_same sm hrs (m.mono s2)) d s1 s2
/-- C(..) -/
theorem mk_red {f c : Nat} {io : List Nat} {as : As} {C1 : Cls1} {σ : L2.St} {H : Hp} {Q : VK} (hc : cx[c]? = some C1) (h : TX C.K cx (p && decide (io = [0])) (evE G (.mk c f io as)) σ H Q) :
    TAs C.K cx p (evAs G as) σ H fun vs H1 => ∀ x dx, H1 x = none → H1 dx = none → dx ≠ x → spF C.K cx (G f) io (.ref x :: (vs ++ [])) (upd (upd H1 dx (.own x)) x (.ins C1.addr dx [])) (fun v H2 => v = .non ∧ Q (.ref x) H2) E0 := by
  obtain ⟨ρ, φ, r, ρ', R, hm, k⟩ := h
  have hm : ((evAs G as ρ).bind fun z => if okIo io (.x (.obj c []) :: z.1) 0 [] then (resAll z.2 z.1).bind fun xs => (G f (.obj c [] :: xs)).bind fun w => (match w.1, io, w.2 with
    | .d .none, 0 :: io', y :: ys' => (backIo (.x (.obj c []) :: z.1) io' ys' (clearPl z.1 z.2)).bind fun ρ2 => some (y, ρ2)
    | _, _, _ => none) else none) = some (r, ρ') := hm
  simp only [Option.bind_eq_some_iff, Option.ite_none_right_eq_some] at hm
  obtain ⟨⟨hs, ρ1⟩, e1, ok, xs, e2, ⟨r0, ys⟩, e3, e4⟩ := hm
  obtain ⟨rfl, io', rfl, y, ys', rfl, ρ2, e5, e6⟩ : r0 = .d .none ∧ ∃ io', io = 0 :: io' ∧ ∃ y ys', ys = y :: ys' ∧ ∃ ρ2, backIo (.x (.obj c []) :: hs) io' ys' (clearPl hs ρ1) = some ρ2 ∧ some (y, ρ2) = some (r, ρ') := by
    split at e4
    · simp only [Option.bind_eq_some_iff] at e4
      obtain ⟨ρ2, e5, e6⟩ := e4
      exact ⟨by assumption, _, rfl, _, _, by assumption, ρ2, e5, e6⟩
    · cases e4
  cases e6
  refine ⟨ρ, φ, hs, ρ1, R, e1, fun vs H1 φ1 T P hr x dx hx hdx ne => ?_⟩
  rw [List.append_nil]
  have sm : Same H1 (upd (upd H1 dx (.own x)) x (.ins C1.addr dx [])) := fun c o h => by
    rw [upd_ne (ne_of_none h hx), upd_ne (ne_of_none h hdx)]
    exact h
  have P2 := P.same sm
  have nx : ∀ F : Foot, MutF F H1 → ¬ F x := fun F m z => by
    have w := m x z
    rw [hx] at w
    exact w
  have hr2 : HReps C.K cx σ (upd (upd H1 dx (.own x)) x (.ins C1.addr dx [])) vs hs T := hreps_same sm hr P.mt
  have ro : RepX C.K cx (upd (upd H1 dx (.own x)) x (.ins C1.addr dx [])) (.ref x) (.obj c []) (fun c => c = x) := .obj upd_same rfl hc rfl .nil
  have P3 : Post C.K cx σ H ρ φ p (upd (upd H1 dx (.own x)) x (.ins C1.addr dx [])) ρ1 φ1 (fun c => c = x ∨ T c) := by
    refine ⟨P2.rep, fun c z => ?_, fun c z w => ?_, P2.fr, P2.s1, fun c z => ?_, P2.pure⟩
    · rcases z with rfl | z
      · rw [upd_same]
        trivial
      · exact P2.mt c z
    · rcases z with rfl | z
      · exact nx _ P.rep.mu w
      · exact P2.dj c z w
    · rcases z with rfl | z
      · exact none_of_frame P.fr R.mu hx
      · exact P2.s2 c z
  have hr3 : HReps C.K cx σ (upd (upd H1 dx (.own x)) x (.ins C1.addr dx [])) (.ref x :: vs) (.x (.obj c []) :: hs) (fun c => c = x ∨ T c) :=
    .cons ro hr2 (fun c z w => nx T P.mt (z ▸ w)) (fun c z => .inl z) fun c z => .inr z
  have e2' : resAll ρ1 (.x (.obj c []) :: hs) = some (.obj c [] :: xs) := by
    simp [resAll, resolve, e2]
  refine ⟨_, _, args_rep P3.rep hr3 P3.dj ok e2', fun c z => ?_, _, _, e3, fun v Hc F' rs m fr sb => ?_⟩
  · rcases z with z | ⟨i, _, z⟩
    · exact P3.mt c z
    · exact P3.rep.mu c ⟨i, z⟩
  · have e5' : backIo (.x (.obj c []) :: hs) (0 :: io') (r :: ys') (clearPl (.x (.obj c []) :: hs) ρ1) = some ρ' := e5
    cases rs with
    | cons rv rs dj s1 s2 =>
      cases rv with
      | d hv =>
        cases hv
        refine ⟨rfl, ?_⟩
        cases rs with
        | cons ry rs dj2 t1 t2 =>
          rename_i F1 F2 F3 F4
          -- the new object as the call's value, the rest back to its places
          have rs' : RepXs C.K cx Hc (.ref x :: sel (.ref x :: vs) io') (r :: ys') F2 := .cons ry rs dj2 t1 t2
          obtain ⟨φ2, T2, P4, ry'⟩ := call_end (xs := []) (io := io') (pp := p && decide ((0 :: io') = [0])) R P3 hr3 (by
            have ok' : okIo (0 :: io') hs 1 [] = true := by simpa [okIo] using ok
            show okIo io' (.x (.obj c []) :: hs) 0 [] = true
            have weak : ∀ (hs : List Hd) (k : Nat) (sl : List Nat), okIo (0 :: io') hs (k + 1) sl = true → okIo io' hs (k + 1) sl = true := by
              intro hs
              induction hs with
              | nil => exact fun _ _ _ => rfl
              | cons h t ih =>
                intro k sl o
                cases h with
                | x z => exact ih (k + 1) sl (by simpa [okIo] using o)
                | p z =>
                  simp only [okIo, Bool.and_eq_true] at o ⊢
                  obtain ⟨⟨⟨o1, o2⟩, o3⟩, o4⟩ := o
                  refine ⟨⟨⟨o1, ?_⟩, o3⟩, ih _ _ o4⟩
                  rw [List.contains_iff_mem] at o2 ⊢
                  rcases List.mem_cons.mp o2 with z | z
                  · exact absurd z (Nat.succ_ne_zero k)
                  · exact z
            simpa [okIo] using weak hs 0 [] ok') rs' (m.mono s2) fr (fun c z => sb c (s2 c z)) e5' fun e => by
              obtain ⟨h1, h2⟩ := Bool.and_eq_true_iff.mp e
              have h3 := of_decide_eq_true h2
              injection h3 with _ h4
              exact ⟨h1, h4⟩
          exact k (.ref x) Hc φ2 T2 P4 ry'
theorem te_mk {f c : Nat} {io : List Nat} {as : As} {x : Str} {pn : Pos} {ad : Addr} {C1 : Cls1} (F : FnAt C cx G f io ad 1) (hc : cx[c]? = some C1) (M : Mk C.K C1.addr ad) (hg : Gl C x) (hm : C.mg x = some (.ref C1.addr)) (ha : PA C (e :: es) (TAs C.K cx p (evAs G as))) (hdb : (x == ("__debug__" : Str)) = false)
    (he : starEach (e :: es) C.env = (false, eval e C.env) :: starEach es C.env) (hpl : (backTo pos (starEach es C.env)).any (·.1) = false) : PE C (.Call (.Name x pn) (e :: es) [] pos) (TX C.K cx (p && decide (io = [0])) (evE G (.mk c f io as))) := by
  obtain ⟨k, fd, ps, ok, hr, hb⟩ := F.ok
  exact pe_weak (pe_makeG M ok hr F.gd hg hm hb ha hdb he hpl) fun σ H Q h => mk_red hc h
theorem te_mk0 {f c : Nat} {io : List Nat} {x : Str} {pn : Pos} {ad : Addr} {C1 : Cls1} (F : FnAt C cx G f io ad 1) (hc : cx[c]? = some C1) (M : Mk C.K C1.addr ad) (hg : Gl C x) (hm : C.mg x = some (.ref C1.addr)) (hdb : (x == ("__debug__" : Str)) = false) :
    PE C (.Call (.Name x pn) [] [] pos) (TX C.K cx (true && decide (io = [0])) (evE G (.mk c f io .nil))) := by
  obtain ⟨k, fd, ps, ok, hr, hb⟩ := F.ok
  exact pe_weak (pe_make0G M ok hr F.gd hg hm hb hdb) fun σ H Q h => tas_nil (mk_red hc h)
end
end TT

/-! A9: what is walked; targets; comprehensions. -/
namespace TT
open PySem PySem.Spec PyProof.Rows L2

/-- the heap has gone on from H0: what never changes and the cells at T stand -/
def Stp (H0 : Hp) (T : Foot) (H : Hp) : Prop := ImmK H0 H ∧ ∀ c, T c → H c = H0 c
structure WalksD (K : PySem.W.Frag) (J : L2.It) (ds : List D) (H0 : Hp) (T : Foot) : Prop where
  go : ∀ i H, Stp H0 T H → i < ds.length → J.go i H
  yld : ∀ i H x H', Stp H0 T H → i < ds.length → J.yld i H x H' → ∃ d, ds[i]? = some d ∧ Same H H' ∧ DI K H' x d
  stop : ∀ H, Stp H0 T H → J.stop ds.length H
def TIr (K : PySem.W.Frag) (cx : List Cls1) (p : Bool) (m : TT.Env → Option (List D × TT.Env)) : TI := fun σ H R => ∃ ρ φ ds ρ', RepE K cx σ H ρ φ ∧ m ρ = some (ds, ρ') ∧ ∀ J H' φ' T, Post K cx σ H ρ φ p H' ρ' φ' T → WalksD K J ds H' T → R J H'
theorem pi_weak {C : Cx} {tg e : Expr} {t t' : TI} (h : PI C tg e t) (w : ∀ σ H R, t' σ H R → t σ H R) : PI C tg e t' := ⟨fun pins s σ H R I q => h.run pins s σ H R I (w σ H R q)⟩

/-! ### lists that are read, at a later heap -/
section
variable {K : PySem.W.Frag} {cx : List Cls1} {H H' : Hp}
theorem RepX.lst_at {v : V} {x : X} {T : Foot} {ds : List D} (r : RepX K cx H v x T) (e : dat1 x = some (.list ds)) : ∃ a vs, v = .ref a ∧ DIs K H vs ds ∧ ∀ H', Stp H T H' → SqL K H' a vs := by
  cases r with
  | d h =>
    simp only [dat1, Option.some.injEq] at e
    subst e
    cases h with
    | lst hl hs => exact ⟨_, _, rfl, hs, fun H' st => (st.1.frL hl).sqL⟩
  | lst h f hs =>
    simp only [dat1, Option.map_eq_some_iff] at e
    obtain ⟨es, e1, e2⟩ := e
    cases e2
    rw [allD_eq e1] at hs
    exact ⟨_, _, rfl, hs.dis, fun H' st => SqL.of ((st.2 _ f).trans h)⟩
  | tup h hs =>
    simp only [dat1, Option.map_eq_some_iff] at e
    obtain ⟨es, e1, e2⟩ := e
    cases e2
  | dK h f nd hs =>
    simp only [dat1, Option.ite_none_left_eq_some, Option.map_eq_some_iff] at e
    obtain ⟨_, es, e1, e2⟩ := e
    cases e2
  | dT h f nd hs =>
    simp only [dat1, Option.ite_none_left_eq_some, Option.map_eq_some_iff] at e
    obtain ⟨_, es, e1, e2⟩ := e
    cases e2
  | obj => simp [dat1] at e
theorem RepX.tup_at {v : V} {x : X} {T : Foot} {ds : List D} (r : RepX K cx H v x T) (e : dat1 x = some (.tuple ds)) : ∃ a vs, v = .ref a ∧ H a = some (.tup vs) ∧ DIs K H vs ds := by
  have h := r.dv e
  cases h with
  | tup h hs => exact ⟨_, _, rfl, h, hs⟩
end

section
variable {C : Cx} {cx : List Cls1} {G : Nat → DF} {e a b tg : Expr} {es rest : List Expr} {p q : Bool} {pos : Pos}
/-- the items of a list that is read: the walk of HandS says them of every reading, so of ours -/
theorem walks_list {K : PySem.W.Frag} {H : Hp} {T : Foot} {ad : Addr} {vs : List V} {ds : List D} (hs : DIs K H vs ds) (hr : ∀ H', Stp H T H' → SqL K H' ad vs) : WalksD K (Itl K ad) ds H T where
  go := fun i H' st hi => by
    have n := hs.length
    exact ⟨vs, vs[i]'(by omega), hr H' st, List.getElem?_eq_getElem (by omega)⟩
  yld := fun i H' x H2 st hi y => by
    obtain ⟨rfl, y⟩ := y
    obtain ⟨d, hd, di⟩ := hs.at (y vs (hr _ st))
    exact ⟨d, hd, fun _ _ h => h, di.keep st.1⟩
  stop := fun H' st => ⟨vs, hr H' st, by rw [hs.length]; exact Nat.le_refl _⟩
theorem walks_tup {K : PySem.W.Frag} {H : Hp} {T : Foot} {ad : Addr} {vs : List V} {ds : List D} (hs : DIs K H vs ds) (hr : ∀ H', Stp H T H' → SqT K H' ad vs) : WalksD K (Itt K ad) ds H T where
  go := fun i H' st hi => by
    have n := hs.length
    exact ⟨vs, vs[i]'(by omega), hr H' st, List.getElem?_eq_getElem (by omega)⟩
  yld := fun i H' x H2 st hi y => by
    obtain ⟨rfl, y⟩ := y
    obtain ⟨d, hd, di⟩ := hs.at (y vs (hr _ st))
    exact ⟨d, hd, fun _ _ h => h, di.keep st.1⟩
  stop := fun H' st => ⟨vs, hr H' st, by rw [hs.length]; exact Nat.le_refl _⟩
/-- a list or a tuple -/
def iSeq (K : PySem.W.Frag) (tl : TE) : TI := fun σ H R => tl σ H fun x H1 => ∃ a, x = .ref a ∧ ((∃ xs, SqL K H1 a xs) ∧ R (Itl K a) H1 ∨ (∃ xs, SqT K H1 a xs) ∧ R (Itt K a) H1)
theorem pi_seq {l : Expr} {tl : TE} (hl : PE C l tl) : PI C tg l (iSeq C.K tl) := by
  refine ⟨fun pins s σ H R I h => ?_⟩
  refine thn (hl.run pins s σ H _ I h) fun v s1 ⟨x, H1, I1, r1, a, e, q1⟩ => ?_
  subst e
  cases r1
  rcases q1 with ⟨⟨xs, hq⟩, q⟩ | ⟨⟨xs, hq⟩, q⟩
  · obtain ⟨its, rv, p, hz⟩ := I1.list hq
    refine wpAny_pyIter_list p.isList ?_
    refine ⟨s1.heap.objs.size, [s1.heap.objs.size], _, _, H1, rfl, I1.kept (t' := s1.toks) fun b o e => Heap.get?_push_of_some _ e, turn_list a _, ⟨_, Heap.get?_push_size _ rfl, rfl, rfl⟩, fun b hb => ?_, q⟩
    have e : b = s1.heap.objs.size := by simpa using hb
    subst e
    exact I1.fpOk (Nat.le_refl _) (I1.hok.fresh (Nat.le_refl _))
  · obtain ⟨its, rv, p, hz⟩ := I1.tuple hq
    refine wpAny_pyIter_tuple (show s1.heap.IsTuple a its.toArray from p) ?_
    refine ⟨s1.heap.objs.size, [s1.heap.objs.size], _, _, H1, rfl, I1.kept (t' := s1.toks) fun b o e => Heap.get?_push_of_some _ e, turn_tuple a _, ⟨_, Heap.get?_push_size _ rfl, rfl, rfl⟩, fun b hb => ?_, q⟩
    have e : b = s1.heap.objs.size := by simpa using hb
    subst e
    exact I1.fpOk (Nat.le_refl _) (I1.hok.fresh (Nat.le_refl _))
theorem ti_l {x : E} (ha : PE C e (TX C.K cx p (evE G x))) : PI C tg e (TIr C.K cx p (evIt G (.l x))) := pi_weak (pi_seq ha) fun σ H R ⟨ρ, φ, ds, ρ', Rp, hm, k⟩ => by
  have hm : ((evE G x ρ).bind fun z => (seqD z.1).bind fun ds => some (ds, z.2)) = some (ds, ρ') := hm
  simp only [Option.bind_eq_some_iff, Option.some.injEq, Prod.mk.injEq] at hm
  obtain ⟨⟨y, ρ1⟩, e1, ds', e2, rfl, rfl⟩ := hm
  refine ⟨ρ, φ, y, ρ1, Rp, e1, fun v H1 φ1 T P r => ?_⟩
  simp only [seqD, Option.bind_eq_some_iff] at e2
  obtain ⟨d, e3, e4⟩ := e2
  cases d with
  | list es =>
    cases e4
    obtain ⟨ad, vs, rfl, hs, hr⟩ := r.lst_at e3
    exact ⟨ad, rfl, .inl ⟨⟨vs, hr H1 ⟨fun _ _ _ h => h, fun _ _ => rfl⟩⟩, k _ H1 φ1 T P (walks_list hs hr)⟩⟩
  | tuple es =>
    cases e4
    obtain ⟨ad, vs, rfl, h, hs⟩ := r.tup_at e3
    exact ⟨ad, rfl, .inr ⟨⟨vs, SqT.of h⟩, k _ H1 φ1 T P (walks_tup hs fun H' st => SqT.of (st.1 _ _ trivial h))⟩⟩
  | _ => cases e4
theorem walks_rng {K : PySem.W.Frag} {H : Hp} {T : Foot} {lo : Int} {n : Nat} : WalksD K (Itr lo n) (rngD lo n) H T where
  go := fun i H' st hi => by
    show i < n
    simpa [rngD] using hi
  yld := fun i H' x H2 st hi y => by
    obtain ⟨rfl, rfl⟩ := y
    have hi : i < n := by simpa [rngD] using hi
    exact ⟨.int (lo + i), by simp [rngD, hi], fun _ _ h => h, .int _⟩
  stop := fun H' st => by
    show n ≤ (rngD lo n).length
    simp [rngD]
theorem rng_of {i : Int} (h : rngOk i = true) : -(2 ^ 62) ≤ i ∧ i < 2 ^ 62 := of_decide_eq_true h
theorem ti_r1 {x : E} {pn : Pos} (hg : Gl C "range") (hm : C.mg "range" = none) (ha : PE C e (TX C.K cx p (evE G x))) (hs : starEach [e] C.env = [(false, eval e C.env)]) : PI C tg (.Call (.Name "range" pn) [e] [] pos) (TIr C.K cx (p && true) (evIt G (.r1 x))) :=
  pi_weak (pi_range1 hg hm (pa_tcons (a := .e x) (fun h => nomatch h) (to_e ha) pa_tnil hs) hs) fun σ H R ⟨ρ, φ, ds, ρ', Rp, hm, k⟩ => by
    have hm : ((evE G x ρ).bind fun z => (intD z.1).bind fun n => if rngOk n then some (rngD 0 n.toNat, z.2) else none) = some (ds, ρ') := hm
    simp only [Option.bind_eq_some_iff, Option.ite_none_right_eq_some, Option.some.injEq, Prod.mk.injEq] at hm
    obtain ⟨⟨y, ρ1⟩, e1, n, e2, e3, rfl, rfl⟩ := hm
    refine ⟨ρ, φ, [.x y], ρ1, Rp, ?_, fun vs H1 φ1 T P hr => ?_⟩
    · show ((((evE G x ρ).bind fun z => some (Hd.x z.1, z.2)).bind fun z => (some (([] : List Hd), z.2)).bind fun w => some (z.1 :: w.1, w.2)) = _)
      rw [e1]
      rfl
    · have ey : y = _ := int_of e2
      subst ey
      cases hr with
      | cons r rr _ _ _ =>
        cases rr
        obtain rfl := rep_int r
        obtain ⟨r1, r2⟩ := rng_of e3
        exact ⟨n, rfl, r1, r2, k _ H1 φ1 T P walks_rng⟩
theorem ti_r2 {x y : E} {pn : Pos} (hg : Gl C "range") (hm : C.mg "range" = none) (ha : PE C a (TX C.K cx p (evE G x))) (hb : PE C b (TX C.K cx q (evE G y))) (hs : starEach [a, b] C.env = [(false, eval a C.env), (false, eval b C.env)]) (hs2 : starEach [b] C.env = [(false, eval b C.env)]) :
    PI C tg (.Call (.Name "range" pn) [a, b] [] pos) (TIr C.K cx (p && (q && true)) (evIt G (.r2 x y))) :=
  pi_weak (pi_range2 hg hm (pa_tcons (a := .e x) (fun h => nomatch h) (to_e ha) (pa_tcons (a := .e y) (fun h => nomatch h) (to_e hb) pa_tnil hs2) (by rw [hs, hs2])) hs hs2) fun σ H R ⟨ρ, φ, ds, ρ', Rp, hm, k⟩ => by
    have hm : ((evE G x ρ).bind fun z => (evE G y z.2).bind fun w => (intD z.1).bind fun i => (intD w.1).bind fun j => if rngOk i && rngOk j then some (rngD i (j - i).toNat, w.2) else none) = some (ds, ρ') := hm
    simp only [Option.bind_eq_some_iff, Option.ite_none_right_eq_some, Option.some.injEq, Prod.mk.injEq] at hm
    obtain ⟨⟨u, ρ1⟩, e1, ⟨w, ρ2⟩, e2, i, e3, j, e4, e5, rfl, rfl⟩ := hm
    refine ⟨ρ, φ, [.x u, .x w], ρ2, Rp, ?_, fun vs H1 φ1 T P hr => ?_⟩
    · show ((((evE G x ρ).bind fun z => some (Hd.x z.1, z.2)).bind fun z => ((((evE G y z.2).bind fun z => some (Hd.x z.1, z.2)).bind fun z => (some (([] : List Hd), z.2)).bind fun w => some (z.1 :: w.1, w.2))).bind fun w => some (z.1 :: w.1, w.2)) = _)
      rw [e1]
      show ((((evE G y ρ1).bind fun z => some (Hd.x z.1, z.2)).bind fun z => (some (([] : List Hd), z.2)).bind fun w => some (z.1 :: w.1, w.2))).bind (fun w => some (Hd.x u :: w.1, w.2)) = _
      have e2 : evE G y ρ1 = some (w, ρ2) := e2
      rw [e2]
      rfl
    · have eu : u = _ := int_of e3
      have ew : w = _ := int_of e4
      subst eu ew
      cases hr with
      | cons r rr _ _ _ =>
        cases rr with
        | cons r' rr _ _ _ =>
          cases rr
          obtain rfl := rep_int r
          obtain rfl := rep_int r'
          obtain ⟨h1, h2⟩ := Bool.and_eq_true_iff.mp e5
          obtain ⟨r1, r2⟩ := rng_of h1
          obtain ⟨r3, r4⟩ := rng_of h2
          exact ⟨i, j, rfl, ⟨r1, r2, r3, r4⟩, k _ H1 φ1 T P walks_rng⟩
theorem tup2_di {K : PySem.W.Frag} {H : Hp} {t : Addr} {u v : V} {x y : D} (ht : H t = none) (hu : DI K H u x) (hv : DI K H v y) : Same H (upd H t (.tup [u, v])) ∧ DI K (upd H t (.tup [u, v])) (.ref t) (.tuple [x, y]) := by
  have sm : Same H (upd H t (.tup [u, v])) := fun c o h => by
    rw [upd_ne (ne_of_none h ht)]
    exact h
  exact ⟨sm, .tup upd_same (.cons (hu.keep (same_imm sm)) (.cons (hv.keep (same_imm sm)) .nil))⟩
theorem ti_en {x : E} {pn tpos : Pos} {elts : List Expr} {kk : Nat} (hg : Gl C "enumerate") (hm : C.mg "enumerate" = none) (ha : PE C e (TX C.K cx p (evE G x))) (hs : starEach [e] C.env = [(false, eval e C.env)]) : PI C (.Tuple elts kk tpos) (.Call (.Name "enumerate" pn) [e] [] pos) (TIr C.K cx (p && true) (evIt G (.en x))) :=
  pi_weak (pi_enum hg hm (pa_tcons (a := .e x) (fun h => nomatch h) (to_e ha) pa_tnil hs) hs) fun σ H R ⟨ρ, φ, ds, ρ', Rp, hm, k⟩ => by
    have hm : ((evE G x ρ).bind fun z => (lstD z.1).bind fun ds => some (ds.zipIdx.map fun p => PyData.tuple [.int (p.2 : Nat), p.1], z.2)) = some (ds, ρ') := hm
    simp only [Option.bind_eq_some_iff, Option.some.injEq, Prod.mk.injEq] at hm
    obtain ⟨⟨y, ρ1⟩, e1, es, e2, rfl, rfl⟩ := hm
    refine ⟨ρ, φ, [.x y], ρ1, Rp, ?_, fun vs H1 φ1 T P hr => ?_⟩
    · show ((((evE G x ρ).bind fun z => some (Hd.x z.1, z.2)).bind fun z => (some (([] : List Hd), z.2)).bind fun w => some (z.1 :: w.1, w.2)) = _)
      rw [e1]
      rfl
    · simp only [lstD, Option.bind_eq_some_iff] at e2
      obtain ⟨d, e3, e4⟩ := e2
      cases d with
      | list es' =>
        cases e4
        cases hr with
        | cons r rr _ s1 _ =>
          cases rr
          obtain ⟨ad, vs, rfl, hs, hr⟩ := RepX.lst_at (show RepX C.K cx H1 _ y _ from r) e3
          have n := hs.length
          refine ⟨ad, vs, rfl, hr H1 ⟨fun _ _ _ h => h, fun _ _ => rfl⟩, k _ H1 φ1 T P ⟨fun i H' st hi => ?_, fun i H' w H2 st hi y => ?_, fun H' st => ?_⟩⟩
          · have st' : Stp H1 _ H' := ⟨st.1, fun c z => st.2 c (s1 c z)⟩
            have hi : i < es.length := by simpa using hi
            exact ⟨vs, vs[i]'(by omega), hr H' st', List.getElem?_eq_getElem (by omega)⟩
          · have st' : Stp H1 _ H' := ⟨st.1, fun c z => st.2 c (s1 c z)⟩
            obtain ⟨t, u, rfl, ht, rfl, hu⟩ := y
            obtain ⟨d, hd, di⟩ := hs.at (hu vs (hr H' st'))
            obtain ⟨sm, dt⟩ := tup2_di (u := .int (i : Nat)) ht (.int _) (di.keep st.1)
            refine ⟨.tuple [.int (i : Nat), d], ?_, sm, dt⟩
            rw [List.getElem?_map, List.getElem?_zipIdx, hd]
            simp
          · have st' : Stp H1 _ H' := ⟨st.1, fun c z => st.2 c (s1 c z)⟩
            exact ⟨vs, hr H' st', by simp; omega⟩
      | _ => cases e4
theorem ti_zip {x y : E} {pn tpos : Pos} {elts : List Expr} {kk : Nat} (hg : Gl C "zip") (hm : C.mg "zip" = none) (ha : PE C a (TX C.K cx p (evE G x))) (hb : PE C b (TX C.K cx q (evE G y))) (hs : starEach [a, b] C.env = (false, eval a C.env) :: starEach [b] C.env) (hs2 : starEach [b] C.env = (false, eval b C.env) :: starEach [] C.env) (hpl : (backTo pos (starEach [b] C.env)).any (·.1) = false) :
    PI C (.Tuple elts kk tpos) (.Call (.Name "zip" pn) [a, b] [] pos) (TIr C.K cx (p && (q && true)) (evIt G (.zip x y))) :=
  pi_weak (pi_zip hg hm (pa_tcons (a := .e x) (fun h => nomatch h) (to_e ha) (pa_tcons (a := .e y) (fun h => nomatch h) (to_e hb) pa_tnil hs2) hs) hs hpl) fun σ H R ⟨ρ, φ, ds, ρ', Rp, hm, k⟩ => by
    have hm : ((evE G x ρ).bind fun z => (evE G y z.2).bind fun w => (lstD z.1).bind fun ds => (lstD w.1).bind fun es => some ((ds.zip es).map fun p => PyData.tuple [p.1, p.2], w.2)) = some (ds, ρ') := hm
    simp only [Option.bind_eq_some_iff, Option.some.injEq, Prod.mk.injEq] at hm
    obtain ⟨⟨u, ρ1⟩, e1, ⟨w, ρ2⟩, e2, es, e3, fs, e4, rfl, rfl⟩ := hm
    refine ⟨ρ, φ, [.x u, .x w], ρ2, Rp, ?_, fun vs H1 φ1 T P hr => ?_⟩
    · show ((((evE G x ρ).bind fun z => some (Hd.x z.1, z.2)).bind fun z => ((((evE G y z.2).bind fun z => some (Hd.x z.1, z.2)).bind fun z => (some (([] : List Hd), z.2)).bind fun w => some (z.1 :: w.1, w.2))).bind fun w => some (z.1 :: w.1, w.2)) = _)
      rw [e1]
      show ((((evE G y ρ1).bind fun z => some (Hd.x z.1, z.2)).bind fun z => (some (([] : List Hd), z.2)).bind fun w => some (z.1 :: w.1, w.2))).bind (fun w => some (Hd.x u :: w.1, w.2)) = _
      have e2 : evE G y ρ1 = some (w, ρ2) := e2
      rw [e2]
      rfl
    · simp only [lstD, Option.bind_eq_some_iff] at e3 e4
      obtain ⟨d, e3, e5⟩ := e3
      obtain ⟨d', e4, e6⟩ := e4
      cases d with
      | list es' =>
        cases e5
        cases d' with
        | list fs' =>
          cases e6
          cases hr with
          | cons r rr _ s1 s2 =>
            cases rr with
            | cons r' rr _ s3 s4 =>
              cases rr
              obtain ⟨ad, vs, rfl, hs, hr⟩ := RepX.lst_at (show RepX C.K cx H1 _ u _ from r) e3
              obtain ⟨bd, ws, rfl, hs', hr'⟩ := RepX.lst_at (show RepX C.K cx H1 _ w _ from r') e4
              have n := hs.length
              have n' := hs'.length
              refine ⟨ad, bd, vs, ws, rfl, hr H1 ⟨fun _ _ _ h => h, fun _ _ => rfl⟩, hr' H1 ⟨fun _ _ _ h => h, fun _ _ => rfl⟩, k _ H1 φ1 T P ⟨fun i H' st hi => ?_, fun i H' w H2 st hi y => ?_, fun H' st => ?_⟩⟩
              · have st1 : Stp H1 _ H' := ⟨st.1, fun c z => st.2 c (s1 c z)⟩
                have st2 : Stp H1 _ H' := ⟨st.1, fun c z => st.2 c (s2 c (s3 c z))⟩
                have hi : i < es.length ∧ i < fs.length := by
                  have h := hi
                  simp only [List.length_map, List.length_zip] at h
                  omega
                exact ⟨vs, ws, vs[i]'(by omega), ws[i]'(by omega), hr H' st1, hr' H' st2, List.getElem?_eq_getElem (by omega), List.getElem?_eq_getElem (by omega)⟩
              · have st1 : Stp H1 _ H' := ⟨st.1, fun c z => st.2 c (s1 c z)⟩
                have st2 : Stp H1 _ H' := ⟨st.1, fun c z => st.2 c (s2 c (s3 c z))⟩
                obtain ⟨t, u1, w1, rfl, ht, rfl, hu, hw⟩ := y
                obtain ⟨d, hd, di⟩ := hs.at (hu vs (hr H' st1))
                obtain ⟨d', hd', di'⟩ := hs'.at (hw ws (hr' H' st2))
                obtain ⟨sm, dt⟩ := tup2_di ht (di.keep st.1) (di'.keep st.1)
                refine ⟨.tuple [d, d'], ?_, sm, dt⟩
                rw [List.getElem?_map, List.getElem?_zip_eq_some (z := (d, d')) |>.mpr ⟨hd, hd'⟩]
                rfl
              · have st1 : Stp H1 _ H' := ⟨st.1, fun c z => st.2 c (s1 c z)⟩
                have st2 : Stp H1 _ H' := ⟨st.1, fun c z => st.2 c (s2 c (s3 c z))⟩
                refine ⟨vs, ws, hr H' st1, hr' H' st2, ?_⟩
                simp only [List.length_map, List.length_zip]
                omega
        | _ => cases e6
      | _ => cases e5
theorem di_kV {K : PySem.W.Frag} {H : Hp} (k : Key) : DI K H (kV k) (kD k) := by
  cases k with
  | inl i => exact .int i
  | inr s => exact .str s
theorem dis_kV {K : PySem.W.Frag} {H : Hp} : ∀ ks : List Key, DIs K H (ks.map kV) (ks.map kD)
  | [] => .nil
  | k :: ks => .cons (di_kV k) (dis_kV ks)
theorem zip_fst {α β : Type} : ∀ {as : List α} {bs : List β}, as.length = bs.length → (as.zip bs).map (·.1) = as
  | [], [], _ => rfl
  | a :: as, b :: bs, h => by
    rw [List.zip_cons_cons, List.map_cons, zip_fst (by simpa using h)]
theorem ti_keys {x : E} (ha : PE C e (TX C.K cx p (evE G x))) (hd : ∀ ρ r ρ', evE G x ρ = some (r, ρ') → ∃ d, r = .d d) : PI C tg e (TIr C.K cx p (evIt G (.keys x))) := pi_weak (pi_keys ha) fun σ H R ⟨ρ, φ, ds, ρ', Rp, hm, k⟩ => by
  have hm : ((evE G x ρ).bind fun z => (dicD z.1).bind fun ds => some (ds.map (·.1), z.2)) = some (ds, ρ') := hm
  simp only [Option.bind_eq_some_iff, Option.some.injEq, Prod.mk.injEq] at hm
  obtain ⟨⟨y, ρ1⟩, e1, kvs, e2, rfl, rfl⟩ := hm
  refine ⟨ρ, φ, y, ρ1, Rp, e1, fun v H1 φ1 T P r => ?_⟩
  obtain ⟨d, rfl⟩ := hd _ _ _ e1
  simp only [dicD, dat1, Option.bind_some] at e2
  cases d with
  | dict es =>
    cases e2
    cases r with
    | d h =>
      cases h with
      | dK hh hs =>
        rename_i ad o hk ds
        refine ⟨ad, o, rfl, .inl ⟨hk, hh, k _ H1 φ1 T P ?_⟩⟩
        have n := hs.length
        rw [List.length_map] at n
        rw [zip_fst (as := hk.map fun p => kD p.1) (bs := ds) (by rw [List.length_map]; exact n)]
        exact ⟨fun i H' st hi => ⟨st.1 _ _ trivial hh, by simpa using hi⟩, fun i H' w H2 st hi y => by
          obtain ⟨rfl, kk, vv, h1, rfl⟩ := y
          exact ⟨kD kk, by rw [List.getElem?_map, h1]; rfl, fun _ _ h => h, di_kV kk⟩, fun H' st => ⟨st.1 _ _ trivial hh, by simp⟩⟩
      | dT hh ne hs =>
        rename_i ad o hk ds
        refine ⟨ad, o, rfl, .inr ⟨hk, hh, k _ H1 φ1 T P ?_⟩⟩
        have n := hs.length
        rw [List.length_map] at n
        rw [zip_fst (as := hk.map fun p => PyData.tuple (p.1.map kD)) (bs := ds) (by rw [List.length_map]; exact n)]
        exact ⟨fun i H' st hi => ⟨st.1 _ _ trivial hh, by simpa using hi⟩, fun i H' w H2 st hi y => by
          obtain ⟨rfl, kk, vv, q, h1, rfl, h2⟩ := y
          exact ⟨.tuple (kk.map kD), by rw [List.getElem?_map, h1]; rfl, fun _ _ h => h, .tup h2 (dis_kV kk)⟩, fun H' st => ⟨st.1 _ _ trivial hh, by simp⟩⟩
  | _ => cases e2

/-! ### targets -/
def Agr (io : List Nat) (σ σ' : L2.St) : Prop := ∀ i ∈ io, σ'[i]? = σ[i]?
theorem Agr.refl (io : List Nat) (σ : L2.St) : Agr io σ σ := fun _ _ => rfl
theorem Agr.trans {io : List Nat} {σ σ1 σ2 : L2.St} (a : Agr io σ σ1) (b : Agr io σ1 σ2) : Agr io σ σ2 := fun i h => (b i h).trans (a i h)
theorem Agr.set {io : List Nat} {σ : L2.St} {i : Nat} {v : Option V} (h : i ∉ io) : Agr io σ (σ.set i v) := fun j hj => List.getElem?_set_ne fun e => h (by rw [e]; exact hj)
/-- a datum put into a target -/
def TGr (K : PySem.W.Frag) (cx : List Cls1) (own : List Nat) (tg : Tg) : TG := fun v σ H Q => ∃ ρ φ d ρ', RepE K cx σ H ρ φ ∧ DI K H v d ∧ setTg tg d ρ = some ρ' ∧ ∀ σ' φ', RepE K cx σ' H ρ' φ' → (∀ c, un φ' c → un φ c) → (∀ i, i ∉ own → σ'[i]? = σ[i]?) → Q σ' H
theorem pg_weak {t t' : TG} (h : PG C tg t) (w : ∀ v σ H Q, t' v σ H Q → t v σ H Q) : PG C tg t' := ⟨fun pins s σ H v u Q I r q => h.run pins s σ H v u Q I r (w v σ H Q q)⟩
theorem tg_n {own : List Nat} {i : Nat} (h : PG C tg (gName i)) (ho : i ∈ own) : PG C tg (TGr C.K cx own (.n i)) := pg_weak h fun v σ H Q ⟨ρ, φ, d, ρ', R, di, hm, k⟩ => by
  cases hm
  refine k _ (setF φ i noF) (R.set (.d di) (fun _ z => z.elim) fun _ z => z.elim) (fun c z => ?_) fun j hj => List.getElem?_set_ne fun e => hj (by rw [← e]; exact ho)
  rcases un_setF z with y | y
  · exact y.elim
  · exact y
/-- several names -/
def TGsr (K : PySem.W.Frag) (cx : List Cls1) (own : List Nat) (is : List Nat) : TGs := fun vs σ H Q => ∃ ρ φ ds ρ', RepE K cx σ H ρ φ ∧ DIs K H vs ds ∧ setTgs is (ds.map X.d) ρ = some ρ' ∧ ∀ σ' φ', RepE K cx σ' H ρ' φ' → (∀ c, un φ' c → un φ c) → (∀ i, i ∉ own → σ'[i]? = σ[i]?) → Q σ' H
theorem pgs_weak {ts : List Expr} {t t' : TGs} (h : PGs C ts t) (w : ∀ v σ H Q, t' v σ H Q → t v σ H Q) : PGs C ts t' := ⟨fun pins s σ H vs us Q I r q => h.run pins s σ H vs us Q I r (w vs σ H Q q)⟩
theorem tgs_nil {own : List Nat} : PGs C [] (TGsr C.K cx own []) := pgs_weak pgs_nil fun vs σ H Q ⟨ρ, φ, ds, ρ', R, di, hm, k⟩ => by
  cases di with
  | nil =>
    cases hm
    exact ⟨rfl, k σ φ R (fun _ z => z) fun _ _ => rfl⟩
  | cons => simp [setTgs] at hm
theorem tgs_cons {own : List Nat} {i : Nat} {is : List Nat} {ts : List Expr} (h1 : PG C e (gName i)) (h2 : PGs C ts (TGsr C.K cx own is)) (ho : i ∈ own) (hs : (assignEach (e :: ts) C.env).map (·.2) = assign e C.env :: (assignEach ts C.env).map (·.2)) : PGs C (e :: ts) (TGsr C.K cx own (i :: is)) :=
  pgs_weak (pgs_cons h1 h2 hs) fun vs σ H Q ⟨ρ, φ, ds, ρ', R, di, hm, k⟩ => by
    cases di with
    | nil => simp [setTgs] at hm
    | @cons v vs d ds h hs =>
      have hm : setTgs is (ds.map X.d) (ρ.set i (some (.d d))) = some ρ' := hm
      refine ⟨v, vs, rfl, _, setF φ i noF, ds, ρ', R.set (.d h) (fun _ z => z.elim) (fun _ z => z.elim), hs, hm, fun σ' φ' R' kk ag => k σ' φ' R' (fun c z => ?_) fun j hj => (ag j hj).trans (List.getElem?_set_ne fun e => hj (by rw [← e]; exact ho))⟩
      rcases un_setF (kk c z) with y | y
      · exact y.elim
      · exact y
theorem setTgs_len : ∀ {is : List Nat} {xs : List X} {ρ ρ' : TT.Env}, setTgs is xs ρ = some ρ' → xs.length = is.length
  | [], [], _, _, _ => rfl
  | [], _ :: _, _, _, h => by simp [setTgs] at h
  | _ :: _, [], _, _, h => by simp [setTgs] at h
  | _ :: is, _ :: xs, _, _, h => by
    rw [List.length_cons, List.length_cons, setTgs_len (is := is) (by simpa [setTgs] using h)]
theorem tg_t {own : List Nat} {is : List Nat} {ts : List Expr} {k : Nat} (hc : C.calm = true) (h : PGs C ts (TGsr C.K cx own is)) (hn : (assignEach ts C.env).length = is.length) (hst : (assignEach ts C.env).findIdx? (·.1) = none) : PG C (.Tuple ts k pos) (TGr C.K cx own (.t is)) :=
  pg_weak (pg_tup (n := is.length) hc h hn hst) fun v σ H Q ⟨ρ, φ, d, ρ', R, di, hm, kk⟩ => by
    cases d with
    | tuple ds =>
      have hm : setTgs is (ds.map X.d) ρ = some ρ' := hm
      cases di with
      | @tup ad vs ds ht hs =>
        refine ⟨ad, vs, rfl, SqT.of ht, ?_, ρ, φ, ds, ρ', R, hs, hm, kk⟩
        rw [hs.length]
        have n := setTgs_len hm
        simpa using n
    | _ => simp [setTg] at hm
end
end TT

/-! A10: comprehensions. -/
namespace TT
open PySem PySem.Spec PyProof.Rows L2

section
variable {K : PySem.W.Frag} {cx : List Cls1} {σ : L2.St} {H H' : Hp} {ρ : TT.Env} {φ : Nat → Foot}
theorem RepE.forget (R : RepE K cx σ H ρ φ) (i : Nat) : RepE K cx (σ.set i none) H (ρ.set i none) (setF φ i noF) := by
  have R1 := R.drop i
  refine ⟨by rw [List.length_set, List.length_set]; exact R.len, fun j y e => ?_, R1.dj, R1.mu⟩
  obtain ⟨v, hv, r⟩ := R1.rep j y e
  refine ⟨v, ?_, r⟩
  by_cases h : i = j
  · subst h
    by_cases hl : i < ρ.length
    · rw [List.getElem?_set_self hl] at e
      cases e
    · rw [List.getElem?_eq_none (by rw [List.length_set]; omega)] at e
      cases e
  · rw [List.getElem?_set_ne h]
    exact hv
def wF (φ : Nat → Foot) : List Nat → Nat → Foot
  | [] => φ
  | v :: vs => setF (wF φ vs) v noF
theorem RepE.wipe (R : RepE K cx σ H ρ φ) : ∀ own : List Nat, RepE K cx (L2.wipe σ own) H (wipeE ρ own) (wF φ own)
  | [] => R
  | v :: vs => (RepE.wipe R vs).forget v
theorem un_wF {φ : Nat → Foot} {c : Addr} : ∀ {own : List Nat}, un (wF φ own) c → un φ c
  | [], h => h
  | v :: vs, h => by
    rcases un_setF h with z | z
    · exact z.elim
    · exact un_wF z
theorem wipeE_len (ρ : TT.Env) : ∀ own : List Nat, (wipeE ρ own).length = ρ.length
  | [] => rfl
  | v :: vs => by
    show ((wipeE ρ vs).set v none).length = _
    rw [List.length_set, wipeE_len ρ vs]
theorem wipeE_out {ρ : TT.Env} {i : Nat} : ∀ {own : List Nat}, i ∉ own → (wipeE ρ own)[i]? = ρ[i]?
  | [], _ => rfl
  | v :: vs, h => by
    show ((wipeE ρ vs).set v none)[i]? = _
    rw [List.getElem?_set_ne fun e => h (by rw [e]; exact List.mem_cons_self), wipeE_out fun m => h (List.mem_cons_of_mem _ m)]
theorem wipeE_in {ρ : TT.Env} {i : Nat} : ∀ {own : List Nat}, i ∈ own → i < ρ.length → (wipeE ρ own)[i]? = some none
  | [], h, _ => nomatch h
  | v :: vs, h, hl => by
    show ((wipeE ρ vs).set v none)[i]? = _
    by_cases e : v = i
    · subst e
      rw [List.getElem?_set_self (by rw [wipeE_len]; exact hl)]
    · rw [List.getElem?_set_ne e]
      refine wipeE_in ?_ hl
      rcases List.mem_cons.mp h with z | z
      · exact absurd z.symm e
      · exact z
theorem wipe_in {σ : L2.St} {i : Nat} : ∀ {own : List Nat}, i ∈ own → i < σ.length → (L2.wipe σ own)[i]? = some none
  | [], h, _ => nomatch h
  | v :: vs, h, hl => by
    show ((L2.wipe σ vs).set v none)[i]? = _
    by_cases e : v = i
    · subst e
      rw [List.getElem?_set_self (by rw [wipe_length]; exact hl)]
    · rw [List.getElem?_set_ne e]
      refine wipe_in ?_ hl
      rcases List.mem_cons.mp h with z | z
      · exact absurd z.symm e
      · exact z
theorem wipe_congr {σ σ' : L2.St} {own : List Nat} (hl : σ'.length = σ.length) (h : ∀ i, i ∉ own → σ'[i]? = σ[i]?) : L2.wipe σ' own = L2.wipe σ own := by
  refine List.ext_getElem? fun i => ?_
  by_cases hi : i ∈ own
  · by_cases hb : i < σ.length
    · rw [wipe_in hi hb, wipe_in hi (by omega)]
    · rw [List.getElem?_eq_none (by rw [wipe_length]; omega), List.getElem?_eq_none (by rw [wipe_length]; omega)]
  · rw [L2.wipe_out hi, L2.wipe_out hi]
    exact h i hi
theorem wipeE_congr {ρ ρ' : TT.Env} {own : List Nat} (hl : ρ'.length = ρ.length) (h : ∀ i, i ∉ own → ρ'[i]? = ρ[i]?) : wipeE ρ' own = wipeE ρ own := by
  refine List.ext_getElem? fun i => ?_
  by_cases hi : i ∈ own
  · by_cases hb : i < ρ.length
    · rw [wipeE_in hi hb, wipeE_in hi (by omega)]
    · rw [List.getElem?_eq_none (by rw [wipeE_len]; omega), List.getElem?_eq_none (by rw [wipeE_len]; omega)]
  · rw [wipeE_out hi, wipeE_out hi]
    exact h i hi
theorem backE_len (ρ0 ρ : TT.Env) : ∀ own : List Nat, (backE ρ0 ρ own).length = ρ.length
  | [] => rfl
  | v :: vs => by
    show ((backE ρ0 ρ vs).set v _).length = _
    rw [List.length_set, backE_len ρ0 ρ vs]
theorem backE_out {ρ0 ρ : TT.Env} {i : Nat} : ∀ {own : List Nat}, i ∉ own → (backE ρ0 ρ own)[i]? = ρ[i]?
  | [], _ => rfl
  | v :: vs, h => by
    show ((backE ρ0 ρ vs).set v _)[i]? = _
    rw [List.getElem?_set_ne fun e => h (by rw [e]; exact List.mem_cons_self), backE_out fun m => h (List.mem_cons_of_mem _ m)]
theorem backE_in {ρ0 ρ : TT.Env} {i : Nat} : ∀ {own : List Nat}, i ∈ own → i < ρ.length → (backE ρ0 ρ own)[i]? = some (ρ0[i]?).join
  | [], h, _ => nomatch h
  | v :: vs, h, hl => by
    show ((backE ρ0 ρ vs).set v (ρ0[v]?).join)[i]? = _
    by_cases e : v = i
    · subst e
      rw [List.getElem?_set_self (by rw [backE_len]; exact hl)]
    · rw [List.getElem?_set_ne e]
      refine backE_in ?_ hl
      rcases List.mem_cons.mp h with z | z
      · exact absurd z.symm e
      · exact z
theorem hidOk_at {ρ : TT.Env} {own : List Nat} (h : hidOk ρ own = true) {i : Nat} (hi : i ∈ own) : ρ[i]? = some none ∨ ∃ d, ρ[i]? = some (some (.d d)) := by
  have w := List.all_eq_true.mp h i hi
  cases e : ρ[i]? with
  | none => rw [e] at w; cases w
  | some o =>
    rw [e] at w
    cases o with
    | none => exact .inl rfl
    | some x =>
      cases x with
      | d d => exact .inr ⟨d, rfl⟩
      | _ => cases w
theorem backE_wipe {ρ : TT.Env} {own : List Nat} (h : hidOk ρ own = true) : backE ρ (wipeE ρ own) own = ρ := by
  refine List.ext_getElem? fun i => ?_
  by_cases hi : i ∈ own
  · have hb : i < ρ.length := by
      rcases hidOk_at h hi with e | ⟨d, e⟩
      · exact (List.getElem?_eq_some_iff.mp e).1
      · exact (List.getElem?_eq_some_iff.mp e).1
    rw [backE_in hi (by rw [wipeE_len]; exact hb)]
    rcases hidOk_at h hi with e | ⟨d, e⟩ <;> rw [e] <;> rfl
  · rw [backE_out hi, wipeE_out hi]
def tgS : Tg → List Nat
  | .n i => [i]
  | .t is => is
theorem setTgs_out : ∀ {is : List Nat} {xs : List X} {ρ ρ' : TT.Env} {i : Nat}, setTgs is xs ρ = some ρ' → ρ'.length = ρ.length ∧ (i ∉ is → ρ'[i]? = ρ[i]?)
  | [], [], _, _, _, h => by
    cases h
    exact ⟨rfl, fun _ => rfl⟩
  | [], _ :: _, _, _, _, h => by simp [setTgs] at h
  | _ :: _, [], _, _, _, h => by simp [setTgs] at h
  | j :: is, x :: xs, ρ, ρ', i, h => by
    have h : setTgs is xs (ρ.set j (some x)) = some ρ' := h
    obtain ⟨h1, h2⟩ := setTgs_out (i := i) h
    refine ⟨by rw [h1, List.length_set], fun n => ?_⟩
    rw [h2 fun m => n (List.mem_cons_of_mem _ m), List.getElem?_set_ne fun e => n (by rw [e]; exact List.mem_cons_self)]
theorem setTg_out {tg : Tg} {d : D} {ρ ρ' : TT.Env} {i : Nat} (h : setTg tg d ρ = some ρ') : ρ'.length = ρ.length ∧ (i ∉ tgS tg → ρ'[i]? = ρ[i]?) := by
  cases tg with
  | n j =>
    cases h
    exact ⟨List.length_set, fun n => List.getElem?_set_ne fun e => n (by rw [e]; exact List.mem_cons_self)⟩
  | t is =>
    cases d with
    | tuple ds => exact setTgs_out h
    | _ => simp [setTg] at h
theorem RepXs.append : ∀ {vs ws : List V} {xs ys : List X} {F1 F2 : Foot}, RepXs K cx H vs xs F1 → RepXs K cx H ws ys F2 → Dj F1 F2 → RepXs K cx H (vs ++ ws) (xs ++ ys) fun c => F1 c ∨ F2 c
  | _, _, _, _, F1, F2, .nil, h, _ => h.mono fun c z => .inr z
  | _, _, _, _, F1, F2, .cons (F1 := G1) (F2 := G2) h hs d s1 s2, h2, dj => by
    refine .cons h (RepXs.append hs h2 fun c z w => dj c (s2 c z) w) (fun c z w => ?_) (fun c z => .inl (s1 c z)) fun c z => ?_
    · rcases w with w | w
      · exact d c z w
      · exact dj c (s1 c z) w
    · rcases z with z | z
      · exact .inl (s2 c z)
      · exact .inr z
end

section
variable {C : Cx} {cx : List Cls1} {G : Nat → DF} {e a b tg : Expr} {es rest : List Expr} {p q : Bool} {pos : Pos}
theorem pts_weak {ifs : List Expr} {t t' : TT} (h : PTs C ifs t) (w : ∀ σ H Q, t' σ H Q → t σ H Q) : PTs C ifs t' := ⟨fun pins s σ H Q I q => h.run pins s σ H Q I (w σ H Q q)⟩
theorem tts_no : PTs C [] (TB C.K cx true (evO G .no)) := pts_weak pts_nil fun σ H Q ⟨ρ, φ, r, ρ', R, hm, q⟩ => by
  have hm : some (true, ρ) = some (r, ρ') := hm
  cases hm
  exact q H φ noF (Post.refl R)
theorem tts_yes {t : T} (h : PT C e (TB C.K cx p (evT G t))) : PTs C [e] (TB C.K cx p (evO G (.yes t))) := pts_weak (pts_one h) fun σ H Q w => w
/-- what holds at a turn of a comprehension -/
def LcW (K : PySem.W.Frag) (cx : List Cls1) (pp : Bool) (tt : TT.Env → Option (Bool × TT.Env)) (te : TT.Env → Option (X × TT.Env)) (tg : Tg) (own : List Nat) (σ : L2.St) (H1 : Hp) (ρ1 : TT.Env) (φ1 : Nat → Foot) (ds : List D) (xs : List X) (ρ2 : TT.Env) (Dd : Addr) (i m : Nat) (H : Hp) : Prop :=
  i ≤ ds.length ∧ m = ds.length - i ∧ ∃ ρi φi av ax T, RepE K cx (L2.wipe σ own) H ρi φi ∧ H Dd = some (.lst av) ∧ RepXs K cx H av ax T ∧ MutF T H ∧ Dj T (un φi) ∧ ¬ T Dd ∧ ¬ un φi Dd ∧ Frame (un φ1) H1 H ∧ Sub (un φi) (un φ1) H1 ∧ Sub T (un φ1) H1 ∧
    compLoop tg own tt te (ds.drop i) ρi ax = some (xs, ρ2) ∧ (pp = true → Same H1 H ∧ ρi = wipeE ρ1 own ∧ ∀ c, T c → H1 c = none)
theorem RepE.unwipe {K : PySem.W.Frag} {σ : L2.St} {H H1 : Hp} {ρ1 ρ2 : TT.Env} {φ1 φ2 : Nat → Foot} {own : List Nat} (R1 : RepE K cx σ H1 ρ1 φ1) (R : RepE K cx (L2.wipe σ own) H ρ2 φ2) (k : ImmK H1 H) (hh : hidOk ρ1 own = true) : RepE K cx σ H (backE ρ1 ρ2 own) φ2 := by
  refine ⟨by rw [backE_len, ← R.len, wipe_length], fun i x e => ?_, R.dj, R.mu⟩
  by_cases hi : i ∈ own
  · have hb : i < ρ2.length := by
      rw [← backE_len ρ1 ρ2 own]
      exact (List.getElem?_eq_some_iff.mp e).1
    rw [backE_in hi hb] at e
    rcases hidOk_at hh hi with z | ⟨d, z⟩
    · rw [z] at e; cases e
    · rw [z] at e
      cases e
      obtain ⟨v, hv, r⟩ := R1.rep i _ z
      cases r with
      | d h => exact ⟨v, hv, .d (h.keep k)⟩
  · rw [backE_out hi] at e
    obtain ⟨v, hv, r⟩ := R.rep i x e
    rw [L2.wipe_out hi] at hv
    exact ⟨v, hv, r⟩
theorem lc_red {s1 s2 s3 : Bool} {own : List Nat} {tg : Tg} {it : It} {t : Option1} {x : E} {σ : L2.St} {H : Hp} {Q : VK} (htg : ∀ i ∈ tgS tg, i ∈ own) (h : TX C.K cx (s1 && (s2 && s3)) (evE G (.comp own tg it t x)) σ H Q) :
    tLc (TIr C.K cx s1 (evIt G it)) (TGr C.K cx own tg) (TB C.K cx s2 (evO G t)) (TX C.K cx s3 (evE G x)) own σ H Q := by
  obtain ⟨ρ, φ, r, ρ', R, hm, k⟩ := h
  have hm : ((evIt G it ρ).bind fun z => if hidOk z.2 own then (compLoop tg own (evO G t) (evE G x) z.1 (wipeE z.2 own) []).bind fun w => some (X.lst w.1, backE z.2 w.2 own) else none) = some (r, ρ') := hm
  simp only [Option.bind_eq_some_iff, Option.ite_none_right_eq_some, Option.some.injEq, Prod.mk.injEq] at hm
  obtain ⟨⟨ds, ρ1⟩, e1, hh, ⟨xs, ρ2⟩, e2, rfl, rfl⟩ := hm
  have hh : hidOk ρ1 own = true := hh
  have e2 : compLoop tg own (evO G t) (evE G x) ds (wipeE ρ1 own) [] = some (xs, ρ2) := e2
  refine ⟨ρ, φ, ds, ρ1, R, e1, fun J H1 φ1 Tit P1 hJ Dd hD => ?_⟩
  have mutn : ∀ F : Foot, MutF F H1 → ¬ F Dd := fun F m z => by
    have w := m Dd z
    rw [hD] at w
    exact w
  have smD : Same H1 (upd H1 Dd (.lst [])) := fun c o h => by
    rw [upd_ne (ne_of_none h hD)]
    exact h
  refine ⟨LcW C.K cx (s2 && s3) (evO G t) (evE G x) tg own σ H1 ρ1 φ1 ds xs ρ2 Dd, ⟨ds.length, Nat.zero_le _, rfl, wipeE ρ1 own, wF φ1 own, [], [], noF, (P1.rep.wipe own).same smD, upd_same, .nil, fun _ z => z.elim, fun _ z => z.elim, fun z => z, fun z => mutn _ P1.rep.mu (un_wF z), fun c o h _ => smD c o h, fun c z => .inl (un_wF z), fun _ z => z.elim, e2, fun _ => ⟨smD, rfl, fun _ z => z.elim⟩⟩, ?_⟩
  rintro i m Hi ⟨hi, rfl, ρi, φi, av, ax, T, Ri, hDi, ra, mT, djT, nTD, nD, fr, sb, sT, ev, pu⟩
  have frT : ∀ c, Tit c → Hi c = H1 c := frame_at P1.mt P1.dj fr
  have st : Stp H1 Tit Hi := ⟨fr.imm P1.rep.mu, frT⟩
  rcases Nat.lt_or_ge i ds.length with hlt | hge
  · right
    refine ⟨hJ.go i Hi st hlt, fun H' => ∃ m', m' < ds.length - i ∧ LcW C.K cx (s2 && s3) (evO G t) (evE G x) tg own σ H1 ρ1 φ1 ds xs ρ2 Dd (i + 1) m' H', fun H' z => z, fun v H2 hy => ?_⟩
    obtain ⟨d, hd, sm, di⟩ := hJ.yld i Hi v H2 st hlt hy
    have hdrop : ds.drop i = d :: ds.drop (i + 1) := by
      rw [List.drop_eq_getElem_cons hlt]
      congr 1
      exact (List.getElem?_eq_some_iff.mp hd).2
    rw [hdrop] at ev
    have ev : ((setTg tg d ρi).bind fun ρa => (evO G t ρa).bind fun z => if z.1 then (evE G x z.2).bind fun w => if ax.length < sizeLine then compLoop tg own (evO G t) (evE G x) (ds.drop (i + 1)) (wipeE w.2 own) (ax ++ [w.1]) else none else compLoop tg own (evO G t) (evE G x) (ds.drop (i + 1)) (wipeE z.2 own) ax) = some (xs, ρ2) := ev
    simp only [Option.bind_eq_some_iff] at ev
    obtain ⟨ρa, ea, ⟨bb, ρb⟩, eb, ec⟩ := ev
    have Ri2 := Ri.same sm
    refine ⟨ρi, φi, d, ρa, Ri2, di, ea, fun σ2 φ2 R2 k2 ag => ?_⟩
    have hw : L2.wipe σ2 own = L2.wipe σ own := by
      have h1 : L2.wipe σ2 own = L2.wipe (L2.wipe σ own) own := wipe_congr (by rw [R2.len, (setTg_out (i := 0) ea).1, ← Ri.len]) ag
      rw [h1]
      refine wipe_congr (wipe_length _ _) fun i n => L2.wipe_out n
    refine ⟨hw, ρa, φ2, bb, ρb, R2, eb, fun H3 φ3 T3 P3 => ?_⟩
    -- the cells that stay
    have mF : MutF (fun c => T c ∨ c = Dd) H2 := fun c z => by
      rcases z with z | rfl
      · rw [same_at sm mT c z]
        exact mT c z
      · rw [sm _ _ hDi]
        trivial
    have dF : Dj (fun c => T c ∨ c = Dd) (un φ2) := fun c z w => by
      rcases z with z | rfl
      · exact djT c z (k2 c w)
      · exact nD (k2 _ w)
    have st3 : ∀ c, (T c ∨ c = Dd) → H3 c = H2 c := frame_at mF dF P3.fr
    have mF3 : MutF (fun c => T c ∨ c = Dd) H3 := mF.keep dF P3.fr
    have dF3 : Dj (fun c => T c ∨ c = Dd) (un φ3) := Dj.of_sub mF dF P3.s1
    have fr2 : Frame (un φ1) H1 H2 := fun c o h n => sm c o (fr c o h n)
    have sb2 : Sub (un φ2) (un φ1) H1 := fun c z => sb c (k2 c z)
    have fr3 : Frame (un φ1) H1 H3 := fr2.trans P3.fr sb2
    have back2 : ∀ c, (un φ2 c ∨ H2 c = none) → un φ1 c ∨ H1 c = none := fun c z => by
      rcases z with z | z
      · exact sb2 c z
      · exact none_of_frame fr2 P1.rep.mu z
    have sb3 : Sub (un φ3) (un φ1) H1 := fun c z => back2 c (P3.s1 c z)
    have hD2 : H2 Dd = some (.lst av) := sm _ _ hDi
    have hD3 : H3 Dd = some (.lst av) := (st3 Dd (.inr rfl)).trans hD2
    have ra3 : RepXs C.K cx H3 av ax T := (ra.keep (same_imm sm) (same_at sm mT)).keep (P3.fr.imm R2.mu) fun c z => st3 c (.inl z)
    cases bb with
    | false =>
      have ec : compLoop tg own (evO G t) (evE G x) (ds.drop (i + 1)) (wipeE ρb own) ax = some (xs, ρ2) := ec
      have Rw := P3.rep.wipe own
      rw [hw] at Rw
      show ∃ m', m' < ds.length - i ∧ _
      refine ⟨ds.length - (i + 1), by omega, hlt, rfl, wipeE ρb own, wF φ3 own, av, ax, T, Rw, hD3, ra3, mF3.mono fun c z => .inl z, fun c z w => dF3 c (.inl z) (un_wF w), nTD, fun z => dF3 Dd (.inr rfl) (un_wF z), fr3, fun c z => sb3 c (un_wF z), sT, ec, fun ep => ?_⟩
      obtain ⟨p1, p2, p3⟩ := pu ep
      obtain ⟨q1, q2, _⟩ := P3.pure (band ep).1
      refine ⟨(p1.trans sm).trans q1, ?_, p3⟩
      rw [q2, ← show wipeE ρi own = wipeE ρ1 own from by rw [p2]; exact wipeE_congr (wipeE_len _ _) fun i n => wipeE_out n]
      exact wipeE_congr (setTg_out (i := 0) ea).1 fun j n => (setTg_out ea).2 fun z => n (htg j z)
    | true =>
      have ec : ((evE G x ρb).bind fun w => if ax.length < sizeLine then compLoop tg own (evO G t) (evE G x) (ds.drop (i + 1)) (wipeE w.2 own) (ax ++ [w.1]) else none) = some (xs, ρ2) := ec
      simp only [Option.bind_eq_some_iff, Option.ite_none_right_eq_some] at ec
      obtain ⟨⟨y, ρc⟩, ed, hl, ec⟩ := ec
      refine ⟨ρb, φ3, y, ρc, P3.rep, ed, fun yv H4 φ4 T4 P4 ry => ?_⟩
      have st4 : ∀ c, (T c ∨ c = Dd) → H4 c = H3 c := frame_at mF3 dF3 P4.fr
      have mF4 : MutF (fun c => T c ∨ c = Dd) H4 := mF3.keep dF3 P4.fr
      have dF4 : Dj (fun c => T c ∨ c = Dd) (un φ4) := Dj.of_sub mF3 dF3 P4.s1
      have dT4 : Dj (fun c => T c ∨ c = Dd) T4 := Dj.of_sub mF3 dF3 P4.s2
      have hD4 : H4 Dd = some (.lst av) := (st4 Dd (.inr rfl)).trans hD3
      have fr4 : Frame (un φ1) H1 H4 := fr3.trans P4.fr sb3
      have back3 : ∀ c, (un φ3 c ∨ H3 c = none) → un φ1 c ∨ H1 c = none := fun c z => by
        rcases z with z | z
        · exact sb3 c z
        · exact none_of_frame fr3 P1.rep.mu z
      have ra4 : RepXs C.K cx H4 av ax T := ra3.keep (P4.fr.imm P3.rep.mu) fun c z => st4 c (.inl z)
      have immU : ImmK H4 (upd H4 Dd (.lst (av ++ [yv]))) := fun c o im h => by
        rw [upd_ne fun z => ?_]
        · exact h
        · subst z
          rw [hD4] at h
          cases h
          exact im
      have neU : ∀ {F : Foot}, ¬ F Dd → ∀ c, F c → (upd H4 Dd (.lst (av ++ [yv]))) c = H4 c := fun n c z => upd_ne fun e => n (by rw [← e]; exact z)
      have Rw := P4.rep.wipe own
      rw [hw] at Rw
      have nD4 : ¬ un φ4 Dd := fun z => dF4 Dd (.inr rfl) z
      have nT4 : ¬ T4 Dd := fun z => dT4 Dd (.inr rfl) z
      have one : RepXs C.K cx (upd H4 Dd (.lst (av ++ [yv]))) [yv] [y] T4 := .cons (F2 := noF) (ry.keep immU (neU nT4)) .nil (fun _ _ z => z.elim) (fun _ z => z) fun _ z => z.elim
      refine ⟨av, hD4, by rw [RepXs.length (F := noF) ra4]; exact hl, ?_⟩
      show ∃ m', m' < ds.length - i ∧ _
      refine ⟨ds.length - (i + 1), by omega, hlt, rfl, wipeE ρc own, wF φ4 own, av ++ [yv], ax ++ [y], fun c => T c ∨ T4 c, Rw.stay immU (neU fun z => nD4 (un_wF z)), upd_same, (ra4.keep immU (neU nTD)).append one (fun c z w => dT4 c (.inl z) w), fun c z => ?_, fun c z w => ?_, fun z => ?_, fun z => nD4 (un_wF z), fun c o h n => ?_, fun c z => back3 c (P4.s1 c (un_wF z)), fun c z => ?_, ec, fun ep => ?_⟩
      · rcases z with z | z
        · rw [neU nTD c z]
          exact mF4 c (.inl z)
        · rw [neU nT4 c z]
          exact P4.mt c z
      · rcases z with z | z
        · exact dF4 c (.inl z) (un_wF w)
        · exact P4.dj c z (un_wF w)
      · rcases z with z | z
        · exact nTD z
        · exact nT4 z
      · rw [upd_ne (ne_of_none h hD)]
        exact fr4 c o h n
      · rcases z with z | z
        · exact sT c z
        · exact back3 c (P4.s2 c z)
      · obtain ⟨p1, p2, p3⟩ := pu ep
        obtain ⟨q1, q2, _⟩ := P3.pure (band ep).1
        obtain ⟨r1, r2, r3⟩ := P4.pure (band ep).2
        refine ⟨fun c o h => ?_, ?_, fun c z => ?_⟩
        · rw [upd_ne (ne_of_none h hD)]
          exact ((p1.trans sm).trans (q1.trans r1)) c o h
        · rw [r2, q2, ← show wipeE ρi own = wipeE ρ1 own from by rw [p2]; exact wipeE_congr (wipeE_len _ _) fun i n => wipeE_out n]
          exact wipeE_congr (setTg_out (i := 0) ea).1 fun j n => (setTg_out ea).2 fun z => n (htg j z)
        · rcases z with z | z
          · exact p3 c z
          · rcases P4.s2 c z with u | u
            · exact (P4.dj c z (by rw [r3]; exact u)).elim
            · cases eo : H1 c with
              | none => rfl
              | some o =>
                rw [((p1.trans sm).trans q1) c o eo] at u
                cases u
  · left
    obtain rfl : i = ds.length := Nat.le_antisymm hi hge
    refine ⟨hJ.stop Hi st, ?_⟩
    rw [List.drop_length] at ev
    cases ev
    have rv : RepX C.K cx Hi (.ref Dd) (.lst xs) (fun c => T c ∨ c = Dd) := .lst hDi (.inr rfl) (ra.mono fun c z => ⟨.inl z, fun e => nTD (by rw [← e]; exact z)⟩)
    have mF : MutF (fun c => T c ∨ c = Dd) Hi := fun c z => by
      rcases z with z | rfl
      · exact mT c z
      · rw [hDi]
        trivial
    have back : ∀ c, (un φ1 c ∨ H1 c = none) → un φ c ∨ H c = none := fun c z => by
      rcases z with z | z
      · exact P1.s1 c z
      · exact none_of_frame P1.fr R.mu z
    have sF : Sub (fun c => T c ∨ c = Dd) (un φ) H := fun c z => by
      rcases z with z | rfl
      · exact back c (sT c z)
      · exact back _ (.inr hD)
    have frF : Frame (un φ) H Hi := P1.fr.trans fr P1.s1
    by_cases ep : (s1 && (s2 && s3)) = true
    · obtain ⟨ep1, ep2⟩ := band ep
      obtain ⟨a1, a2, a3⟩ := P1.pure ep1
      obtain ⟨b1, b2, b3⟩ := pu ep2
      subst a2 a3
      subst b2
      rw [backE_wipe hh]  at k
      have R' : RepE C.K cx σ Hi ρ1 φ1 := P1.rep.same b1
      refine k (.ref Dd) Hi φ1 _ ⟨R', mF, fun c z w => ?_, frF, Sub.refl _ _, sF, fun _ => ⟨a1.trans b1, rfl, rfl⟩⟩ rv
      have hw := P1.rep.mu c w
      rcases z with z | rfl
      · rw [b3 c z] at hw
        exact hw
      · rw [hD] at hw
        exact hw
    · refine k (.ref Dd) Hi φi _ ⟨P1.rep.unwipe Ri (fr.imm P1.rep.mu) hh, mF, fun c z w => ?_, frF, fun c z => back c (sb c z), sF, fun e => absurd e ep⟩ rv
      rcases z with z | rfl
      · exact djT c z w
      · exact nD w
end
end TT

/-! A11: statements. -/
namespace TT
open PySem PySem.Spec PyProof.Rows L2

section
variable (K : PySem.W.Frag) (cx : List Cls1) (io : List Nat)
structure PostS (σ : L2.St) (H : Hp) (φ : Nat → Foot) (σ' : L2.St) (H' : Hp) (ρ' : TT.Env) (φ' : Nat → Foot) (T : Foot) : Prop where
  rep : RepE K cx σ' H' ρ' φ'
  mt : MutF T H'
  dj : Dj T (un φ')
  fr : Frame (un φ) H H'
  s1 : Sub (un φ') (un φ) H
  s2 : Sub T (un φ) H
  ag : Agr io σ σ'
/-- how a statement's ends are met -/
def EndF (Dn : L2.Ends) (σ' : L2.St) (H' : Hp) (T : Foot) : Fl → Prop
  | .nx => Dn.nx σ' H'
  | .bk => Dn.bk σ' H'
  | .ct => Dn.ct σ' H'
  | .rt x => ∀ v, RepX K cx H' v x T → Dn.rt v H'
def TSr (m : TT.Env → Option (Fl × TT.Env)) : TS := fun Dn σ H => ∃ ρ φ fl ρ', RepE K cx σ H ρ φ ∧ m ρ = some (fl, ρ') ∧ ∀ σ' H' φ' T, PostS K cx io σ H φ σ' H' ρ' φ' T → EndF K cx Dn σ' H' T fl
end
section
variable {K : PySem.W.Frag} {cx : List Cls1} {io : List Nat} {σ σ1 σ2 : L2.St} {H H1 H2 : Hp} {ρ ρ1 ρ2 : TT.Env} {φ φ1 φ2 : Nat → Foot} {p q : Bool} {T T1 T2 : Foot}
theorem Post.ps (a : Post K cx σ H ρ φ p H1 ρ1 φ1 T) : PostS K cx io σ H φ σ H1 ρ1 φ1 T := ⟨a.rep, a.mt, a.dj, a.fr, a.s1, a.s2, Agr.refl io σ⟩
theorem PostS.refl (R : RepE K cx σ H ρ φ) : PostS K cx io σ H φ σ H ρ φ noF := (Post.refl (p := true) R).ps
theorem PostS.seq (R : RepE K cx σ H ρ φ) (a : PostS K cx io σ H φ σ1 H1 ρ1 φ1 T1) (b : PostS K cx io σ1 H1 φ1 σ2 H2 ρ2 φ2 T2) : PostS K cx io σ H φ σ2 H2 ρ2 φ2 T2 := by
  have back : ∀ c, (un φ1 c ∨ H1 c = none) → un φ c ∨ H c = none := fun c z => by
    rcases z with z | z
    · exact a.s1 c z
    · exact none_of_frame a.fr R.mu z
  exact ⟨b.rep, b.mt, b.dj, a.fr.trans b.fr a.s1, fun c z => back c (b.s1 c z), fun c z => back c (b.s2 c z), a.ag.trans b.ag⟩
/-- a slot takes what was made -/
theorem PostS.set (R : RepE K cx σ H ρ φ) (a : Post K cx σ H ρ φ p H1 ρ1 φ1 T) {i : Nat} {v : V} {x : X} (r : RepX K cx H1 v x T) (hi : i ∉ io) : PostS K cx io σ H φ (σ.set i (some v)) H1 (ρ1.set i (some x)) (setF φ1 i T) noF := by
  refine ⟨a.rep.set r a.mt a.dj, fun _ z => z.elim, fun _ z => z.elim, a.fr, fun c z => ?_, fun _ z => z.elim, Agr.set hi⟩
  rcases un_setF z with y | y
  · exact a.s2 c y
  · exact a.s1 c y
/-- the cell of a place is written -/
theorem put_cell {p : Pl} {a : Addr} {s s' : X} {o' : HO} (R : RepE K cx σ H ρ φ) (m : MutF T H) (d : Dj T (un φ)) (hp : PlAt σ H p (.ref a)) (e : getPl ρ p = some s)
    (k : ∀ Fs : Foot, (∀ c, Fs c → un φ c) → RepX K cx H (.ref a) s Fs → Fs a ∧ Mut (some o') ∧ RepX K cx (upd H a o') (.ref a) s' (fun c => Fs c ∨ T c)) :
    ∃ ρ' φ', setPl ρ p s' = some ρ' ∧ RepE K cx σ (upd H a o') ρ' φ' ∧ (∀ c, un φ' c → un φ c ∨ T c) ∧ un φ a := by
  obtain ⟨Fs, k1, r1, put⟩ := place_put R hp e
  obtain ⟨fa, mo, rn⟩ := k Fs (fun c z => ⟨_, k1 c z⟩) r1
  have ua : un φ a := ⟨_, k1 a fa⟩
  have ki : ImmK H (upd H a o') := fun c o im h => by
    rw [upd_ne fun z => ?_]
    · exact h
    · subst z
      exact mut_imm (R.mu _ ua) h im
  have mg : MutF (fun c => Fs c ∨ T c) (upd H a o') := fun c z => by
    by_cases h : c = a
    · subst h
      rw [upd_same]
      exact mo
    · rw [upd_ne h]
      rcases z with z | z
      · exact R.mu c ⟨_, k1 c z⟩
      · exact m c z
  obtain ⟨ρ', φ', e', R', kk⟩ := put (upd H a o') s' _ ki (fun c _ n => upd_ne fun z => n (by rw [z]; exact fa)) rn mg fun c u n z => by
    rcases z with z | z
    · exact n z
    · exact d c z u
  refine ⟨ρ', φ', e', R', fun c z => ?_, ua⟩
  rcases kk c z with w | w
  · exact .inl w.1
  · rcases w with w | w
    · exact .inl ⟨_, k1 c w⟩
    · exact .inr w
theorem Post.put {o' : HO} {a : Addr} {ρ' : TT.Env} {φ' : Nat → Foot} (R : RepE K cx σ H ρ φ) (P : Post K cx σ H ρ φ p H1 ρ1 φ1 T) (R' : RepE K cx σ (upd H1 a o') ρ' φ') (k : ∀ c, un φ' c → un φ1 c ∨ T c) (ha : un φ1 a) {T' : Foot} (m : MutF T' (upd H1 a o')) (d : Dj T' (un φ')) (s : Sub T' (un φ) H) :
    Post K cx σ H ρ φ false (upd H1 a o') ρ' φ' T' := by
  refine ⟨R', m, d, fun c o h n => ?_, fun c z => ?_, s, fun e => nomatch e⟩
  · rw [upd_ne fun z => ?_]
    · exact P.fr c o h n
    · subst z
      rcases P.s1 _ ha with w | w
      · exact n w
      · rw [h] at w
        cases w
  · rcases k c z with w | w
    · exact P.s1 c w
    · exact P.s2 c w
theorem RepXs.set : ∀ {vs : List V} {xs : List X} {F : Foot} {n : Nat} {v : V} {x : X} {G : Foot}, RepXs K cx H vs xs F → RepX K cx H v x G → Dj F G → RepXs K cx H (vs.set n v) (xs.set n x) fun c => F c ∨ G c
  | _, _, F, n, v, x, G, .nil, r, d => .nil
  | _, _, F, 0, v, x, G, .cons (F1 := F1) (F2 := F2) h hs dj s1 s2, r, d => .cons r hs (fun c z w => d c (s2 c w) z) (fun c z => .inr z) fun c z => .inl (s2 c z)
  | _, _, F, n + 1, v, x, G, .cons (F1 := F1) (F2 := F2) h hs dj s1 s2, r, d => by
    refine .cons h (RepXs.set (n := n) hs r fun c z w => d c (s2 c z) w) (fun c z w => ?_) (fun c z => .inl (s1 c z)) fun c z => ?_
    · rcases w with w | w
      · exact dj c z w
      · exact d c (s1 c z) w
    · rcases z with z | z
      · exact .inl (s2 c z)
      · exact .inr z
/-- what stands by the side of a written cell -/
theorem upd_keep {a : Addr} {o' : HO} (m : Mut (H a)) : ImmK H (upd H a o') := fun c o im h => by
  rw [upd_ne fun z => ?_]
  · exact h
  · subst z
    exact mut_imm m h im
theorem upd_out {a : Addr} {o' : HO} {F : Foot} (n : ¬ F a) : ∀ c, F c → (upd H a o') c = H c := fun c z => upd_ne fun e => n (by rw [← e]; exact z)
end

section
variable {C : Cx} {cx : List Cls1} {G : Nat → DF} {io : List Nat} {e a b tg : Expr} {es rest : List Expr} {st : Stmt} {sts : List Stmt} {p q : Bool} {pos pos' : Pos}
theorem mut_of {H : Hp} {a : Addr} {o : HO} (h : H a = some o) (m : Mut (some o)) : Mut (H a) := by
  rw [h]
  exact m

/-! ### rows of statements -/
theorem tss_nil : PSs C [] (TSr C.K cx io (evSs G .nil)) := pss_weak pss_nil fun Dn σ H ⟨ρ, φ, fl, ρ', R, hm, k⟩ => by
  cases hm
  exact k σ H φ noF (PostS.refl R)
theorem tss_cons {s : S} {r : Ss} (h1 : PS C st (TSr C.K cx io (evS G s))) (h2 : PSs C sts (TSr C.K cx io (evSs G r))) : PSs C (st :: sts) (TSr C.K cx io (evSs G (.cons s r))) := pss_weak (pss_cons h1 h2) fun Dn σ H ⟨ρ, φ, fl, ρ', R, hm, k⟩ => by
  have hm : ((evS G s ρ).bind fun z => (match z.1 with
    | .nx => evSs G r z.2
    | f => some (f, z.2))) = some (fl, ρ') := hm
  simp only [Option.bind_eq_some_iff] at hm
  obtain ⟨⟨f, ρ1⟩, e1, e2⟩ := hm
  refine ⟨ρ, φ, f, ρ1, R, e1, fun σ1 H1 φ1 T1 P1 => ?_⟩
  cases f with
  | nx => exact ⟨ρ1, φ1, fl, ρ', P1.rep, e2, fun σ2 H2 φ2 T2 P2 => k σ2 H2 φ2 T2 (PostS.seq R P1 P2)⟩
  | bk => cases e2; exact k σ1 H1 φ1 T1 P1
  | ct => cases e2; exact k σ1 H1 φ1 T1 P1
  | rt x => cases e2; exact k σ1 H1 φ1 T1 P1
theorem tss_doc {x j pos1 pos2} {s : Ss} (h : PSs C sts (TSr C.K cx io (evSs G s))) : PSs C (.Expr (.Constant (.str x) j pos1) pos2 :: sts) (TSr C.K cx io (evSs G s)) := pss_weak (pss_cons ps_doc h) fun Dn σ H z => z
theorem ts_pass : PS C (.Pass pos) (TSr C.K cx io (evS G .pass)) := ps_weak ps_pass fun Dn σ H ⟨ρ, φ, fl, ρ', R, hm, k⟩ => by
  cases hm
  exact k σ H φ noF (PostS.refl R)
theorem ts_brk : PS C (.Break pos) (TSr C.K cx io (evS G .brk)) := ps_weak ps_break fun Dn σ H ⟨ρ, φ, fl, ρ', R, hm, k⟩ => by
  cases hm
  exact k σ H φ noF (PostS.refl R)
theorem ts_ct : PS C (.Continue pos) (TSr C.K cx io (evS G .ct)) := ps_weak ps_continue fun Dn σ H ⟨ρ, φ, fl, ρ', R, hm, k⟩ => by
  cases hm
  exact k σ H φ noF (PostS.refl R)
theorem ts_expr {x : E} (he : PE C e (TX C.K cx p (evE G x))) (hs : swapsWith e none pos.line C.env = pure false) : PS C (.Expr e pos) (TSr C.K cx io (evS G (.expr x))) := ps_weak (ps_expr he hs) fun Dn σ H ⟨ρ, φ, fl, ρ', R, hm, k⟩ => by
  have hm : ((evE G x ρ).bind fun z => some (Fl.nx, z.2)) = some (fl, ρ') := hm
  simp only [Option.bind_eq_some_iff, Option.some.injEq, Prod.mk.injEq] at hm
  obtain ⟨⟨y, ρ1⟩, e1, rfl, rfl⟩ := hm
  exact ⟨ρ, φ, y, ρ1, R, e1, fun v H1 φ1 T1 P1 r1 => k σ H1 φ1 T1 P1.ps⟩
theorem ts_ret {x : E} (he : PE C e (TX C.K cx p (evE G x))) : PS C (.Return (some e) pos) (TSr C.K cx io (evS G (.ret x))) := ps_weak (ps_ret he) fun Dn σ H ⟨ρ, φ, fl, ρ', R, hm, k⟩ => by
  have hm : ((evE G x ρ).bind fun z => some (Fl.rt z.1, z.2)) = some (fl, ρ') := hm
  simp only [Option.bind_eq_some_iff, Option.some.injEq, Prod.mk.injEq] at hm
  obtain ⟨⟨y, ρ1⟩, e1, rfl, rfl⟩ := hm
  exact ⟨ρ, φ, y, ρ1, R, e1, fun v H1 φ1 T1 P1 r1 => k σ H1 φ1 T1 P1.ps v r1⟩
theorem ts_retN : PS C (.Return none pos) (TSr C.K cx io (evS G .retN)) := ps_weak ps_retN fun Dn σ H ⟨ρ, φ, fl, ρ', R, hm, k⟩ => by
  cases hm
  exact k σ H φ noF (PostS.refl R) .non (.d .non)
theorem ts_if {t : T} {x y : Ss} {c : Expr} {sa sb : List Stmt} (hc : PT C c (TB C.K cx p (evT G t))) (ha : PSs C sa (TSr C.K cx io (evSs G x))) (hb : PSs C sb (TSr C.K cx io (evSs G y))) : PS C (.If c sa sb pos) (TSr C.K cx io (evS G (.iff t x y))) := ps_weak (ps_if hc ha hb) fun Dn σ H ⟨ρ, φ, fl, ρ', R, hm, k⟩ => by
  have hm : ((evT G t ρ).bind fun z => if z.1 then evSs G x z.2 else evSs G y z.2) = some (fl, ρ') := hm
  simp only [Option.bind_eq_some_iff] at hm
  obtain ⟨⟨b, ρ1⟩, e1, e2⟩ := hm
  refine ⟨ρ, φ, b, ρ1, R, e1, fun H1 φ1 T1 P1 => ?_⟩
  cases b with
  | true => exact ⟨ρ1, φ1, fl, ρ', P1.rep, e2, fun σ2 H2 φ2 T2 P2 => k σ2 H2 φ2 T2 (PostS.seq R P1.ps P2)⟩
  | false => exact ⟨ρ1, φ1, fl, ρ', P1.rep, e2, fun σ2 H2 φ2 T2 P2 => k σ2 H2 φ2 T2 (PostS.seq R P1.ps P2)⟩

/-! ### names -/
theorem set_red {i : Nat} {x : E} {Dn : L2.Ends} {σ : L2.St} {H : Hp} (hi : i ∉ io) (h : TSr C.K cx io (evS G (.set i x)) Dn σ H) : TX C.K cx false (evE G x) σ H fun v H1 => Dn.nx (σ.set i (some v)) H1 := by
  obtain ⟨ρ, φ, fl, ρ', R, hm, k⟩ := h
  have hm : ((evE G x ρ).bind fun z => some (Fl.nx, z.2.set i (some z.1))) = some (fl, ρ') := hm
  simp only [Option.bind_eq_some_iff, Option.some.injEq, Prod.mk.injEq] at hm
  obtain ⟨⟨y, ρ1⟩, e1, rfl, rfl⟩ := hm
  exact ⟨ρ, φ, y, ρ1, R, e1, fun v H1 φ1 T1 P1 r1 => k _ _ _ _ (PostS.set R P1 r1 hi)⟩
theorem tx_imp {m : TT.Env → Option (X × TT.Env)} {σ : L2.St} {H : Hp} {Q : VK} (h : TX C.K cx false m σ H Q) : TX C.K cx p m σ H Q := by
  obtain ⟨ρ, φ, r, ρ', R, hm, k⟩ := h
  exact ⟨ρ, φ, r, ρ', R, hm, fun v H' φ' T P => k v H' φ' T P.impure⟩
theorem ts_set {i : Nat} {y : Str} {x : E} (hi : i ∉ io) (hN : C.N.Nodup) (hy : C.N[i]? = some y) (hl : Loc C.env.scope y) (he : PE C e (TX C.K cx p (evE G x))) (hs : swapsWith e (some (.Name y pos')) pos.line C.env = pure false) (hf : C.fn y = true ∨ C.env.scope.names.lookup y = some .local) :
    PS C (.Assign [.Name y pos'] e pos) (TSr C.K cx io (evS G (.set i x))) := ps_weak (ps_set hN hy hl he hs hf) fun Dn σ H h => tx_imp (set_red hi h)
theorem ts_setC {i : Nat} {y : Str} {py : Pos} {elt tgt iter : Expr} {ifs : List Expr} {scope : Scope} {own : List (Str × Nat)} {cpos : Pos} {s1 s2 s3 : Bool} {tg : Tg} {it : It} {t : Option1} {x : E} (hi : i ∉ io) (hc : C.calm = true) (hN : C.N.Nodup) (hy : C.N[i]? = some y) (hl : C.env.scope.names.lookup y = some .local)
    (hsw : swapsWith (.ListComp elt [⟨tgt, iter, ifs, 0⟩] scope cpos) (some (.Name y py)) pos.line C.env = pure true) (hw : PI C tgt iter (TIr C.K cx s1 (evIt G it))) (ok : BlkOk C.N C.env.scope scope own) (htg : ∀ i ∈ tgS tg, i ∈ own.map (·.2))
    (hg : ∀ (s : Shared) (H : Hp) (c : Addr) (cl : List (Str × Addr)) (fp : List Addr), PG (C.blk s H scope (compEnvC scope cl c C.env) fp) tgt (TGr C.K cx (own.map (·.2)) tg)) (ht : ∀ (s : Shared) (H : Hp) (c : Addr) (cl : List (Str × Addr)) (fp : List Addr), PTs (C.blk s H scope (compEnvC scope cl c C.env) fp) ifs (TB C.K cx s2 (evO G t)))
    (he : ∀ (s : Shared) (H : Hp) (c : Addr) (cl : List (Str × Addr)) (fp : List Addr), PE (C.blk s H scope (compEnvC scope cl c C.env) fp) elt (TX C.K cx s3 (evE G x))) (hf : ∀ x, foldedSetIterable iter C.env x = pure x) :
    PS C (.Assign [.Name y py] (.ListComp elt [⟨tgt, iter, ifs, 0⟩] scope cpos) pos) (TSr C.K cx io (evS G (.set i (.comp (own.map (·.2)) tg it t x)))) :=
  ps_weak (ps_setLc hc hN hy hl hsw hw ok hg ht he hf) fun Dn σ H h => lc_red htg (tx_imp (set_red hi h))
theorem te_comp {elt tgt iter : Expr} {ifs : List Expr} {scope : Scope} {own : List (Str × Nat)} {cpos : Pos} {s1 s2 s3 : Bool} {tg : Tg} {it : It} {t : Option1} {x : E} (hc : C.calm = true) (hN : C.N.Nodup)
    (hw : PI C tgt iter (TIr C.K cx s1 (evIt G it))) (ok : BlkOk C.N C.env.scope scope own) (htg : ∀ i ∈ tgS tg, i ∈ own.map (·.2))
    (hg : ∀ (s : Shared) (H : Hp) (c : Addr) (cl : List (Str × Addr)) (fp : List Addr), PG (C.blk s H scope (compEnvC scope cl c C.env) fp) tgt (TGr C.K cx (own.map (·.2)) tg)) (ht : ∀ (s : Shared) (H : Hp) (c : Addr) (cl : List (Str × Addr)) (fp : List Addr), PTs (C.blk s H scope (compEnvC scope cl c C.env) fp) ifs (TB C.K cx s2 (evO G t)))
    (he : ∀ (s : Shared) (H : Hp) (c : Addr) (cl : List (Str × Addr)) (fp : List Addr), PE (C.blk s H scope (compEnvC scope cl c C.env) fp) elt (TX C.K cx s3 (evE G x))) (hf : ∀ x, foldedSetIterable iter C.env x = pure x) :
    PE C (.ListComp elt [⟨tgt, iter, ifs, 0⟩] scope cpos) (TX C.K cx (s1 && (s2 && s3)) (evE G (.comp (own.map (·.2)) tg it t x))) :=
  pe_weak (pe_lc hc hN hw ok hg ht he hf) fun σ H Q h => lc_red htg h

/-! ### several names -/
def TGx (K : PySem.W.Frag) (cx : List Cls1) (io : List Nat) (is : List Nat) : TGs := fun vs σ H Q => ∃ ρ φ xs ρ' F, RepE K cx σ H ρ φ ∧ RepXs K cx H vs xs F ∧ MutF F H ∧ Dj F (un φ) ∧ setTgs is xs ρ = some ρ' ∧ ∀ σ' φ', RepE K cx σ' H ρ' φ' → (∀ c, un φ' c → un φ c ∨ F c) → Agr io σ σ' → Q σ' H
theorem tgx_nil : PGs C [] (TGx C.K cx io []) := pgs_weak pgs_nil fun vs σ H Q ⟨ρ, φ, xs, ρ', F, R, rs, m, d, hm, k⟩ => by
  cases rs with
  | nil =>
    cases hm
    exact ⟨rfl, k σ φ R (fun _ z => .inl z) (Agr.refl _ _)⟩
  | cons => simp [setTgs] at hm
theorem tgx_cons {i : Nat} {is : List Nat} {ts : List Expr} (h1 : PG C e (gName i)) (h2 : PGs C ts (TGx C.K cx io is)) (hi : i ∉ io) (hs : (assignEach (e :: ts) C.env).map (·.2) = assign e C.env :: (assignEach ts C.env).map (·.2)) : PGs C (e :: ts) (TGx C.K cx io (i :: is)) :=
  pgs_weak (pgs_cons h1 h2 hs) fun vs σ H Q ⟨ρ, φ, xs, ρ', F, R, rs, m, d, hm, k⟩ => by
    cases rs with
    | nil => simp [setTgs] at hm
    | @cons v vs x xs F1 F2 _ h hs dj s1 s2 =>
      have hm : setTgs is xs (ρ.set i (some x)) = some ρ' := hm
      refine ⟨v, vs, rfl, _, setF φ i F1, xs, ρ', F2, R.set h (m.mono s1) (fun c z w => d c (s1 c z) w), hs, m.mono s2, fun c z w => ?_, hm, fun σ' φ' R' kk ag => k σ' φ' R' (fun c z => ?_) ((Agr.set hi).trans ag)⟩
      · rcases un_setF w with y | y
        · exact dj c y z
        · exact d c (s2 c z) y
      · rcases kk c z with w | w
        · rcases un_setF w with y | y
          · exact .inr (s1 c y)
          · exact .inl y
        · exact .inr (s2 c w)
theorem ts_setT {is : List Nat} {ts : List Expr} {x : E} {k : Nat} (hc : C.calm = true) (h : PGs C ts (TGx C.K cx io is)) (hn : (assignEach ts C.env).length = is.length) (hst : (assignEach ts C.env).findIdx? (·.1) = none) (he : PE C e (TX C.K cx p (evE G x)))
    (hs : swapsWithSole [.Tuple ts k pos'] e pos.line C.env = pure false) (hw : swappedStores [.Tuple ts k pos'] e C.env = pure none) (h1 : (assignEach [.Tuple ts k pos'] C.env).map (·.2) = [assign (.Tuple ts k pos') C.env]) :
    PS C (.Assign [.Tuple ts k pos'] e pos) (TSr C.K cx io (evS G (.setT is x))) := ps_weak (ps_asg he (pg_tup (n := is.length) hc h hn hst) hs hw h1) fun Dn σ H ⟨ρ, φ, fl, ρ', R, hm, kk⟩ => by
  have hm : ((evE G x ρ).bind fun z => (tupX z.1).bind fun xs => (setTgs is xs z.2).bind fun ρ2 => some (Fl.nx, ρ2)) = some (fl, ρ') := hm
  simp only [Option.bind_eq_some_iff, Option.some.injEq, Prod.mk.injEq] at hm
  obtain ⟨⟨y, ρ1⟩, e1, xs, e2, ρ2, e3, rfl, rfl⟩ := hm
  refine ⟨ρ, φ, y, ρ1, R, e1, fun v H1 φ1 T1 P1 r1 => ?_⟩
  have hl := setTgs_len e3
  obtain ⟨ad, vs, rfl, ha, rs⟩ : ∃ ad vs, v = .ref ad ∧ H1 ad = some (.tup vs) ∧ RepXs C.K cx H1 vs xs T1 := by
    cases r1 with
    | d hd =>
      cases hd with
      | tup ht hs =>
        cases e2
        exact ⟨_, _, rfl, ht, RepXs.of_dis hs⟩
      | _ => cases e2
    | tup ht hs =>
      cases e2
      exact ⟨_, _, rfl, ht, hs⟩
    | _ => cases e2
  refine ⟨ad, vs, rfl, SqT.of ha, by rw [RepXs.length (F := noF) rs]; exact hl, ρ1, φ1, xs, ρ2, T1, P1.rep, rs, P1.mt, P1.dj, e3, fun σ' φ' R' ku ag => ?_⟩
  refine kk σ' H1 φ' noF ⟨R', fun _ z => z.elim, fun _ z => z.elim, P1.fr, fun c z => ?_, fun _ z => z.elim, ag⟩
  rcases ku c z with w | w
  · exact P1.s1 c w
  · exact P1.s2 c w

/-! ### items, fields -/
def rSet : TSet := fun o i v H Q => rSetL o i v H Q ∨ rSetD o i v H Q
theorem set_any (hu : C.A.units + 1 < cLine) : PSet C rSet := fun pins s σ H o i v ov iv u Q I ro ri rv h => by
  rcases h with h | h
  · exact set_list pins s σ H o i v ov iv u Q I ro ri rv h
  · exact set_dict hu pins s σ H o i v ov iv u Q I ro ri rv h
theorem evP {p : Pl} {ρ : TT.Env} {x : X} (h : getPl ρ p = some x) : evA G (.p p) ρ = some (.p p, ρ) := by
  show ((getPl ρ p).bind fun _ => some (Hd.p p, ρ)) = _
  rw [h]
  rfl
theorem key_of_di {K : PySem.W.Frag} {H : Hp} {v : V} {d : D} {k : Key} (h : DV K H v d) (e : toKey d = some k) : v = kV k ∧ d = kD k := by
  cases h with
  | int i => cases e; exact ⟨rfl, rfl⟩
  | str x => cases e; exact ⟨rfl, rfl⟩
  | _ => cases e
theorem keys_of_di {K : PySem.W.Frag} {H : Hp} : ∀ {vs : List V} {ds : List D} {ks : List Key}, DIs K H vs ds → toKeys ds = some ks → vs = ks.map kV ∧ ds = ks.map kD
  | _, _, ks, .nil, e => by
    cases e
    exact ⟨rfl, rfl⟩
  | _, _, ks, .cons h hs, e => by
    simp only [toKeys, Option.bind_eq_some_iff, Option.map_eq_some_iff] at e
    obtain ⟨k, e1, ks', e2, rfl⟩ := e
    obtain ⟨rfl, rfl⟩ := key_of_di h.dv e1
    obtain ⟨rfl, rfl⟩ := keys_of_di hs e2
    exact ⟨rfl, rfl⟩
theorem tupk_of_di {K : PySem.W.Frag} {H : Hp} {v : V} {d : D} {ks : List Key} (h : DV K H v d) (e : toKeyT d = some ks) : ∃ b, v = .ref b ∧ H b = some (.tup (ks.map kV)) ∧ d = .tuple (ks.map kD) := by
  cases h with
  | tup ht hs =>
    obtain ⟨rfl, rfl⟩ := keys_of_di hs e
    exact ⟨_, rfl, ht, rfl⟩
  | _ => cases e
end
end TT

/-! A12: what writes; loops. -/
namespace TT
open PySem PySem.Spec PyProof.Rows L2

/-! ### keys -/
theorem keq_kD (a b : Key) : keq (kD a) (kD b) = decide (a = b) := by
  cases a with
  | inl i =>
    cases b with
    | inl j =>
      show (i == j) = _
      by_cases h : i = j
      · subst h; simp
      · simp [h]
    | inr y => simp [keq, kD, PyData.eqv]
  | inr x =>
    cases b with
    | inl j => simp [keq, kD, PyData.eqv]
    | inr y =>
      show (x == y) = _
      by_cases h : x = y
      · subst h; simp
      · simp [h]
theorem eqvAll_kD : ∀ a b : List Key, PyData.eqvAll (a.map kD) (b.map kD) = decide (a = b)
  | [], [] => rfl
  | [], _ :: _ => by simp [PyData.eqvAll]
  | _ :: _, [] => by simp [PyData.eqvAll]
  | x :: a, y :: b => by
    show (keq (kD x) (kD y) && PyData.eqvAll (a.map kD) (b.map kD)) = _
    rw [keq_kD, eqvAll_kD a b]
    by_cases h : x = y <;> by_cases g : a = b <;> simp [h, g]
def kT (k : List Key) : D := .tuple (k.map kD)
theorem keq_kT (a b : List Key) : keq (kT a) (kT b) = decide (a = b) := eqvAll_kD a b
section
variable {K : PySem.W.Frag} {cx : List Cls1} {H : Hp}
theorem putK_cons_eq {κ : Type} [DecidableEq κ] {p : κ × V} {r : List (κ × V)} {k : κ} {v : V} (h : p.1 = k) (nd : ((p :: r).map (·.1)).Nodup) : putK (p :: r) k v = (k, v) :: r := by
  subst h
  unfold putK
  have hn : ∀ q ∈ r, q.1 ≠ p.1 := fun q hq e => (List.nodup_cons.mp nd).1 (List.mem_map.mpr ⟨q, hq, e⟩)
  rw [if_pos (by simp), List.map_cons, if_pos rfl]
  congr 1
  refine (List.map_congr_left fun q hq => if_neg (hn q hq)).trans (List.map_id _)
theorem putK_cons_ne {κ : Type} [DecidableEq κ] {p : κ × V} {r : List (κ × V)} {k : κ} {v : V} (h : p.1 ≠ k) : putK (p :: r) k v = p :: putK r k v := by
  unfold putK
  by_cases e : (r.any fun kv => decide (kv.1 = k)) = true
  · rw [if_pos (by rw [List.any_cons, e, Bool.or_true]), if_pos e, List.map_cons, if_neg h]
  · rw [if_neg (by rw [List.any_cons, decide_eq_false h, Bool.false_or]; exact e), if_neg e]
    rfl
theorem putK_keys {κ : Type} [DecidableEq κ] {k : κ} {v : V} : ∀ {kvs : List (κ × V)} {j : κ}, (kvs.map (·.1)).Nodup → j ∈ (putK kvs k v).map (·.1) → j = k ∨ j ∈ kvs.map (·.1)
  | [], j, _, h => by
    simp [putK] at h
    exact .inl h
  | p :: r, j, nd, h => by
    by_cases e : p.1 = k
    · rw [putK_cons_eq e nd] at h
      rcases List.mem_cons.mp h with z | z
      · exact .inl z
      · exact .inr (List.mem_cons_of_mem _ z)
    · rw [putK_cons_ne e] at h
      rcases List.mem_cons.mp h with z | z
      · exact .inr (by rw [z]; exact List.mem_cons_self)
      · rcases putK_keys (List.nodup_cons.mp nd).2 z with w | w
        · exact .inl w
        · exact .inr (List.mem_cons_of_mem _ w)
theorem putX_rep {κ : Type} [DecidableEq κ] (dk : κ → D) (hd : ∀ a b, keq (dk a) (dk b) = decide (a = b)) {v : V} {y : X} {G : Foot} {k : κ} (ry : RepX K cx H v y G) : ∀ {kvs : List (κ × V)} {xs : List X} {F : Foot}, (kvs.map (·.1)).Nodup → RepXs K cx H (kvs.map (·.2)) xs F → Dj F G →
    (putX (kvs.map fun p => dk p.1) xs (dk k) y).1 = (putK kvs k v).map (fun p => dk p.1) ∧ RepXs K cx H ((putK kvs k v).map (·.2)) (putX (kvs.map fun p => dk p.1) xs (dk k) y).2 (fun c => F c ∨ G c) ∧ ((putK kvs k v).map (·.1)).Nodup
  | [], xs, F, nd, rs, d => by
    cases rs
    exact ⟨rfl, .cons (F2 := noF) ry .nil (fun _ _ z => z.elim) (fun c z => .inr z) (fun c z => z.elim), by simp [putK]⟩
  | p :: r, xs, F, nd, rs, d => by
    cases rs with
    | @cons _ _ x xs F1 F2 _ h hs dj s1 s2 =>
      have nd2 := List.nodup_cons.mp nd
      by_cases e : p.1 = k
      · rw [putK_cons_eq e nd]
        have e1 : putX ((p :: r).map fun p => dk p.1) (x :: xs) (dk k) y = ((p :: r).map (fun p => dk p.1), y :: xs) := by
          show (if keq (dk p.1) (dk k) then (dk p.1 :: r.map (fun p => dk p.1), y :: xs) else _) = _
          rw [hd, if_pos (by simp [e])]
          rfl
        rw [e1]
        refine ⟨by rw [List.map_cons, List.map_cons, e], ?_, ?_⟩
        · exact .cons ry hs (fun c z w => d c (s2 c w) z) (fun c z => .inr z) fun c z => .inl (s2 c z)
        · rw [List.map_cons, ← e]
          exact nd
      · obtain ⟨h1, h2, h3⟩ := putX_rep dk hd ry nd2.2 hs fun c z w => d c (s2 c z) w
        rw [putK_cons_ne e]
        have e1 : putX ((p :: r).map fun p => dk p.1) (x :: xs) (dk k) y = (dk p.1 :: (putX (r.map fun p => dk p.1) xs (dk k) y).1, x :: (putX (r.map fun p => dk p.1) xs (dk k) y).2) := by
          show (if keq (dk p.1) (dk k) then (dk p.1 :: r.map (fun p => dk p.1), y :: xs) else _) = _
          rw [hd, if_neg (by simp [e])]
        rw [e1]
        refine ⟨by rw [h1]; rfl, .cons h h2 (fun c z w => ?_) (fun c z => .inl (s1 c z)) (fun c z => ?_), ?_⟩
        · rcases w with w | w
          · exact dj c z w
          · exact d c (s1 c z) w
        · rcases z with z | z
          · exact .inl (s2 c z)
          · exact .inr z
        · rw [List.map_cons]
          refine List.nodup_cons.mpr ⟨fun z => ?_, h3⟩
          rcases putK_keys nd2.2 z with w | w
          · exact e w
          · exact nd2.1 w
end

section
variable {C : Cx} {cx : List Cls1} {G : Nat → DF} {io : List Nat} {e a b tg o i : Expr} {es rest : List Expr} {st : Stmt} {sts : List Stmt} {p q : Bool} {pos pos' : Pos}
/-- the rest of a write: the cell of the place takes u -/
theorem write_end {Dn : L2.Ends} {σ : L2.St} {H H1 : Hp} {ρ ρ1 ρ2 : TT.Env} {φ φ1 : Nat → Foot} {T : Foot} {pl : Pl} {s s' : X} {ad : Addr} {o' : HO} {q : Bool} (R : RepE C.K cx σ H ρ φ) (P : Post C.K cx σ H ρ φ q H1 ρ1 φ1 T) (hp : PlAt σ H1 pl (.ref ad)) (eg : getPl ρ1 pl = some s) (es : setPl ρ1 pl s' = some ρ2)
    (k : ∀ Fs : Foot, (∀ c, Fs c → un φ1 c) → RepX C.K cx H1 (.ref ad) s Fs → Fs ad ∧ Mut (some o') ∧ RepX C.K cx (upd H1 ad o') (.ref ad) s' (fun c => Fs c ∨ T c))
    (kk : ∀ σ' H' φ' T, PostS C.K cx io σ H φ σ' H' ρ2 φ' T → EndF C.K cx Dn σ' H' T .nx) : Dn.nx σ (upd H1 ad o') := by
  obtain ⟨ρ', φ', e1, R', ku, ua⟩ := put_cell P.rep P.mt P.dj hp eg k
  rw [es] at e1
  cases e1
  exact kk σ _ φ' noF (Post.put R P R' ku ua (fun _ z => z.elim) (fun _ z => z.elim) (fun _ z => z.elim)).ps
theorem fs_dj {φ : Nat → Foot} {Fs T : Foot} (k : ∀ c, Fs c → un φ c) (d : Dj T (un φ)) : Dj Fs T := fun c z w => d c w (k c z)
theorem seti_red {pl : Pl} {ix x : E} {Dn : L2.Ends} {σ : L2.St} {H : Hp} (h : TSr C.K cx io (evS G (.seti pl ix x)) Dn σ H) :
    TX C.K cx false (evE G x) σ H fun v H1 => TO C.K cx true (evA G (.p pl)) σ H1 fun ov H2 => TX C.K cx true (evE G ix) σ H2 fun iv H3 => rSet ov iv v H3 fun H4 => Dn.nx σ H4 := by
  obtain ⟨ρ, φ, fl, ρ', R, hm, k⟩ := h
  have hm : ((evE G x ρ).bind fun z => (getPl z.2 pl).bind fun _ => (evE G ix z.2).bind fun w => (getPl w.2 pl).bind fun u => (dat1 w.1).bind fun kd => (match u, kd with
    | .lst xs, .int j => (ixN xs.length j).bind fun n => (setPl w.2 pl (.lst (xs.set n z.1))).bind fun ρ3 => some (Fl.nx, ρ3)
    | .dct t ks xs, _ => if keyOk t kd && decide (ks.length < sizeLine) then (setPl w.2 pl (.dct t (putX ks xs kd z.1).1 (putX ks xs kd z.1).2)).bind fun ρ3 => some (Fl.nx, ρ3) else none
    | _, _ => none)) = some (fl, ρ') := hm
  simp only [Option.bind_eq_some_iff] at hm
  obtain ⟨⟨y, ρ1⟩, e1, u0, e0, ⟨kx, ρ2⟩, e2, u, e3, kd, e4, e5⟩ := hm
  refine ⟨ρ, φ, y, ρ1, R, e1, fun v H1 φ1 T1 P1 r1 => ⟨ρ1, φ1, .p pl, ρ1, P1.rep, evP e0, fun ov H2 φ2 T2 P2 hp => ?_⟩⟩
  obtain ⟨sm2, _, q2⟩ := P2.pure rfl
  subst q2
  refine ⟨ρ1, φ2, kx, ρ2, P2.rep, e2, fun iv H3 φ3 T3 P3 r3 => ?_⟩
  obtain ⟨sm3, p3, q3⟩ := P3.pure rfl
  subst q3
  subst p3
  have sm := sm2.trans sm3
  have P : Post C.K cx σ H ρ φ false H3 ρ2 φ3 T1 := P1.same sm
  have hp3 : PlAt σ H3 pl ov := PlAt.same sm3 hp
  have rx := place_rep P.rep hp3 e3
  have rv : RepX C.K cx H3 v y T1 := r1.keep (same_imm sm) (same_at sm P1.mt)
  have dk := r3.dv e4
  simp only at e5
  split at e5
  · rename_i xs j
    simp only [Option.bind_eq_some_iff, Option.some.injEq, Prod.mk.injEq] at e5
    obtain ⟨n, e6, ρ3, e7, rfl, rfl⟩ := e5
    cases dk
    cases rx with
    | @lst ad vs _ _ ha fa hs =>
      have hl : vs.length = xs.length := RepXs.length (F := noF) hs
      refine .inl ⟨ad, vs, j, n, rfl, rfl, ha, by rw [hl]; exact e6, ?_⟩
      refine write_end R P hp3 e3 e7 (fun Fs kf rs => ?_) k
      cases rs with
      | @lst _ vs' _ _ ha' fa' hs' =>
        rw [ha] at ha'
        cases ha'
        have m := mut_of ha trivial
        have nT : ¬ T1 ad := fun z => P.dj ad z (kf ad fa')
        refine ⟨fa', trivial, .lst upd_same (.inl fa') (RepXs.mono (fun c z => ?_) ((hs'.keep (upd_keep m) (upd_out fun z => z.2 rfl)).set (rv.keep (upd_keep m) (upd_out nT)) fun c z w => P.dj c w (kf c z.1)))⟩
        rcases z with z | z
        · exact ⟨.inl z.1, z.2⟩
        · exact ⟨.inr z, fun e => nT (by rw [← e]; exact z)⟩
  · rename_i t ks xs
    simp only [Option.bind_eq_some_iff, Option.ite_none_right_eq_some, Option.some.injEq, Prod.mk.injEq, Bool.and_eq_true, decide_eq_true_eq] at e5
    obtain ⟨⟨ek, el⟩, ρ3, e7, rfl, rfl⟩ := e5
    cases rx with
    | @dK ad hk _ _ ha fa nd hs =>
      obtain ⟨kk, e8⟩ := Option.isSome_iff_exists.mp (show (toKey kd).isSome = true from ek)
      obtain ⟨rfl, rfl⟩ := key_of_di dk e8
      refine .inr ⟨ad, _, rfl, DPut.k ha (by simpa using el), ?_⟩
      refine write_end R P hp3 e3 e7 (fun Fs kf rs => ?_) k
      have gen : ∀ {X0 : X}, RepX C.K cx H3 (.ref ad) X0 Fs → X0 = .dct false (hk.map fun p => kD p.1) xs → Fs ad ∧ RepXs C.K cx H3 (hk.map (·.2)) xs (but Fs ad) := by
        intro X0 r0 e0
        cases r0 with
        | @dK _ hk' _ _ ha' fa' nd' hs' =>
          rw [ha] at ha'
          cases ha'
          injection e0 with _ _ e0
          subst e0
          exact ⟨fa', hs'⟩
        | @dT _ hk' _ _ ha' fa' nd' hs' =>
          rw [ha] at ha'
          cases ha'
        | _ => cases e0
      obtain ⟨fa', hs'⟩ := gen rs rfl
      have m := mut_of ha trivial
      have nT : ¬ T1 ad := fun z => P.dj ad z (kf ad fa')
      obtain ⟨g1, g2, g3⟩ := putX_rep (k := kk) kD keq_kD (rv.keep (upd_keep (o' := .dK (putK hk kk v)) m) (upd_out nT)) nd (hs'.keep (upd_keep m) (upd_out fun z => z.2 rfl)) fun c z w => P.dj c w (kf c z.1)
      refine ⟨fa', trivial, ?_⟩
      rw [g1]
      refine .dK upd_same (.inl fa') g3 (RepXs.mono (fun c z => ?_) g2)
      rcases z with z | z
      · exact ⟨.inl z.1, z.2⟩
      · exact ⟨.inr z, fun e => nT (by rw [← e]; exact z)⟩
    | @dT ad hk _ _ ha fa nd hs =>
      obtain ⟨kk, e8⟩ := Option.isSome_iff_exists.mp (show (toKeyT kd).isSome = true from ek)
      obtain ⟨b, rfl, hb, rfl⟩ := tupk_of_di dk e8
      refine .inr ⟨ad, _, rfl, DPut.t ha hb (by simpa using el), ?_⟩
      refine write_end R P hp3 e3 e7 (fun Fs kf rs => ?_) k
      have gen : ∀ {X0 : X}, RepX C.K cx H3 (.ref ad) X0 Fs → X0 = .dct true (hk.map fun p => PyData.tuple (p.1.map kD)) xs → Fs ad ∧ RepXs C.K cx H3 (hk.map (·.2)) xs (but Fs ad) := by
        intro X0 r0 e0
        cases r0 with
        | @dT _ hk' _ _ ha' fa' nd' hs' =>
          rw [ha] at ha'
          cases ha'
          injection e0 with _ _ e0
          subst e0
          exact ⟨fa', hs'⟩
        | @dK _ hk' _ _ ha' fa' nd' hs' =>
          rw [ha] at ha'
          cases ha'
        | _ => cases e0
      obtain ⟨fa', hs'⟩ := gen rs rfl
      have m := mut_of ha trivial
      have nT : ¬ T1 ad := fun z => P.dj ad z (kf ad fa')
      obtain ⟨g1, g2, g3⟩ := putX_rep (k := kk) kT keq_kT (rv.keep (upd_keep (o' := .dT (putK hk kk v)) m) (upd_out nT)) nd (hs'.keep (upd_keep m) (upd_out fun z => z.2 rfl)) fun c z w => P.dj c w (kf c z.1)
      refine ⟨fa', trivial, ?_⟩
      have g1' : (putX (hk.map fun p => PyData.tuple (p.1.map kD)) xs (.tuple (kk.map kD)) y).1 = (putK hk kk v).map fun p => PyData.tuple (p.1.map kD) := g1
      rw [g1']
      refine .dT upd_same (.inl fa') g3 (RepXs.mono (fun c z => ?_) g2)
      rcases z with z | z
      · exact ⟨.inl z.1, z.2⟩
      · exact ⟨.inr z, fun e => nT (by rw [← e]; exact z)⟩
  · cases e5
theorem ts_seti {pl : Pl} {ix x : E} (hu : C.A.units + 1 < cLine) (he : PE C e (TX C.K cx p (evE G x))) (ho : PE C o (TO C.K cx true (evA G (.p pl)))) (hi : PE C i (TX C.K cx true (evE G ix))) (hs : swapsWithSole [.Subscript o i pos'] e pos.line C.env = pure false) (hw : swappedStores [.Subscript o i pos'] e C.env = pure none) (h1 : (assignEach [.Subscript o i pos'] C.env).map (·.2) = [assign (.Subscript o i pos') C.env])
    (ha : ∀ v, assign (.Subscript o i pos') C.env v = (do
      let ov ← holding [v] (eval o C.env)
      let iv ← holding [v, ov] (eval i C.env)
      standAt pos'
      holding [v, ov, iv] (setItem ov iv v)
      release [v, ov, iv] [])) : PS C (.Assign [.Subscript o i pos'] e pos) (TSr C.K cx io (evS G (.seti pl ix x))) :=
  ps_weak (ps_asg he (pg_sub ho hi (set_any hu) ha) hs hw h1) fun Dn σ H h => tx_imp (seti_red h)

/-! ### append, extend, pop -/
theorem lst_place {σ : L2.St} {H : Hp} {ρ : TT.Env} {φ : Nat → Foot} {pl : Pl} {v : V} {u : X} (R : RepE C.K cx σ H ρ φ) (hp : PlAt σ H pl v) (e : getPl ρ pl = some u) (hu : ¬ isLst u = false) : ∃ ad, v = .ref ad ∧ tyV C.K "list" (.ref ad) H := by
  have rx := place_rep R hp e
  cases rx with
  | lst h f hs => exact ⟨_, rfl, .inl ⟨rfl, _, SqL.of h⟩⟩
  | _ => exact absurd rfl hu
theorem args1 {x : E} {ρ ρ1 : TT.Env} {y : X} (e : evE G x ρ = some (y, ρ1)) : evAs G (.cons (.e x) .nil) ρ = some ([.x y], ρ1) := by
  show ((((evE G x ρ).bind fun z => some (Hd.x z.1, z.2)).bind fun z => (some (([] : List Hd), z.2)).bind fun w => some (z.1 :: w.1, w.2)) = _)
  rw [e]
  rfl
theorem pl_stay {σ : L2.St} {H H' : Hp} {pl : Pl} {v : V} {q : Bool} (hf : fldA (.p pl) = true → q = true) (hp : PlAt σ H pl v) (k : q = true → Same H H') : PlAt σ H' pl v := by
  obtain ⟨w, hw, r⟩ := hp
  refine ⟨w, hw, ?_⟩
  cases hfs : pl.fs with
  | nil =>
    rw [hfs] at r
    exact r
  | cons f fs =>
    have hq := hf (by show (!pl.fs.isEmpty) = true; rw [hfs]; rfl)
    rw [← hfs]
    exact r.same (k hq)
theorem app_red {pl : Pl} {x : E} {Dn : L2.Ends} {σ : L2.St} {H : Hp} (hf : fldA (.p pl) = true → p = true) (h : TSr C.K cx io (evS G (.app pl x)) Dn σ H) :
    tBM C.K "list" rAppend (TO C.K cx true (evA G (.p pl))) (TAs C.K cx (p && true) (evAs G (.cons (.e x) .nil))) σ H fun _ H1 => Dn.nx σ H1 := by
  obtain ⟨ρ, φ, fl, ρ', R, hm, k⟩ := h
  have hm : ((getPl ρ pl).bind fun u0 => if isLst u0 = false then none else (evE G x ρ).bind fun z => (getPl z.2 pl).bind fun u => (match u with
    | .lst xs => if xs.length < sizeLine then (setPl z.2 pl (.lst (xs ++ [z.1]))).bind fun ρ2 => some (Fl.nx, ρ2) else none
    | _ => none)) = some (fl, ρ') := hm
  simp only [Option.bind_eq_some_iff, Option.ite_none_left_eq_some] at hm
  obtain ⟨u0, e0, hu, ⟨y, ρ1⟩, e1, u, e3, e5⟩ := hm
  refine ⟨ρ, φ, .p pl, ρ, R, evP e0, fun ov H2 φ2 T2 P2 hp => ?_⟩
  obtain ⟨sm2, _, q2⟩ := P2.pure rfl
  subst q2
  obtain ⟨ad, rfl, ty⟩ := lst_place P2.rep hp e0 hu
  refine ⟨ty, ρ, φ2, [.x y], ρ1, P2.rep, args1 e1, fun vs H1 φ1 T1 P1 hr => ?_⟩
  have P := (Post.seq R P2 (P1.weak (q := false) fun z => nomatch z)).1
  have hp1 : PlAt σ H1 pl (.ref ad) := pl_stay hf hp fun z => (P1.pure (by rw [z]; rfl)).1
  cases hr with
  | @cons v vs _ _ T3 T4 _ r rr dj s1 s2 =>
    cases rr
    have r : RepX C.K cx H1 v y T3 := r
    split at e5
    · rename_i xs
      simp only [Option.bind_eq_some_iff, Option.ite_none_right_eq_some, Option.some.injEq, Prod.mk.injEq] at e5
      obtain ⟨hl, ρ3, e7, rfl, rfl⟩ := e5
      have rx := place_rep P1.rep hp1 e3
      cases rx with
      | @lst _ vs _ _ ha fa hs =>
        refine ⟨ad, vs, v, rfl, rfl, ha, by rw [RepXs.length (F := noF) hs]; exact hl, ?_⟩
        have P' : Post C.K cx σ H ρ φ2 false H1 ρ1 φ1 T3 := (P.impure).less fun c z => .inr (s1 c z)
        refine write_end R P' hp1 e3 e7 (fun Fs kf rs => ?_) k
        cases rs with
        | @lst _ vs' _ _ ha' fa' hs' =>
          rw [ha] at ha'
          cases ha'
          have m := mut_of ha trivial
          have nT : ¬ T3 ad := fun z => P'.dj ad z (kf ad fa')
          refine ⟨fa', trivial, .lst upd_same (.inl fa') (RepXs.mono (fun c z => ?_) ((hs'.keep (upd_keep m) (upd_out fun z => z.2 rfl)).append (RepXs.cons (F2 := noF) (r.keep (upd_keep m) (upd_out nT)) .nil (fun _ _ z => z.elim) (fun c z => z) (fun c z => z.elim)) fun c z w => P'.dj c w (kf c z.1)))⟩
          rcases z with z | z
          · exact ⟨.inl z.1, z.2⟩
          · exact ⟨.inr z, fun e => nT (by rw [← e]; exact z)⟩
    · cases e5
end
end TT

/-! A13: pop, fields, loops. -/
namespace TT
open PySem PySem.Spec PyProof.Rows L2
section
variable {K : PySem.W.Frag} {cx : List Cls1} {σ : L2.St} {H H1 : Hp} {ρ ρ1 : TT.Env} {φ φ1 : Nat → Foot}
theorem RepXs.erase : ∀ {vs : List V} {xs : List X} {F : Foot} {k : Nat} {v : V} {x : X}, RepXs K cx H vs xs F → vs[k]? = some v → xs[k]? = some x → ∃ F1 : Foot, (∀ c, F1 c → F c) ∧ RepX K cx H v x F1 ∧ RepXs K cx H (vs.eraseIdx k) (xs.eraseIdx k) fun c => F c ∧ ¬ F1 c
  | _, _, _, _, _, _, .nil, e, _ => by simp at e
  | _, _, F, 0, v, x, .cons (F1 := F1) (F2 := F2) h hs dj s1 s2, e1, e2 => by
    simp at e1 e2
    subst e1 e2
    exact ⟨F1, s1, h, hs.mono fun c z => ⟨s2 c z, fun w => dj c w z⟩⟩
  | _, _, F, k + 1, v, x, .cons (F1 := F0) (F2 := F2) h hs dj s1 s2, e1, e2 => by
    obtain ⟨F1, k1, r1, rs⟩ := RepXs.erase (k := k) hs (by simpa using e1) (by simpa using e2)
    refine ⟨F1, fun c z => s2 c (k1 c z), r1, .cons h rs (fun c z w => dj c z w.1) (fun c z => ⟨s1 c z, fun w => dj c z (k1 c w)⟩) fun c z => ⟨s2 c z.1, z.2⟩⟩
theorem take_cell {p : Pl} {a : Addr} {s s' : X} {o' : HO} {Z : Foot → Foot → Prop} (R : RepE K cx σ H ρ φ) (hp : PlAt σ H p (.ref a)) (e : getPl ρ p = some s)
    (k : ∀ Fs : Foot, RepX K cx H (.ref a) s Fs → Fs a ∧ Mut (some o') ∧ ∃ G : Foot, (∀ c, G c → Fs c) ∧ RepX K cx (upd H a o') (.ref a) s' G ∧ Z Fs G) :
    ∃ ρ' φ' Fs G, setPl ρ p s' = some ρ' ∧ RepE K cx σ (upd H a o') ρ' φ' ∧ (∀ c, un φ' c → (un φ c ∧ ¬ Fs c) ∨ G c) ∧ (∀ c, Fs c → un φ c) ∧ Fs a ∧ (∀ c, G c → Fs c) ∧ Z Fs G := by
  obtain ⟨Fs, k1, r1, put⟩ := place_put R hp e
  obtain ⟨fa, mo, G, kg, rn, z⟩ := k Fs r1
  have ua : un φ a := ⟨_, k1 a fa⟩
  have mg : MutF G (upd H a o') := fun c z => by
    by_cases h : c = a
    · subst h
      rw [upd_same]
      exact mo
    · rw [upd_ne h]
      exact R.mu c ⟨_, k1 c (kg c z)⟩
  obtain ⟨ρ', φ', e', R', kk⟩ := put (upd H a o') s' G (upd_keep (R.mu _ ua)) (fun c _ n => upd_ne fun z => n (by rw [z]; exact fa)) rn mg fun c _ n z => n (kg c z)
  exact ⟨ρ', φ', Fs, G, e', R', kk, fun c z => ⟨_, k1 c z⟩, fa, kg, z⟩
/-- an item of an own list goes out -/
theorem pop_end {T : Foot} {pl : Pl} {ad : Addr} {ys : List X} {vs : List V} {kk : Nat} {y : X} {v : V} {ρ2 : TT.Env} {q : Bool} (R : RepE K cx σ H ρ φ) (P : Post K cx σ H ρ φ q H1 ρ1 φ1 T) (hp : PlAt σ H1 pl (.ref ad)) (eg : getPl ρ1 pl = some (.lst ys)) (ha : H1 ad = some (.lst vs)) (hv : vs[kk]? = some v) (hy : ys[kk]? = some y) (es : setPl ρ1 pl (.lst (ys.eraseIdx kk)) = some ρ2) :
    ∃ φ2 T2, Post K cx σ H ρ φ false (upd H1 ad (.lst (vs.eraseIdx kk))) ρ2 φ2 T2 ∧ RepX K cx (upd H1 ad (.lst (vs.eraseIdx kk))) v y T2 := by
  obtain ⟨ρ', φ', Fs, Gs, e1, R', ku, kf, fa, kg, F1, k1, nd, na, r1⟩ := take_cell (s' := .lst (ys.eraseIdx kk)) (o' := .lst (vs.eraseIdx kk)) (Z := fun Fs Gs => ∃ F1 : Foot, (∀ c, F1 c → Fs c) ∧ (∀ c, Gs c → ¬ F1 c) ∧ ¬ F1 ad ∧ RepX K cx (upd H1 ad (.lst (vs.eraseIdx kk))) v y F1) P.rep hp eg fun Fs rs => by
    cases rs with
    | @lst _ vs' _ _ ha' fa' hs' =>
      rw [ha] at ha'
      cases ha'
      obtain ⟨F1, k1, r1, rs1⟩ := hs'.erase hv hy
      have m := mut_of ha trivial
      have n1 : ¬ F1 ad := fun z => (k1 ad z).2 rfl
      exact ⟨fa', trivial, fun c => Fs c ∧ ¬ F1 c, fun c z => z.1, .lst upd_same ⟨fa', n1⟩ (RepXs.mono (fun c z => ⟨⟨z.1.1, z.2⟩, z.1.2⟩) (rs1.keep (upd_keep m) (upd_out fun z => z.1.2 rfl))), F1, fun c z => (k1 c z).1, fun c z => z.2, n1, r1.keep (upd_keep m) (upd_out n1)⟩
  rw [es] at e1
  cases e1
  have m1 : MutF F1 (upd H1 ad (.lst (vs.eraseIdx kk))) := fun c z => by
    rw [upd_out na c z]
    exact P.rep.mu c (kf c (k1 c z))
  refine ⟨φ', F1, Post.put (T := T) R P R' (fun c z => ?_) (kf _ fa) m1 (fun c z w => ?_) (fun c z => P.s1 c (kf c (k1 c z))), r1⟩
  · rcases ku c z with w | w
    · exact .inl w.1
    · exact .inl (kf c (kg c w))
  · rcases ku c w with u | u
    · exact u.2 (k1 c z)
    · exact nd c u z
theorem erase_last {α : Type} (l : List α) : l.eraseIdx (l.length - 1) = l.dropLast := by
  induction l with
  | nil => rfl
  | cons a r ih =>
    cases r with
    | nil => rfl
    | cons b r => simpa using ih
theorem putF_at {n : Str} {v u : V} : ∀ {fs : List (Str × V)} {f : Nat}, (fs.map (·.1)).Nodup → fs[f]? = some (n, u) → putF n v fs = fs.set f (n, v)
  | [], f, _, e => by simp at e
  | p :: r, 0, nd, e => by
    simp at e
    subst e
    show (if n = n then (n, v) :: r else _) = _
    rw [if_pos rfl]
    rfl
  | p :: r, f + 1, nd, e => by
    have nd2 := List.nodup_cons.mp nd
    have e : r[f]? = some (n, u) := by simpa using e
    have hne : p.1 ≠ n := fun z => nd2.1 (by
      show p.1 ∈ r.map (·.1)
      rw [z]
      exact List.mem_map.mpr ⟨_, List.mem_of_getElem? e, rfl⟩)
    show (if p.1 = n then (p.1, v) :: r else p :: putF n v r) = _
    rw [if_neg hne, putF_at nd2.2 e]
    rfl
theorem putF_new {n : Str} {v : V} : ∀ {fs : List (Str × V)}, n ∉ fs.map (·.1) → putF n v fs = fs ++ [(n, v)]
  | [], _ => rfl
  | p :: r, h => by
    show (if p.1 = n then (p.1, v) :: r else p :: putF n v r) = _
    rw [if_neg fun z => h (by rw [← z]; exact List.mem_cons_self), putF_new fun z => h (List.mem_cons_of_mem _ z)]
    rfl
end
section
variable {C : Cx} {cx : List Cls1} {G : Nat → DF} {io : List Nat} {e a b tg o i : Expr} {es rest : List Expr} {st : Stmt} {sts : List Stmt} {p q : Bool} {pos pos' apos : Pos}
theorem ts_app {pl : Pl} {x : E} (hf : fldA (.p pl) = true → p = true) (ho : PE C o (TO C.K cx true (evA G (.p pl)))) (he : PE C e (TX C.K cx p (evE G x))) (hst : starEach [e] C.env = (false, eval e C.env) :: starEach [] C.env)
    (hbase : attributeBase o "append" C.env (eval o C.env) = eval o C.env)
    (hfew : ((backTo pos (starEach [e] C.env)).all (fun x => !x.1) && (backToKw pos (keywordEach [] C.env)).all (fun x => x.1.isSome) && decide ([e].length + ([] : List Keyword).length + (if ([] : List Keyword).isEmpty then 0 else 1) < 30)) = true)
    (hline : (apos.endLine == pos.line) = true) (hpl : (backTo pos (starEach [] C.env)).any (·.1) = false) (hs : swapsWith (.Call (.Attribute o "append" apos) [e] [] pos) none pos'.line C.env = pure false) :
    PS C (.Expr (.Call (.Attribute o "append" apos) [e] [] pos) pos') (TSr C.K cx io (evS G (.app pl x))) :=
  ps_weak (ps_expr (pe_bm PySem.F.plainAttrs_list PySem.F.slot_list_append PySem.F.type_list_append mt_append ho (pa_tcons (a := .e x) (fun h => nomatch h) (to_e he) pa_tnil hst) hbase hfew hline hst hpl) hs) fun Dn σ H h => app_red hf h
theorem pop_ev {pl : Pl} {as : As} {ρ ρ' : TT.Env} {r : X} (h : evE G (.pop pl as) ρ = some (r, ρ')) : ∃ u0 hs ρ1 xs ds ys, getPl ρ pl = some u0 ∧ ¬ isLst u0 = false ∧ evAs G as ρ = some (hs, ρ1) ∧ resAll ρ1 hs = some xs ∧ datAll xs = some ds ∧ getPl ρ1 pl = some (.lst ys) ∧
    ((ds = [] ∧ ys[ys.length - 1]? = some r ∧ setPl ρ1 pl (.lst ys.dropLast) = some ρ') ∨ ∃ i k, ds = [.int i] ∧ -(2 ^ 63) ≤ i ∧ i < 2 ^ 63 ∧ seqIndex? i ys.length = some k ∧ ys[k]? = some r ∧ setPl ρ1 pl (.lst (ys.eraseIdx k)) = some ρ') := by
  have h : ((getPl ρ pl).bind fun u0 => if isLst u0 = false then none else (evAs G as ρ).bind fun w => (resAll w.2 w.1).bind fun xs => (datAll xs).bind fun ds => (getPl w.2 pl).bind fun x => (match x, ds with
    | .lst ys, [] => (ys[ys.length - 1]?).bind fun y => (setPl w.2 pl (.lst ys.dropLast)).bind fun ρ2 => some (y, ρ2)
    | .lst ys, [.int i] => if decide (-(2 ^ 63) ≤ i ∧ i < 2 ^ 63) then (seqIndex? i ys.length).bind fun k => (ys[k]?).bind fun y => (setPl w.2 pl (.lst (ys.eraseIdx k))).bind fun ρ2 => some (y, ρ2) else none
    | _, _ => none)) = some (r, ρ') := h
  simp only [Option.bind_eq_some_iff, Option.ite_none_left_eq_some] at h
  obtain ⟨u0, e0, hu, ⟨hs, ρ1⟩, e1, xs, e2, ds, e3, x, e4, e5⟩ := h
  split at e5
  · rename_i ys
    simp only [Option.bind_eq_some_iff, Option.some.injEq, Prod.mk.injEq] at e5
    obtain ⟨y, e6, ρ2, e7, rfl, rfl⟩ := e5
    exact ⟨u0, hs, ρ1, xs, [], ys, e0, hu, e1, e2, e3, e4, .inl ⟨rfl, e6, e7⟩⟩
  · rename_i ys i
    simp only [Option.bind_eq_some_iff, Option.ite_none_right_eq_some, Option.some.injEq, Prod.mk.injEq, decide_eq_true_eq] at e5
    obtain ⟨⟨h1, h2⟩, k, e8, y, e6, ρ2, e7, rfl, rfl⟩ := e5
    exact ⟨u0, hs, ρ1, xs, _, ys, e0, hu, e1, e2, e3, e4, .inr ⟨i, k, rfl, h1, h2, e8, e6, e7⟩⟩
  · cases e5
theorem pop0_red {pl : Pl} {σ : L2.St} {H : Hp} {Q : VK} (h : TX C.K cx false (evE G (.pop pl .nil)) σ H Q) : tBM0 C.K "list" rPop (TO C.K cx true (evA G (.p pl))) σ H Q := by
  obtain ⟨ρ, φ, r, ρ', R, hm, k⟩ := h
  obtain ⟨u0, hs, ρ1, xs, ds, ys, e0, hu, e1, e2, e3, e4, e5⟩ := pop_ev hm
  refine ⟨ρ, φ, .p pl, ρ, R, evP e0, fun ov H2 φ2 T2 P2 hp => ?_⟩
  obtain ⟨ad, rfl, ty⟩ := lst_place P2.rep hp e0 hu
  refine ⟨ty, ?_⟩
  cases e1
  cases e2
  cases e3
  rcases e5 with ⟨_, e6, e7⟩ | ⟨i, k, e, _⟩
  · have rx := place_rep P2.rep hp e4
    cases rx with
    | @lst _ vs _ _ ha fa hs =>
      have hl : vs.length = ys.length := RepXs.length (F := noF) hs
      obtain ⟨v, hv, _⟩ := hs.at' e6
      have ev : vs[vs.length - 1]? = some v := by rw [hl]; exact hv
      rw [← erase_last ys] at e7
      obtain ⟨φ3, T3, P3, r3⟩ := pop_end R P2 hp e4 ha hv e6 e7
      rw [← hl, erase_last vs] at P3 r3
      exact ⟨ad, vs, v, rfl, rfl, ha, ev, k v _ φ3 T3 P3 r3⟩
  · cases e
theorem popAt_red {pl : Pl} {x : E} {σ : L2.St} {H : Hp} {Q : VK} (hf : fldA (.p pl) = true → p = true) (h : TX C.K cx false (evE G (.pop pl (.cons (.e x) .nil))) σ H Q) : tBM C.K "list" rPopAt (TO C.K cx true (evA G (.p pl))) (TAs C.K cx (p && true) (evAs G (.cons (.e x) .nil))) σ H Q := by
  obtain ⟨ρ, φ, r, ρ', R, hm, k⟩ := h
  obtain ⟨u0, hs, ρ1, xs, ds, ys, e0, hu, e1, e2, e3, e4, e5⟩ := pop_ev hm
  refine ⟨ρ, φ, .p pl, ρ, R, evP e0, fun ov H2 φ2 T2 P2 hp => ?_⟩
  obtain ⟨sm2, _, q2⟩ := P2.pure rfl
  subst q2
  obtain ⟨ad, rfl, ty⟩ := lst_place P2.rep hp e0 hu
  refine ⟨ty, ρ, φ2, hs, ρ1, P2.rep, e1, fun vs H1 φ1 T1 P1 hr => ?_⟩
  have P := (Post.seq R P2 (P1.weak (q := false) fun z => nomatch z)).1
  have hp1 : PlAt σ H1 pl (.ref ad) := pl_stay hf hp fun z => (P1.pure (by rw [z]; rfl)).1
  have dv := (hr.repL P1.rep e2).dvs e3
  rcases e5 with ⟨rfl, _⟩ | ⟨i, kk, rfl, h1, h2, e8, e6, e7⟩
  · have e1 : ((((evE G x ρ).bind fun z => some (Hd.x z.1, z.2)).bind fun z => (some (([] : List Hd), z.2)).bind fun w => some (z.1 :: w.1, w.2))) = some (hs, ρ1) := e1
    simp only [Option.bind_eq_some_iff, Option.some.injEq, Prod.mk.injEq] at e1
    obtain ⟨_, _, _, _, rfl, _⟩ := e1
    cases hr
    cases dv
  · cases dv with
    | cons d1 dr =>
      cases dr
      cases d1
      have rx := place_rep P1.rep hp1 e4
      cases rx with
      | @lst _ ws _ _ ha fa hs =>
        have hl : ws.length = ys.length := RepXs.length (F := noF) hs
        obtain ⟨v, hv, _⟩ := hs.at' e6
        obtain ⟨φ3, T3, P3, r3⟩ := pop_end R P hp1 e4 ha hv e6 e7
        exact ⟨ad, ws, i, kk, v, rfl, rfl, ha, h1, h2, by rw [hl]; exact e8, hv, k v _ φ3 T3 P3 r3⟩
theorem te_pop0 {pl : Pl} (ho : PE C o (TO C.K cx true (evA G (.p pl)))) (hbase : attributeBase o "pop" C.env (eval o C.env) = eval o C.env) (hline : (apos.endLine == pos.line) = true) :
    PE C (.Call (.Attribute o "pop" apos) [] [] pos) (TX C.K cx false (evE G (.pop pl .nil))) :=
  pe_weak (pe_bm0 PySem.F.plainAttrs_list PySem.F.slot_list_pop PySem.F.type_list_pop mt_pop ho hbase hline) fun σ H Q h => pop0_red h
theorem te_pop1 {pl : Pl} {x : E} (hf : fldA (.p pl) = true → p = true) (ho : PE C o (TO C.K cx true (evA G (.p pl)))) (he : PE C e (TX C.K cx p (evE G x))) (hst : starEach [e] C.env = (false, eval e C.env) :: starEach [] C.env)
    (hbase : attributeBase o "pop" C.env (eval o C.env) = eval o C.env)
    (hfew : ((backTo pos (starEach [e] C.env)).all (fun x => !x.1) && (backToKw pos (keywordEach [] C.env)).all (fun x => x.1.isSome) && decide ([e].length + ([] : List Keyword).length + (if ([] : List Keyword).isEmpty then 0 else 1) < 30)) = true)
    (hline : (apos.endLine == pos.line) = true) (hpl : (backTo pos (starEach [] C.env)).any (·.1) = false) : PE C (.Call (.Attribute o "pop" apos) [e] [] pos) (TX C.K cx false (evE G (.pop pl (.cons (.e x) .nil)))) :=
  pe_weak (pe_bm PySem.F.plainAttrs_list PySem.F.slot_list_pop PySem.F.type_list_pop mt_popAt ho (pa_tcons (a := .e x) (fun h => nomatch h) (to_e he) pa_tnil hst) hbase hfew hline hst hpl) fun σ H Q h => popAt_red hf h

/-! ### loops -/
theorem ts_whl {t : T} {x : Ss} {c : Expr} {body : List Stmt} (hp : PassesOwn (model C.prog C.w) C.A C.env C.xe) (hc : PT C c (TB C.K cx p (evT G t))) (hb : PSs C body (TSr C.K cx io (evSs G x))) : PS C (.While c body [] pos) (TSr C.K cx io (evS G (.whl t x))) := ps_weak (ps_while hp hc hb) fun Dn σ H ⟨ρ, φ, fl, ρ', R, hm, k⟩ => by
  have hm : whlLoop (evT G t) (evSs G x) wfuel ρ = some (fl, ρ') := hm
  refine ⟨fun n σ' H' => ∃ ρ1 φ1 T1, PostS C.K cx io σ H φ σ' H' ρ1 φ1 T1 ∧ whlLoop (evT G t) (evSs G x) n ρ1 = some (fl, ρ'), ⟨wfuel, ρ, φ, noF, PostS.refl R, hm⟩, fun n σ1 H1 ⟨ρ1, φ1, T1, P1, e1⟩ => ?_⟩
  cases n with
  | zero => cases e1
  | succ n =>
    have e1 : ((evT G t ρ1).bind fun z => if z.1 then (evSs G x z.2).bind fun w => (match w.1 with
      | .nx => whlLoop (evT G t) (evSs G x) n w.2
      | .ct => whlLoop (evT G t) (evSs G x) n w.2
      | .bk => some (.nx, w.2)
      | .rt x => some (.rt x, w.2)) else some (.nx, z.2)) = some (fl, ρ') := e1
    simp only [Option.bind_eq_some_iff] at e1
    obtain ⟨⟨b, ρ2⟩, e2, e3⟩ := e1
    refine ⟨ρ1, φ1, b, ρ2, P1.rep, e2, fun H2 φ2 T2 P2 => ?_⟩
    have P12 := PostS.seq R P1 P2.ps
    cases b with
    | false =>
      have e3 : some (Fl.nx, ρ2) = some (fl, ρ') := e3
      cases e3
      exact k _ _ _ _ P12
    | true =>
      have e3 : ((evSs G x ρ2).bind fun w => (match w.1 with
        | .nx => whlLoop (evT G t) (evSs G x) n w.2
        | .ct => whlLoop (evT G t) (evSs G x) n w.2
        | .bk => some (.nx, w.2)
        | .rt x => some (.rt x, w.2))) = some (fl, ρ') := e3
      simp only [Option.bind_eq_some_iff] at e3
      obtain ⟨⟨f, ρ3⟩, e4, e5⟩ := e3
      refine ⟨fun σ' H' => ∃ ρ1 φ1 T1, PostS C.K cx io σ H φ σ' H' ρ1 φ1 T1 ∧ whlLoop (evT G t) (evSs G x) n ρ1 = some (fl, ρ'), fun σ' H' z => ⟨n, Nat.lt_succ_self n, z⟩, ρ2, φ2, f, ρ3, P12.rep, e4, fun σ3 H3 φ3 T3 P3 => ?_⟩
      have P13 := PostS.seq R P12 P3
      cases f with
      | nx => exact ⟨ρ3, φ3, T3, P13, e5⟩
      | ct => exact ⟨ρ3, φ3, T3, P13, e5⟩
      | bk => cases e5; exact k _ _ _ _ P13
      | rt y => cases e5; exact k _ _ _ _ P13
theorem tg_ps {own : List Nat} {σ σ' : L2.St} {H : Hp} {ρ ρ' : TT.Env} {φ φ' : Nat → Foot} (R' : RepE C.K cx σ' H ρ' φ') (k : ∀ c, un φ' c → un φ c) (ag : ∀ i, i ∉ own → σ'[i]? = σ[i]?) (ho : ∀ i ∈ own, i ∉ io) : PostS C.K cx io σ H φ σ' H ρ' φ' noF :=
  ⟨R', fun _ z => z.elim, fun _ z => z.elim, Frame.refl _ _, fun c z => .inl (k c z), fun _ z => z.elim, fun i hi => ag i fun z => ho i z hi⟩
theorem PostS.same {σ σ' : L2.St} {H H1 H2 : Hp} {ρ ρ1 : TT.Env} {φ φ1 : Nat → Foot} {T : Foot} (R : RepE C.K cx σ H ρ φ) (P : PostS C.K cx io σ H φ σ' H1 ρ1 φ1 T) (s : Same H1 H2) : PostS C.K cx io σ H φ σ' H2 ρ1 φ1 T :=
  ⟨P.rep.same s, fun c z => by rw [same_at s P.mt c z]; exact P.mt c z, P.dj, fun c o h n => s _ _ (P.fr c o h n), P.s1, P.s2, P.ag⟩
theorem ts_for {tgx : Tg} {it : It} {x : Ss} {iter : Expr} {body : List Stmt} (hp : PassesOwn (model C.prog C.w) C.A C.env C.xe) (hc : C.calm = true) (hi : PI C tg iter (TIr C.K cx p (evIt G it))) (hg : PG C tg (TGr C.K cx (tgS tgx) tgx)) (hb : PSs C body (TSr C.K cx io (evSs G x))) (ho : ∀ i ∈ tgS tgx, i ∉ io) (hs : ∀ x, foldedSetIterable iter C.env x = pure x) :
    PS C (.For tg iter body [] pos) (TSr C.K cx io (evS G (.for_ tgx it x))) := ps_weak (ps_for hp hc hi hg hb hs) fun Dn σ H ⟨ρ, φ, fl, ρ', R, hm, k⟩ => by
  have hm : ((evIt G it ρ).bind fun z => forLoop tgx (evSs G x) z.1 z.2) = some (fl, ρ') := hm
  simp only [Option.bind_eq_some_iff] at hm
  obtain ⟨⟨ds, ρ1⟩, e1, e2⟩ := hm
  refine ⟨ρ, φ, ds, ρ1, R, e1, fun J H1 φ1 Tit P1 hJ => ?_⟩
  refine ⟨fun i m σ' H' => i ≤ ds.length ∧ m = ds.length - i ∧ ∃ ρi φi Ti, PostS C.K cx io σ H1 φ1 σ' H' ρi φi Ti ∧ forLoop tgx (evSs G x) (ds.drop i) ρi = some (fl, ρ'), ⟨ds.length, Nat.zero_le _, rfl, ρ1, φ1, noF, PostS.refl P1.rep, e2⟩, ?_⟩
  rintro i m σi Hi ⟨hle, rfl, ρi, φi, Ti, Pi, ei⟩
  have st : Stp H1 Tit Hi := ⟨Pi.fr.imm P1.rep.mu, frame_at P1.mt P1.dj Pi.fr⟩
  rcases Nat.lt_or_ge i ds.length with hlt | hge
  · right
    refine ⟨hJ.go i Hi st hlt, fun σ' H' => ∃ m', m' < ds.length - i ∧ (i + 1 ≤ ds.length ∧ m' = ds.length - (i + 1) ∧ ∃ ρi φi Ti, PostS C.K cx io σ H1 φ1 σ' H' ρi φi Ti ∧ forLoop tgx (evSs G x) (ds.drop (i + 1)) ρi = some (fl, ρ')), fun σ' H' z => z, fun v H2 hy => ?_⟩
    obtain ⟨d, hd, sm, di⟩ := hJ.yld i Hi v H2 st hlt hy
    have hdrop : ds.drop i = d :: ds.drop (i + 1) := by
      rw [List.drop_eq_getElem_cons hlt]
      congr 1
      exact (List.getElem?_eq_some_iff.mp hd).2
    rw [hdrop] at ei
    have ei : ((setTg tgx d ρi).bind fun ρa => (evSs G x ρa).bind fun w => (match w.1 with
      | .nx => forLoop tgx (evSs G x) (ds.drop (i + 1)) w.2
      | .ct => forLoop tgx (evSs G x) (ds.drop (i + 1)) w.2
      | .bk => some (.nx, w.2)
      | .rt x => some (.rt x, w.2))) = some (fl, ρ') := ei
    simp only [Option.bind_eq_some_iff] at ei
    obtain ⟨ρa, ea, ⟨f, ρb⟩, eb, ec⟩ := ei
    have Pi2 := PostS.same P1.rep Pi sm
    refine ⟨ρi, φi, d, ρa, Pi2.rep, di, ea, fun σ2 φ2 R2 k2 ag => ?_⟩
    have Pa := PostS.seq P1.rep Pi2 (tg_ps (ρ := ρi) R2 k2 ag ho)
    refine ⟨ρa, φ2, f, ρb, R2, eb, fun σ3 H3 φ3 T3 P3 => ?_⟩
    have Pb := PostS.seq P1.rep Pa P3
    cases f with
    | nx => exact ⟨ds.length - (i + 1), by omega, hlt, rfl, ρb, φ3, T3, Pb, ec⟩
    | ct => exact ⟨ds.length - (i + 1), by omega, hlt, rfl, ρb, φ3, T3, Pb, ec⟩
    | bk => cases ec; exact k _ _ _ _ (PostS.seq R P1.ps Pb)
    | rt y => cases ec; exact k _ _ _ _ (PostS.seq R P1.ps Pb)
  · left
    obtain rfl : i = ds.length := Nat.le_antisymm hle hge
    refine ⟨hJ.stop Hi st, ?_⟩
    rw [List.drop_length] at ei
    cases ei
    exact k _ _ _ _ (PostS.seq R P1.ps Pi)
end
end TT

/-! A14: the operators on data. -/
namespace TT
open PySem PySem.Spec PyProof.Rows L2

/-- the rule of an operator, on values that read as data -/
def rOp (C : Cx) (cx : List Cls1) (o : Op) : List V → Hp → VK → Prop := fun vs H Q => ∃ ds z, DVs C.K H vs ds ∧ opF o ds = some z ∧ ∀ v H' T, Same H H' → RepX C.K cx H' v z T → MutF T H' → (∀ c, T c → H c = none) → Q v H'
def rO2 (C : Cx) (cx : List Cls1) (o : Op) : R2 := fun x y H Q => rOp C cx o [x, y] H Q
def rO1 (C : Cx) (cx : List Cls1) (o : Op) : V → Hp → VK → Prop := fun x H Q => rOp C cx o [x] H Q
section
variable {C : Cx} {cx : List Cls1} {o : Op}
theorem okOp : OpOk C cx o (rOp C cx o) := fun H vs ds z Q dv e k => ⟨ds, z, dv, e, k⟩
theorem okO2 : OpOk C cx o (rr2 (rO2 C cx o)) := fun H vs ds z Q dv e k x y ev => by
  subst ev
  exact ⟨ds, z, dv, e, k⟩
theorem okO1 : OpOk C cx o (rr1 (rO1 C cx o)) := fun H vs ds z Q dv e k x ev => by
  subst ev
  exact ⟨ds, z, dv, e, k⟩
theorem DVs.two {K : PySem.W.Frag} {H : Hp} {x y : V} {ds : List D} (h : DVs K H [x, y] ds) : ∃ d e, ds = [d, e] ∧ DV K H x d ∧ DV K H y e := by
  cases h with
  | cons h1 t =>
    cases t with
    | cons h2 t =>
      cases t
      exact ⟨_, _, rfl, h1, h2⟩
theorem DVs.one {K : PySem.W.Frag} {H : Hp} {x : V} {ds : List D} (h : DVs K H [x] ds) : ∃ d, ds = [d] ∧ DV K H x d := by
  cases h with
  | cons h1 t =>
    cases t
    exact ⟨_, rfl, h1⟩
/-! what an operator may give -/
section
variable {H : Hp} {z : X} {Q : VK} (q : ∀ v H' T, Same H H' → RepX C.K cx H' v z T → MutF T H' → (∀ c, T c → H c = none) → Q v H')
include q
theorem q_d {v : V} {d : D} (e : z = .d d) (h : DI C.K H v d) : Q v H := q v H noF (fun _ _ h => h) (by subst e; exact .d h) (fun _ z => z.elim) fun _ z => z.elim
theorem q_int {i : Int} (e : z = .d (.int i)) : Q (.int i) H := q_d q e (.int i)
theorem q_bl {b : Bool} (e : z = .d (.bool b)) : Q (.bl b) H := q_d q e (.bl b)
theorem q_str {x : Str} (e : z = .d (.str x)) : Q (.str x) H := q_d q e (.str x)
theorem q_lst {p : Addr} {vs : List V} {ds : List D} (hp : H p = none) (hs : DIs C.K H vs ds) (e : z = own1 ds) : Q (.ref p) (upd H p (.lst vs)) := by
  have sm : Same H (upd H p (.lst vs)) := fun c o h => by
    rw [upd_ne (ne_of_none h hp)]
    exact h
  subst e
  refine q (.ref p) _ (fun c => c = p) sm (.lst upd_same rfl (RepXs.of_dis (hs.keep (same_imm sm)))) (fun c e => ?_) fun c e => ?_
  · subst e
    rw [upd_same]
    trivial
  · subst e
    exact hp
theorem q_tup {p : Addr} {vs : List V} {ds : List D} (hp : H p = none) (hs : DIs C.K H vs ds) (e : z = .d (.tuple ds)) : Q (.ref p) (upd H p (.tup vs)) := by
  have sm : Same H (upd H p (.tup vs)) := fun c o h => by
    rw [upd_ne (ne_of_none h hp)]
    exact h
  subst e
  exact q (.ref p) _ noF sm (.d (.tup upd_same (hs.keep (same_imm sm)))) (fun c e => e.elim) fun c e => e.elim
end
theorem dv_int {K : PySem.W.Frag} {H : Hp} {v : V} {i : Int} (h : DV K H v (.int i)) : v = .int i := by cases h; rfl
theorem dv_str {K : PySem.W.Frag} {H : Hp} {v : V} {i : Str} (h : DV K H v (.str i)) : v = .str i := by cases h; rfl
theorem dv_bool {K : PySem.W.Frag} {H : Hp} {v : V} {i : Bool} (h : DV K H v (.bool i)) : v = .bl i := by cases h; rfl
theorem dv_lst {K : PySem.W.Frag} {H : Hp} {v : V} {ds : List D} (h : DV K H v (.list ds)) : ∃ a vs, v = .ref a ∧ SqL K H a vs ∧ DIs K H vs ds := by
  cases h with
  | lst hs hd => exact ⟨_, _, rfl, hs, hd⟩
theorem dv_tup {K : PySem.W.Frag} {H : Hp} {v : V} {ds : List D} (h : DV K H v (.tuple ds)) : ∃ a vs, v = .ref a ∧ SqT K H a vs ∧ DIs K H vs ds := by
  cases h with
  | tup hs hd => exact ⟨_, _, rfl, SqT.of hs, hd⟩
/-! data at any depth -/
mutual
theorem DI.dp {K : PySem.W.Frag} {H : Hp} : ∀ {d : D} {v : V}, DI K H v d → d.canLay0 = true → Dp K H v d
  | .none, _, h, _ => by cases h; exact .non
  | .bool b, _, h, _ => by cases h; exact .bl b
  | .int i, _, h, _ => by cases h; exact .int i
  | .str x, _, h, _ => by cases h; exact .str x
  | .list ds, _, h, e => by
    cases h with
    | lst hl hs => exact .lst hl.sqL (DIs.dp hs (by simpa [PyData.canLay0] using e))
  | .tuple ds, _, h, e => by
    cases h with
    | tup ht hs => exact .tup (SqT.of ht) (DIs.dp hs (by simpa [PyData.canLay0] using e))
  | .dict _, _, _, e => by simp [PyData.canLay0] at e
theorem DIs.dp {K : PySem.W.Frag} {H : Hp} : ∀ {ds : List D} {vs : List V}, DIs K H vs ds → PyData.canLayAll0 ds = true → DpAll K H vs ds
  | [], _, h, _ => by cases h; exact .nil
  | d :: ds, _, h, e => by
    cases h with
    | cons h hs =>
      simp only [PyData.canLayAll0, Bool.and_eq_true] at e
      exact .cons (DI.dp h e.1) (DIs.dp hs e.2)
end
theorem DV.dp {K : PySem.W.Frag} {H : Hp} {v : V} {d : D} (h : DV K H v d) (e : shp d = true) : Dp K H v d := by
  have e := SeqAt.canLay_of_shaped e
  cases h with
  | non => exact .non
  | bl b => exact .bl b
  | int i => exact .int i
  | str x => exact .str x
  | lst hl hs => exact .lst hl (DIs.dp hs (by simpa [PyData.canLay0] using e))
  | tup ht hs => exact .tup (SqT.of ht) (DIs.dp hs (by simpa [PyData.canLay0] using e))
  | dK _ _ => simp [PyData.canLay0] at e
  | dT _ _ _ => simp [PyData.canLay0] at e
theorem small_mul {i j : Int} (h : (small64 i || small64 j) = true) : CMul i j := by
  simp only [small64, Bool.or_eq_true, decide_eq_true_eq] at h
  exact h

/-! ### lists, locked or not -/
theorem plainL {h : Heap} {a : Addr} {its : Array Value} (p : PlainL h a its) : ∃ (dd : Option Addr) (sl : Array (Option Value)) (n : Nat), h.get? a = some { cls := .type "list", dict := dd, data := .seq its n, slots := sl } := by
  obtain ⟨⟨cls, dd, data, sl⟩, n, ho, hc, hdn, hd⟩ := p
  have hc1 : cls = Value.type "list" := hc
  have hd1 : data = Data.seq its n := hd
  subst hc1 hd1
  exact ⟨dd, sl, n, ho⟩
def rCatL (K : PySem.W.Frag) : R2 := fun x y H Q => ∃ l b xs zs, x = .ref l ∧ y = .ref b ∧ SqL K H l xs ∧ SqL K H b zs ∧ xs.length + zs.length ≤ sizeLine ∧ ∀ p, H p = none → Q (.ref p) (upd H p (.lst (xs ++ zs)))
theorem op_catL : OpR C (binaryOp .Add) (rCatL C.K) := by
  intro pins s σ H x y v u Q I rx ry h
  obtain ⟨l, b, xs, zs, rfl, rfl, hH, hB, hz, q⟩ := h
  cases rx
  cases ry
  obtain ⟨its, r, p1, z1⟩ := I.list hH
  obtain ⟨its2, r2, p2, z2⟩ := I.list hB
  obtain ⟨d1, s1, n1, o1⟩ := plainL p1
  obtain ⟨d2, s2, n2, o2⟩ := plainL p2
  have l1 := r.length
  have l2 := r2.length
  refine concat_meets ⟨_, o1, rfl⟩ ⟨_, o2, rfl⟩ noFill_list_add seq_list_add PySem.F.slot_list_add PySem.F.entry_list_add (PySem.F.args_list_add_2 _ _) (list_addW l b its.toArray its2.toArray n1 n2 d1 d2 s1 s2 (by simp only [List.size_toArray]; omega)) ⟨o1, o2, ?_⟩
  have ea : its.toArray ++ its2.toArray = (its ++ its2).toArray := by simp
  rw [ea]
  exact ⟨.ref _, _, I.lnew (t' := s.toks) (r.append r2) (by rw [List.length_append]; omega), rfl, q _ I.fresh⟩
/-! ### by twos -/
theorem o_sub : OpR C (binaryOp .Sub) (rO2 C cx .sub) := fun pins s σ H x y v u Q I rx ry ⟨ds, z, dv, e, q⟩ => by
  obtain ⟨a, b, rfl, h1, h2⟩ := dv.two
  cases a with
  | int i =>
    cases b with
    | int j =>
      cases e
      rw [dv_int h1] at rx
      rw [dv_int h2] at ry
      exact op_sub pins s σ H _ _ v u Q I rx ry ⟨i, j, rfl, rfl, q_int q rfl⟩
    | _ => exact nomatch (show none = some z from e)
  | _ => cases b <;> exact nomatch (show none = some z from e)
theorem o_mod : OpR C (binaryOp .Mod) (rO2 C cx .mod) := fun pins s σ H x y v u Q I rx ry ⟨ds, z, dv, e, q⟩ => by
  obtain ⟨a, b, rfl, h1, h2⟩ := dv.two
  cases a with
  | int i =>
    cases b with
    | int j =>
      have e : (if j = 0 then none else TT.ii (i.fmod j)) = some z := e
      rw [Option.ite_none_left_eq_some] at e
      obtain ⟨hj, e⟩ := e
      cases e
      rw [dv_int h1] at rx
      rw [dv_int h2] at ry
      exact op_modN pins s σ H _ _ v u Q I rx ry ⟨i, j, rfl, rfl, hj, q_int q rfl⟩
    | _ => exact nomatch (show none = some z from e)
  | _ => cases b <;> exact nomatch (show none = some z from e)
theorem o_fdiv : OpR C (binaryOp .FloorDiv) (rO2 C cx .fdiv) := fun pins s σ H x y v u Q I rx ry ⟨ds, z, dv, e, q⟩ => by
  obtain ⟨a, b, rfl, h1, h2⟩ := dv.two
  cases a with
  | int i =>
    cases b with
    | int j =>
      have e : (if j = 0 ∨ ¬ j.natAbs < 1073741824 then none else TT.ii (i.fdiv j)) = some z := e
      rw [Option.ite_none_left_eq_some] at e
      obtain ⟨hj, e⟩ := e
      cases e
      have hc : CDivN i j := ⟨fun h => hj (.inl h), Decidable.byContradiction fun h => hj (.inr h)⟩
      rw [dv_int h1] at rx
      rw [dv_int h2] at ry
      exact op_fdivN pins s σ H _ _ v u Q I rx ry ⟨i, j, rfl, rfl, hc, q_int q rfl⟩
    | _ => exact nomatch (show none = some z from e)
  | _ => cases b <;> exact nomatch (show none = some z from e)
theorem o_pow : OpR C (binaryOp .Pow) (rO2 C cx .pow) := fun pins s σ H x y v u Q I rx ry ⟨ds, z, dv, e, q⟩ => by
  obtain ⟨a, b, rfl, h1, h2⟩ := dv.two
  cases a with
  | int i =>
    cases b with
    | int j =>
      have e : (if 0 ≤ j ∧ j ≤ 1000000 ∧ i.natAbs < 2 ^ 64 then TT.ii (i ^ j.toNat) else none) = some z := e
      rw [Option.ite_none_right_eq_some] at e
      obtain ⟨hj, e⟩ := e
      cases e
      rw [dv_int h1] at rx
      rw [dv_int h2] at ry
      exact op_pow pins s σ H _ _ v u Q I rx ry ⟨i, j, rfl, rfl, hj, q_int q rfl⟩
    | _ => exact nomatch (show none = some z from e)
  | _ => cases b <;> exact nomatch (show none = some z from e)
theorem o_lt : OpR C (compareOp .Lt) (rO2 C cx .lt) := fun pins s σ H x y v u Q I rx ry ⟨ds, z, dv, e, q⟩ => by
  obtain ⟨a, b, rfl, h1, h2⟩ := dv.two
  cases a with
  | int i =>
    cases b with
    | int j =>
      cases e
      rw [dv_int h1] at rx
      rw [dv_int h2] at ry
      exact op_lt pins s σ H _ _ v u Q I rx ry ⟨i, j, rfl, rfl, q_bl q rfl⟩
    | _ => exact nomatch (show none = some z from e)
  | str i =>
    cases b with
    | str j =>
      cases e
      rw [dv_str h1] at rx
      rw [dv_str h2] at ry
      exact op_lt_str pins s σ H _ _ v u Q I rx ry ⟨i, j, rfl, rfl, q_bl q rfl⟩
    | _ => exact nomatch (show none = some z from e)
  | _ => cases b <;> exact nomatch (show none = some z from e)
theorem o_le : OpR C (compareOp .LtE) (rO2 C cx .le) := fun pins s σ H x y v u Q I rx ry ⟨ds, z, dv, e, q⟩ => by
  obtain ⟨a, b, rfl, h1, h2⟩ := dv.two
  cases a with
  | int i =>
    cases b with
    | int j =>
      cases e
      rw [dv_int h1] at rx
      rw [dv_int h2] at ry
      exact op_le pins s σ H _ _ v u Q I rx ry ⟨i, j, rfl, rfl, q_bl q rfl⟩
    | _ => exact nomatch (show none = some z from e)
  | _ => cases b <;> exact nomatch (show none = some z from e)
theorem o_gt : OpR C (compareOp .Gt) (rO2 C cx .gt) := fun pins s σ H x y v u Q I rx ry ⟨ds, z, dv, e, q⟩ => by
  obtain ⟨a, b, rfl, h1, h2⟩ := dv.two
  cases a with
  | int i =>
    cases b with
    | int j =>
      cases e
      rw [dv_int h1] at rx
      rw [dv_int h2] at ry
      exact op_gt pins s σ H _ _ v u Q I rx ry ⟨i, j, rfl, rfl, q_bl q rfl⟩
    | _ => exact nomatch (show none = some z from e)
  | _ => cases b <;> exact nomatch (show none = some z from e)
theorem o_ge : OpR C (compareOp .GtE) (rO2 C cx .ge) := fun pins s σ H x y v u Q I rx ry ⟨ds, z, dv, e, q⟩ => by
  obtain ⟨a, b, rfl, h1, h2⟩ := dv.two
  cases a with
  | int i =>
    cases b with
    | int j =>
      cases e
      rw [dv_int h1] at rx
      rw [dv_int h2] at ry
      exact op_ge pins s σ H _ _ v u Q I rx ry ⟨i, j, rfl, rfl, q_bl q rfl⟩
    | _ => exact nomatch (show none = some z from e)
  | _ => cases b <;> exact nomatch (show none = some z from e)
theorem o_mul : OpR C (binaryOp .Mult) (rO2 C cx .mul) := fun pins s σ H x y v u Q I rx ry ⟨ds, z, dv, e, q⟩ => by
  obtain ⟨a, b, rfl, h1, h2⟩ := dv.two
  cases a with
  | int i =>
    cases b with
    | int j =>
      have e : (if (small64 i || small64 j) = true then TT.ii (i * j) else none) = some z := e
      rw [Option.ite_none_right_eq_some] at e
      obtain ⟨hj, e⟩ := e
      cases e
      rw [dv_int h1] at rx
      rw [dv_int h2] at ry
      exact op_mul pins s σ H _ _ v u Q I rx ry ⟨i, j, rfl, rfl, small_mul hj, q_int q rfl⟩
    | _ => exact nomatch (show none = some z from e)
  | _ => cases b <;> exact nomatch (show none = some z from e)
theorem o_add : OpR C (binaryOp .Add) (rO2 C cx .add) := fun pins s σ H x y v u Q I rx ry ⟨ds, z, dv, e, q⟩ => by
  obtain ⟨a, b, rfl, h1, h2⟩ := dv.two
  cases a with
  | int i =>
    cases b with
    | int j =>
      cases e
      rw [dv_int h1] at rx
      rw [dv_int h2] at ry
      exact op_add pins s σ H _ _ v u Q I rx ry ⟨i, j, rfl, rfl, q_int q rfl⟩
    | _ => exact nomatch (show none = some z from e)
  | str i =>
    cases b with
    | str j =>
      have e : (if fits (i.length + j.length) = true then some (X.d (.str (i ++ j))) else none) = some z := e
      rw [Option.ite_none_right_eq_some] at e
      obtain ⟨hj, e⟩ := e
      cases e
      rw [dv_str h1] at rx
      rw [dv_str h2] at ry
      exact op_add_str pins s σ H _ _ v u Q I rx ry ⟨i, j, rfl, rfl, of_decide_eq_true hj, q_str q rfl⟩
    | _ => exact nomatch (show none = some z from e)
  | list i =>
    cases b with
    | list j =>
      have e : (if fits (i.length + j.length) = true then some (own1 (i ++ j)) else none) = some z := e
      rw [Option.ite_none_right_eq_some] at e
      obtain ⟨hj, e⟩ := e
      cases e
      obtain ⟨l, xs, rfl, hs, hd⟩ := dv_lst h1
      obtain ⟨l2, ys, rfl, hs2, hd2⟩ := dv_lst h2
      exact op_catL pins s σ H _ _ v u Q I rx ry ⟨l, l2, xs, ys, rfl, rfl, hs, hs2, by rw [hd.length, hd2.length]; exact of_decide_eq_true hj, fun p hp => q_lst q hp (hd.append hd2) rfl⟩
    | _ => exact nomatch (show none = some z from e)
  | tuple i =>
    cases b with
    | tuple j =>
      have e : (if fits (i.length + j.length) = true then some (X.d (.tuple (i ++ j))) else none) = some z := e
      rw [Option.ite_none_right_eq_some] at e
      obtain ⟨hj, e⟩ := e
      cases e
      cases h1 with
      | @tup l xs _ ht hd =>
        cases h2 with
        | @tup l2 ys _ ht2 hd2 =>
          refine op_catA pins s σ H _ _ v u Q I rx ry ⟨l, l2, xs, ys, rfl, rfl, SqT.of ht, SqT.of ht2, by rw [hd.length, hd2.length]; exact of_decide_eq_true hj, fun e => ?_, fun _ e => ?_, fun _ _ p hp => q_tup q hp (hd.append hd2) rfl⟩
          · subst e
            cases hd
            exact q_d q rfl (.tup ht2 hd2)
          · subst e
            cases hd2
            exact q_d q (by rw [List.append_nil]) (.tup ht hd)
    | _ => exact nomatch (show none = some z from e)
  | _ => cases b <;> exact nomatch (show none = some z from e)
theorem o_eq (hu : C.A.units + 64 < cLine) : OpR C (compareOp .Eq) (rO2 C cx .eq) := fun pins s σ H x y v u Q I rx ry ⟨ds, z, dv, e, q⟩ => by
  obtain ⟨a, b, rfl, h1, h2⟩ := dv.two
  have e : (if (shp a && shp b) = true then bl (PyData.eqv a b) else none) = some z := by
    cases a <;> cases b <;> exact e
  rw [Option.ite_none_right_eq_some, Bool.and_eq_true] at e
  obtain ⟨⟨s1, s2⟩, e⟩ := e
  cases e
  exact op_eqD hu pins s σ H _ _ v u Q I rx ry ⟨a, b, h1.dp s1, h2.dp s2, s1, s2, q_bl q rfl⟩
theorem o_ne (hu : C.A.units + 64 < cLine) : OpR C (compareOp .NotEq) (rO2 C cx .ne) := fun pins s σ H x y v u Q I rx ry ⟨ds, z, dv, e, q⟩ => by
  obtain ⟨a, b, rfl, h1, h2⟩ := dv.two
  have e : (if (shp a && shp b) = true then bl (!PyData.eqv a b) else none) = some z := by
    cases a <;> cases b <;> exact e
  rw [Option.ite_none_right_eq_some, Bool.and_eq_true] at e
  obtain ⟨⟨s1, s2⟩, e⟩ := e
  cases e
  exact op_neD hu pins s σ H _ _ v u Q I rx ry ⟨a, b, h1.dp s1, h2.dp s2, s1, s2, q_bl q rfl⟩
end
end TT

/-! A15: more operators: membership, items, slices, calls of builtins. -/
namespace TT
open PySem PySem.Spec PyProof.Rows L2

section
variable {C : Cx} {cx : List Cls1} {o : Op}
/-! ### dicts -/
theorem dlook_rep {κ : Type} [DecidableEq κ] (dk : κ → D) (hd : ∀ a b, keq (dk a) (dk b) = decide (a = b)) {K : PySem.W.Frag} {H : Hp} {k : κ} : ∀ {hk : List (κ × V)} {ds : List D}, DIs K H (hk.map (·.2)) ds →
    (valV hk k = none ∧ dlook ((hk.map fun p => dk p.1).zip ds) (dk k) = none) ∨ ∃ v d, valV hk k = some v ∧ dlook ((hk.map fun p => dk p.1).zip ds) (dk k) = some d ∧ DI K H v d
  | [], ds, h => .inl ⟨rfl, by cases h; rfl⟩
  | p :: r, ds, h => by
    cases h with
    | @cons _ _ d ds h hs =>
      by_cases e : p.1 = k
      · refine .inr ⟨p.2, d, valV_pos e, ?_, h⟩
        show (if keq (dk p.1) (dk k) then some d else _) = _
        rw [hd, if_pos (by simp [e])]
      · have e1 : dlook (((p :: r).map fun p => dk p.1).zip (d :: ds)) (dk k) = dlook ((r.map fun p => dk p.1).zip ds) (dk k) := by
          show (if keq (dk p.1) (dk k) then some d else _) = _
          rw [hd, if_neg (by simp [e])]
          rfl
        rw [valV_neg e, e1]
        exact dlook_rep dk hd hs
def keysOk (kvs : List (D × D)) (x : D) : Bool := (kvs.all fun p => keyOk false p.1) && keyOk false x || !kvs.isEmpty && (kvs.all fun p => keyOk true p.1) && keyOk true x
theorem zip_all {K : PySem.W.Frag} {H : Hp} {κ : Type} (dk : κ → D) (t : Bool) : ∀ {hk : List (κ × V)} {ds : List D}, DIs K H (hk.map (·.2)) ds → (((hk.map fun p => dk p.1).zip ds).all fun p => keyOk t p.1) = true → ∀ p ∈ hk, keyOk t (dk p.1) = true
  | [], _, _, _, p, hp => nomatch hp
  | q :: r, ds, h, e, p, hp => by
    cases h with
    | @cons _ _ d ds h hs =>
      have e : (keyOk t (dk q.1) && (((r.map fun p => dk p.1).zip ds).all fun p => keyOk t p.1)) = true := e
      obtain ⟨e1, e2⟩ := Bool.and_eq_true_iff.mp e
      rcases List.mem_cons.mp hp with z | z
      · rw [z]; exact e1
      · exact zip_all dk t hs e2 p z
theorem dget_of {K : PySem.W.Frag} {H : Hp} {v y : V} {kvs : List (D × D)} {x : D} (h : DV K H v (.dict kvs)) (hy : DV K H y x) (e : keysOk kvs x = true) : ∃ a r, v = .ref a ∧ IsD H a ∧ DGet H a y r ∧ ((r = none ∧ dlook kvs x = none) ∨ ∃ w d, r = some w ∧ dlook kvs x = some d ∧ DI K H w d) := by
  unfold keysOk at e
  rw [Bool.or_eq_true, Bool.and_eq_true, Bool.and_eq_true, Bool.and_eq_true] at e
  cases h with
  | @dK a hk ds hr hs =>
    have k1 : keyOk false x = true := by
      rcases e with ⟨_, e⟩ | ⟨⟨e0, e1⟩, _⟩
      · exact e
      · cases hk with
        | nil => simp at e0
        | cons p r =>
          have z := zip_all (fun k => kD k) true hs e1 p List.mem_cons_self
          exact absurd z (by cases p.1 <;> simp [keyOk, kD, toKeyT])
    obtain ⟨k, ek⟩ := Option.isSome_iff_exists.mp (show (toKey x).isSome = true from k1)
    obtain ⟨rfl, rfl⟩ := key_of_di hy ek
    refine ⟨a, valV hk k, rfl, .inl ⟨hk, hr⟩, .inl ⟨hk, k, hr, rfl, rfl⟩, ?_⟩
    rcases dlook_rep kD keq_kD (k := k) hs with ⟨z1, z2⟩ | ⟨w, d, z1, z2, z3⟩
    · exact .inl ⟨z1, z2⟩
    · exact .inr ⟨w, d, z1, z2, z3⟩
  | @dT a hk ds hr ne hs =>
    have k1 : keyOk true x = true := by
      rcases e with ⟨e1, _⟩ | ⟨_, e⟩
      · cases hk with
        | nil => exact absurd rfl ne
        | cons p r =>
          have z := zip_all (fun k => kT k) false hs e1 p List.mem_cons_self
          exact absurd z (by simp [keyOk, kT, toKey])
      · exact e
    obtain ⟨k, ek⟩ := Option.isSome_iff_exists.mp (show (toKeyT x).isSome = true from k1)
    obtain ⟨b, rfl, hb, rfl⟩ := tupk_of_di hy ek
    refine ⟨a, valV hk k, rfl, .inr ⟨hk, hr⟩, .inr ⟨hk, k, b, hr, rfl, hb, rfl⟩, ?_⟩
    rcases dlook_rep kT keq_kT (k := k) hs with ⟨z1, z2⟩ | ⟨w, d, z1, z2, z3⟩
    · exact .inl ⟨z1, z2⟩
    · exact .inr ⟨w, d, z1, z2, z3⟩
theorem isSome_of {K : PySem.W.Frag} {H : Hp} {r : Option V} {q : Option D} (h : (r = none ∧ q = none) ∨ ∃ w d, r = some w ∧ q = some d ∧ DI K H w d) : r.isSome = q.isSome := by
  rcases h with ⟨rfl, rfl⟩ | ⟨w, d, rfl, rfl, _⟩ <;> rfl

/-! ### in, not in -/
theorem o_in (hu : C.A.units + 65 < cLine) : OpR C (compareOp .In) (rO2 C cx .inn) := fun pins s σ H x y v u Q I rx ry ⟨ds, z, dv, e, q⟩ => by
  obtain ⟨a, b, rfl, h1, h2⟩ := dv.two
  cases b with
  | list es =>
    have e : (if (shp a && shp (.list es)) = true then bl (es.any fun z => PyData.eqv z a) else none) = some z := e
    rw [Option.ite_none_right_eq_some, Bool.and_eq_true] at e
    obtain ⟨⟨s1, s2⟩, e⟩ := e
    cases e
    exact op_inD hu pins s σ H _ _ v u Q I rx ry ⟨a, es, h1.dp s1, h2.dp s2, s1, s2, q_bl q rfl⟩
  | tuple es =>
    have e : (if (shp a && shp (.tuple es)) = true then bl (es.any fun z => PyData.eqv z a) else none) = some z := e
    rw [Option.ite_none_right_eq_some, Bool.and_eq_true] at e
    obtain ⟨⟨s1, s2⟩, e⟩ := e
    cases e
    obtain ⟨as, r1⟩ := Dp.reads I a x v (h1.dp s1) rx
    obtain ⟨bs, r2⟩ := Dp.reads I (.tuple es) y u (h2.dp s2) ry
    have hd := SeqAt.depth_of_shaped s1
    exact SeqAt.in_tuple_reads r2 r1 (by simpa [PyData.canLay0] using SeqAt.canLay_of_shaped s2) (SeqAt.canLay_of_shaped s1) (by omega) ⟨.bl _, H, I, rfl, q_bl q rfl⟩
  | dict kvs =>
    have e : (if keysOk kvs a = true then bl (dlook kvs a).isSome else none) = some z := e
    rw [Option.ite_none_right_eq_some] at e
    obtain ⟨s1, e⟩ := e
    cases e
    obtain ⟨ad, r, rfl, _, g, hr⟩ := dget_of h2 h1 s1
    cases ry
    exact d_in (by omega) I g rx fun s' I' => ⟨.bl r.isSome, H, I', rfl, q_bl q (by rw [isSome_of hr])⟩
  | _ => cases a <;> exact nomatch (show none = some z from e)
theorem o_nin (hu : C.A.units + 65 < cLine) : OpR C (compareOp .NotIn) (rO2 C cx .nin) := fun pins s σ H x y v u Q I rx ry ⟨ds, z, dv, e, q⟩ => by
  obtain ⟨a, b, rfl, h1, h2⟩ := dv.two
  cases b with
  | list es =>
    have e : (if (shp a && shp (.list es)) = true then bl (!es.any fun z => PyData.eqv z a) else none) = some z := e
    rw [Option.ite_none_right_eq_some, Bool.and_eq_true] at e
    obtain ⟨⟨s1, s2⟩, e⟩ := e
    cases e
    exact op_notInD hu pins s σ H _ _ v u Q I rx ry ⟨a, es, h1.dp s1, h2.dp s2, s1, s2, q_bl q rfl⟩
  | tuple es =>
    have e : (if (shp a && shp (.tuple es)) = true then bl (!es.any fun z => PyData.eqv z a) else none) = some z := e
    rw [Option.ite_none_right_eq_some, Bool.and_eq_true] at e
    obtain ⟨⟨s1, s2⟩, e⟩ := e
    cases e
    obtain ⟨as, r1⟩ := Dp.reads I a x v (h1.dp s1) rx
    obtain ⟨bs, r2⟩ := Dp.reads I (.tuple es) y u (h2.dp s2) ry
    have hd := SeqAt.depth_of_shaped s1
    exact SeqAt.notIn_tuple_reads r2 r1 (by simpa [PyData.canLay0] using SeqAt.canLay_of_shaped s2) (SeqAt.canLay_of_shaped s1) (by omega) ⟨.bl _, H, I, rfl, q_bl q rfl⟩
  | dict kvs =>
    have e : (if keysOk kvs a = true then bl (!(dlook kvs a).isSome) else none) = some z := e
    rw [Option.ite_none_right_eq_some] at e
    obtain ⟨s1, e⟩ := e
    cases e
    obtain ⟨ad, r, rfl, _, g, hr⟩ := dget_of h2 h1 s1
    cases ry
    exact d_notIn (by omega) I g rx fun s' I' => ⟨.bl (!r.isSome), H, I', rfl, q_bl q (by rw [isSome_of hr])⟩
  | _ => cases a <;> exact nomatch (show none = some z from e)

/-! ### items -/
theorem atI_di {K : PySem.W.Frag} {H : Hp} {vs : List V} {ds : List D} (h : DIs K H vs ds) {i : Int} {d : D} (e : atI ds i = some d) : ∃ v, atI vs i = some v ∧ DI K H v d := by
  simp only [atI, Option.bind_eq_some_iff] at e
  obtain ⟨j, e1, e2⟩ := e
  obtain ⟨v, hv, hd⟩ := h.at' e2
  exact ⟨v, by simp only [atI, h.length, e1, Option.bind_some]; exact hv, hd⟩
theorem o_ix : IxR C (rO2 C cx .ix) := fun value slice pins s σ H x y v u Q I rx ry ⟨ds, z, dv, e, q⟩ hs => by
  obtain ⟨a, b, rfl, h1, h2⟩ := dv.two
  cases a with
  | list es =>
    cases b with
    | int i =>
      have e : (atI es i).map X.d = some z := e
      rw [Option.map_eq_some_iff] at e
      obtain ⟨d, e1, e2⟩ := e
      rw [dv_int h2] at ry
      obtain ⟨l, xs, rfl, hl, hd⟩ := dv_lst h1
      obtain ⟨w, hw, hdw⟩ := atI_di hd e1
      exact ix_list value slice pins s σ H _ _ v u Q I rx ry ⟨l, xs, i, w, rfl, rfl, hl, hw, q_d q e2.symm hdw⟩ hs
    | _ => exact nomatch (show none = some z from e)
  | tuple es =>
    cases b with
    | int i =>
      have e : (atI es i).map X.d = some z := e
      rw [Option.map_eq_some_iff] at e
      obtain ⟨d, e1, e2⟩ := e
      rw [dv_int h2] at ry
      obtain ⟨l, xs, rfl, hl, hd⟩ := dv_tup h1
      obtain ⟨w, hw, hdw⟩ := atI_di hd e1
      exact ix_tup value slice pins s σ H _ _ v u Q I rx ry ⟨l, xs, i, w, rfl, rfl, hl, hw, q_d q e2.symm hdw⟩ hs
    | _ => exact nomatch (show none = some z from e)
  | str x0 =>
    cases b with
    | int i =>
      have e : (if fits x0.length = true then (atI x0.cps.toList i).map fun c => X.d (.str ⟨#[c]⟩) else none) = some z := e
      rw [Option.ite_none_right_eq_some, Option.map_eq_some_iff] at e
      obtain ⟨hf, c, e1, e2⟩ := e
      rw [dv_int h2] at ry
      rw [dv_str h1] at rx
      exact ix_str value slice pins s σ H _ _ v u Q I rx ry ⟨x0, i, c, rfl, rfl, of_decide_eq_true hf, e1, q_str q e2.symm⟩ hs
    | _ => exact nomatch (show none = some z from e)
  | dict kvs =>
    exact nomatch (show none = some z from e)
  | _ => cases b <;> exact nomatch (show none = some z from e)
theorem cut_di {K : PySem.W.Frag} {H : Hp} {vs : List V} {ds : List D} (h : DIs K H vs ds) (lo hi : Option Int) : DIs K H (cutV vs lo hi) (cutD ds lo hi) := by
  unfold cutV cutD
  rw [h.length]
  exact (h.drop _).take _
/-- slices, by values -/
def rSl (C : Cx) (cx : List Cls1) : V → Option Int → Option Int → Hp → VK → Prop := fun x lo hi H Q => ∃ d z, DV C.K H x d ∧ (match d with
  | .list ds => some (own1 (cutD ds lo hi))
  | .tuple ds => some (X.d (.tuple (cutD ds lo hi)))
  | _ => none) = some z ∧ ∀ v H' T, Same H H' → RepX C.K cx H' v z T → MutF T H' → (∀ c, T c → H c = none) → Q v H'
theorem cut_whole {ds : List D} {lo hi : Option Int} (h : HT.sIx ds.length 0 lo = 0 ∧ HT.sIx ds.length ds.length hi = ds.length) : cutD ds lo hi = ds := by
  unfold cutD
  rw [h.1, h.2, List.drop_zero, Nat.sub_zero, List.take_length]
theorem o_sl : SlR C (rSl C cx) := fun pins s σ H x v vl vu lo hi sl Q I rx hs pl pu ⟨d, z, h1, e, q⟩ => by
  cases d with
  | list es =>
    cases e
    obtain ⟨l, xs, rfl, hl, hd⟩ := dv_lst h1
    exact sl_list pins s σ H _ v vl vu lo hi sl Q I rx hs pl pu ⟨l, xs, rfl, hl, fun p hp => q_lst q hp (cut_di hd lo hi) rfl⟩
  | tuple es =>
    cases e
    cases h1 with
    | @tup l xs _ ht hd =>
      have n := hd.length
      refine sl_tupA pins s σ H _ v vl vu lo hi sl Q I rx hs pl pu ⟨l, xs, rfl, SqT.of ht, fun w => ?_, fun _ p hp => q_tup q hp (cut_di hd lo hi) rfl⟩
      refine q_d q ?_ (.tup ht hd)
      rw [n] at w
      rw [cut_whole w]
  | _ => cases e

/-! ### builtins -/
theorem b_len : CallR C (.builtin "len") (rOp C cx .len) := fun pins s σ H xs us Q I r ⟨ds, z, dv, e, q⟩ => by
  cases dv with
  | nil => cases e
  | @cons x t d dt h hr =>
    cases hr with
    | cons _ _ => cases d <;> exact nomatch (show none = some z from e)
    | nil =>
      cases d with
      | list es =>
        cases e
        obtain ⟨l, ys, rfl, hl, hd⟩ := dv_lst h
        refine call_len pins s σ H _ us Q I r ⟨_, _, rfl, .inl ⟨ys, hl, rfl⟩, ?_⟩
        exact q_int q (by rw [hd.length])
      | tuple es =>
        cases e
        obtain ⟨l, ys, rfl, hl, hd⟩ := dv_tup h
        refine call_len pins s σ H _ us Q I r ⟨_, _, rfl, .inr ⟨ys, hl, rfl⟩, ?_⟩
        exact q_int q (by rw [hd.length])
      | str x0 =>
        have e : (if fits x0.length = true then TT.ii (x0.length : Nat) else none) = some z := e
        rw [Option.ite_none_right_eq_some] at e
        obtain ⟨hf, e⟩ := e
        cases e
        rw [dv_str h] at r
        exact call_len pins s σ H _ us Q I r ⟨_, _, rfl, ⟨of_decide_eq_true hf, rfl⟩, q_int q rfl⟩
      | dict kvs => exact nomatch (show none = some z from e)
      | _ => exact nomatch (show none = some z from e)
theorem b_int : CallR C (.type "int") (rOp C cx .int1) := fun pins s σ H xs us Q I r ⟨ds, z, dv, e, q⟩ => by
  cases dv with
  | nil => cases e
  | @cons x t d dt h hr =>
    cases hr with
    | cons _ _ => cases d <;> exact nomatch (show none = some z from e)
    | nil =>
      cases d with
      | int i =>
        cases e
        rw [dv_int h] at r
        exact call_int1 pins s σ H _ us Q I r (.inl ⟨i, rfl, q_int q rfl⟩)
      | bool b =>
        cases e
        rw [dv_bool h] at r
        exact call_int1 pins s σ H _ us Q I r (.inr ⟨b, rfl, q_int q rfl⟩)
      | _ => exact nomatch (show none = some z from e)
theorem b_str : CallR C (.type "str") (rOp C cx .str1) := fun pins s σ H xs us Q I r ⟨ds, z, dv, e, q⟩ => by
  cases dv with
  | nil => cases e
  | @cons x t d dt h hr =>
    cases hr with
    | cons _ _ => cases d <;> exact nomatch (show none = some z from e)
    | nil =>
      cases d with
      | int i =>
        have e : (if i.natAbs.log2 < 1920 then some (X.d (.str (toString i))) else none) = some z := e
        rw [Option.ite_none_right_eq_some] at e
        obtain ⟨hf, e⟩ := e
        cases e
        rw [dv_int h] at r
        exact call_str_int pins s σ H _ us Q I r ⟨i, rfl, hf, q_str q rfl⟩
      | _ => exact nomatch (show none = some z from e)
theorem b_min2 (hc : C.calm = true) : CallR C (.builtin "min") (rOp C cx .min2) := fun pins s σ H xs us Q I r ⟨ds, z, dv, e, q⟩ => by
  cases dv with
  | nil => cases e
  | @cons x t d dt h hr =>
    cases hr with
    | nil => cases d <;> exact nomatch (show none = some z from e)
    | @cons y t2 d2 dt2 h2 hr2 =>
      cases hr2 with
      | cons _ _ => cases d <;> cases d2 <;> exact nomatch (show none = some z from e)
      | nil =>
        cases d with
        | int i =>
          cases d2 with
          | int j =>
            cases e
            rw [dv_int h, dv_int h2] at r
            exact call_min2 hc pins s σ H _ us Q I r ⟨i, j, rfl, q_int q rfl⟩
          | _ => exact nomatch (show none = some z from e)
        | _ => cases d2 <;> exact nomatch (show none = some z from e)
theorem b_max2 (hc : C.calm = true) : CallR C (.builtin "max") (rOp C cx .max2) := fun pins s σ H xs us Q I r ⟨ds, z, dv, e, q⟩ => by
  cases dv with
  | nil => cases e
  | @cons x t d dt h hr =>
    cases hr with
    | nil => cases d <;> exact nomatch (show none = some z from e)
    | @cons y t2 d2 dt2 h2 hr2 =>
      cases hr2 with
      | cons _ _ => cases d <;> cases d2 <;> exact nomatch (show none = some z from e)
      | nil =>
        cases d with
        | int i =>
          cases d2 with
          | int j =>
            cases e
            rw [dv_int h, dv_int h2] at r
            exact call_max2 hc pins s σ H _ us Q I r ⟨i, j, rfl, q_int q rfl⟩
          | _ => exact nomatch (show none = some z from e)
        | _ => cases d2 <;> exact nomatch (show none = some z from e)
theorem zip_keys {K : PySem.W.Frag} {H : Hp} : ∀ {hk : List (Key × V)} {ds : List D}, DIs K H (hk.map (·.2)) ds → DIs K H (hk.map fun kv => kV kv.1) (((hk.map fun p => kD p.1).zip ds).map (·.1))
  | [], _, _ => .nil
  | p :: r, ds, h => by
    cases h with
    | cons h hs => exact .cons (di_kV p.1) (zip_keys hs)
theorem b_list (hc : C.calm = true) : CallR C (.type "list") (rOp C cx .list1) := fun pins s σ H xs us Q I r ⟨ds, z, dv, e, q⟩ => by
  cases dv with
  | nil => cases e
  | @cons x t d dt h hr =>
    cases hr with
    | cons _ _ => cases d <;> exact nomatch (show none = some z from e)
    | nil =>
      cases d with
      | list es =>
        cases e
        obtain ⟨l, ys, rfl, hl, hd⟩ := dv_lst h
        exact call_list_of pins s σ H _ us Q I r ⟨l, ys, rfl, .inl hl, fun p hp => q_lst q hp hd rfl⟩
      | tuple es =>
        cases e
        obtain ⟨l, ys, rfl, hl, hd⟩ := dv_tup h
        exact call_list_of pins s σ H _ us Q I r ⟨l, ys, rfl, .inr hl, fun p hp => q_lst q hp hd rfl⟩
      | dict kvs =>
        have e : (if (kvs.all fun p => keyOk false p.1) = true then some (own1 (kvs.map (·.1))) else none) = some z := e
        rw [Option.ite_none_right_eq_some] at e
        obtain ⟨hf, e⟩ := e
        cases e
        cases h with
        | @dK a hk es hr hs => exact call_listD hc pins s σ H _ us Q I r ⟨a, hk, rfl, hr, fun p hp => q_lst q hp (zip_keys hs) rfl⟩
        | @dT a hk es hr ne hs =>
          cases hk with
          | nil => exact absurd rfl ne
          | cons p r0 =>
            have w := zip_all (fun k => kT k) false hs hf p List.mem_cons_self
            exact absurd w (by simp [keyOk, kT, toKey])
      | _ => exact nomatch (show none = some z from e)
theorem b_tuple : CallR C (.type "tuple") (rOp C cx .tuple1) := fun pins s σ H xs us Q I r ⟨ds, z, dv, e, q⟩ => by
  cases dv with
  | nil => cases e
  | @cons x t d dt h hr =>
    cases hr with
    | cons _ _ => cases d <;> exact nomatch (show none = some z from e)
    | nil =>
      cases d with
      | list es =>
        cases e
        obtain ⟨l, ys, rfl, hl, hd⟩ := dv_lst h
        exact call_tuple_of pins s σ H _ us Q I r ⟨l, ys, rfl, .inl ⟨hl, fun p hp => q_tup q hp hd rfl⟩⟩
      | tuple es =>
        cases e
        cases h with
        | @tup l ys _ ht hd => exact call_tuple_of pins s σ H _ us Q I r ⟨l, ys, rfl, .inr ⟨SqT.of ht, q_d q rfl (.tup ht hd)⟩⟩
      | _ => exact nomatch (show none = some z from e)
theorem u_neg : UnR C (unaryOp .USub) (rO1 C cx .neg) := fun pins s σ H x v Q I rx ⟨ds, z, dv, e, q⟩ => by
  obtain ⟨d, rfl, h⟩ := dv.one
  cases d with
  | int i =>
    cases e
    rw [dv_int h] at rx
    exact un_neg pins s σ H _ v Q I rx ⟨i, rfl, q_int q rfl⟩
  | _ => exact nomatch (show none = some z from e)
end
end TT

/-! A16: sorted, of data that can be compared as far as the first items that differ. -/
namespace TT
open PySem PySem.Spec PyProof.Rows L2 PySem.W

/-! ### what equal data have in common -/
mutual
theorem eqv_toks : ∀ (x y : PyData), PyData.eqv x y = true → keyToks x = keyToks y
  | .none, y, h => by cases y <;> simp [PyData.eqv] at h <;> rfl
  | .bool a, y, h => by
    cases y with
    | bool b =>
      have e : a = b := by simpa [PyData.eqv] using h
      rw [e]
    | int j =>
      have e : (if a then (1 : Int) else 0) = j := by simpa [PyData.eqv] using h
      rw [← e]
      simp [keyToks]
    | _ => simp [PyData.eqv] at h
  | .int i, y, h => by
    cases y with
    | bool b =>
      have e : i = (if b then (1 : Int) else 0) := by simpa [PyData.eqv] using h
      rw [e]
      simp [keyToks]
    | int j =>
      have e : i = j := by simpa [PyData.eqv] using h
      rw [e]
    | _ => simp [PyData.eqv] at h
  | .str a, y, h => by
    cases y with
    | str b =>
      have e : a = b := by simpa [PyData.eqv] using h
      rw [e]
    | _ => simp [PyData.eqv] at h
  | .list xs, y, h => by
    cases y with
    | list ys =>
      rw [keyToks, keyToks]
      exact eqv_toksAll xs ys (by simpa [PyData.eqv] using h)
    | _ => simp [PyData.eqv] at h
  | .tuple xs, y, h => by
    cases y with
    | tuple ys =>
      rw [keyToks, keyToks]
      exact eqv_toksAll xs ys (by simpa [PyData.eqv] using h)
    | _ => simp [PyData.eqv] at h
  | .dict _, y, h => by cases y <;> simp [PyData.eqv] at h
theorem eqv_toksAll : ∀ (xs ys : List PyData), PyData.eqvAll xs ys = true → keyToksAll xs = keyToksAll ys
  | [], [], _ => rfl
  | [], _ :: _, h => by simp [PyData.eqvAll] at h
  | _ :: _, [], h => by simp [PyData.eqvAll] at h
  | x :: xs, y :: ys, h => by
    rw [eqv_all_cons, Bool.and_eq_true] at h
    rw [toks_all_cons, toks_all_cons, eqv_toks x y h.1, eqv_toksAll xs ys h.2]
end
theorem lt_all_yes {x y : PyData} {xs ys : List PyData} (e : PyData.eqv x y = true) : PyProof.Rows.lexLt itemOrd (keyToksAll (x :: xs)) (keyToksAll (y :: ys)) = PyProof.Rows.lexLt itemOrd (keyToksAll xs) (keyToksAll ys) := by
  rw [toks_all_cons, toks_all_cons, eqv_toks x y e]
  exact (lex_self (O := itemOrd) _ _ _).trans (lex_pre _ _ _)

/-! ### one value reads as one datum -/
mutual
theorem reads_one {h : Heap} : ∀ (d d' : PyData) (v : Value) (as as' : List Addr), d.canLay0 = true → Reads h v d as → Reads h v d' as' → d = d'
  | .none, _, _, _, _, _, r, r' => by cases r; cases r'; rfl
  | .bool _, _, _, _, _, _, r, r' => by cases r; cases r'; rfl
  | .int _, _, _, _, _, _, r, r' => by cases r; cases r'; rfl
  | .str _, _, _, _, _, _, r, r' => by cases r; cases r'; rfl
  | .list xs, d', _, _, _, ha, r, r' => by
    cases r with
    | list h1 h2 h3 h4 =>
      cases r' with
      | list k1 k2 k3 k4 =>
        rw [h1] at k1; cases k1
        rw [h3] at k3; cases k3
        rw [reads_ones xs _ _ _ _ (by simpa [PyData.canLay0] using ha) h4 k4]
      | tuple k1 k2 k3 k4 =>
        rw [h1] at k1; cases k1
        rw [h2] at k2
        exact absurd k2 (by decide)
      | dict k1 k2 k3 k4 k5 =>
        rw [h1] at k1; cases k1
        rw [h2] at k2
        exact absurd k2 (by decide)
  | .tuple xs, d', _, _, _, ha, r, r' => by
    cases r with
    | tuple h1 h2 h3 h4 =>
      cases r' with
      | tuple k1 k2 k3 k4 =>
        rw [h1] at k1; cases k1
        rw [h3] at k3; cases k3
        rw [reads_ones xs _ _ _ _ (by simpa [PyData.canLay0] using ha) h4 k4]
      | list k1 k2 k3 k4 =>
        rw [h1] at k1; cases k1
        rw [h2] at k2
        exact absurd k2 (by decide)
      | dict k1 k2 k3 k4 k5 =>
        rw [h1] at k1; cases k1
        rw [h2] at k2
        exact absurd k2 (by decide)
  | .dict _, _, _, _, _, ha, _, _ => by simp [PyData.canLay0] at ha
theorem reads_ones {h : Heap} : ∀ (xs ys : List PyData) (vs : List Value) (as as' : List Addr), PyData.canLayAll0 xs = true → ReadsAll h vs xs as → ReadsAll h vs ys as' → xs = ys
  | [], _, _, _, _, _, r, r' => by cases r; cases r'; rfl
  | x :: xs, [], _, _, _, _, r, r' => by cases r'; cases r
  | x :: xs, y :: ys, _, _, _, ha, r, r' => by
    simp only [PyData.canLayAll0, Bool.and_eq_true] at ha
    cases r with
    | cons h1 h2 =>
      cases r' with
      | cons k1 k2 => rw [reads_one x y _ _ _ ha.1 h1 k1, reads_ones xs ys _ _ _ ha.2 h2 k2]
end
def AllCmp (ds : List PyData) : Prop := (∀ d ∈ ds, ∀ d' ∈ ds, cmpT d d' = true) ∧ ∀ d ∈ ds, d.canLay0 = true
theorem dk_some {h : Heap} {ds : List PyData} (hal : ∀ d ∈ ds, d.canLay0 = true) {v : Value} {d : PyData} {as : List Addr} (hd : d ∈ ds) (r : Reads h v d as) : (dataKind h ds).keyOf v = some (keyToks d) := by
  have q : ∃ d, d ∈ ds ∧ ∃ as, Reads h v d as := ⟨d, hd, as, r⟩
  have e : (dataKind h ds).keyOf v = some (keyToks q.choose) := by
    show (open Classical in if q : ∃ d, d ∈ ds ∧ ∃ as, Reads h v d as then some (keyToks q.choose) else none) = _
    rw [dif_pos q]
  obtain ⟨h1, as', h2⟩ := q.choose_spec
  rw [e, reads_one _ _ _ _ _ (hal _ h1) h2 r]
section
variable {prog : Program} {w : World} {A : Around} {E : Value → Shared → Prop} {s : Shared}
theorem katLex_cmp {b fin : Bool} {Q : Bool → Shared → Prop} : ∀ (xs ys : List PyData) (i : Nat) (vs ws : List Value) (as bs : List Addr), ReadsAll s.heap vs xs as → ReadsAll s.heap ws ys bs → PyData.canLayAll0 xs = true → PyData.canLayAll0 ys = true → cmpAll xs ys = true →
    A.units + min (PyData.depthAll xs) (PyData.depthAll ys) < cLine → (b = true → i = 0 → ∀ x r t, xs = x :: r → x ≠ .tuple t) → fin = decide (xs.length < ys.length) → Q (PyProof.Rows.lexLt itemOrd (keyToksAll xs) (keyToksAll ys)) s → KatLex prog w A b fin Q (vs.zip ws) i s
  | [], [], i, _, _, _, _, ra, rb, _, _, _, _, _, hf, hq => by
    cases ra
    cases rb
    have e : fin = false := by rw [hf]; rfl
    subst e
    rw [lex_irrefl] at hq
    exact kat_nil hq
  | [], y :: ys, i, _, _, _, _, ra, rb, _, _, _, _, _, hf, hq => by
    cases ra
    have e : fin = true := by rw [hf]; exact decide_eq_true (Nat.succ_pos _)
    subst e
    rw [toks_all_cons] at hq
    simp only [keyToksAll] at hq
    rw [lex_diff (O := itemOrd) (by simp)] at hq
    rw [List.zip_nil_left]
    exact kat_nil (by simpa [itemLt] using hq)
  | x :: xs, [], i, _, _, _, _, ra, rb, _, _, _, _, _, hf, hq => by
    cases rb
    have e : fin = false := by rw [hf]; exact decide_eq_false (Nat.not_lt_zero _)
    subst e
    rw [toks_all_cons] at hq
    simp only [keyToksAll] at hq
    rw [lex_diff (O := itemOrd) (by simp)] at hq
    rw [List.zip_nil_right]
    exact kat_nil (by simpa [itemLt] using hq)
  | x :: xs, y :: ys, i, _, _, _, _, ra, rb, c1, c2, h, hu, hb, hf, hq => by
    simp only [PyData.canLayAll0, Bool.and_eq_true] at c1 c2
    have hf' : fin = decide (xs.length < ys.length) := by
      rw [hf]
      simp only [List.length_cons, Nat.add_lt_add_iff_right]
    cases ra with
    | cons r rs =>
      cases rb with
      | cons r' rs' =>
        rw [List.zip_cons_cons]
        refine kat_cons (SeqAt.eqAt_reads x y A s _ _ _ _ r r' c1.1 c2.1 (SeqAt.room_head hu) prog w _ _ ?_)
        cases hx : PyData.eqv x y with
        | true =>
          have h : (if PyData.eqv x y = true then cmpAll xs ys else alike x y) = true := h
          rw [if_pos hx] at h
          rw [lt_all_yes hx] at hq
          exact kat_yes (katLex_cmp xs ys (i + 1) _ _ _ _ rs rs' c1.2 c2.2 h (SeqAt.room_tail hu) (fun _ hi => absurd hi (Nat.succ_ne_zero i)) hf' hq)
        | false =>
          have h : (if PyData.eqv x y = true then cmpAll xs ys else alike x y) = true := h
          rw [if_neg (by rw [hx]; exact Bool.false_ne_true)] at h
          rw [dataLt_all_no h hx] at hq
          refine kat_no (oneLt_alike (fun hbi t => ?_) r r' h (ne_none_of h hx) (SeqAt.room_head hu) hq)
          rw [Bool.and_eq_true] at hbi
          exact hb hbi.1 (by simpa using hbi.2) x xs t rfl
theorem cmpT_inv {d d' : PyData} (h : cmpT d d' = true) : ∃ x xs y ys, d = .tuple (x :: xs) ∧ d' = .tuple (y :: ys) ∧ alike x y = true ∧ cmpAll (x :: xs) (y :: ys) = true := by
  cases d with
  | tuple a =>
    cases a with
    | nil => cases d' <;> simp [cmpT] at h
    | cons x xs =>
      cases d' with
      | tuple b =>
        cases b with
        | nil => simp [cmpT] at h
        | cons y ys =>
          simp only [cmpT, Bool.and_eq_true] at h
          exact ⟨x, xs, y, ys, rfl, rfl, h.1, h.2⟩
      | _ => simp [cmpT] at h
  | _ => cases d' <;> simp [cmpT] at h
theorem sortsAt_cmp {vs : List Value} {ds : List PyData} (e : EachIs (fun v d => ∃ as, Reads s.heap v d as) vs ds) (hal : AllCmp ds) (hu : ∀ d, d ∈ ds → A.units + d.depth < cLine) : SortsAt prog w A s (dataKind s.heap ds) vs := by
  have room : ∀ {d d' : PyData}, d ∈ ds → A.units + min d.depth d'.depth < cLine := fun {d d'} hd => Nat.lt_of_le_of_lt (Nat.add_le_add_left (Nat.min_le_left _ _) _) (hu d hd)
  refine ⟨fun v hv => ?_, ?_⟩
  · obtain ⟨d, hd, as, r⟩ := e.left v hv
    exact ⟨_, dk_some hal.2 hd r⟩
  · cases ds with
    | nil =>
      cases e
      exact ⟨general', fun E x y a b Q ha _ _ => (by
        obtain ⟨d, _, hd, _⟩ := dataKind_inv ha
        exact absurd hd (by simp)), fun h2 => absurd h2 (by simp)⟩
    | cons d₀ ds₀ =>
      have ht : ∀ d, d ∈ d₀ :: ds₀ → ∃ x r, d = .tuple (x :: r) := fun d hd => by
        obtain ⟨x, xs, _, _, e1, _⟩ := cmpT_inv (hal.1 d hd d hd)
        exact ⟨x, xs, e1⟩
      obtain ⟨x₀, r₀, e₀⟩ := ht d₀ (List.mem_cons_self ..)
      have hfirst : ∀ x r, PyData.tuple (x :: r) ∈ d₀ :: ds₀ → alike x x₀ = true := by
        intro x r hm
        obtain ⟨_, _, _, _, e1, e2, e3, _⟩ := cmpT_inv (hal.1 _ hm d₀ (List.mem_cons_self ..))
        cases e1
        rw [e₀] at e2
        cases e2
        exact e3
      refine ⟨tuples' (dataType x₀ != Value.type "tuple"), ?_, fun h2 E Q hq => ?_⟩
      · intro E x y a b Q ha hb hq
        obtain ⟨d, as, hd, ra, rfl⟩ := dataKind_inv ha
        obtain ⟨d', as', hd', rb, rfl⟩ := dataKind_inv hb
        have hdd := hal.1 d hd d' hd'
        have hroom := room (d' := d') hd
        obtain ⟨x1, r1, x2, r2, rfl, rfl, hal1, hc⟩ := cmpT_inv hdd
        have c1 := hal.2 _ hd
        have c2 := hal.2 _ hd'
        have hq' : Q (dataLt (.tuple (x1 :: r1)) (.tuple (x2 :: r2))) s := hq
        rw [dataLt_tuple] at hq'
        cases ra with
        | @tuple l o xs n _ _ h1 h2 h3 h4 =>
          cases rb with
          | @tuple l' o' xs' n' _ _ k1 k2 k3 k4 =>
            have n1 : xs.size = (x1 :: r1).length := by simpa using SeqAt.ReadsAll.length _ _ _ h4
            have n2 : xs'.size = (x2 :: r2).length := by simpa using SeqAt.ReadsAll.length _ _ _ k4
            refine kat_lt h1 h3 k1 k3 (katLex_cmp (x1 :: r1) (x2 :: r2) 0 _ _ _ _ h4 k4 (by simpa [PyData.canLay0] using c1) (by simpa [PyData.canLay0] using c2) hc (by have q := SeqAt.room_in hroom; omega) (fun hb _ x r t ex => ?_) (by rw [n1, n2]) hq')
            obtain ⟨rfl, rfl⟩ := List.cons.inj ex
            have q := dataType_alike (hfirst _ _ hd)
            rw [← q] at hb
            exact dataType_tuple hb t
      · obtain ⟨fs, t1, t2, t3⟩ := each_katTups e ht
        refine kat_kind (T := dataType x₀) t1 (by omega) (fun f hf => ?_) (beq_self_eq_true _) hq
        obtain ⟨x, r, as, m1, m2⟩ := t3 f hf
        rw [← dataType_alike (hfirst x r m1)]
        exact looks_reads m2
theorem each_self {α β : Type} {R : α → β → Prop} {f : β → β} (hf : ∀ b, f b = b) {as : List α} {bs : List β} (h : EachIs R as bs) : EachIs R as (bs.map f) := by
  rw [show bs.map f = bs from (List.map_congr_left fun b _ => hf b).trans (List.map_id _)]
  exact h
theorem sorted_cmp {l : Addr} {vs : List Value} {ds : List PyData} {R : Value → PyData → Prop} {Q : Value → Shared → Prop} (hl : s.heap.IsList l vs.toArray) (e : EachIs R vs ds) (er : EachIs (fun v b => ∃ as, Reads s.heap v b as) vs ds) (hal : AllCmp ds) (hL : ds.length ≤ sizeLine)
    (hu : ∀ b, b ∈ ds → A.units + 2 + b.depth < cLine) (h : ∀ out, out.length = ds.length → EachIs R out (ds.mergeSort (dataLe false id)) → Q (.ref (s.heap.objs.size + 1)) { s with heap := sortedAll s.heap vs (List.toArray out) }) :
    wpAny (model prog w) A (call (.builtin "sorted") [.ref l]) Q E s := by
  have er' : EachIs (fun v b => ∃ as, Reads (sortingHeap (copyHeap s.heap vs) (s.heap.objs.size + 1) vs) v b as) vs ds := er.mono fun _ _ ⟨as, r⟩ => ⟨as, PyProof.Rows.Reads.keeps (fun _ _ => sorting_copy_old) r⟩
  refine sorted_vals hl (sortsAt_cmp (s := { s with heap := sortingHeap (copyHeap s.heap vs) (s.heap.objs.size + 1) vs }) er' hal hu) (by rw [e.length]; exact hL) (h _ (by rw [sortVals_length false rfl]; exact e.length) ?_)
  exact sortVals_each (κ := dataKind (sortingHeap (copyHeap s.heap vs) (s.heap.objs.size + 1) vs) ds) (fun b => keyToks b) e ((each_mem er').mono fun _ _ ⟨⟨_, r⟩, hd⟩ => dk_some hal.2 hd r)
end

section
variable {C : Cx} {cx : List Cls1}
theorem each_vals {K : PySem.W.Frag} {H : Hp} : ∀ {xs : List V} {its : List Value} {ds : List D}, Vals xs its → DIs K H xs ds → EachIs (fun v d => ∃ w, RelV w v ∧ DI K H w d) its ds
  | _, _, _, .nil, .nil => .nil
  | _, _, _, .cons r t, .cons h hs => .cons ⟨_, r, h⟩ (each_vals t hs)
theorem vals_each {K : PySem.W.Frag} {H : Hp} : ∀ {its : List Value} {ds : List D}, EachIs (fun v d => ∃ w, RelV w v ∧ DI K H w d) its ds → ∃ xs, Vals xs its ∧ DIs K H xs ds
  | _, _, .nil => ⟨[], .nil, .nil⟩
  | _, _, .cons ⟨w, r, h⟩ t => by
    obtain ⟨xs, h1, h2⟩ := vals_each t
    exact ⟨w :: xs, .cons r h1, .cons h h2⟩
theorem leD_eq : (dataLe false id : D → D → Bool) = leD := by
  funext a b
  rfl
theorem mem_shp {ds : List D} (h : (ds.all shp) = true) {d : D} (hd : d ∈ ds) : d.canLay0 = true ∧ d.depth ≤ 64 := ⟨SeqAt.canLay_of_shaped (List.all_eq_true.mp h d hd), SeqAt.depth_of_shaped (List.all_eq_true.mp h d hd)⟩
/-- sorted, over a list of data -/
theorem sorted_inv {pins : List (Addr × Obj)} {s : Shared} {σ : L2.St} {H : Hp} {l : Addr} {xs : List V} {ds : List D} {Q : VK} (hu : C.A.units + 66 < cLine) (I : Inv C pins σ H s) (hl : SqL C.K H l xs) (hd : DIs C.K H xs ds) (hb : sortB ds = true)
    (q : ∀ p ys, H p = none → DIs C.K H ys (sortD ds) → Q (.ref p) (upd H p (.lst ys))) : wpAny (model C.prog C.w) C.A (call (.builtin "sorted") [.ref l]) (EP C pins σ Q) C.xe s := by
  simp only [sortB, Bool.and_eq_true, Bool.or_eq_true, decide_eq_true_eq] at hb
  obtain ⟨⟨hk, hs⟩, hz⟩ := hb
  obtain ⟨its, rv, pl, _⟩ := I.list hl
  have e := each_vals rv hd
  have er : EachIs (fun v b => ∃ as, Reads s.heap v b as) its ds := (each_mem e).mono fun v d ⟨⟨w, r, h⟩, hm⟩ => Dp.reads I d w v (h.dp (mem_shp hs hm).1) r
  have hu' : ∀ b, b ∈ ds → C.A.units + 2 + b.depth < cLine := fun b hm => by
    have := (mem_shp hs hm).2
    omega
  have fin : ∀ out, out.length = ds.length → EachIs (fun v d => ∃ w, RelV w v ∧ DI C.K H w d) out (sortD ds) → EP C pins σ Q (.ref (s.heap.objs.size + 1)) { s with heap := sortedAll s.heap its out.toArray } := fun out ho he => by
    obtain ⟨ys, r1, r2⟩ := vals_each he
    obtain ⟨ep, he'⟩ := PyProof.Rows.sortedAll_at s.heap its out.toArray
    have n := r1.length
    refine ⟨.ref _, upd H (s.heap.objs.size + 1) (.lst ys), I.laid (t' := s.toks) (fun _ _ => PyProof.Rows.sortedAll_old) (Nat.le_succ _) ⟨by omega, out, ep, r1, he'⟩, rfl, q _ ys (I.hok.fresh (Nat.le_succ _)) r2⟩
  rcases hk with hk | ⟨hn, ha⟩
  · refine sorted_cmp pl.isList e er ⟨fun d hd d' hd' => ?_, fun d hm => (mem_shp hs hm).1⟩ hz hu' fun out ho he => fin out ho (by rw [sortD, ← leD_eq]; exact he)
    exact List.all_eq_true.mp (List.all_eq_true.mp hk d hd) d' hd'
  · refine sorted_data (enc := id) pl.isList e er (fun d hd d' hd' => ?_) (.inr fun d hd => ?_) hz hu' fun out ho he => fin out ho (by rw [sortD, ← leD_eq]; exact he)
    · rw [List.map_id] at hd hd'
      exact List.all_eq_true.mp (List.all_eq_true.mp ha d hd) d' hd'
    · rw [List.map_id] at hd
      have w := List.all_eq_true.mp hn d hd
      refine ⟨fun z => ?_, fun xs z => ?_⟩
      · subst z; cases w
      · subst z; cases w
theorem b_sorted (hu : C.A.units + 66 < cLine) : CallR C (.builtin "sorted") (rOp C cx .sorted1) := fun pins s σ H xs us Q I r ⟨ds, z, dv, e, q⟩ => by
  cases dv with
  | nil => cases e
  | @cons x t d dt h hr =>
    cases hr with
    | cons _ _ => cases d <;> exact nomatch (show none = some z from e)
    | nil =>
      cases d with
      | list es =>
        have e : (if sortB es = true then some (own1 (sortD es)) else none) = some z := e
        rw [Option.ite_none_right_eq_some] at e
        obtain ⟨hf, e⟩ := e
        cases e
        obtain ⟨l, ys, rfl, hl, hd⟩ := dv_lst h
        rw [Vals.ref1 r]
        exact sorted_inv hu I hl hd hf fun p ys hp hy => q_lst q hp hy rfl
      | _ => exact nomatch (show none = some z from e)
end
end TT

/-! A17: the order of data; sorted(set(xs)) of texts. -/
namespace TT
open PySem PySem.Spec PyProof.Rows L2 PySem.W PySem.Froz

/-! ### the order -/
theorem leD_toks (a b : D) : leD a b = !PyProof.Rows.lexLt itemOrd (keyToks b) (keyToks a) := rfl
theorem leD_total (a b : D) : (leD a b || leD b a) = true := by
  rw [leD_toks, leD_toks]
  cases h1 : PyProof.Rows.lexLt itemOrd (keyToks b) (keyToks a) with
  | false => rfl
  | true =>
    cases h2 : PyProof.Rows.lexLt itemOrd (keyToks a) (keyToks b) with
    | false => rfl
    | true =>
      have h3 := (listOrd itemOrd).trans _ _ _ h1 h2
      rw [(listOrd itemOrd).irrefl] at h3
      cases h3
theorem leD_trans (a b c : D) (h1 : leD a b = true) (h2 : leD b c = true) : leD a c = true := by
  rw [leD_toks] at h1 h2 ⊢
  cases h3 : PyProof.Rows.lexLt itemOrd (keyToks c) (keyToks a) with
  | false => rfl
  | true =>
    rcases (listOrd itemOrd).negTrans _ (keyToks b) _ h3 with z | z
    · have z : PyProof.Rows.lexLt itemOrd (keyToks c) (keyToks b) = true := z
      rw [z] at h2
      cases h2
    · have z : PyProof.Rows.lexLt itemOrd (keyToks b) (keyToks a) = true := z
      rw [z] at h1
      cases h1
theorem leD_anti {a b : D} (h1 : leD a b = true) (h2 : leD b a = true) : keyToks a = keyToks b := by
  rw [leD_toks] at h1 h2
  exact (listOrd itemOrd).total _ _ (by simpa using h2) (by simpa using h1)
theorem sortD_perm0 (l : List D) : (sortD l).Perm l := List.mergeSort_perm l leD
theorem sortD_le (l : List D) : (sortD l).Pairwise fun a b => leD a b = true := List.pairwise_mergeSort leD_trans leD_total l
/-- one sorted row for all rows of the same items -/
theorem sortD_perm {l m : List D} (p : l.Perm m) (inj : ∀ a ∈ l, ∀ b ∈ l, keyToks a = keyToks b → a = b) : sortD l = sortD m := by
  refine List.Perm.eq_of_pairwise (le := fun a b => leD a b = true) (fun a b ha hb h1 h2 => ?_) (sortD_le l) (sortD_le m) ((sortD_perm0 l).trans (p.trans (sortD_perm0 m).symm))
  exact inj a ((sortD_perm0 l).mem_iff.mp ha) b (p.mem_iff.mpr ((sortD_perm0 m).mem_iff.mp hb)) (leD_anti h1 h2)
theorem toks_str {a b : D} (ha : isStrD a = true) (hb : isStrD b = true) (h : keyToks a = keyToks b) : a = b := by
  cases a with
  | str x =>
    cases b with
    | str y =>
      simp only [keyToks, List.cons.injEq, Sum.inr.injEq, and_true] at h
      rw [str_of_cps h]
    | _ => cases hb
  | _ => cases ha

/-! ### sets of texts -/
def txOf : Value → Str
  | .str k _ => k
  | _ => Str.empty
section
variable {P : Program} {w : World} {A : Around} {E : Value → Shared → Prop} {s : Shared}
theorem tail_perm {ep : Nat} {es1 : Array (Int × Value)} {t2 : SetTable} {wd : Bool} : (tailTx ep es1 t2 wd).1.toList.Perm es1.toList := by
  unfold tailTx
  by_cases c : (!wd && t2.tooFull) = true
  · rw [if_pos c]
    exact relayAll_perm t2 es1 _
  · rw [if_neg c]
theorem tail_ris {ep : Nat} {es1 : Array (Int × Value)} {t2 : SetTable} {wd : Bool} (r : Ris t2.place.toList) : Ris (tailTx ep es1 t2 wd).2.2.place.toList := by
  unfold tailTx
  by_cases c : (!wd && t2.tooFull) = true
  · rw [if_pos c]
    exact relayAll_ris t2 es1 _
  · rw [if_neg c]
    exact r
theorem tail_led {ep : Nat} {es1 : Array (Int × Value)} {t2 : SetTable} {wd : Bool} : (tailTx ep es1 t2 wd).2.2.led = t2.led := by
  unfold tailTx
  by_cases c : (!wd && t2.tooFull) = true
  · rw [if_pos c]
    exact relayAll_led t2 es1 _
  · rw [if_neg c]
theorem add_perm (h : Int) (v : Value) (D : SD) : (addTx h v D).1.toList.Perm (D.1.toList ++ [(h, v)]) := by
  unfold addTx
  refine tail_perm.trans ?_
  rw [← Array.toList_push]
  exact layNew_perm D.2.2 D.1 h v
theorem add_ris (h : Int) (v : Value) (D : SD) (r : Ris D.2.2.place.toList) : Ris (addTx h v D).2.2.place.toList := by
  unfold addTx
  refine tail_ris ?_
  have q := layNew_ris D.2.2 D.1 h v r
  split
  · exact q
  · exact q
theorem add_led (h : Int) (v : Value) (D : SD) : (addTx h v D).2.2.led = D.2.2.led := by
  unfold addTx
  rw [tail_led]
  have q := layNew_led D.2.2 D.1 h v
  split
  · exact q
  · exact q
/-- the set of texts at a -/
structure TxS (P : Program) (w : World) (h : Heap) (a : Addr) (l : List Str) (D : SD) : Prop where
  ob : h.get? a = some (sObj "set" D)
  ok : TxOk P w D l
  nd : l.Nodup
  ris : Ris D.2.2.place.toList
  led : w.params.followText "set-order" = true ∨ D.2.2.led = true
  pm : (D.1.toList.map fun e => txOf e.2).Perm l
  tx : ∀ e ∈ D.1.toList, ∃ k u, e.2 = Value.str k u
theorem dup_x {a : Addr} {T : String} {D : SD} {l : List Str} {k : Str} {u : Tok} {Q : Bool → Shared → Prop} (ho : s.heap.get? a = some (sObj T D)) (F : TxOk P w D l) (hk : k ∈ l) (hb : l.length < scanBound)
    (h : Q false s) : wpAny (model P w) A (setAddHashed a (.str k u) (hashStr w k)) Q E s := by
  obtain ⟨es, ep, t⟩ := D
  have hd : (sObj T (es, ep, t)).data = .set es ep t := rfl
  have hf : t.fits es.size = true := F.fit
  have hel : ElemsOf (strKind P w) es.toList := F.el
  have hsz : es.size = l.length := F.sz
  have hb0 : es.size < scanBound := by omega
  have hkey : (strKind P w).is k (.str k u) = true := is_str k u
  unfold setAddHashed setAddHashedIn
  refine wpAny_holding (wpAny_bind (wpAny_setState_of ho hd hf ?_))
  dsimp only
  rw [byScan_of rfl hb0 hel]
  simp only [↓reduceIte]
  unfold setAddByScan
  refine wpAny_bind ?_
  refine wpAny_bind (wpAny_rule ?_)
  refine wpAny_bind (wpAny_setScan_of (knd := strKind P w) (k := k) hkey ho hd hf hel ?_)
  cases hr : List.findIdx? (fun e => (strKind P w).is k e.2) es.toList with
  | none =>
    obtain ⟨e, he, q⟩ := (F.mem k).mp hk
    have c := List.findIdx?_eq_none_iff.mp hr e he
    rw [q] at c
    cases c
  | some j =>
    dsimp only
    exact wpAny_pure (wpAny_pure h)
theorem txs_add {a : Addr} {l : List Str} {D : SD} {k : Str} {u : Tok} {Q : Bool → Shared → Prop} (S : TxS P w s.heap a l D) (hb : l.length + 1 < scanBound)
    (h : ∀ b h' l' D', Heap.SameBut a s.heap h' → TxS P w h' a l' D' → (∀ j, j ∈ l' ↔ j = k ∨ j ∈ l) → l'.length ≤ l.length + 1 → Q b { s with heap := h' }) : wpAny (model P w) A (setAddHashed a (.str k u) (hashStr w k)) Q E s := by
  by_cases hk : k ∈ l
  · refine dup_x S.ob S.ok hk (by omega) ?_
    exact h false s.heap l D (Heap.SameBut.refl a s.heap) S (fun j => ⟨.inr, fun z => z.elim (fun e => e ▸ hk) id⟩) (Nat.le_succ _)
  · refine add_x S.ob S.ok hk hb ?_
    refine h true _ (k :: l) (addTx (hashStr w k) (.str k u) D) (Heap.SameBut.update s.heap a _) ⟨get_upd _ S.ob rfl, add_ok u S.ok, List.nodup_cons.mpr ⟨hk, S.nd⟩, add_ris _ _ _ S.ris, S.led.imp id fun z => by rw [add_led]; exact z, ?_, fun e he => ?_⟩ (fun j => List.mem_cons) (Nat.le_refl _)
    · refine ((add_perm (hashStr w k) (.str k u) D).map fun e => txOf e.2).trans ?_
      rw [List.map_append]
      exact (List.perm_append_singleton k _).trans (S.pm.cons k)
    · rcases List.mem_append.mp ((add_perm (hashStr w k) (.str k u) D).mem_iff.mp he) with z | z
      · exact S.tx e z
      · rw [List.mem_singleton.mp z]
        exact ⟨k, u, rfl⟩
theorem TxS.at {h h' : Heap} {a : Addr} {l : List Str} {D : SD} (S : TxS P w h a l D) (k : ∀ o, h.get? a = some o → h'.get? a = some o) : TxS P w h' a l D := ⟨k _ S.ob, S.ok, S.nd, S.ris, S.led, S.pm, S.tx⟩
theorem txs_new {h : Heap} {a : Addr} (ho : h.get? a = some { cls := .type "set", dict := none, data := .set #[] 0 (.fresh 0 0 (!w.params.followText "set-order")) }) : TxS P w h a [] (#[], 0, .fresh 0 0 (!w.params.followText "set-order")) :=
  ⟨ho, TxOk.nil (by rfl), List.nodup_nil, List.Pairwise.nil, by
    show _ ∨ (!w.params.followText "set-order") = true
    cases w.params.followText "set-order"
    · exact .inr rfl
    · exact .inl rfl, List.Perm.refl _, fun e he => by simp at he⟩
theorem set_update_txs {I : Addr} {fp wr : List Addr} {G : Array GenState → Array GenState → Prop} {n : Nat} {Pv : Nat → Value → Prop} {St : Nat → Shared → Prop} {R : Result → Shared → Prop}
    (W : WalksS P w A.in1 I fp wr G n Pv St) (S : Addr) (hSf : S ∉ fp) (ns : List Str) (hn : n = ns.length) (hb : ns.length + 1 < scanBound) (hval : ∀ i v, Pv i v → ∃ k t, ns[i]? = some k ∧ v = .str k t) :
    ∀ (k i : Nat) (s : Shared), n - i = k → i ≤ n → St i s → (∃ l D, TxS P w s.heap S l D ∧ (∀ j, j ∈ l ↔ j ∈ ns.take i) ∧ l.length ≤ i) →
      (∀ s' l D, Moved (S :: wr) G s s' → TxS P w s'.heap S l D → (∀ j, j ∈ l ↔ j ∈ ns) → l.length ≤ n → R (.ok (.ret .none)) s') →
      codeAny (model P w) A (.builtin "set.update.loop" ⟨[.ref S, .ref I], []⟩) R s := by
  have hSw : S ∉ wr := fun h => hSf (W.sub _ h)
  have hsub : ∀ b ∈ wr, b ∈ S :: wr := fun b hb => List.mem_cons_of_mem _ hb
  intro k
  induction k with
  | zero =>
    intro i s hk' hi hst ⟨l, D, hS, hm0, hc⟩ hR
    have hin : i = n := by omega
    subst hin
    refine codeAny_builtin F.entry_set_update_loop ?_
    rw [Around.under_plainId F.plain_set_update_loop _]
    show wpAny _ A.in1 (pyNext (.ref I) >>= _) _ _ s
    refine wpAny_bind (W.done s _ _ hst fun s' hm => ?_)
    show wpAny _ A.in1 (ret Value.none) _ _ s'
    have e : ns.take i = ns := List.take_of_length_le (by omega)
    rw [e] at hm0
    exact wpAny_pure (hR s' l D (hm.mono hsub) (hS.at fun o e => hm.heap S o hSw e) hm0 hc)
  | succ k ih =>
    intro i s hk' hi hst ⟨l, D, hS, hm0, hc⟩ hR
    have hlt : i < n := by omega
    refine codeAny_builtin F.entry_set_update_loop ?_
    rw [Around.under_plainId F.plain_set_update_loop _]
    show wpAny _ A.in1 (pyNext (.ref I) >>= _) _ _ s
    refine wpAny_bind (W.item i s _ _ hlt hst fun v s' hP hst' hm => ?_)
    obtain ⟨z, t, hz, rfl⟩ := hval i v hP
    have hS' : TxS P w s'.heap S l D := hS.at fun o e => hm.heap S o hSw e
    show wpAny _ A.in1 (holding [Value.str z t] (setAdd S (.str z t)) >>= _) _ _ s'
    refine wpAny_bind (wpAny_holding ?_)
    unfold setAdd
    refine wpAny_holding ?_
    refine wpAny_bind ((strKind P w).pyHash (k := z) (is_str _ _) ?_)
    refine txs_add (s := { s' with toks := s'.toks + 1 }) hS' (by omega) fun b h' l' D' hsb hS2 hm2 hl2 => ?_
    have hm3 : ∀ j, j ∈ l' ↔ j ∈ ns.take (i + 1) := fun j => by
      rw [hm2 j, hm0 j, List.take_add_one, hz]
      simp [List.mem_append, or_comm]
    refine wpAny_pure ⟨plainId_quiet F.plain_set_update_loop _, ih (i + 1) _ (by omega) hlt (W.frame _ s' _ _ hst' (Nat.le_succ _) fun b hb o e => ?_) ⟨l', D', hS2, hm3, by omega⟩ fun s'' l2 D2 hm'' hS'' hc'' hl'' => ?_⟩
    · rw [hsb.2 b (fun h : b = S => hSf (by rw [← h]; exact hb))]; exact e
    · refine hR s'' l2 D2 (Moved.trans W.gtrans ((hm.mono hsub).then_heap (Nat.le_succ _) fun b o hb e => ?_) hm'') hS'' hc'' hl''
      rw [hsb.2 b (fun h : b = S => hb (by rw [h]; exact List.mem_cons_self))]; exact e
/-- set(xs) of a list of texts -/
theorem call_set_txs {l : Addr} {items : Array Value} (ns : List Str) {Q : Value → Shared → Prop} (hh : A.handled = none) (hl : s.heap.IsList l items) (hit : ∀ (i : Nat) (v : Value), items[i]? = some v → ∃ k t, ns[i]? = some k ∧ v = .str k t) (hisz : items.size = ns.length) (hfew : ns.length + 1 < scanBound)
    (h : ∀ (h' : Heap) (tk : Nat) l D, TxS P w h' s.heap.objs.size l D → (∀ j, j ∈ l ↔ j ∈ ns) → l.length ≤ ns.length → (∀ b o, s.heap.get? b = some o → h'.get? b = some o) → Q (.ref s.heap.objs.size) { s with heap := h', toks := tk }) :
    wpAny (model P w) A (call (.type "set") [.ref l]) Q E s := by
  obtain ⟨c, tl, hmro⟩ := F.called_set.mro
  have hmade := F.called_set.made
  have hsub := F.called_set.sub
  refine wpAny_call (codeAny_of_tree ?_)
  show wpAny _ _ (callAny (.type "set") _) _ _ _
  refine wpAny_pure ⟨Code.quiet_builtin _ (by decide +kernel), codeAny_builtin F.entry_type_call ?_⟩
  rw [Around.under_plain (weight_type_call_type "set" [.ref l] []) rfl]
  have h1 := F.called_set.notType
  have h2 := F.called_set.canCreate
  have hct := F.typeCall_set_1 (.ref l)
  repeat (any_goals (first | assumption | wp_step))

  refine codeAny_mono (code_set_led1 (.ref l) (E := E) (Q₁ := fun obj s₁ => obj = .ref s.heap.objs.size ∧ s₁ = { s with heap := s.heap.push { cls := .type "set", dict := none, data := .set #[] 0 (.fresh 0 0 (!w.params.followText "set-order")) } }) ⟨rfl, rfl⟩) fun r s₁ hr => ?_
  cases r with
  | error e => exact hr
  | ok fl =>
    cases fl with
    | ret obj =>
      obtain ⟨rfl, rfl⟩ := hr
      have hS : (s.heap.push { cls := .type "set", dict := none, data := .set #[] 0 (.fresh 0 0 (!w.params.followText "set-order")) }).get? s.heap.objs.size = some { cls := .type "set", dict := none, data := .set #[] 0 (.fresh 0 0 (!w.params.followText "set-order")) } := Heap.get?_push_size _ rfl
      have hT : Shared.TypeIs { s with heap := s.heap.push { cls := .type "set", dict := none, data := .set #[] 0 (.fresh 0 0 (!w.params.followText "set-order")) } } (.ref s.heap.objs.size) "set" := ⟨_, hS, rfl⟩
      have hli := F.called_set.init.lookup
      have hbi := F.called_set.init.bind (.ref s.heap.objs.size)
      repeat (any_goals (first | assumption | wp_step))

      refine codeAny_mono (codeAny_call_builtin (R := wants (fun r s₂ => r = .none ∧ ∃ h' tk l0 D0, s₂ = { s with heap := h', toks := tk } ∧ TxS P w h' s.heap.objs.size l0 D0 ∧ (∀ j, j ∈ l0 ↔ j ∈ ns) ∧ l0.length ≤ ns.length ∧
          (∀ b o, s.heap.get? b = some o → h'.get? b = some o)) E) F.called_set.init.plain F.entry_set_init (check_set_init_1 hT ?_)) fun r₂ s₂ hr₂ => ?_
      · obtain ⟨ol, hol, hcl, nl, hdl⟩ := hl
        obtain ⟨ocls, odict, odata, oslots⟩ := ol
        simp only at hcl hdl
        subst hcl; subst hdl
        have hol' : (s.heap.push { cls := .type "set", dict := none, data := .set #[] 0 (.fresh 0 0 (!w.params.followText "set-order")) }).get? l = some { cls := .type "list", dict := odict, data := .seq items nl, slots := oslots } := Heap.get?_push_of_some _ hol
        have hsls := F.sub_list_set
        have hslf := F.sub_list_frozenset
        have hne : (Value.type "list" == Value.type "dict") = false := by decide
        have hl1 : (s.heap.push { cls := .type "set", dict := none, data := .set #[] 0 (.fresh 0 0 (!w.params.followText "set-order")) }).IsList l items := ⟨_, hol', rfl, nl, rfl⟩
        unfold Builtin.«set.__init__» noKeywords Builtin.Frozenset.updateFrom
        generalize hPI : pyIter = PI
        wp_walk
        subst hPI

        refine wpAny_pyIter_list hl1 ?_
        refine wpAny_bind (wpAny_runValue ?_)
        have hlS : l < s.heap.objs.size := Heap.lt_size hol
        have hh3 : A.in1.in1.in1.handled = none := by simp [hh]
        have hneI : l ≠ (s.heap.push { cls := .type "set", dict := none, data := .set #[] 0 (.fresh 0 0 (!w.params.followText "set-order")) }).objs.size := by
          rw [Heap.size_push]; exact Nat.ne_of_lt (Nat.lt_succ_of_lt hlS)
        have hSf : s.heap.objs.size ∉ [(s.heap.push { cls := .type "set", dict := none, data := .set #[] 0 (.fresh 0 0 (!w.params.followText "set-order")) }).objs.size, l] := by
          rw [Heap.size_push]; simp only [List.mem_cons, List.mem_singleton, List.not_mem_nil, or_false, not_or]
          exact ⟨Nat.ne_of_lt (Nat.lt_succ_self _), Nat.ne_of_gt hlS⟩
        refine set_update_txs ((Walks.list hh3 _ l hneI items).toS) s.heap.objs.size
          hSf ns hisz hfew hit (items.size - 0) 0 _ (by omega) (Nat.zero_le _)
          ⟨⟨_, Heap.get?_push_size _ rfl, rfl, rfl⟩, (hl1.push _)⟩ ?hS0 ?hR
        case hS0 =>
          have hget : ((s.heap.push { cls := .type "set", dict := none, data := .set #[] 0 (.fresh 0 0 (!w.params.followText "set-order")) }).push { cls := .type "list_iterator", data := .fields #[.ref l, .int 0 0] }).get? s.heap.objs.size
              = some { cls := .type "set", dict := none, data := .set #[] 0 (.fresh 0 0 (!w.params.followText "set-order")) } := Heap.get?_push_of_some _ hS
          exact ⟨[], _, txs_new hget, fun j => by simp, Nat.le_refl _⟩
        case hR =>
          intro s' l0 D0 hm hS' hm' hc'
          obtain ⟨h', g2, d', tk', os'⟩ := s'
          have eg : g2 = s.gens := hm.gens
          have ed : d' = s.drawn := hm.drawn
          have eo : os' = s.os := hm.os
          subst eg; subst ed; subst eo
          show wpAny _ _ _ _ _ _
          refine wpAny_pure ?_
          show wpAny _ _ (ret Value.none) _ _ _
          rw [hisz] at hc'
          refine wpAny_pure ⟨rfl, h', tk', l0, D0, rfl, hS', hm', hc', fun b o e => ?_⟩
          have hb0 : b < s.heap.objs.size := Heap.lt_size e
          have hb1 : b ≠ s.heap.objs.size := Nat.ne_of_lt hb0
          have hb2 : b ≠ (s.heap.push { cls := .type "set", dict := none, data := .set #[] 0 (.fresh 0 0 (!w.params.followText "set-order")) }).objs.size := by
            rw [Heap.size_push]; exact Nat.ne_of_lt (Nat.lt_succ_of_lt hb0)
          exact hm.heap b o (by simp only [List.mem_cons, List.mem_singleton, List.not_mem_nil, or_false, not_or]; exact ⟨hb1, hb2⟩) (Heap.get?_push_of_some _ (Heap.get?_push_of_some _ e))

      · cases r₂ with
        | error e => exact hr₂
        | ok fl₂ =>
          cases fl₂ with
          | ret r =>
            obtain ⟨rfl, h', tk, l0, D0, rfl, hS', hm', hc', hk'⟩ := hr₂
            repeat (any_goals (first | assumption | wp_step))
            exact h _ _ _ _ hS' hm' hc' hk'
          | _ => exact hr₂.elim
    | _ => exact hr.elim
end
end TT

/-! A18: sorted(set(xs)) of texts, as an expression; d.get(k, x); slices; {}. -/
namespace TT
open PySem PySem.Spec PyProof.Rows L2 PySem.W PySem.Froz

section
variable {P : Program} {w : World} {A : Around} {E : Value → Shared → Prop} {s : Shared}
def isTx (v : Value) (d : D) : Prop := ∃ k u, v = .str k u ∧ d = .str k
theorem each_tx : ∀ {vs : List Value}, (∀ v ∈ vs, ∃ k u, v = Value.str k u) → EachIs isTx vs (vs.map fun v => PyData.str (txOf v))
  | [], _ => .nil
  | v :: vs, h => by
    obtain ⟨k, u, rfl⟩ := h v List.mem_cons_self
    exact .cons ⟨k, u, rfl, rfl⟩ (each_tx fun x hx => h x (List.mem_cons_of_mem _ hx))
theorem sorted_txs {a : Addr} {l : List Str} {D : SD} {Q : Value → Shared → Prop} (S : TxS P w s.heap a l D) (hh : A.handled = none) (hb : l.length < scanBound) (hu : A.units + 66 < cLine)
    (hQ : ∀ s' p (out : List Value) (c : Nat), (∀ b o, s.heap.get? b = some o → s'.heap.get? b = some o) → s'.gens = s.gens → s'.os = s.os → s.heap.objs.size ≤ p →
      s'.heap.get? p = some (seqObj "list" out.toArray c) → out.length = l.length → EachIs isTx out (sortD (l.map PyData.str)) → Q (.ref p) s') :
    wpAny (model P w) A (call (.builtin "sorted") [.ref a]) Q E s := by
  obtain ⟨es, ep, t⟩ := D
  have hsz : es.size = l.length := S.ok.sz
  have hf : t.fits es.size = true := S.ok.fit
  refine Calls.call_function_entry kind_sorted plain_sorted entry_sorted (args_sorted1 _) ?_
  unfold Builtin.«sorted»
  refine wpAny_bind (m := checkCount "sorted" 1 1 _) (wpAny_pure ?_)
  refine wpAny_bind (collect_set (A := A.in1) hh ⟨_, S.ob, rfl, rfl⟩ hf (by rw [hsz]; exact hb) S.ris S.led fun s1 vs k1 hz g1 o1 pm => ?_)
  have hvl : vs.length = l.length := by rw [pm.length_eq, List.length_map, Array.length_toList]; exact hsz
  have htx : ∀ v ∈ vs, ∃ k u, v = Value.str k u := fun v hv => by
    obtain ⟨e, he, q⟩ := List.mem_map.mp (pm.mem_iff.mp hv)
    obtain ⟨k, u, h1⟩ := S.tx e he
    exact ⟨k, u, by rw [← q]; exact h1⟩
  have pt : (vs.map txOf).Perm l := by
    have q := pm.map txOf
    rw [List.map_map] at q
    exact q.trans S.pm
  have hzl : vs.length ≤ sizeLine := by
    rw [hvl]
    exact fits_of_scanBound hb
  refine wpAny_bind (wpAny_newList ?_ hzl)
  have hoL : (s1.heap.push (seqObj "list" vs.toArray 0)).get? s1.heap.objs.size = some (seqObj "list" vs.toArray 0) := Heap.get?_push_size _ rfl
  have e := each_tx htx
  have hbs : (vs.map fun v => PyData.str (txOf v)).length = vs.length := List.length_map ..
  have hrd : ∀ (h : Heap) (v : Value) (d : D), isTx v d → ∃ as, Reads h v d as ∧ s1.heap.objs.size ∉ as := fun h v d ⟨k, u, e1, e2⟩ => by
    subst e1 e2
    exact ⟨[], .str k u, by simp⟩
  refine wpAny_bind (wpAny_holding (list_sort_data (enc := id) (s := { s1 with heap := s1.heap.push (seqObj "list" vs.toArray 0) }) hoL e (e.mono fun v d h => hrd _ v d h) (fun d hd d' hd' => ?_) (.inr fun d hd => ?_) (by rw [hbs]; exact hzl) (fun d hd => ?_) fun out ho he => ?_))
  · rw [List.map_id] at hd hd'
    obtain ⟨v, _, rfl⟩ := List.mem_map.mp hd
    obtain ⟨v', _, rfl⟩ := List.mem_map.mp hd'
    simp [alike]
  · rw [List.map_id] at hd
    obtain ⟨v, _, rfl⟩ := List.mem_map.mp hd
    exact ⟨fun z => (nomatch z), fun xs z => (nomatch z)⟩
  · obtain ⟨v, _, rfl⟩ := List.mem_map.mp hd
    show A.in1.units + 1 + 0 < cLine
    have : A.in1.units = A.units + 1 := rfl
    omega
  obtain ⟨c, hc⟩ := sortedHeap_at (vs := vs) (out := out.toArray) hoL
  have hs : sortD (vs.map fun v => PyData.str (txOf v)) = sortD (l.map PyData.str) := by
    refine sortD_perm ?_ fun x hx y hy hk => ?_
    · have q := pt.map PyData.str
      rw [List.map_map] at q
      exact q
    · obtain ⟨v, _, rfl⟩ := List.mem_map.mp hx
      obtain ⟨v', _, rfl⟩ := List.mem_map.mp hy
      exact toks_str rfl rfl hk
  refine wpAny_pure ⟨_, rfl, hQ _ s1.heap.objs.size out c (fun b u e => ?_) g1 o1 hz hc (by rw [ho, hbs, hvl]) (by rw [← hs]; exact he)⟩
  have q := k1 b u e
  have hlt := Heap.lt_size q
  show (sortedHeap (s1.heap.push (seqObj "list" vs.toArray 0)) s1.heap.objs.size vs out.toArray).get? b = some u
  rw [sortedHeap_old (Nat.ne_of_lt hlt) (by rw [size_push']; exact Nat.lt_succ_of_lt hlt)]
  exact Heap.get?_push_of_some _ q
end

/-! ### the distinct ones of a row of texts -/
theorem dedup_mem : ∀ (l acc : List D), (∀ d ∈ l, isStrD d = true) → (∀ d ∈ acc, isStrD d = true) → acc.Nodup → (dedupD l acc).Nodup ∧ (∀ d, d ∈ dedupD l acc ↔ d ∈ acc ∨ d ∈ l) ∧ ∀ d ∈ dedupD l acc, isStrD d = true
  | [], acc, _, h2, nd => ⟨nd, fun d => by simp [dedupD], h2⟩
  | x :: r, acc, h1, h2, nd => by
    have hx := h1 x List.mem_cons_self
    have hr : ∀ d ∈ r, isStrD d = true := fun d hd => h1 d (List.mem_cons_of_mem _ hd)
    have eqs : ∀ y ∈ acc, (PyData.eqv y x = true ↔ y = x) := fun y hy => by
      have hy' := h2 y hy
      cases x with
      | str a =>
        cases y with
        | str b => simp [PyData.eqv]
        | _ => cases hy'
      | _ => cases hx
    by_cases e : acc.any (fun y => PyData.eqv y x) = true
    · have hm : x ∈ acc := by
        obtain ⟨y, hy, hq⟩ := List.any_eq_true.mp e
        rw [← (eqs y hy).mp hq]
        exact hy
      have hd : dedupD (x :: r) acc = dedupD r acc := by
        show (if acc.any (fun y => PyData.eqv y x) then dedupD r acc else dedupD r (acc ++ [x])) = _
        rw [if_pos e]
      rw [hd]
      obtain ⟨i1, i2, i3⟩ := dedup_mem r acc hr h2 nd
      refine ⟨i1, fun d => ?_, i3⟩
      rw [i2 d, List.mem_cons]
      exact ⟨fun z => z.elim .inl fun y => .inr (.inr y), fun z => z.elim .inl fun y => y.elim (fun q => .inl (q ▸ hm)) .inr⟩
    · have hm : x ∉ acc := fun hm => e (List.any_eq_true.mpr ⟨x, hm, (eqs x hm).mpr rfl⟩)
      have hd : dedupD (x :: r) acc = dedupD r (acc ++ [x]) := by
        show (if acc.any (fun y => PyData.eqv y x) then dedupD r acc else dedupD r (acc ++ [x])) = _
        rw [if_neg e]
      rw [hd]
      obtain ⟨i1, i2, i3⟩ := dedup_mem r (acc ++ [x]) hr (fun d hd => by
        rcases List.mem_append.mp hd with z | z
        · exact h2 d z
        · rw [List.mem_singleton.mp z]; exact hx) (List.nodup_append.mpr ⟨nd, by simp, fun a ha b hb => by
          rw [List.mem_singleton.mp hb]
          exact fun z => hm (z ▸ ha)⟩)
      refine ⟨i1, fun d => ?_, i3⟩
      rw [i2 d, List.mem_append, List.mem_singleton, List.mem_cons]
      exact or_assoc
theorem perm_nodup {α : Type} [DecidableEq α] : ∀ {l m : List α}, l.Nodup → m.Nodup → (∀ x, x ∈ l ↔ x ∈ m) → l.Perm m
  | [], m, _, _, h => by
    cases m with
    | nil => exact .nil
    | cons y r => exact absurd ((h y).mpr List.mem_cons_self) (by simp)
  | x :: l, m, n1, n2, h => by
    have n1' := List.nodup_cons.mp n1
    have hx : x ∈ m := (h x).mp List.mem_cons_self
    have p := List.perm_cons_erase hx
    refine List.Perm.trans (List.Perm.cons x (perm_nodup n1'.2 (n2.erase x) fun y => ?_)) p.symm
    rw [n2.mem_erase_iff]
    constructor
    · intro hy
      exact ⟨fun e => n1'.1 (e ▸ hy), (h y).mp (List.mem_cons_of_mem _ hy)⟩
    · rintro ⟨hne, hy⟩
      rcases List.mem_cons.mp ((h y).mpr hy) with z | z
      · exact absurd z hne
      · exact z
theorem str_ds : ∀ {ds : List D}, (ds.all isStrD) = true → ∃ ns : List Str, ds = ns.map PyData.str
  | [], _ => ⟨[], rfl⟩
  | d :: r, h => by
    obtain ⟨h1, h2⟩ := Bool.and_eq_true_iff.mp (show (isStrD d && r.all isStrD) = true from h)
    obtain ⟨ns, rfl⟩ := str_ds h2
    cases d with
    | str x => exact ⟨x :: ns, rfl⟩
    | _ => cases h1
theorem sort_set {ns l : List Str} (hl : l.Nodup) (hm : ∀ j, j ∈ l ↔ j ∈ ns) : sortD (l.map PyData.str) = sortD (dedupD (ns.map PyData.str) []) := by
  have hall : ∀ d ∈ ns.map PyData.str, isStrD d = true := fun d hd => by
    obtain ⟨x, _, rfl⟩ := List.mem_map.mp hd
    rfl
  obtain ⟨i1, i2, i3⟩ := dedup_mem (ns.map PyData.str) [] hall (fun _ z => nomatch z) List.nodup_nil
  obtain ⟨ms, hms⟩ := str_ds (ds := dedupD (ns.map PyData.str) []) (List.all_eq_true.mpr i3)
  rw [hms] at i1 i2 ⊢
  have inj : ∀ a b : Str, PyData.str a = PyData.str b → a = b := fun a b e => by injection e
  have nms : ms.Nodup := List.Pairwise.of_map PyData.str (fun _ _ hne e => hne (congrArg PyData.str e)) i1
  have hp : l.Perm ms := perm_nodup hl nms fun x => by
    rw [hm x]
    have q := i2 (.str x)
    simp only [List.not_mem_nil, false_or] at q
    constructor
    · intro hx
      obtain ⟨y, hy, e⟩ := List.mem_map.mp (q.mpr (List.mem_map.mpr ⟨x, hx, rfl⟩))
      rw [← inj _ _ e]
      exact hy
    · intro hx
      obtain ⟨y, hy, e⟩ := List.mem_map.mp (q.mp (List.mem_map.mpr ⟨x, hx, rfl⟩))
      rw [← inj _ _ e]
      exact hy
  refine sortD_perm (hp.map PyData.str) fun a ha b hb h => ?_
  obtain ⟨x, _, rfl⟩ := List.mem_map.mp ha
  obtain ⟨y, _, rfl⟩ := List.mem_map.mp hb
  exact toks_str rfl rfl h

section
variable {C : Cx} {cx : List Cls1} {G : Nat → DF} {e : Expr} {p : Bool} {a : A}
theorem vals_tx {K : PySem.W.Frag} {H : Hp} : ∀ {xs : List V} {its : List Value} {ns : List Str}, Vals xs its → DIs K H xs (ns.map PyData.str) → ∀ (i : Nat) (v : Value), its[i]? = some v → ∃ k t, ns[i]? = some k ∧ v = .str k t
  | _, _, [], .nil, _, i, v, h => by simp at h
  | _, _, n :: ns, .cons r t, .cons h hs, 0, v, e => by
    simp at e
    subst e
    cases h
    obtain ⟨t, rfl⟩ := r
    exact ⟨n, t, rfl, rfl⟩
  | _, _, n :: ns, .cons r t, .cons h hs, i + 1, v, e => by
    obtain ⟨k, t, h1, h2⟩ := vals_tx (ns := ns) t hs i v (by simpa using e)
    exact ⟨k, t, by simpa using h1, h2⟩
/-- sorted(set(e)) -/
theorem te_sortset {p1 p2 q pos : Pos} (hc : C.calm = true) (hu : C.A.units + 70 < cLine) (hg : Gl C "sorted") (hm : C.mg "sorted" = none) (hg2 : Gl C "set") (hm2 : C.mg "set" = none) (ha : PE C e (TO C.K cx p (evA G a)))
    (na : starEach [e] C.env = (false, eval e C.env) :: starEach [] C.env) : PE C (.Call (.Name "sorted" p1) [.Call (.Name "set" p2) [e] [] q] [] pos) (TX C.K cx (p && true) (evE G (.op .sortset (.cons a .nil)))) := by
  refine ⟨fun pins s σ H Q I h => ?_⟩
  have h2 := one_op (R1 := fun x H1 => rr1 (rO1 C cx .sortset) [x] H1 Q) (tas_mono (op_red okO1 h) fun vs H' k x ev => by subst ev; exact k)
  refine Call_ (ld_blt I hg hm PyProof.Rows.boot_sorted ?_)
  refine PyProof.Rows.callWith_builtin1 (PyProof.Rows.args_cons ?_ rfl) rfl rfl
  refine Call_ (ld_blt I hg2 hm2 PyProof.Rows.boot_set ?_)
  refine PyProof.Rows.callWith_type1 (PyProof.Rows.args_cons (thn (ha.run pins s σ H _ I h2) fun v s1 ⟨x, H1, I1, r1, q1⟩ => PyProof.Rows.args_nil ?_) na) na rfl
  obtain ⟨ds, z, dv, e1, kq⟩ := q1 x rfl
  obtain ⟨d, rfl, h1⟩ := dv.one
  cases d with
  | list es =>
    have e1 : (if (es.all isStrD && decide (es.length < 4000)) = true then some (own1 (sortD (dedupD es []))) else none) = some z := e1
    rw [Option.ite_none_right_eq_some, Bool.and_eq_true] at e1
    obtain ⟨⟨hs, hf⟩, e1⟩ := e1
    cases e1
    have hf := of_decide_eq_true hf
    obtain ⟨ns, rfl⟩ := str_ds hs
    obtain ⟨l, ys, rfl, hl, hd⟩ := dv_lst h1
    cases r1
    obtain ⟨its, r, pl, hz⟩ := I1.list hl
    have n1 := r.length
    have n2 := hd.length
    rw [List.length_map] at hf n2
    refine call_set_txs ns (I1.ok.hd hc) pl.isList (fun i v hv => vals_tx r hd i v (by simpa using hv)) (by simp only [List.size_toArray]; omega) (by unfold scanBound; omega) fun h' tk l0 D0 S hmem hlen hk => ?_
    refine PyProof.Rows.args_nil ?_
    have I2 : Inv C pins σ H1 { s1 with heap := h', toks := tk } := I1.kept hk
    refine sorted_txs (s := { s1 with heap := h', toks := tk }) S (I1.ok.hd hc) (by unfold scanBound; omega) (by omega) fun s' p' out c k g o hp hob hol he => ?_
    obtain ⟨xs, hv, hd3⟩ : ∃ xs, Vals xs out ∧ DIs C.K H1 xs (sortD (l0.map PyData.str)) := by
      have gen : ∀ {out : List Value} {ds : List D}, EachIs isTx out ds → ∃ xs, Vals xs out ∧ DIs C.K H1 xs ds := by
        intro out ds he
        induction he with
        | nil => exact ⟨[], .nil, .nil⟩
        | cons h t ih =>
          obtain ⟨k, u, rfl, rfl⟩ := h
          obtain ⟨xs, i1, i2⟩ := ih
          exact ⟨.str k :: xs, .cons ⟨u, rfl⟩ i1, .cons (.str k) i2⟩
      exact gen he
    have hn : H1 p' = none := I2.hok.fresh hp
    have hxl := hv.length
    have hll : xs.length ≤ sizeLine := by
      rw [hxl, hol]
      exact fits_of_scanBound (by unfold scanBound; omega)
    have J : Inv C pins σ (upd H1 p' (.lst xs)) s' := I2.call' (ch := []) o (Un.laid k hp hn) (I2.hok.laid k hp ⟨hll, out, c, hv, hob⟩) (by rw [g]; exact I2.bare) (fun _ z => nomatch z)
    rw [sort_set S.nd hmem] at hd3
    exact ⟨.ref p', _, J, rfl, q_lst kq hn hd3 rfl⟩
  | _ => exact nomatch (show none = some z from e1)
end
end TT

/-! A19: repr; d.get(k, x); slices; {}. -/
namespace TT
open PySem PySem.Spec PyProof.Rows L2

section
variable {C : Cx} {cx : List Cls1} {G : Nat → DF} {pins : List (Addr × Obj)} {σ : L2.St} {H : Hp} {s : Shared}
theorem seq_ne_sys (I : Inv C pins σ H s) (hs : ∃ mm, C.base.Ns sysModules mm) {a : Addr} {o : Obj} {its : Array Value} {n : Nat} (h : s.heap.get? a = some o) (hd : o.data = .seq its n) : sysModules ≠ a := fun e => by
  obtain ⟨mm, o', es, ep, h1, h2, _⟩ := hs
  have h3 := (I.env0.bs _ _ h1).1
  rw [e, h] at h3
  cases h3
  rw [hd] at h2
  cases h2
theorem key_reads {h : Heap} {k : Key} {v : Value} (e : keyIs k v = true) : Reads h v (kD k) [] := by
  rcases keyIs_shape e with ⟨i, t, rfl, rfl⟩ | ⟨x, t, rfl, rfl⟩
  · exact .int i t
  · exact .str x t
/-- the entries of a dict read one by one -/
theorem pairs_reads {P : Program} {w : World} {h : Heap} : ∀ {es : List DictEntry} {vs : List (Key × Value)} {hk : List (Key × V)} {ds : List D}, Pairs (mixKind P w) es vs → KV hk vs → (∀ v u d, (v, d) ∈ (hk.map (·.2)).zip ds → RelV v u → ∃ as, Reads h u d as ∧ sysModules ∉ as) → hk.length = ds.length →
    ∃ as bs, ReadsAll h (es.map (·.key)) (((hk.map fun p => kD p.1).zip ds).map (·.1)) as ∧ ReadsAll h (es.map (·.val)) (((hk.map fun p => kD p.1).zip ds).map (·.2)) bs ∧ sysModules ∉ as ∧ sysModules ∉ bs
  | [], [], [], ds, _, _, _, hl => by
    cases ds with
    | nil => exact ⟨[], [], .nil, .nil, by simp, by simp⟩
    | cons _ _ => simp at hl
  | e :: es, q :: vs, p :: hk, ds, .cons h1 h2 t, kv, f, hl => by
    cases ds with
    | nil => simp at hl
    | cons d ds =>
      cases kv with
      | cons hpq tk =>
        obtain ⟨e1, r1⟩ := hpq
        obtain ⟨as, bs, i1, i2, i3, i4⟩ := pairs_reads t tk (fun v u d' hm r => f v u d' (List.mem_cons_of_mem _ hm) r) (by simpa using hl)
        have hk' : Reads h e.key (kD p.1) [] := key_reads (by rw [e1]; exact h1)
        obtain ⟨cs, rv, ns⟩ := f p.2 e.val d List.mem_cons_self (by rw [h2]; exact r1)
        refine ⟨[] ++ as, cs ++ bs, .cons hk' i1, .cons rv i2, by simpa using i3, fun z => ?_⟩
        rcases List.mem_append.mp z with z | z
        · exact ns z
        · exact i4 z
  | _ :: _, _ :: _, [], _, _, kv, _, _ => by cases kv
theorem kOkv_mem : ∀ {ks : List D} {ds : List D}, kOkv (ks.zip ds) = true → ks.length = ds.length → ∀ d ∈ ds, kOk d = true
  | [], [], _, _, d, h => nomatch h
  | k :: ks, e :: ds, h, hl, d, hm => by
    have h : (keyOk false k && kOk e && kOkv (ks.zip ds)) = true := h
    simp only [Bool.and_eq_true] at h
    rcases List.mem_cons.mp hm with z | z
    · rw [z]; exact h.1.2
    · exact kOkv_mem h.2 (by simpa using hl) d z
  | [], _ :: _, _, hl, _, _ => by simp at hl
  | _ :: _, [], _, hl, _, _ => by simp at hl
mutual
/-- locked data can be read off the heap -/
theorem di_reads (I : Inv C pins σ H s) (hs : ∃ mm, C.base.Ns sysModules mm) : ∀ {v : V} {d : D} {u : Value}, DI C.K H v d → kOk d = true → RelV v u → ∃ as, Reads s.heap u d as ∧ sysModules ∉ as
  | _, _, _, .non, _, r => by cases r; exact ⟨[], .none, by simp⟩
  | _, _, _, .bl b, _, r => by cases r; exact ⟨[], .bool b, by simp⟩
  | _, _, _, .int i, _, r => by obtain ⟨t, rfl⟩ := r; exact ⟨[], .int i t, by simp⟩
  | _, _, _, .str x, _, r => by obtain ⟨t, rfl⟩ := r; exact ⟨[], .str x t, by simp⟩
  | _, _, _, .lst (a := a) h hd, k, r => by
    cases r
    obtain ⟨its, rv, ⟨o, n, ho, hc, _, hdt⟩, _⟩ := I.list h.sqL
    obtain ⟨as, hr, ns⟩ := dis_reads I hs hd k rv
    refine ⟨a :: as, .list ho hc hdt hr, fun z => ?_⟩
    rcases List.mem_cons.mp z with z | z
    · exact seq_ne_sys I hs ho hdt z
    · exact ns z
  | _, _, _, .tup (a := a) h hd, k, r => by
    cases r
    obtain ⟨its, rv, ⟨o, ho, hc, n, hdt⟩, _⟩ := I.tuple (SqT.of h)
    obtain ⟨as, hr, ns⟩ := dis_reads I hs hd k rv
    exact ⟨as, .tuple ho hc hdt hr, ns⟩
  | _, _, _, .dK (a := a) (hk := hk) (ds := ds) h hd, k, r => by
    cases r
    obtain ⟨z, lo, vs, rel, o, es, ep, ho, hx, hdt, _, hp, _⟩ := dk_rd I.hok (.inr ⟨_, h⟩)
    have hl : hk.length = ds.length := by simpa using hd.length
    obtain ⟨as, bs, i1, i2, i3, i4⟩ := pairs_reads (h := s.heap) hp rel (dis_mem I hs hd (kOkv_mem k (by simpa using hl))) hl
    refine ⟨a :: as ++ bs, .dict ho hx.1 hdt i1 i2, fun q => ?_⟩
    rcases List.mem_append.mp q with q | q
    · rcases List.mem_cons.mp q with q | q
      · rw [q] at lo
        simp at lo
      · exact i3 q
    · exact i4 q
  | _, _, _, .dT (hk := hk) (ds := ds) h ne hd, k, r => by
    cases hk with
    | nil => exact absurd rfl ne
    | cons p t =>
      cases ds with
      | nil => cases hd
      | cons d ds =>
        have k : (keyOk false (PyData.tuple (p.1.map kD)) && kOk d && kOkv ((t.map fun p => PyData.tuple (p.1.map kD)).zip ds)) = true := k
        simp [keyOk, toKey] at k
theorem dis_reads (I : Inv C pins σ H s) (hs : ∃ mm, C.base.Ns sysModules mm) : ∀ {vs : List V} {ds : List D} {us : List Value}, DIs C.K H vs ds → kOks ds = true → Vals vs us → ∃ as, ReadsAll s.heap us ds as ∧ sysModules ∉ as
  | _, _, _, .nil, _, .nil => ⟨[], .nil, by simp⟩
  | _, _, _, .cons (d := d) (ds := ds) h hd, k, .cons r rs => by
    have k : (kOk d && kOks ds) = true := k
    obtain ⟨k1, k2⟩ := Bool.and_eq_true_iff.mp k
    obtain ⟨as, h1, n1⟩ := di_reads I hs h k1 r
    obtain ⟨bs, h2, n2⟩ := dis_reads I hs hd k2 rs
    exact ⟨as ++ bs, .cons h1 h2, fun z => (List.mem_append.mp z).elim n1 n2⟩
theorem dis_mem (I : Inv C pins σ H s) (hs : ∃ mm, C.base.Ns sysModules mm) : ∀ {vs : List V} {ds : List D}, DIs C.K H vs ds → (∀ d ∈ ds, kOk d = true) → ∀ v u d, (v, d) ∈ vs.zip ds → RelV v u → ∃ as, Reads s.heap u d as ∧ sysModules ∉ as
  | _, _, .nil, _, v, u, d, hm, _ => nomatch hm
  | _, _, .cons (v := w) (d := e) h hd, k, v, u, d, hm, r => by
    rcases List.mem_cons.mp hm with z | z
    · cases z
      exact di_reads I hs h (k _ List.mem_cons_self) r
    · exact dis_mem I hs hd (fun d hd => k d (List.mem_cons_of_mem _ hd)) v u d z r
end
mutual
/-- owned values can be read off the heap -/
theorem rep_reads (I : Inv C pins σ H s) (hs : ∃ mm, C.base.Ns sysModules mm) : ∀ {x : X} {v : V} {d : D} {u : Value} {F : Foot}, RepX C.K cx H v x F → datF x = some d → kOk d = true → RelV v u → ∃ as, Reads s.heap u d as ∧ sysModules ∉ as
  | .d x, v, d, u, F, R, e, k, r => by
    cases R with
    | d h =>
      simp only [datF, Option.some.injEq] at e
      subst e
      exact di_reads I hs h k r
  | .lst xs, v, d, u, F, R, e, k, r => by
    simp only [datF, Option.map_eq_some_iff] at e
    obtain ⟨ds, e1, rfl⟩ := e
    cases R with
    | @lst a vs _ _ h f hd =>
      cases r
      obtain ⟨its, rv, ⟨o, n, ho, hc, _, hdt⟩, _⟩ := I.list (SqL.of h)
      obtain ⟨as, hr, ns⟩ := reps_reads I hs hd e1 k rv
      refine ⟨a :: as, .list ho hc hdt hr, fun z => ?_⟩
      rcases List.mem_cons.mp z with z | z
      · exact seq_ne_sys I hs ho hdt z
      · exact ns z
  | .tup xs, v, d, u, F, R, e, k, r => by
    simp only [datF, Option.map_eq_some_iff] at e
    obtain ⟨ds, e1, rfl⟩ := e
    cases R with
    | @tup a vs _ _ h hd =>
      cases r
      obtain ⟨its, rv, ⟨o, ho, hc, n, hdt⟩, _⟩ := I.tuple (SqT.of h)
      obtain ⟨as, hr, ns⟩ := reps_reads I hs hd e1 k rv
      exact ⟨as, .tuple ho hc hdt hr, ns⟩
  | .dct t ks xs, v, d, u, F, R, e, k, r => by
    simp only [datF, Option.ite_none_left_eq_some, Option.map_eq_some_iff] at e
    obtain ⟨ne, ds, e1, rfl⟩ := e
    cases R with
    | @dK a hk _ _ h f nd hd =>
      cases r
      obtain ⟨z, lo, vs, rel, o, es, ep, ho, hx, hdt, _, hp, _⟩ := dk_rd I.hok (.inl h)
      have hl0 : hk.length = xs.length := by simpa using RepXs.length (F := noF) hd
      have hl : hk.length = ds.length := by rw [hl0, datFs_len e1]
      obtain ⟨as, bs, i1, i2, i3, i4⟩ := pairs_reads (h := s.heap) hp rel (reps_mem I hs hd e1 (kOkv_mem k (by simpa using hl))) hl
      refine ⟨a :: as ++ bs, .dict ho hx.1 hdt i1 i2, fun q => ?_⟩
      rcases List.mem_append.mp q with q | q
      · rcases List.mem_cons.mp q with q | q
        · rw [q] at lo
          simp at lo
        · exact i3 q
      · exact i4 q
    | @dT a hk _ _ h f nd hd =>
      have hl0 : hk.length = xs.length := by simpa using RepXs.length (F := noF) hd
      have hl : hk.length = ds.length := by rw [hl0, datFs_len e1]
      cases hk with
      | nil => exact absurd rfl ne
      | cons p t =>
        cases ds with
        | nil => simp at hl
        | cons d ds =>
          have k : (keyOk false (PyData.tuple (p.1.map kD)) && kOk d && kOkv ((t.map fun p => PyData.tuple (p.1.map kD)).zip ds)) = true := k
          simp [keyOk, toKey] at k
  | .obj _ _, v, d, u, F, R, e, k, r => by simp [datF] at e
theorem datFs_len : ∀ {xs : List X} {ds : List D}, datFs xs = some ds → xs.length = ds.length
  | [], ds, e => by simp only [datFs, Option.some.injEq] at e; subst e; rfl
  | x :: r, ds, e => by
    simp only [datFs, Option.bind_eq_some_iff, Option.map_eq_some_iff] at e
    obtain ⟨d, _, ds', e2, rfl⟩ := e
    rw [List.length_cons, List.length_cons, datFs_len e2]
theorem reps_reads (I : Inv C pins σ H s) (hs : ∃ mm, C.base.Ns sysModules mm) : ∀ {xs : List X} {vs : List V} {ds : List D} {us : List Value} {F : Foot}, RepXs C.K cx H vs xs F → datFs xs = some ds → kOks ds = true → Vals vs us → ∃ as, ReadsAll s.heap us ds as ∧ sysModules ∉ as
  | [], vs, ds, us, F, R, e, k, r => by
    cases R
    cases r
    simp only [datFs, Option.some.injEq] at e
    subst e
    exact ⟨[], .nil, by simp⟩
  | x :: xs, vs, ds, us, F, R, e, k, r => by
    simp only [datFs, Option.bind_eq_some_iff, Option.map_eq_some_iff] at e
    obtain ⟨d, e1, ds', e2, rfl⟩ := e
    have k : (kOk d && kOks ds') = true := k
    obtain ⟨k1, k2⟩ := Bool.and_eq_true_iff.mp k
    cases R with
    | cons h hd _ _ _ =>
      cases r with
      | cons r rs =>
        obtain ⟨as, h1, n1⟩ := rep_reads I hs h e1 k1 r
        obtain ⟨bs, h2, n2⟩ := reps_reads I hs hd e2 k2 rs
        exact ⟨as ++ bs, .cons h1 h2, fun z => (List.mem_append.mp z).elim n1 n2⟩
theorem reps_mem (I : Inv C pins σ H s) (hs : ∃ mm, C.base.Ns sysModules mm) : ∀ {xs : List X} {vs : List V} {ds : List D} {F : Foot}, RepXs C.K cx H vs xs F → datFs xs = some ds → (∀ d ∈ ds, kOk d = true) → ∀ v u d, (v, d) ∈ vs.zip ds → RelV v u → ∃ as, Reads s.heap u d as ∧ sysModules ∉ as
  | [], vs, ds, F, R, e, k, v, u, d, hm, r => by
    cases R
    cases hm
  | x :: xs, vs, ds, F, R, e, k, v, u, d, hm, r => by
    simp only [datFs, Option.bind_eq_some_iff, Option.map_eq_some_iff] at e
    obtain ⟨d0, e1, ds', e2, rfl⟩ := e
    cases R with
    | cons h hd _ _ _ =>
      rcases List.mem_cons.mp hm with z | z
      · cases z
        exact rep_reads I hs h e1 (k _ List.mem_cons_self) r
      · exact reps_mem I hs hd e2 (fun d hd => k d (List.mem_cons_of_mem _ hd)) v u d z r
end
/-- repr of a value that reads -/
theorem call_repr_any {u : Value} {d : D} {as : List Addr} {Q : Value → Shared → Prop} {A : Around} {E : Value → Shared → Prop} (r : Reads s.heap u d as) (ns : sysModules ∉ as) (hr : reprOk d = true) (hg : A.guards = some []) (hu : A.units + 66 < cLine)
    (hQ : ∀ h' t tk, (∀ b o, s.heap.get? b = some o → h'.get? b = some o) → Q (.str d.shown t) { s with heap := h', toks := tk }) : wpAny (model C.prog C.w) A (call (.builtin "repr") [u]) Q E s := by
  simp only [reprOk, Bool.and_eq_true, decide_eq_true_eq, fits] at hr
  obtain ⟨⟨⟨h1, h2⟩, h3⟩, _⟩ := hr
  cases d with
  | int i =>
    cases r with
    | int _ t =>
      have hz : i.natAbs.log2 < 1920 := by simpa [PyData.showable] using h1
      have e : PyData.shown (.int i) = ((toString i : String) : Str) := by simp only [PyData.shown]
      rw [e] at hQ
      exact PySem.P.repr_of_int hz (hQ s.heap _ _ fun _ _ h => h)
  | str x =>
    cases r with
    | str _ t =>
      have e : PyData.shown (.str x) = reprText x := by simp only [PyData.shown]
      rw [e] at hQ h3
      exact PySem.P.repr_of_str (hQ s.heap _ _ fun _ _ h => h) h3
  | bool b =>
    cases r
    have e : PyData.shown (.bool b) = (if b then "True" else "False" : Str) := by simp only [PyData.shown]
    rw [e] at hQ
    exact PySem.P.repr_of_bool (hQ s.heap _ _ fun _ _ h => h)
  | none =>
    cases r
    have e : PyData.shown .none = ("None" : Str) := by simp only [PyData.shown]
    rw [e] at hQ
    exact PySem.P.repr_of_none (hQ s.heap _ _ fun _ _ h => h)
  | list xs =>
    cases r with
    | list r1 r2 r3 r4 => exact repr_of_reads' (.list r1 r2 r3 r4) h1 (fun _ => ns) hg (by omega) (fun _ _ h => h) hQ h3
  | tuple xs =>
    cases r with
    | tuple r1 r2 r3 r4 => exact repr_of_reads' (.tuple r1 r2 r3 r4) h1 (fun _ => ns) hg (by omega) (fun _ _ h => h) hQ h3
  | dict kvs =>
    cases r with
    | dict r1 r2 r3 r4 r5 => exact repr_of_reads' (.dict r1 r2 r3 r4 r5) h1 (fun _ => ns) hg (by omega) (fun _ _ h => h) hQ h3
end
section
variable {C : Cx} {cx : List Cls1} {G : Nat → DF} {e o b : Expr} {p q : Bool} {a : A} {pos apos pn : Pos}
/-- repr(e) -/
theorem te_repr (hs : ∃ mm, C.base.Ns sysModules mm) (hgd : C.A.guards = some []) (hu : C.A.units + 70 < cLine) (hg : Gl C "repr") (hm : C.mg "repr" = none) (ha : PE C e (TO C.K cx p (evA G a))) (na : starEach [e] C.env = (false, eval e C.env) :: starEach [] C.env) : PE C (.Call (.Name "repr" pn) [e] [] pos) (TX C.K cx p (evE G (.reprF a))) := by
  refine ⟨fun pins s σ H Q I h => ?_⟩
  obtain ⟨ρ, φ, r, ρ', R, hm2, k⟩ := h
  have hm2 : ((evA G a ρ).bind fun z => (resolve z.2 z.1).bind fun x => (datF x).bind fun d => if reprOk d then some (X.d (.str d.shown), z.2) else none) = some (r, ρ') := hm2
  simp only [Option.bind_eq_some_iff, Option.ite_none_right_eq_some, Option.some.injEq, Prod.mk.injEq] at hm2
  obtain ⟨⟨h0, ρ1⟩, e1, x, e2, d, e3, hd, rfl, rfl⟩ := hm2
  have hb : bootBuiltins "repr" = some (.builtin "repr") := by decide +kernel
  refine Call_ (ld_blt I hg hm hb ?_)
  refine PyProof.Rows.callWith_builtin1 (PyProof.Rows.args_cons (thn (ha.run pins s σ H (fun v H1 => ∃ φ1 T1, Post C.K cx σ H ρ φ p H1 ρ1 φ1 T1 ∧ HRep C.K cx σ H1 v h0 T1) I ⟨ρ, φ, h0, ρ1, R, e1, fun v H1 φ1 T1 P1 r1 => ⟨φ1, T1, P1, r1⟩⟩) fun v s1 ⟨w, H1, I1, r1, φ1, T1, P1, hr⟩ => PyProof.Rows.args_nil ?_) na) na rfl
  obtain ⟨F, rx, _⟩ := hr.rep P1.rep e2
  have hk : kOk d = true := by
    simp only [reprOk, Bool.and_eq_true] at hd
    exact hd.2
  obtain ⟨as, rd, ns⟩ := rep_reads I1 hs rx e3 hk r1
  refine call_repr_any (C := C) rd ns hd hgd (by omega) fun h' t tk kp => ⟨.str d.shown, H1, I1.kept kp, ⟨t, rfl⟩, ?_⟩
  exact k (.str d.shown) H1 φ1 noF (P1.less fun _ z => z.elim) (.d (.str _))

/-! ### d.get(k, x), d a value at hand -/
/-- what surely gives a datum -/
def dE : E → Bool
  | .rd _ | .rdp _ | .rf _ | .c _ | .gl _ _ | .frz _ | .reprF _ => true
  | _ => false
theorem dE_ok {x : E} (h : dE x = true) {ρ ρ' : TT.Env} {r : X} (e : evE G x ρ = some (r, ρ')) : ∃ d, r = .d d := by
  cases x with
  | rd i =>
    have e : (match (ρ[i]?).join with
      | some (.d x) => some (X.d x, ρ)
      | _ => none) = some (r, ρ') := e
    split at e
    · cases e; exact ⟨_, rfl⟩
    · cases e
  | rdp i =>
    have e : (match getPl ρ i with
      | some (.d x) => some (X.d x, ρ)
      | _ => none) = some (r, ρ') := e
    split at e
    · cases e; exact ⟨_, rfl⟩
    · cases e
  | rf i =>
    have e : ((ρ[i]?).join.bind fun x => (datF x).bind fun d => some (X.d d, ρ.set i (some (X.d d)))) = some (r, ρ') := e
    simp only [Option.bind_eq_some_iff, Option.some.injEq, Prod.mk.injEq] at e
    obtain ⟨_, _, d, _, rfl, _⟩ := e
    exact ⟨d, rfl⟩
  | c v => cases e; exact ⟨_, rfl⟩
  | gl x v => cases e; exact ⟨_, rfl⟩
  | frz y =>
    have e : ((evE G y ρ).bind fun z => (datF z.1).bind fun d => some (X.d d, z.2)) = some (r, ρ') := e
    simp only [Option.bind_eq_some_iff, Option.some.injEq, Prod.mk.injEq] at e
    obtain ⟨_, _, d, _, rfl, _⟩ := e
    exact ⟨d, rfl⟩
  | reprF y =>
    have e : ((evA G y ρ).bind fun z => (resolve z.2 z.1).bind fun x => (datF x).bind fun d => if reprOk d then some (X.d (.str d.shown), z.2) else none) = some (r, ρ') := e
    simp only [Option.bind_eq_some_iff, Option.ite_none_right_eq_some, Option.some.injEq, Prod.mk.injEq] at e
    obtain ⟨_, _, _, _, d, _, _, rfl, _⟩ := e
    exact ⟨_, rfl⟩
  | _ => cases h
theorem evA_e {x : E} {ρ ρ1 : TT.Env} {h : Hd} (e : evA G (.e x) ρ = some (h, ρ1)) : ∃ y, h = .x y ∧ evE G x ρ = some (y, ρ1) := by
  have e : ((evE G x ρ).bind fun z => some (Hd.x z.1, z.2)) = some (h, ρ1) := e
  simp only [Option.bind_eq_some_iff, Option.some.injEq, Prod.mk.injEq] at e
  obtain ⟨⟨y, ρ2⟩, e1, rfl, rfl⟩ := e
  exact ⟨y, rfl, e1⟩
theorem evAs_c {a : A} {as : As} {ρ ρ1 : TT.Env} {hs : List Hd} (e : evAs G (.cons a as) ρ = some (hs, ρ1)) : ∃ h ρ2 hs', evA G a ρ = some (h, ρ2) ∧ evAs G as ρ2 = some (hs', ρ1) ∧ hs = h :: hs' := by
  have e : ((evA G a ρ).bind fun x => (evAs G as x.2).bind fun y => some (x.1 :: y.1, y.2)) = some (hs, ρ1) := e
  simp only [Option.bind_eq_some_iff, Option.some.injEq, Prod.mk.injEq] at e
  obtain ⟨⟨h, ρ2⟩, e1, ⟨hs', ρ3⟩, e2, rfl, rfl⟩ := e
  exact ⟨h, ρ2, hs', e1, e2, rfl⟩
theorem evAs_n {ρ ρ1 : TT.Env} {hs : List Hd} (e : evAs G .nil ρ = some (hs, ρ1)) : hs = [] ∧ ρ1 = ρ := by
  cases e
  exact ⟨rfl, rfl⟩
theorem get2_red {s1 s2 s3 : Bool} {x : E} {y z : E} {σ : L2.St} {H : Hp} {Q : VK} (hz : dE z = true) (h : TX C.K cx (s1 && (s2 && s3)) (evE G (.op .get2 (.cons (.e x) (.cons (.e y) (.cons (.e z) .nil))))) σ H Q) :
    tDGet2 (TX C.K cx s1 (evE G x)) (TX C.K cx s2 (evE G y)) (TX C.K cx s3 (evE G z)) σ H Q := by
  obtain ⟨ρ, φ, r, ρ', R, hm, k⟩ := h
  have hm : ((evAs G (.cons (.e x) (.cons (.e y) (.cons (.e z) .nil))) ρ).bind fun y => (resAll y.2 y.1).bind fun xs => (datAll xs).bind fun ds => (opF .get2 ds).bind fun z => some (z, y.2)) = some (r, ρ') := hm
  simp only [Option.bind_eq_some_iff, Option.some.injEq, Prod.mk.injEq] at hm
  obtain ⟨⟨hs, ρ3⟩, e1, xs, e2, ds, e3, r0, e4, rfl, rfl⟩ := hm
  obtain ⟨h1, ρ1, hs1, c1, b1, rfl⟩ := evAs_c e1
  obtain ⟨X1, rfl, a1⟩ := evA_e c1
  obtain ⟨h2, ρ2, hs2, c2, b2, rfl⟩ := evAs_c b1
  obtain ⟨X2, rfl, a2⟩ := evA_e c2
  obtain ⟨h3, ρ4, hs3, c3, b3, rfl⟩ := evAs_c b2
  obtain ⟨X3, rfl, a3⟩ := evA_e c3
  obtain ⟨rfl, rfl⟩ := evAs_n b3
  have e2 : some [X1, X2, X3] = some xs := e2
  cases e2
  obtain ⟨d3, rfl⟩ := dE_ok hz a3
  have e3 : ((dat1 X1).bind fun d1 => ((dat1 X2).bind fun d2 => ((some d3).bind fun d => (some ([] : List D)).map (d :: ·)).map (d2 :: ·)).map (d1 :: ·)) = some ds := e3
  simp only [Option.bind_eq_some_iff, Option.map_eq_some_iff, Option.some.injEq] at e3
  obtain ⟨d1, f1, l1, ⟨d2, f2, l2, ⟨d3', rfl, l3, rfl, rfl⟩, rfl⟩, rfl⟩ := e3
  cases d1 with
  | dict kvs =>
    have e4 : (if keysOk kvs d2 = true then some (X.d ((dlook kvs d2).getD d3)) else none) = some r0 := e4
    rw [Option.ite_none_right_eq_some] at e4
    obtain ⟨hk, e4⟩ := e4
    cases e4
    refine ⟨ρ, φ, X1, ρ1, R, a1, fun v1 H1 φ1 T1 P1 r1 => ?_⟩
    have hv1 := r1.dv f1
    obtain ⟨a, rfl, hd⟩ : ∃ a, v1 = .ref a ∧ IsD H1 a := by
      cases hv1 with
      | dK hr _ => exact ⟨_, rfl, .inl ⟨_, hr⟩⟩
      | dT hr _ _ => exact ⟨_, rfl, .inr ⟨_, hr⟩⟩
    refine ⟨a, rfl, hd, ρ1, φ1, X2, ρ2, P1.rep, a2, fun v2 H2 φ2 T2 P2 r2 => ?_⟩
    obtain ⟨P12, d12, st12, ki12⟩ := Post.seq R P1 P2
    refine ⟨ρ2, φ2, X.d d3, ρ3, P2.rep, a3, fun v3 H3 φ3 T3 P3 r3 => ?_⟩
    obtain ⟨P13, d13, st13, ki13⟩ := Post.seq R P12 P3
    have r1' : RepX C.K cx H3 (.ref a) X1 T1 := (r1.keep ki12 st12).keep ki13 fun c z => st13 c (.inl z)
    have r2' : RepX C.K cx H3 v2 X2 T2 := r2.keep ki13 fun c z => st13 c (.inr z)
    obtain ⟨a', o, ea, _, g, ho⟩ := dget_of (r1'.dv f1) (r2'.dv f2) hk
    cases ea
    refine ⟨o, g, ?_⟩
    have P : Post C.K cx σ H ρ φ (s1 && (s2 && s3)) H3 ρ3 φ3 noF := (P13.less fun _ z => z.elim).weak fun z => by rw [Bool.and_assoc]; exact z
    cases r3 with
    | d h3 =>
      refine k _ H3 φ3 noF P (.d ?_)
      rcases ho with ⟨rfl, h⟩ | ⟨w, d, rfl, h, hd⟩
      · rw [h]
        exact h3
      · rw [h]
        exact hd
  | _ => exact nomatch (show none = some r0 from e4)
theorem te_get2 {s1 s2 s3 : Bool} {x y z : E} {f : Expr} (hu : C.A.units + 70 < cLine) (hz : dE z = true) (ho : PE C o (TX C.K cx s1 (evE G x))) (he : PE C e (TX C.K cx s2 (evE G y))) (hf : PE C f (TX C.K cx s3 (evE G z))) (m : M2 C o "get" apos e f pos) :
    PE C (.Call (.Attribute o "get" apos) [e, f] [] pos) (TX C.K cx (s1 && (s2 && s3)) (evE G (.op .get2 (.cons (.e x) (.cons (.e y) (.cons (.e z) .nil)))))) := pe_weak (pe_dget2 (by omega) ho he hf m) fun σ H Q h => get2_red hz h

/-! ### slices -/
theorem sl01_red {s1 s2 : Bool} {a : A} {y : E} {σ : L2.St} {H : Hp} {Q : VK} (hf : fldA a = true → s2 = true) (h : TX C.K cx (s1 && (s2 && true)) (evE G (.op (.sl false true) (.cons a (.cons (.e y) .nil)))) σ H Q) :
    tSl (rSl C cx) (TO C.K cx s1 (evA G a)) tNoPart (tPart (TX C.K cx s2 (evE G y))) σ H Q := by
  have h2 := two_ops (R2 := fun v u H' => rr2 (rO2 C cx (.sl false true)) [v, u] H' Q) hf (tas_mono (op_red okO2 h) fun vs H' k x y ev => by subst ev; exact k)
  obtain ⟨ρ, φ, h0, ρ1, R, e1, k1⟩ := h2
  refine ⟨ρ, φ, h0, ρ1, R, e1, fun v H1 φ1 T1 P1 r1 => ?_⟩
  obtain ⟨ρ2, φ2, h3, ρ3, R2, e2, k2⟩ := k1 v H1 φ1 T1 P1 r1
  obtain ⟨Y, rfl, e2'⟩ := evA_e e2
  refine ⟨ρ2, φ2, Y, ρ3, R2, e2', fun w H2 φ3 T2 P2 r2 => ?_⟩
  obtain ⟨ds, z, dv, e3, q⟩ := k2 w H2 φ3 T2 P2 r2 v w rfl
  obtain ⟨d, d', rfl, g1, g2⟩ := dv.two
  cases d with
  | list es =>
    cases d' with
    | int j =>
      cases e3
      exact ⟨j, dv_int g2, .list es, _, g1, rfl, q⟩
    | _ => exact nomatch (show none = some z from e3)
  | tuple es =>
    cases d' with
    | int j =>
      cases e3
      exact ⟨j, dv_int g2, .tuple es, _, g1, rfl, q⟩
    | _ => exact nomatch (show none = some z from e3)
  | _ => cases d' <;> exact nomatch (show none = some z from e3)
theorem te_sl01 {s1 s2 : Bool} {a : A} {y : E} {hi : Expr} {p2 : Pos} (hf : fldA a = true → s2 = true) (ha : PE C e (TO C.K cx s1 (evA G a))) (hh : PE C hi (TX C.K cx s2 (evE G y))) : PE C (.Subscript e (.Slice none (some hi) none p2) pos) (TX C.K cx (s1 && (s2 && true)) (evE G (.op (.sl false true) (.cons a (.cons (.e y) .nil))))) :=
  pe_weak (pe_slice o_sl ha po_none (po_some hh)) fun σ H Q h => sl01_red hf h
end
end TT

/-! A20: a def's promise from its body. -/
namespace TT
open PySem PySem.Spec PyProof.Rows L2

section
variable {K : PySem.W.Frag} {cx : List Cls1} {H : Hp}
/-- the footprints of a row's items -/
theorem RepXs.split : ∀ {vs : List V} {xs : List X} {F : Foot}, RepXs K cx H vs xs F → ∃ φ : Nat → Foot, (∀ (i : Nat) (x : X), xs[i]? = some x → ∃ v, vs[i]? = some v ∧ RepX K cx H v x (φ i)) ∧ (∀ i j c, φ i c → φ j c → i = j) ∧ ∀ c, un φ c → F c
  | _, _, F, .nil => ⟨fun _ => noF, fun i x e => by simp at e, fun i j c z => z.elim, fun c ⟨_, z⟩ => z.elim⟩
  | _, _, F, .cons (F1 := F1) (F2 := F2) h hs dj s1 s2 => by
    obtain ⟨φ, h1, h2, h3⟩ := RepXs.split hs
    refine ⟨fun i => match i with | 0 => F1 | i + 1 => φ i, fun i x e => ?_, fun i j c a b => ?_, fun c ⟨i, z⟩ => ?_⟩
    · cases i with
      | zero =>
        simp at e
        subst e
        exact ⟨_, rfl, h⟩
      | succ i =>
        obtain ⟨v, hv, r⟩ := h1 i x (by simpa using e)
        exact ⟨v, by simpa using hv, r⟩
    · cases i with
      | zero =>
        cases j with
        | zero => rfl
        | succ j => exact (dj c a (h3 c ⟨j, b⟩)).elim
      | succ i =>
        cases j with
        | zero => exact (dj c b (h3 c ⟨i, a⟩)).elim
        | succ j => rw [h2 i j c a b]
    · cases i with
      | zero => exact s1 c z
      | succ i => exact s2 c (h3 c ⟨i, z⟩)
theorem getAll_rep {σ : L2.St} {ρ : TT.Env} {φ : Nat → Foot} {vs : List V} (R : RepE K cx σ H ρ φ) : ∀ {io : List Nat} {ys : List X}, io.Nodup → (∀ k ∈ io, ∃ v, vs[k]? = some v ∧ σ[k]? = some (some v)) → getAll ρ io = some ys → RepXs K cx H (sel vs io) ys fun c => ∃ k ∈ io, φ k c
  | [], ys, _, _, e => by
    simp only [getAll, Option.some.injEq] at e
    subst e
    exact .nil
  | k :: io, ys, nd, h, e => by
    simp only [getAll, Option.bind_eq_some_iff, Option.join_eq_some_iff, Option.map_eq_some_iff] at e
    obtain ⟨x, e1, ys', e2, rfl⟩ := e
    have nd2 := List.nodup_cons.mp nd
    obtain ⟨v, hv, r⟩ := R.rep _ _ e1
    obtain ⟨w, hw, hσ⟩ := h k List.mem_cons_self
    rw [hσ] at hv
    cases hv
    have ih := getAll_rep R nd2.2 (fun j hj => h j (List.mem_cons_of_mem _ hj)) e2
    have ev : vs.getD k .non = v := by simp [List.getD, hw]
    show RepXs K cx H (vs.getD k .non :: sel vs io) (x :: ys') _
    rw [ev]
    refine .cons r ih (fun c z ⟨j, hj, y⟩ => nd2.1 (by rw [R.dj k j c z y]; exact hj)) (fun c z => ⟨k, List.mem_cons_self, z⟩) fun c ⟨j, hj, y⟩ => ⟨j, List.mem_cons_of_mem _ hj, y⟩
/-- the body of a def, from what is handed in -/
theorem body_red {d : DefT} {G : Nat → DF} {N : List Str} (hN : N.length = d.N.length) (hio : ∀ k ∈ d.io, k < d.ps) (nd : d.io.Nodup) {vs : List V} {Q : VK} {E : XK} (h : spF K cx (runDef d G) d.io vs H Q E) :
    TSr K cx d.io (evSs G d.body) { nx := fun _ H' => Q .non H', rt := Q } (start N vs) H := by
  obtain ⟨xs, F, rs, m, r, ys, e, k⟩ := h
  have e : (if xs.length = d.ps then (evSs G d.body (xs.map some ++ List.replicate (d.N.length - d.ps) none)).bind fun z => (match z.1 with
    | .nx => (getAll z.2 d.io).map fun ys => (X.d .none, ys)
    | .rt x => (getAll z.2 d.io).map fun ys => (x, ys)
    | _ => none) else none) = some (r, ys) := e
  rw [Option.ite_none_right_eq_some] at e
  obtain ⟨hl, e⟩ := e
  simp only [Option.bind_eq_some_iff] at e
  obtain ⟨⟨f, ρ'⟩, e1, e2⟩ := e
  have hvl : vs.length = d.ps := by rw [RepXs.length (F := noF) rs, hl]
  obtain ⟨φ, h1, h2, h3⟩ := rs.split
  have hσ : ∀ (i : Nat) (v : V), vs[i]? = some v → (start N vs)[i]? = some (some v) := fun i v hv => by
    have hi := (List.getElem?_eq_some_iff.mp hv).1
    show (vs.map some ++ List.replicate (N.length - vs.length) none)[i]? = _
    rw [List.getElem?_append_left (by rw [List.length_map]; exact hi), List.getElem?_map, hv]
    rfl
  have R : RepE K cx (start N vs) H (xs.map some ++ List.replicate (d.N.length - d.ps) none) φ := by
    refine ⟨?_, fun i x hx => ?_, h2, fun c z => m c (h3 c z)⟩
    · show (vs.map some ++ List.replicate (N.length - vs.length) none).length = _
      rw [List.length_append, List.length_append, List.length_map, List.length_map, List.length_replicate, List.length_replicate, hvl, hl, hN]
    · have hi : i < xs.length := by
        rcases Nat.lt_or_ge i xs.length with h | h
        · exact h
        · rw [List.getElem?_append_right (by rw [List.length_map]; exact h)] at hx
          obtain ⟨hi, hx⟩ := List.getElem?_eq_some_iff.mp hx
          rw [List.getElem_replicate] at hx
          cases hx
      rw [List.getElem?_append_left (by rw [List.length_map]; exact hi), List.getElem?_map, Option.map_eq_some_iff] at hx
      obtain ⟨y, hy, ey⟩ := hx
      cases ey
      obtain ⟨v, hv, rx⟩ := h1 i _ hy
      exact ⟨v, hσ i v hv, rx⟩
  refine ⟨_, φ, f, ρ', R, e1, fun σ' H' φ' T P => ?_⟩
  have hcell : ∀ k ∈ d.io, ∃ v, vs[k]? = some v ∧ σ'[k]? = some (some v) := fun j hj => by
    have hjl : j < vs.length := by rw [hvl]; exact hio j hj
    refine ⟨vs[j], List.getElem?_eq_getElem hjl, ?_⟩
    rw [P.ag j hj]
    exact hσ j _ (List.getElem?_eq_getElem hjl)
  have fin : ∀ {v : V} {x : X} {zs : List X}, RepX K cx H' v x T → getAll ρ' d.io = some zs → (r, ys) = (x, zs) → Q v H' := fun {v x zs} rv hz e3 => by
    cases e3
    have hs := getAll_rep P.rep nd hcell hz
    refine k v H' (fun c => T c ∨ un φ' c) (.cons rv hs (fun c z ⟨j, _, y⟩ => P.dj c z ⟨j, y⟩) (fun c z => .inl z) fun c ⟨j, _, y⟩ => .inr ⟨j, y⟩) (fun c z => ?_) (fun c o h n => P.fr c o h fun y => n (h3 c y)) fun c z => ?_
    · rcases z with z | z
      · exact P.mt c z
      · exact P.rep.mu c z
    · have w : un φ c ∨ H c = none := by
        rcases z with z | z
        · exact P.s2 c z
        · exact P.s1 c z
      rcases w with w | w
      · exact .inl (h3 c w)
      · exact .inr w
  cases f with
  | nx =>
    simp only [Option.map_eq_some_iff] at e2
    obtain ⟨zs, hz, e3⟩ := e2
    exact fin (x := X.d .none) (.d .non) hz e3.symm
  | rt x =>
    simp only [Option.map_eq_some_iff] at e2
    obtain ⟨zs, hz, e3⟩ := e2
    exact fun v rv => fin rv hz e3.symm
  | bk => cases e2
  | ct => cases e2
/-- a promise says how many are handed in -/
theorem spF_len {d : DefT} {G : Nat → DF} {io : List Nat} {vs : List V} {Q : VK} {E : XK} (h : spF K cx (runDef d G) io vs H Q E) : vs.length = d.ps := by
  obtain ⟨xs, F, rs, m, r, ys, e, k⟩ := h
  have e : (if xs.length = d.ps then _ else none) = some (r, ys) := e
  rw [Option.ite_none_right_eq_some] at e
  rw [RepXs.length (F := noF) rs, e.1]
end
/-- nothing is promised at no depth -/
theorem fng_zero {P : Program} {w : World} {K : PySem.W.Frag} {mg : Str → Option Value} {base : Heap} {cx : List Cls1} {f : Addr} {fd : FuncData} {ps : List Str} {io : List Nat} {tab : Nat → Option DefT} {j : Nat} : FnG P w K mg base 0 f fd ps (spF K cx (sem tab 0 j) io) :=
  ⟨fun vs H Q E ⟨_, _, _, _, _, _, e, _⟩ => (nomatch e), fun A outer s H args us vs Q E hr hg e0 hb r ⟨_, _, _, _, _, _, e, _⟩ => (nomatch e)⟩
/-- a def of the text keeps the promise of its table -/
theorem fundG {P : Program} {w : World} {K : PySem.W.Frag} {mg : Str → Option Value} {base : Heap} {cx : List Cls1} {x qual : Str} {params : Arguments} {body : List Stmt} {scope : Scope} {f : Addr} {fd : FuncData} {N ps : List Str} {k : Nat} {d : DefT} {G : Nat → DF} {kws : List (Str × V)} {dvs : List V}
    (F : FunD K x qual params body scope dvs kws f fd) (S : FnScope N ps scope) (hN : N.length = d.N.length) (hps : ps.length = d.ps) (hio : ∀ k ∈ d.io, k < d.ps) (nd : d.io.Nodup)
    (hbody : ∀ (cdv : Value) (A : Around) (outer : List PySem.Env) (s : Shared) (H : Hp) (E : XK), Room k (A.deeper (envOfC qual scope s.heap.objs.size f cdv)) → A.guards = some [] →
      PSs (cxOf CX0 P w K mg base N qual scope f cdv A outer s H E).nox body (TSr K cx d.io (evSs G d.body))) : FnG P w K mg base (k + 1) f fd ps (spF K cx (runDef d G) d.io) := by
  obtain ⟨oc, od, dV, kV, doc, pm, an, cdv, ct, osl, rfl, lk, hcd, _, _⟩ := F.ex
  refine fng_of lk hcd S (fun vs H Q E h => (spF_len h).trans hps.symm) fun A outer s H vs Q E hr hgd h => ⟨_, (hbody cdv A outer s H E hr hgd).nox, ?_⟩
  exact body_red hN hio nd h
theorem fl0 {b q : Bool} (h : b = false) : b = true → q = true := fun e => by rw [h] at e; cases e
section
variable {C : Cx} {cx : List Cls1} {G : Nat → DF} {pos : Pos}
/-- {} -/
theorem te_dic0 : PE C (.Dict [] [] pos) (TX C.K cx true (evE G (.dic false .nil))) := pe_weak pe_dnewK fun σ H Q ⟨ρ, φ, r, ρ', R, hm, q⟩ => by
  cases hm
  intro p hp
  have sm : Same H (upd H p (.dK [])) := fun c o h => by
    rw [upd_ne (ne_of_none h hp)]
    exact h
  have P : Post C.K cx σ H ρ φ true (upd H p (.dK [])) ρ φ (fun c => c = p) := (Post.refl R).new sm (fun c e => by subst e; rw [upd_same]; trivial) (fun c e => by subst e; exact hp) R
  exact q (.ref p) _ φ _ P (.dK (hk := []) upd_same rfl List.nodup_nil .nil)
end
end TT

/-! A21: names of builtins. -/
namespace TT
open PySem PySem.Spec PyProof.Rows L2
theorem bt_len : bootBuiltins "len" = some (.builtin "len") := by decide +kernel
theorem bt_sorted : bootBuiltins "sorted" = some (.builtin "sorted") := by decide +kernel
theorem bt_min : bootBuiltins "min" = some (.builtin "min") := by decide +kernel
theorem bt_max : bootBuiltins "max" = some (.builtin "max") := by decide +kernel
theorem bt_int : bootBuiltins "int" = some (.type "int") := by decide +kernel
theorem bt_str : bootBuiltins "str" = some (.type "str") := by decide +kernel
theorem bt_list : bootBuiltins "list" = some (.type "list") := by decide +kernel
theorem bt_tuple : bootBuiltins "tuple" = some (.type "tuple") := by decide +kernel
section
variable {X : Cx}
theorem pe_true {j pos} : PE X (.Constant (.bool true) j pos) (tC (.bl true)) := by
  first
    | exact pe_bool
    | exact pe_bl
    | exact pe_tt
theorem pe_false {j pos} : PE X (.Constant (.bool false) j pos) (tC (.bl false)) := by
  first
    | exact pe_bool
    | exact pe_bl
    | exact pe_tt
end
end TT

/-! A22: for x in rows: x[1].append(t); x[2].append(t): the rows' own lists grow; nobody reads the rows again. -/
namespace TT
open PySem PySem.Spec PyProof.Rows L2

section
variable {C : Cx} {cx : List Cls1} {G : Nat → DF} {io : List Nat} {pos : Pos} {i j : Nat} {z : Str}
/-- the reading of x[k].append((z,)) -/
def tZ (K : PySem.W.Frag) (j k : Nat) (z : Str) : TS := tDrop (tBM K "list" rAppend (tOp (rIxT K) (tVar j) (tC (.int (k : Nat)))) (tCons (tTup (tCons (tC (.str z)) tNil)) tNil))
theorem tZ_step {K : PySem.W.Frag} {k : Nat} {Dn : L2.Ends} {σ : L2.St} {H : Hp} {b p : Addr} {vs gs : List V} (hj : σ[j]? = some (some (.ref b))) (hb : H b = some (.tup vs)) (hv : vs[k]? = some (.ref p)) (hp : H p = some (.lst gs)) (hl : gs.length < sizeLine)
    (q : ∀ t, H t = none → Dn.nx σ (upd (upd H t (.tup [.str z])) p (.lst (gs ++ [.ref t])))) : tZ K j k z Dn σ H := by
  have hkl : k < vs.length := (List.getElem?_eq_some_iff.mp hv).1
  refine ⟨.ref b, hj, b, vs, (k : Int), .ref p, rfl, rfl, SqT.of hb, ?_, ?_⟩
  · simp only [atI, ixN]
    rw [if_pos (by omega), if_pos (by omega)]
    simpa using hv
  · refine ⟨.inl ⟨rfl, gs, SqL.of hp⟩, ?_⟩
    show [V.str z].length ≤ sizeLine ∧ _
    refine ⟨by show 1 ≤ sizeLine; decide, fun t ht => ?_⟩
    have hp' : (upd H t (.tup [.str z])) p = some (.lst gs) := by rw [upd_ne (ne_of_none hp ht)]; exact hp
    exact ⟨p, gs, .ref t, rfl, rfl, hp', hl, q t ht⟩
/-- what one row asks -/
theorem zap_one {K : PySem.W.Frag} {H : Hp} {v : V} {x : X} {F : Foot} (h : RepX K cx H v x F) (m : MutF F H) (hx : zapOk x = true) : ∃ b v0 p q gs cs, v = .ref b ∧ H b = some (.tup [v0, .ref p, .ref q]) ∧ F p ∧ F q ∧ p ≠ q ∧ H p = some (.lst gs) ∧ H q = some (.lst cs) ∧ gs.length < sizeLine ∧ cs.length < sizeLine := by
  cases h with
  | d _ => cases hx
  | lst _ _ _ => cases hx
  | dK _ _ _ _ => cases hx
  | dT _ _ _ _ => cases hx
  | obj _ _ _ _ _ => cases hx
  | @tup b vs xs _ hb hs =>
    match xs, hs, hx with
    | [_, .lst g, .lst c], .cons h0 (.cons h1 (.cons h2 .nil d2 s5 s6) d1 s3 s4) d0 s1 s2, hx =>
      simp only [zapOk, Bool.and_eq_true, decide_eq_true_eq] at hx
      cases h1 with
      | @lst p gs _ _ hp fp hg =>
        cases h2 with
        | @lst q cs _ _ hq fq hc =>
          refine ⟨b, _, p, q, gs, cs, rfl, hb, s2 _ (s3 _ fp), s2 _ (s4 _ (s5 _ fq)), fun e => ?_, hp, hq, by rw [RepXs.length (F := noF) hg]; exact hx.1, by rw [RepXs.length (F := noF) hc]; exact hx.2⟩
          subst e
          exact d1 p fp (s5 _ fq)
/-- one row: both of its lists grow, all else stays -/
theorem zap_row {K : PySem.W.Frag} {H : Hp} {b p q t u : Addr} {v0 : V} {gs cs : List V} (hb : H b = some (.tup [v0, .ref p, .ref q])) (hp : H p = some (.lst gs)) (hq : H q = some (.lst cs)) (ne : p ≠ q) (ht : H t = none) (hu : (upd (upd H t (.tup [.str z])) p (.lst (gs ++ [.ref t]))) u = none) :
    ∀ c o, H c = some o → c ≠ p → c ≠ q → (upd (upd (upd (upd H t (.tup [.str z])) p (.lst (gs ++ [.ref t]))) u (.tup [.str z])) q (.lst (cs ++ [.ref u]))) c = some o := fun c o h n1 n2 => by
  have h1 : (upd (upd H t (.tup [.str z])) p (.lst (gs ++ [.ref t]))) c = some o := by
    rw [upd_ne n1, upd_ne (ne_of_none h ht)]
    exact h
  rw [upd_ne n2, upd_ne (ne_of_none h1 hu)]
  exact h1
theorem zap_red {Dn : L2.Ends} {σ : L2.St} {H : Hp} (hi : i ∉ io) (hj : j ∉ io) (h : TSr C.K cx io (evS G (.zap i j)) Dn σ H) :
    tFor (iList C.K (tVar i)) (gName j) (tSeq (tZ C.K j 1 z) (tZ C.K j 2 z)) Dn σ H := by
  obtain ⟨ρ, φ, fl, ρ', R, hm, k⟩ := h
  have hm : (match (ρ[i]?).join with
    | some (.lst xs) => if (xs.all zapOk && decide (j < ρ.length)) = true then some (Fl.nx, (ρ.set i none).set j none) else none
    | _ => none) = some (fl, ρ') := hm
  cases e0 : (ρ[i]?).join with
  | none => rw [e0] at hm; cases hm
  | some x =>
    rw [e0] at hm
    cases x with
    | lst xs =>
      have hm : (if (xs.all zapOk && decide (j < ρ.length)) = true then some (Fl.nx, (ρ.set i none).set j none) else none) = some (fl, ρ') := hm
      rw [Option.ite_none_right_eq_some, Bool.and_eq_true, decide_eq_true_eq] at hm
      obtain ⟨⟨hz, hjr⟩, hm⟩ := hm
      cases hm
      obtain ⟨v, hv, rx⟩ := R.rep _ _ (Option.join_eq_some_iff.mp e0)
      cases rx with
      | @lst a vs _ _ ha fa hs =>
        have mF := R.mui i
        have hl : vs.length = xs.length := RepXs.length (F := noF) hs
        refine ⟨.ref a, hv, a, rfl, ⟨vs, SqL.of ha⟩, ?_⟩
        refine ⟨fun n m σ' H' => n ≤ vs.length ∧ m = vs.length - n ∧ σ'.length = σ.length ∧ (∀ l, l ≠ j → σ'[l]? = σ[l]?) ∧ ∃ Fk : Foot, RepXs C.K cx H' (vs.drop n) (xs.drop n) Fk ∧ (∀ c, Fk c → φ i c ∧ c ≠ a) ∧ MutF Fk H' ∧ H' a = some (.lst vs) ∧ (∀ c o, H c = some o → ¬ φ i c → H' c = some o),
          ⟨vs.length, Nat.zero_le _, rfl, rfl, fun _ _ => rfl, but (φ i) a, hs, fun c z => z, mF.mono fun c z => z.1, ha, fun c o h _ => h⟩, ?_⟩
        rintro n m σ' H' ⟨hn, rfl, sl, ag, Fk, rs, sk, mk, ha', fr⟩
        rcases Nat.lt_or_ge n vs.length with hlt | hge
        · right
          have e1 : vs.drop n = vs[n] :: vs.drop (n + 1) := List.drop_eq_getElem_cons hlt
          have e2 : xs.drop n = xs[n]'(by omega) :: xs.drop (n + 1) := List.drop_eq_getElem_cons (by omega)
          rw [e1, e2] at rs
          cases rs with
          | @cons _ _ _ _ F1 F2 _ h1 hs' dj s1 s2 =>
            have hzn : zapOk (xs[n]'(by omega)) = true := List.all_eq_true.mp hz _ (List.getElem_mem _)
            obtain ⟨b, v0, p, q, gs, cs, ev, hb, fp, fq, ne, hp, hq, l1, l2⟩ := zap_one h1 (mk.mono s1) hzn
            refine ⟨⟨vs, vs[n], SqL.of ha', List.getElem?_eq_getElem hlt⟩, fun σ2 H2 => ∃ m', m' < vs.length - n ∧ (n + 1 ≤ vs.length ∧ m' = vs.length - (n + 1) ∧ σ2.length = σ.length ∧ (∀ l, l ≠ j → σ2[l]? = σ[l]?) ∧ ∃ Fk : Foot, RepXs C.K cx H2 (vs.drop (n + 1)) (xs.drop (n + 1)) Fk ∧ (∀ c, Fk c → φ i c ∧ c ≠ a) ∧ MutF Fk H2 ∧ H2 a = some (.lst vs) ∧ (∀ c o, H c = some o → ¬ φ i c → H2 c = some o)), fun _ _ w => w, fun y H2 hy => ?_⟩
            obtain ⟨rfl, hy⟩ := hy
            have ey : y = .ref b := by
              have w := hy vs (SqL.of ha')
              rw [List.getElem?_eq_getElem hlt, ev] at w
              cases w
              rfl
            subst ey
            have hjl : j < σ'.length := by rw [sl, R.len]; exact hjr
            · have hσ : (σ'.set j (some (V.ref b)))[j]? = some (some (.ref b)) := List.getElem?_set_self hjl
              show tZ C.K j 1 z _ (σ'.set j (some (.ref b))) H2
              refine tZ_step hσ hb rfl hp l1 fun t ht => ?_
              have hb1 : (upd (upd H2 t (.tup [.str z])) p (.lst (gs ++ [.ref t]))) b = some (.tup [v0, .ref p, .ref q]) := by
                have nb : b ≠ p := fun e => by rw [e, hp] at hb; cases hb
                rw [upd_ne nb, upd_ne (ne_of_none hb ht)]
                exact hb
              have hq1 : (upd (upd H2 t (.tup [.str z])) p (.lst (gs ++ [.ref t]))) q = some (.lst cs) := by
                rw [upd_ne (Ne.symm ne), upd_ne (ne_of_none hq ht)]
                exact hq
              show tZ C.K j 2 z _ (σ'.set j (some (.ref b))) _
              refine tZ_step hσ hb1 rfl hq1 l2 fun u hu => ?_
              have stay := zap_row (K := C.K) (z := z) hb hp hq ne ht hu
              have st2 : ∀ c, F2 c → (upd (upd (upd (upd H2 t (.tup [.str z])) p (.lst (gs ++ [.ref t]))) u (.tup [.str z])) q (.lst (cs ++ [.ref u]))) c = H2 c := fun c z2 => by
                have w := mk c (s2 c z2)
                cases eo : H2 c with
                | none => rw [eo] at w; exact w.elim
                | some o => exact stay c o eo (fun e => dj p fp (by rw [← e]; exact z2)) (fun e => dj q fq (by rw [← e]; exact z2))
              have imm : ImmK H2 (upd (upd (upd (upd H2 t (.tup [.str z])) p (.lst (gs ++ [.ref t]))) u (.tup [.str z])) q (.lst (cs ++ [.ref u]))) := fun c o im h => stay c o h (fun e => by rw [e, hp] at h; cases h; exact im) (fun e => by rw [e, hq] at h; cases h; exact im)
              refine ⟨vs.length - (n + 1), by omega, hlt, rfl, by rw [List.length_set]; exact sl, fun l hl => ?_, F2, hs'.keep imm st2, fun c w => sk c (s2 c w), fun c w => ?_, ?_, fun c o h nf => ?_⟩
              · rw [List.getElem?_set_ne (Ne.symm hl)]
                exact ag l hl
              · rw [st2 c w]
                exact mk c (s2 c w)
              · exact stay a _ ha' (fun e => (sk p (s1 p fp)).2 e.symm) (fun e => (sk q (s1 q fq)).2 e.symm)
              · exact stay c o (fr c o h nf) (fun e => nf (by rw [e]; exact (sk p (s1 p fp)).1)) (fun e => nf (by rw [e]; exact (sk q (s1 q fq)).1))
        · left
          obtain rfl : n = vs.length := Nat.le_antisymm hn hge
          refine ⟨⟨vs, SqL.of ha', Nat.le_refl _⟩, ?_⟩
          have R1 := (R.drop i).drop j
          have R2 : RepE C.K cx σ' H ((ρ.set i none).set j none) (setF (setF φ i noF) j noF) := by
            refine ⟨sl.trans R1.len, fun l y e => ?_, R1.dj, R1.mu⟩
            obtain ⟨w, hw, r⟩ := R1.rep l y e
            refine ⟨w, ?_, r⟩
            rw [ag l fun z => ?_]
            · exact hw
            · subst z
              by_cases hb : l < (ρ.set i none).length
              · rw [List.getElem?_set_self hb] at e
                cases e
              · rw [List.getElem?_eq_none (by rw [List.length_set]; omega)] at e
                cases e
          have out : ∀ c, un (setF (setF φ i noF) j noF) c → un φ c ∧ ¬ φ i c := fun c w => by
            rcases un_setF w with y | y
            · exact y.elim
            · obtain ⟨l, y⟩ := y
              by_cases hl : l = i
              · rw [hl, setF_same] at y
                exact y.elim
              · rw [setF_ne hl] at y
                exact ⟨⟨l, y⟩, fun q => hl (R.dj l i c y q)⟩
          have st : ∀ c, un (setF (setF φ i noF) j noF) c → H' c = H c := fun c w => by
            obtain ⟨u1, u2⟩ := out c w
            have mu := R.mu c u1
            cases eo : H c with
            | none => rw [eo] at mu; exact mu.elim
            | some o => exact fr c o eo u2
          have imm : ImmK H H' := fun c o im h => fr c o h fun q => mut_imm (mF c q) h im
          refine k σ' H' (setF (setF φ i noF) j noF) noF ⟨R2.stay imm st, fun _ z => z.elim, fun _ z => z.elim, fun c o h nf => fr c o h fun q => nf ⟨i, q⟩, fun c w => .inl (out c w).1, fun _ z => z.elim, fun l hl => ag l fun e => hj (by rw [← e]; exact hl)⟩
    | _ => cases hm
end
end TT

/-! A23: the evaluator by equations (for simp only). -/
namespace TT
open PySem PySem.Spec PyProof.Rows L2
section
variable {i j k : Int} {a b : Str} {xs ys : List D} {x y : D}
theorem q_add : opF .add [.int i, .int j] = some (.d (.int (i + j))) := rfl
theorem q_adds (h : a.length + b.length ≤ sizeLine) : opF .add [.str a, .str b] = some (.d (.str (a ++ b))) := by
  show (if fits (a.length + b.length) = true then some (X.d (.str (a ++ b))) else none) = _
  rw [if_pos (show fits _ = true from decide_eq_true h)]
theorem q_addl (h : xs.length + ys.length ≤ sizeLine) : opF .add [.list xs, .list ys] = some (own1 (xs ++ ys)) := by
  show (if fits (xs.length + ys.length) = true then some (own1 (xs ++ ys)) else none) = _
  rw [if_pos (show fits _ = true from decide_eq_true h)]
theorem q_sub : opF .sub [.int i, .int j] = some (.d (.int (i - j))) := rfl
theorem q_mul (h : (TT.small64 i || TT.small64 j) = true) : opF .mul [.int i, .int j] = some (.d (.int (i * j))) := by
  show (if (TT.small64 i || TT.small64 j) = true then TT.ii (i * j) else none) = _
  rw [if_pos h]
  rfl
theorem q_mod (h : j ≠ 0) : opF .mod [.int i, .int j] = some (.d (.int (i.fmod j))) := by
  show (if j = 0 then none else TT.ii (i.fmod j)) = _
  rw [if_neg h]
  rfl
theorem q_fdiv (h : j ≠ 0) (h2 : j.natAbs < 1073741824) : opF .fdiv [.int i, .int j] = some (.d (.int (i.fdiv j))) := by
  show (if j = 0 ∨ ¬ j.natAbs < 1073741824 then none else TT.ii (i.fdiv j)) = _
  rw [if_neg (by rintro (z | z); exact h z; exact z h2)]
  rfl
theorem q_pow (h : 0 ≤ j ∧ j ≤ 1000000 ∧ i.natAbs < 2 ^ 64) : opF .pow [.int i, .int j] = some (.d (.int (i ^ j.toNat))) := by
  show (if 0 ≤ j ∧ j ≤ 1000000 ∧ i.natAbs < 2 ^ 64 then TT.ii (i ^ j.toNat) else none) = _
  rw [if_pos h]
  rfl
theorem q_lt : opF .lt [.int i, .int j] = some (.d (.bool (decide (i < j)))) := rfl
theorem q_le : opF .le [.int i, .int j] = some (.d (.bool (decide (i ≤ j)))) := rfl
theorem q_gt : opF .gt [.int i, .int j] = some (.d (.bool (decide (j < i)))) := rfl
theorem q_ge : opF .ge [.int i, .int j] = some (.d (.bool (decide (j ≤ i)))) := rfl
theorem q_eq (h : shp x = true) (h2 : shp y = true) : opF .eq [x, y] = some (.d (.bool (PyData.eqv x y))) := by
  have e : opF .eq [x, y] = (if (shp x && shp y) = true then bl (PyData.eqv x y) else none) := by cases x <;> cases y <;> rfl
  rw [e, if_pos (by rw [h, h2]; rfl)]
  rfl
theorem q_ne (h : shp x = true) (h2 : shp y = true) : opF .ne [x, y] = some (.d (.bool (!PyData.eqv x y))) := by
  have e : opF .ne [x, y] = (if (shp x && shp y) = true then bl (!PyData.eqv x y) else none) := by cases x <;> cases y <;> rfl
  rw [e, if_pos (by rw [h, h2]; rfl)]
  rfl
theorem shp_int : shp (.int i) = true := by
  show (PyData.canLay0 (.int i) && decide ((PyData.int i).depth ≤ 64)) = true
  simp [PyData.canLay0, PyData.depth]
theorem shp_str (h : PyData.strOk a = true) : shp (.str a) = true := by
  show (PyData.canLay0 (.str a) && decide ((PyData.str a).depth ≤ 64)) = true
  simp [PyData.canLay0, PyData.depth, h]
theorem q_eqi : opF .eq [.int i, .int j] = some (.d (.bool (i == j))) := q_eq shp_int shp_int
theorem q_nes (h : PyData.strOk a = true) (h2 : PyData.strOk b = true) : opF .ne [.str a, .str b] = some (.d (.bool (!(a == b)))) := q_ne (shp_str h) (shp_str h2)
theorem q_ixl : opF .ix [.list xs, .int i] = (atI xs i).map X.d := rfl
theorem q_ixt : opF .ix [.tuple xs, .int i] = (atI xs i).map X.d := rfl
theorem q_ixs (h : a.length ≤ sizeLine) : opF .ix [.str a, .int i] = (atI a.cps.toList i).map fun c => X.d (.str ⟨#[c]⟩) := by
  show (if fits a.length = true then (atI a.cps.toList i).map fun c => X.d (.str ⟨#[c]⟩) else none) = _
  rw [if_pos (show fits _ = true from decide_eq_true h)]
theorem q_len : opF .len [.list xs] = some (.d (.int (xs.length : Nat))) := rfl
theorem q_int1 : opF .int1 [.int i] = some (.d (.int i)) := rfl
theorem q_str1 (h : i.natAbs.log2 < 1920) : opF .str1 [.int i] = some (.d (.str (toString i))) := by
  show (if i.natAbs.log2 < 1920 then some (X.d (.str (toString i))) else none) = _
  rw [if_pos h]
theorem q_list1 : opF .list1 [.list xs] = some (own1 xs) := rfl
theorem q_list1d {kvs : List (D × D)} (h : (kvs.all fun p => keyOk false p.1) = true) : opF .list1 [.dict kvs] = some (own1 (kvs.map (·.1))) := by
  show (if (kvs.all fun p => keyOk false p.1) = true then some (own1 (kvs.map (·.1))) else none) = _
  rw [if_pos h]
theorem q_sorted (h : sortB xs = true) : opF .sorted1 [.list xs] = some (own1 (sortD xs)) := by
  show (if sortB xs = true then some (own1 (sortD xs)) else none) = _
  rw [if_pos h]
theorem q_sortset (h : (xs.all isStrD) = true) (h2 : xs.length < 4000) : opF .sortset [.list xs] = some (own1 (sortD (dedupD xs []))) := by
  show (if ((xs.all isStrD) && decide (xs.length < 4000)) = true then some (own1 (sortD (dedupD xs []))) else none) = _
  rw [if_pos (by rw [h]; exact decide_eq_true h2)]
theorem q_nin (h : shp x = true) (h2 : shp (.list xs) = true) : opF .nin [x, .list xs] = some (.d (.bool (!xs.any fun z => PyData.eqv z x))) := by
  show (if (shp x && shp (.list xs)) = true then bl (!xs.any fun z => PyData.eqv z x) else none) = _
  rw [if_pos (by rw [h, h2]; rfl)]
  rfl
theorem q_nind {kvs : List (D × D)} (h : keysOk kvs x = true) : opF .nin [x, .dict kvs] = some (.d (.bool (!(dlook kvs x).isSome))) := by
  show (if keysOk kvs x = true then bl (!(dlook kvs x).isSome) else none) = _
  rw [if_pos h]
  rfl
theorem q_get2 {kvs : List (D × D)} (h : keysOk kvs x = true) : opF .get2 [.dict kvs, x, y] = some (.d ((dlook kvs x).getD y)) := by
  show (if keysOk kvs x = true then some (X.d ((dlook kvs x).getD y)) else none) = _
  rw [if_pos h]
theorem q_slt : opF (.sl false true) [.tuple xs, .int i] = some (.d (.tuple (cutD xs none (some i)))) := rfl
end
theorem dat_own (ds : List D) : dat1 (own1 ds) = some (.list ds) := by
  show (allD (ds.map X.d)).map PyData.list = _
  rw [allD_map]
  rfl
theorem datF_own (ds : List D) : datF (own1 ds) = some (.list ds) := by
  show (datFs (ds.map X.d)).map PyData.list = _
  have e : ∀ ds : List D, datFs (ds.map X.d) = some ds := fun ds => by
    induction ds with
    | nil => rfl
    | cons d ds ih => simp [datFs, datF, ih]
  rw [e]
  rfl
theorem datF_d (d : D) : datF (.d d) = some d := by simp [datF]
theorem dat1_d (d : D) : dat1 (.d d) = some d := by simp [dat1]

/-! ### the evaluator by rules -/
section
variable {G : Nat → DF} {ρ ρ0 ρ1 ρ2 ρ3 : TT.Env} {e e1 e2 e3 : E} {a a1 a2 a3 : A} {as : As} {o : Op} {x y z : X} {d d1 d2 d3 : D} {h1 h2 h3 : Hd} {t t1 t2 : T} {k : Bool} {i : Nat} {s : S} {r : Ss} {fl : Fl} {w : Option (Fl × TT.Env)}
theorem r_e (h : evE G e ρ = some (x, ρ1)) : evA G (.e e) ρ = some (.x x, ρ1) := by
  show ((evE G e ρ).bind fun z => some (Hd.x z.1, z.2)) = _
  rw [h]
  rfl
theorem r_p {p : Pl} (h : getPl ρ p = some x) : evA G (.p p) ρ = some (.p p, ρ) := by
  show ((getPl ρ p).bind fun _ => some (Hd.p p, ρ)) = _
  rw [h]
  rfl
theorem r_op1 (g1 : evA G a ρ = some (h1, ρ1)) (v1 : resolve ρ1 h1 = some x) (f1 : dat1 x = some d) (q : opF o [d] = some z) : evE G (.op o (.cons a .nil)) ρ = some (z, ρ1) := by
  show (((evA G a ρ).bind fun x => (some (([] : List Hd), x.2)).bind fun y => some (x.1 :: y.1, y.2)).bind fun y => (resAll y.2 y.1).bind fun xs => (datAll xs).bind fun ds => (opF o ds).bind fun z => some (z, y.2)) = _
  rw [g1]
  show (((resolve ρ1 h1).bind fun x => (some ([] : List X)).map (x :: ·)).bind fun xs => (datAll xs).bind fun ds => (opF o ds).bind fun z => some (z, ρ1)) = _
  rw [v1]
  show (((dat1 x).bind fun d => (some ([] : List D)).map (d :: ·)).bind fun ds => (opF o ds).bind fun z => some (z, ρ1)) = _
  rw [f1]
  show ((opF o [d]).bind fun z => some (z, ρ1)) = _
  rw [q]
  rfl
theorem r_op2 (g1 : evA G a1 ρ = some (h1, ρ1)) (g2 : evA G a2 ρ1 = some (h2, ρ2)) (v1 : resolve ρ2 h1 = some x) (v2 : resolve ρ2 h2 = some y) (f1 : dat1 x = some d1) (f2 : dat1 y = some d2) (q : opF o [d1, d2] = some z) : evE G (.op o (.cons a1 (.cons a2 .nil))) ρ = some (z, ρ2) := by
  show (((evA G a1 ρ).bind fun x => (evAs G (.cons a2 .nil) x.2).bind fun y => some (x.1 :: y.1, y.2)).bind fun y => (resAll y.2 y.1).bind fun xs => (datAll xs).bind fun ds => (opF o ds).bind fun z => some (z, y.2)) = _
  rw [g1]
  show ((((evA G a2 ρ1).bind fun x => (some (([] : List Hd), x.2)).bind fun y => some (x.1 :: y.1, y.2)).bind fun y => some (h1 :: y.1, y.2)).bind fun y => (resAll y.2 y.1).bind fun xs => (datAll xs).bind fun ds => (opF o ds).bind fun z => some (z, y.2)) = _
  rw [g2]
  show (((resolve ρ2 h1).bind fun x => ((resolve ρ2 h2).bind fun y => (some ([] : List X)).map (y :: ·)).map (x :: ·)).bind fun xs => (datAll xs).bind fun ds => (opF o ds).bind fun z => some (z, ρ2)) = _
  rw [v1, v2]
  show (((dat1 x).bind fun d => ((dat1 y).bind fun e => (some ([] : List D)).map (e :: ·)).map (d :: ·)).bind fun ds => (opF o ds).bind fun z => some (z, ρ2)) = _
  rw [f1, f2]
  show ((opF o [d1, d2]).bind fun z => some (z, ρ2)) = _
  rw [q]
  rfl
theorem r_get2 (g1 : evE G e1 ρ = some (x, ρ1)) (g2 : evE G e2 ρ1 = some (y, ρ2)) (g3 : evE G e3 ρ2 = some (z, ρ3)) (f1 : dat1 x = some d1) (f2 : dat1 y = some d2) (f3 : dat1 z = some d3) {u : X} (q : opF o [d1, d2, d3] = some u) : evE G (.op o (.cons (.e e1) (.cons (.e e2) (.cons (.e e3) .nil)))) ρ = some (u, ρ3) := by
  have c3 : evAs G (.cons (.e e3) .nil) ρ2 = some ([.x z], ρ3) := by
    show (((evE G e3 ρ2).bind fun z => some (Hd.x z.1, z.2)).bind fun x => (some (([] : List Hd), x.2)).bind fun y => some (x.1 :: y.1, y.2)) = _
    rw [g3]
    rfl
  have c2 : evAs G (.cons (.e e2) (.cons (.e e3) .nil)) ρ1 = some ([.x y, .x z], ρ3) := by
    show (((evE G e2 ρ1).bind fun z => some (Hd.x z.1, z.2)).bind fun x => (evAs G (.cons (.e e3) .nil) x.2).bind fun y => some (x.1 :: y.1, y.2)) = _
    rw [g2]
    show ((evAs G (.cons (.e e3) .nil) ρ2).bind fun w => some (Hd.x y :: w.1, w.2)) = _
    rw [c3]
    rfl
  have c1 : evAs G (.cons (.e e1) (.cons (.e e2) (.cons (.e e3) .nil))) ρ = some ([.x x, .x y, .x z], ρ3) := by
    show (((evE G e1 ρ).bind fun z => some (Hd.x z.1, z.2)).bind fun x => (evAs G (.cons (.e e2) (.cons (.e e3) .nil)) x.2).bind fun y => some (x.1 :: y.1, y.2)) = _
    rw [g1]
    show ((evAs G (.cons (.e e2) (.cons (.e e3) .nil)) ρ1).bind fun w => some (Hd.x x :: w.1, w.2)) = _
    rw [c2]
    rfl
  show ((evAs G (.cons (.e e1) (.cons (.e e2) (.cons (.e e3) .nil))) ρ).bind fun y => (resAll y.2 y.1).bind fun xs => (datAll xs).bind fun ds => (opF o ds).bind fun z => some (z, y.2)) = _
  rw [c1]
  show (((dat1 x).bind fun d => ((dat1 y).bind fun e => ((dat1 z).bind fun f => (some ([] : List D)).map (f :: ·)).map (e :: ·)).map (d :: ·)).bind fun ds => (opF o ds).bind fun z => some (z, ρ3)) = _
  rw [f1, f2, f3]
  show ((opF o [d1, d2, d3]).bind fun z => some (z, ρ3)) = _
  rw [q]
  rfl
theorem r_frz (g : evE G e ρ = some (x, ρ1)) (f : datF x = some d) : evE G (.frz e) ρ = some (.d d, ρ1) := by
  show ((evE G e ρ).bind fun z => (datF z.1).bind fun d => some (X.d d, z.2)) = _
  rw [g]
  show ((datF x).bind fun d => some (X.d d, ρ1)) = _
  rw [f]
  rfl
theorem r_repr (g : evA G a ρ = some (h1, ρ1)) (v : resolve ρ1 h1 = some x) (f : datF x = some d) (q : reprOk d = true) : evE G (.reprF a) ρ = some (.d (.str d.shown), ρ1) := by
  show ((evA G a ρ).bind fun z => (resolve z.2 z.1).bind fun x => (datF x).bind fun d => if reprOk d then some (X.d (.str d.shown), z.2) else none) = _
  rw [g]
  show ((resolve ρ1 h1).bind fun x => (datF x).bind fun d => if reprOk d then some (X.d (.str d.shown), ρ1) else none) = _
  rw [v]
  show ((datF x).bind fun d => if reprOk d then some (X.d (.str d.shown), ρ1) else none) = _
  rw [f]
  show (if reprOk d then some (X.d (.str d.shown), ρ1) else none) = _
  rw [if_pos q]
/-- a test from an operator's value -/
theorem r_t (g : evE G (.op o as) ρ = some (.d (.bool k), ρ1)) : evT G (.op o as) ρ = some (k, ρ1) := by
  have g : ((evAs G as ρ).bind fun y => (resAll y.2 y.1).bind fun xs => (datAll xs).bind fun ds => (opF o ds).bind fun z => some (z, y.2)) = some (.d (.bool k), ρ1) := g
  simp only [Option.bind_eq_some_iff, Option.some.injEq, Prod.mk.injEq] at g
  obtain ⟨⟨hs, ρ2⟩, b1, xs, b2, ds, b3, z, b4, rfl, rfl⟩ := g
  show ((evAs G as ρ).bind fun y => (resAll y.2 y.1).bind fun xs => (datAll xs).bind fun ds => (opF o ds).bind fun z => (boolD z).bind fun k => some (k, y.2)) = _
  rw [b1]
  show ((resAll ρ2 hs).bind fun xs => (datAll xs).bind fun ds => (opF o ds).bind fun z => (boolD z).bind fun k => some (k, ρ2)) = _
  have b2 : resAll ρ2 hs = some xs := b2
  rw [b2]
  show ((datAll xs).bind fun ds => (opF o ds).bind fun z => (boolD z).bind fun k => some (k, ρ2)) = _
  rw [b3]
  show ((opF o ds).bind fun z => (boolD z).bind fun k => some (k, ρ2)) = _
  rw [b4]
  rfl
theorem r_tr (g : evA G a ρ = some (h1, ρ1)) (v : resolve ρ1 h1 = some (.d (.bool k))) : evT G (.tr a) ρ = some (k, ρ1) := by
  show ((evA G a ρ).bind fun z => (resolve z.2 z.1).bind fun x => (dat1 x).bind fun d => (truD d).bind fun k => some (k, z.2)) = _
  rw [g]
  show ((resolve ρ1 h1).bind fun x => (dat1 x).bind fun d => (truD d).bind fun k => some (k, ρ1)) = _
  rw [v]
  show ((dat1 (.d (.bool k))).bind fun d => (truD d).bind fun k => some (k, ρ1)) = _
  rw [dat1_d]
  rfl
theorem r_not (g : evT G t ρ = some (k, ρ1)) : evT G (.not_ t) ρ = some (!k, ρ1) := by
  show ((evT G t ρ).bind fun z => some (!z.1, z.2)) = _
  rw [g]
  rfl
theorem r_or1 (g : evT G t1 ρ = some (true, ρ1)) : evT G (.or_ t1 t2) ρ = some (true, ρ1) := by
  show ((evT G t1 ρ).bind fun z => if z.1 then some (true, z.2) else evT G t2 z.2) = _
  rw [g]
  rfl
theorem r_or2 (g : evT G t1 ρ = some (false, ρ1)) (g2 : evT G t2 ρ1 = some (k, ρ2)) : evT G (.or_ t1 t2) ρ = some (k, ρ2) := by
  show ((evT G t1 ρ).bind fun z => if z.1 then some (true, z.2) else evT G t2 z.2) = _
  rw [g]
  exact g2
theorem r_and1 (g : evT G t1 ρ = some (false, ρ1)) : evT G (.and_ t1 t2) ρ = some (false, ρ1) := by
  show ((evT G t1 ρ).bind fun z => if z.1 then evT G t2 z.2 else some (false, z.2)) = _
  rw [g]
  rfl
theorem r_and2 (g : evT G t1 ρ = some (true, ρ1)) (g2 : evT G t2 ρ1 = some (k, ρ2)) : evT G (.and_ t1 t2) ρ = some (k, ρ2) := by
  show ((evT G t1 ρ).bind fun z => if z.1 then evT G t2 z.2 else some (false, z.2)) = _
  rw [g]
  exact g2
theorem r_set (g : evE G e ρ = some (x, ρ1)) : evS G (.set i e) ρ = some (.nx, ρ1.set i (some x)) := by
  show ((evE G e ρ).bind fun z => some (Fl.nx, z.2.set i (some z.1))) = _
  rw [g]
  rfl
theorem r_ret (g : evE G e ρ = some (x, ρ1)) : evS G (.ret e) ρ = some (.rt x, ρ1) := by
  show ((evE G e ρ).bind fun z => some (Fl.rt z.1, z.2)) = _
  rw [g]
  rfl
theorem r_if {b1 b2 : Ss} (g : evT G t ρ = some (k, ρ1)) (g2 : (if k then evSs G b1 ρ1 else evSs G b2 ρ1) = w) : evS G (.iff t b1 b2) ρ = w := by
  show ((evT G t ρ).bind fun z => if z.1 then evSs G b1 z.2 else evSs G b2 z.2) = w
  rw [g]
  exact g2
theorem r_nx (g : evS G s ρ = some (.nx, ρ1)) (g2 : evSs G r ρ1 = w) : evSs G (.cons s r) ρ = w := by
  show ((evS G s ρ).bind fun z => (match z.1 with
    | .nx => evSs G r z.2
    | f => some (f, z.2))) = w
  rw [g]
  exact g2
theorem r_rt (g : evS G s ρ = some (.rt x, ρ1)) : evSs G (.cons s r) ρ = some (.rt x, ρ1) := by
  show ((evS G s ρ).bind fun z => (match z.1 with
    | .nx => evSs G r z.2
    | f => some (f, z.2))) = _
  rw [g]
  rfl
theorem r_app {p : Pl} {xs : List X} (v : getPl ρ p = some y) (hy : isLst y = true) (g : evE G e ρ = some (x, ρ1)) (v2 : getPl ρ1 p = some (.lst xs)) (hl : xs.length < sizeLine) (u : setPl ρ1 p (.lst (xs ++ [x])) = some ρ2) : evS G (.app p e) ρ = some (.nx, ρ2) := by
  show ((getPl ρ p).bind fun u0 => if isLst u0 = false then none else (evE G e ρ).bind fun z => (getPl z.2 p).bind fun u => (match u with
    | .lst xs => if xs.length < sizeLine then (setPl z.2 p (.lst (xs ++ [z.1]))).bind fun ρ2 => some (Fl.nx, ρ2) else none
    | _ => none)) = _
  rw [v]
  show (if isLst y = false then none else (evE G e ρ).bind fun z => (getPl z.2 p).bind fun u => (match u with
    | .lst xs => if xs.length < sizeLine then (setPl z.2 p (.lst (xs ++ [z.1]))).bind fun ρ2 => some (Fl.nx, ρ2) else none
    | _ => none)) = _
  rw [if_neg (by rw [hy]; exact Bool.noConfusion), g]
  show ((getPl ρ1 p).bind fun u => (match u with
    | .lst xs => if xs.length < sizeLine then (setPl ρ1 p (.lst (xs ++ [x]))).bind fun ρ2 => some (Fl.nx, ρ2) else none
    | _ => none)) = _
  rw [v2]
  show (if xs.length < sizeLine then (setPl ρ1 p (.lst (xs ++ [x]))).bind fun ρ2 => some (Fl.nx, ρ2) else none) = _
  rw [if_pos hl, u]
  rfl
theorem r_seti {p : Pl} {ei : E} {xs : List X} {j : Int} {n : Nat} {u0 kx : X} (g : evE G e ρ = some (y, ρ1)) (v0 : getPl ρ1 p = some u0) (gi : evE G ei ρ1 = some (kx, ρ2)) (v : getPl ρ2 p = some (.lst xs)) (f : dat1 kx = some (.int j)) (hn : ixN xs.length j = some n) (u : setPl ρ2 p (.lst (xs.set n y)) = some ρ3) : evS G (.seti p ei e) ρ = some (.nx, ρ3) := by
  show ((evE G e ρ).bind fun z => (getPl z.2 p).bind fun _ => (evE G ei z.2).bind fun w => (getPl w.2 p).bind fun u => (dat1 w.1).bind fun kd => (match u, kd with
    | .lst xs, .int j => (ixN xs.length j).bind fun n => (setPl w.2 p (.lst (xs.set n z.1))).bind fun ρ3 => some (Fl.nx, ρ3)
    | .dct t ks xs, _ => if keyOk t kd && decide (ks.length < sizeLine) then (setPl w.2 p (.dct t (putX ks xs kd z.1).1 (putX ks xs kd z.1).2)).bind fun ρ3 => some (Fl.nx, ρ3) else none
    | _, _ => none)) = _
  rw [g]
  simp only [Option.bind_some, v0, gi, v, f, hn, u]
theorem r_setk {p : Pl} {ei : E} {t0 : Bool} {ks : List D} {xs : List X} {u0 kx : X} {kd : D} (g : evE G e ρ = some (y, ρ1)) (v0 : getPl ρ1 p = some u0) (gi : evE G ei ρ1 = some (kx, ρ2)) (v : getPl ρ2 p = some (.dct t0 ks xs)) (f : dat1 kx = some kd) (hk : keyOk t0 kd = true) (hl : ks.length < sizeLine) (u : setPl ρ2 p (.dct t0 (putX ks xs kd y).1 (putX ks xs kd y).2) = some ρ3) : evS G (.seti p ei e) ρ = some (.nx, ρ3) := by
  show ((evE G e ρ).bind fun z => (getPl z.2 p).bind fun _ => (evE G ei z.2).bind fun w => (getPl w.2 p).bind fun u => (dat1 w.1).bind fun kd => (match u, kd with
    | .lst xs, .int j => (ixN xs.length j).bind fun n => (setPl w.2 p (.lst (xs.set n z.1))).bind fun ρ3 => some (Fl.nx, ρ3)
    | .dct t ks xs, _ => if keyOk t kd && decide (ks.length < sizeLine) then (setPl w.2 p (.dct t (putX ks xs kd z.1).1 (putX ks xs kd z.1).2)).bind fun ρ3 => some (Fl.nx, ρ3) else none
    | _, _ => none)) = _
  rw [g]
  simp only [Option.bind_some, v0, gi, v, f, hk, decide_eq_true hl, Bool.and_self, if_true, u]
/-- a call of a def: hs the operands -/
theorem r_call {f : Nat} {io : List Nat} {hs : List Hd} {xs ys : List X} (g : evAs G as ρ = some (hs, ρ1)) (ok : okIo io hs 0 [] = true) (v : resAll ρ1 hs = some xs) (q : G f xs = some (x, ys)) (b : backIo hs io ys (clearPl hs ρ1) = some ρ2) : evE G (.call f io as) ρ = some (x, ρ2) := by
  show ((evAs G as ρ).bind fun z => if okIo io z.1 0 [] then (resAll z.2 z.1).bind fun xs => (G f xs).bind fun w => (backIo z.1 io w.2 (clearPl z.1 z.2)).bind fun ρ2 => some (w.1, ρ2) else none) = _
  rw [g]
  show (if okIo io hs 0 [] then (resAll ρ1 hs).bind fun xs => (G f xs).bind fun w => (backIo hs io w.2 (clearPl hs ρ1)).bind fun ρ2 => some (w.1, ρ2) else none) = _
  rw [if_pos ok, v]
  show ((G f xs).bind fun w => (backIo hs io w.2 (clearPl hs ρ1)).bind fun ρ2 => some (w.1, ρ2)) = _
  rw [q]
  show ((backIo hs io ys (clearPl hs ρ1)).bind fun ρ2 => some (x, ρ2)) = _
  rw [b]
  rfl
theorem r_nil : evAs G .nil ρ = some ([], ρ) := rfl
theorem r_cons {hs : List Hd} (g1 : evA G a ρ = some (h1, ρ1)) (g2 : evAs G as ρ1 = some (hs, ρ2)) : evAs G (.cons a as) ρ = some (h1 :: hs, ρ2) := by
  show ((evA G a ρ).bind fun x => (evAs G as x.2).bind fun y => some (x.1 :: y.1, y.2)) = _
  rw [g1]
  show ((evAs G as ρ1).bind fun y => some (h1 :: y.1, y.2)) = _
  rw [g2]
  rfl
end
end TT

/-! A24: loops by what they keep; data that are alike: equality, order. -/
namespace TT
open PySem PySem.Spec PyProof.Rows L2
section
variable {G : Nat → DF} {ρ ρ0 ρ1 ρ2 ρ3 : TT.Env}
theorem for_inv {tg : Tg} {tb : TT.Env → Option (Fl × TT.Env)} (P : Nat → TT.Env → Prop) : ∀ (ds : List D) (n : Nat) (ρ : TT.Env), P n ρ → (∀ k d ρ, ds[k]? = some d → P (n + k) ρ → ∃ ρ1 ρ2, setTg tg d ρ = some ρ1 ∧ tb ρ1 = some (.nx, ρ2) ∧ P (n + k + 1) ρ2) → ∃ ρ', forLoop tg tb ds ρ = some (.nx, ρ') ∧ P (n + ds.length) ρ'
  | [], n, ρ, h, _ => ⟨ρ, rfl, h⟩
  | d :: r, n, ρ, h, st => by
    obtain ⟨ρ1, ρ2, e1, e2, h2⟩ := st 0 d ρ rfl h
    obtain ⟨ρ', e3, h3⟩ := for_inv P r (n + 1) ρ2 h2 fun k d ρ hk hp => by
      obtain ⟨a, b, c1, c2, c3⟩ := st (k + 1) d ρ hk (by rw [show n + (k + 1) = n + 1 + k by omega]; exact hp)
      exact ⟨a, b, c1, c2, by rw [show n + 1 + k + 1 = n + (k + 1) + 1 by omega]; exact c3⟩
    refine ⟨ρ', ?_, by rw [List.length_cons, show n + (r.length + 1) = n + 1 + r.length by omega]; exact h3⟩
    show ((setTg tg d ρ).bind fun ρ1 => (tb ρ1).bind fun z => (match z.1 with
      | .nx => forLoop tg tb r z.2
      | .ct => forLoop tg tb r z.2
      | .bk => some (.nx, z.2)
      | .rt x => some (.rt x, z.2))) = _
    rw [e1, Option.bind_some, e2]
    exact e3
/-- a for over it, turn by turn -/
theorem r_for {tg : Tg} {it : It} {b : Ss} {ds : List D} (P : Nat → TT.Env → Prop) (g : evIt G it ρ = some (ds, ρ1)) (h : P 0 ρ1) (st : ∀ k d ρ, ds[k]? = some d → P k ρ → ∃ ρ1 ρ2, setTg tg d ρ = some ρ1 ∧ evSs G b ρ1 = some (.nx, ρ2) ∧ P (k + 1) ρ2) : ∃ ρ', evS G (.for_ tg it b) ρ = some (.nx, ρ') ∧ P ds.length ρ' := by
  obtain ⟨ρ', e, h2⟩ := for_inv (tg := tg) (tb := evSs G b) P ds 0 ρ1 h fun k d ρ hk hp => by
    rw [Nat.zero_add] at hp ⊢
    exact st k d ρ hk hp
  refine ⟨ρ', ?_, by rw [Nat.zero_add] at h2; exact h2⟩
  show ((evIt G it ρ).bind fun z => forLoop tg (evSs G b) z.1 z.2) = _
  rw [g]
  exact e
theorem whl_inv {tt : TT.Env → Option (Bool × TT.Env)} {tb : TT.Env → Option (Fl × TT.Env)} (P : Nat → TT.Env → Prop) (Q : TT.Env → Prop) (st : ∀ n ρ, P n ρ → ∃ ρ1, tt ρ = some (decide (0 < n), ρ1) ∧ (0 < n → ∃ ρ2, tb ρ1 = some (.nx, ρ2) ∧ P (n - 1) ρ2) ∧ (n = 0 → Q ρ1)) : ∀ (f n : Nat) (ρ : TT.Env), n < f → P n ρ → ∃ ρ', whlLoop tt tb f ρ = some (.nx, ρ') ∧ Q ρ'
  | 0, _, _, hf, _ => absurd hf (Nat.not_lt_zero _)
  | f + 1, n, ρ, hf, h => by
    obtain ⟨ρ1, e1, hs, hq⟩ := st n ρ h
    have un : whlLoop tt tb (f + 1) ρ = ((tt ρ).bind fun z => if z.1 then (tb z.2).bind fun w => (match w.1 with
      | .nx => whlLoop tt tb f w.2
      | .ct => whlLoop tt tb f w.2
      | .bk => some (.nx, w.2)
      | .rt x => some (.rt x, w.2)) else some (.nx, z.2)) := rfl
    rw [un, e1, Option.bind_some]
    rcases Nat.eq_zero_or_pos n with z | z
    · subst z
      exact ⟨ρ1, rfl, hq rfl⟩
    · obtain ⟨ρ2, e2, h2⟩ := hs z
      obtain ⟨ρ', e3, h3⟩ := whl_inv P Q st f (n - 1) ρ2 (by omega) h2
      refine ⟨ρ', ?_, h3⟩
      rw [if_pos (decide_eq_true z), e2]
      exact e3
theorem r_whl {t : T} {b : Ss} (P : Nat → TT.Env → Prop) (Q : TT.Env → Prop) {n : Nat} (hn : n < wfuel) (h : P n ρ) (st : ∀ n ρ, P n ρ → ∃ ρ1, evT G t ρ = some (decide (0 < n), ρ1) ∧ (0 < n → ∃ ρ2, evSs G b ρ1 = some (.nx, ρ2) ∧ P (n - 1) ρ2) ∧ (n = 0 → Q ρ1)) : ∃ ρ', evS G (.whl t b) ρ = some (.nx, ρ') ∧ Q ρ' :=
  whl_inv P Q st wfuel n ρ hn h
theorem comp_inv {tg : Tg} {vs : List Nat} {tt : TT.Env → Option (Bool × TT.Env)} {te : TT.Env → Option (X × TT.Env)} (P : TT.Env → Prop) (R : D → Prop) : ∀ (ds : List D) (ρ : TT.Env) (acc : List X), P ρ → acc.length + ds.length ≤ sizeLine → (∀ d ρ, d ∈ ds → P ρ → ∃ ρ1 ρ2 y ρ3, setTg tg d ρ = some ρ1 ∧ tt ρ1 = some (true, ρ2) ∧ te ρ2 = some (.d y, ρ3) ∧ R y ∧ P (wipeE ρ3 vs)) → ∃ (ys : List D) (ρ' : TT.Env), compLoop tg vs tt te ds ρ acc = some (acc ++ ys.map X.d, ρ') ∧ P ρ' ∧ (∀ y ∈ ys, R y) ∧ ys.length = ds.length
  | [], ρ, acc, h, _, _ => ⟨[], ρ, by simp [compLoop], h, (fun _ z => nomatch z), rfl⟩
  | d :: r, ρ, acc, h, hl, st => by
    obtain ⟨ρ1, ρ2, y, ρ3, e1, e2, e3, hy, h2⟩ := st d ρ List.mem_cons_self h
    rw [List.length_cons] at hl
    obtain ⟨ys, ρ', e4, h4, h5, h6⟩ := comp_inv P R r (wipeE ρ3 vs) (acc ++ [X.d y]) h2 (by rw [List.length_append]; simp; omega) fun d ρ hd hp => st d ρ (List.mem_cons_of_mem _ hd) hp
    refine ⟨y :: ys, ρ', ?_, h4, fun z hz => (List.mem_cons.mp hz).elim (fun e => e ▸ hy) (h5 z), by rw [List.length_cons, List.length_cons, h6]⟩
    show ((setTg tg d ρ).bind fun ρ1 => (tt ρ1).bind fun z => if z.1 then (te z.2).bind fun w => if acc.length < sizeLine then compLoop tg vs tt te r (wipeE w.2 vs) (acc ++ [w.1]) else none else compLoop tg vs tt te r (wipeE z.2 vs) acc) = _
    rw [e1, Option.bind_some, e2, Option.bind_some, if_pos rfl, e3, Option.bind_some, if_pos (by omega), e4]
    simp
theorem r_comp {own : List Nat} {tg : Tg} {it : It} {t : Option1} {e : E} {ds : List D} {xs : List X} (g : evIt G it ρ = some (ds, ρ1)) (hh : hidOk ρ1 own = true) (c : compLoop tg own (evO G t) (evE G e) ds (wipeE ρ1 own) [] = some (xs, ρ2)) : evE G (.comp own tg it t e) ρ = some (.lst xs, backE ρ1 ρ2 own) := by
  show ((evIt G it ρ).bind fun z => if hidOk z.2 own then (compLoop tg own (evO G t) (evE G e) z.1 (wipeE z.2 own) []).bind fun w => some (X.lst w.1, backE z.2 w.2 own) else none) = _
  rw [g, Option.bind_some, if_pos hh, c]
  rfl
theorem comp_fil {v : Nat} {t : Option1} {ρ0 : TT.Env} (f : D → Bool) : ∀ (ds : List D) (acc : List X), v < ρ0.length → acc.length + ds.length ≤ sizeLine → (∀ d ∈ ds, evO G t (ρ0.set v (some (.d d))) = some (f d, ρ0.set v (some (.d d)))) → compLoop (.n v) [v] (evO G t) (evE G (.rd v)) ds (ρ0.set v none) acc = some (acc ++ (ds.filter f).map X.d, ρ0.set v none)
  | [], acc, _, _, _ => by simp [compLoop]
  | d :: r, acc, hv, hl, st => by
    rw [List.length_cons] at hl
    have e0 : setTg (.n v) d (ρ0.set v none) = some (ρ0.set v (some (.d d))) := by
      show some ((ρ0.set v none).set v (some (X.d d))) = _
      rw [List.set_set]
    have e1 := st d List.mem_cons_self
    have e2 : evE G (.rd v) (ρ0.set v (some (.d d))) = some (.d d, ρ0.set v (some (.d d))) := by
      show (match ((ρ0.set v (some (X.d d)))[v]?).join with
        | some (.d x) => some (X.d x, ρ0.set v (some (X.d d)))
        | _ => none) = _
      rw [List.getElem?_set_self hv]
      rfl
    have e3 : wipeE (ρ0.set v (some (.d d))) [v] = ρ0.set v none := by
      show (ρ0.set v (some (X.d d))).set v none = _
      rw [List.set_set]
    show ((setTg (.n v) d (ρ0.set v none)).bind fun ρ1 => (evO G t ρ1).bind fun z => if z.1 then (evE G (.rd v) z.2).bind fun w => if acc.length < sizeLine then compLoop (.n v) [v] (evO G t) (evE G (.rd v)) r (wipeE w.2 [v]) (acc ++ [w.1]) else none else compLoop (.n v) [v] (evO G t) (evE G (.rd v)) r (wipeE z.2 [v]) acc) = _
    rw [e0, Option.bind_some, e1, Option.bind_some]
    have st' := fun d hd => st d (List.mem_cons_of_mem _ hd)
    cases hf : f d with
    | true =>
      rw [if_pos rfl, e2, Option.bind_some, if_pos (by omega)]
      show compLoop _ _ _ _ r (wipeE (ρ0.set v (some (.d d))) [v]) (acc ++ [X.d d]) = _
      rw [e3, comp_fil f r (acc ++ [X.d d]) hv (by rw [List.length_append]; simp; omega) st', List.filter_cons_of_pos hf]
      simp
    | false =>
      rw [if_neg (by simp)]
      show compLoop _ _ _ _ r (wipeE (ρ0.set v (some (.d d))) [v]) _ = _
      rw [e3, comp_fil f r acc hv (by omega) st', List.filter_cons_of_neg (by simp [hf])]
/-- [z for z in ds if f z]: the filter -/
theorem r_fil {v : Nat} {it : It} {t : Option1} {ds : List D} (f : D → Bool) (g : evIt G it ρ = some (ds, ρ1)) (hh : hidOk ρ1 [v] = true) (hl : ds.length ≤ sizeLine) (hv : v < ρ1.length) (st : ∀ d ∈ ds, evO G t (ρ1.set v (some (.d d))) = some (f d, ρ1.set v (some (.d d)))) : evE G (.comp [v] (.n v) it t (.rd v)) ρ = some (own1 (ds.filter f), ρ1) := by
  have c := comp_fil (G := G) (t := t) (ρ0 := ρ1) f ds [] hv (by simpa using hl) st
  rw [List.nil_append] at c
  refine (r_comp g hh (ρ2 := ρ1.set v none) c).trans ?_
  rw [show backE ρ1 (ρ1.set v none) [v] = backE ρ1 (wipeE ρ1 [v]) [v] from rfl, backE_wipe hh]
  rfl
end
/-! ### data without truth values -/
mutual
def plain : D → Bool
  | .int _ => true
  | .str _ => true
  | .list xs => plains xs
  | .tuple xs => plains xs
  | _ => false
def plains : List D → Bool
  | [] => true
  | x :: xs => plain x && plains xs
end
mutual
theorem eqv_plain : ∀ x y : D, plain x = true → plain y = true → (PyData.eqv x y = true ↔ x = y)
  | .int i, y, _, h2 => by cases y <;> simp_all [plain, PyData.eqv]
  | .str i, y, _, h2 => by cases y <;> simp_all [plain, PyData.eqv]
  | .list xs, y, h1, h2 => by
    cases y with
    | list ys =>
      rw [PyData.eqv, PyData.list.injEq]
      exact eqvs_plain xs ys (by simpa [plain] using h1) (by simpa [plain] using h2)
    | _ => simp_all [plain, PyData.eqv]
  | .tuple xs, y, h1, h2 => by
    cases y with
    | tuple ys =>
      rw [PyData.eqv, PyData.tuple.injEq]
      exact eqvs_plain xs ys (by simpa [plain] using h1) (by simpa [plain] using h2)
    | _ => simp_all [plain, PyData.eqv]
  | .none, y, h1, _ => by simp [plain] at h1
  | .bool _, y, h1, _ => by simp [plain] at h1
  | .dict _, y, h1, _ => by simp [plain] at h1
theorem eqvs_plain : ∀ xs ys : List D, plains xs = true → plains ys = true → (PyData.eqvAll xs ys = true ↔ xs = ys)
  | [], ys, _, _ => by cases ys <;> simp [PyData.eqvAll]
  | x :: xs, ys, h1, h2 => by
    cases ys with
    | nil => simp [PyData.eqvAll]
    | cons y ys =>
      simp only [plains, Bool.and_eq_true] at h1 h2
      rw [PyData.eqvAll, Bool.and_eq_true, eqv_plain x y h1.1 h2.1, eqvs_plain xs ys h1.2 h2.2, List.cons.injEq]
end
mutual
theorem toks_inj : ∀ (x y : D) (l m : List (Int ⊕ List Nat)), PySem.W.alike x y = true → PySem.W.keyToks x ++ l = PySem.W.keyToks y ++ m → PyData.eqv x y = true ∧ l = m
  | .none, y, l, m, h, e => by
    cases y <;> simp_all [PySem.W.alike, PySem.W.keyToks, PyData.eqv]
  | .bool a, y, l, m, h, e => by
    cases y with
    | bool b => cases a <;> cases b <;> simp_all [PySem.W.alike, PySem.W.keyToks, PyData.eqv]
    | _ => simp_all [PySem.W.alike]
  | .int a, y, l, m, h, e => by
    cases y <;> simp_all [PySem.W.alike, PySem.W.keyToks, PyData.eqv]
  | .str a, y, l, m, h, e => by
    cases y with
    | str b =>
      simp only [PySem.W.keyToks, List.cons_append, List.nil_append, List.cons.injEq, Sum.inr.injEq] at e
      rw [PySem.W.str_of_cps e.1]
      exact ⟨by simp [PyData.eqv], e.2⟩
    | _ => simp_all [PySem.W.alike]
  | .list xs, y, l, m, h, e => by
    cases y with
    | list ys =>
      simp only [PySem.W.keyToks, PySem.W.alike] at h e
      rw [PyData.eqv]
      exact tokss_inj xs ys l m h e
    | _ => simp_all [PySem.W.alike]
  | .tuple xs, y, l, m, h, e => by
    cases y with
    | tuple ys =>
      simp only [PySem.W.keyToks, PySem.W.alike] at h e
      rw [PyData.eqv]
      exact tokss_inj xs ys l m h e
    | _ => simp_all [PySem.W.alike]
  | .dict _, y, l, m, h, e => by simp [PySem.W.alike] at h
theorem tokss_inj : ∀ (xs ys : List D) (l m : List (Int ⊕ List Nat)), PySem.W.alikeAll xs ys = true → PySem.W.keyToksAll xs ++ l = PySem.W.keyToksAll ys ++ m → PyData.eqvAll xs ys = true ∧ l = m
  | [], ys, l, m, h, e => by
    cases ys <;> simp_all [PySem.W.keyToksAll, PyData.eqvAll]
  | x :: xs, ys, l, m, h, e => by
    cases ys with
    | nil => simp_all [PySem.W.keyToksAll, PyData.eqvAll]
    | cons y ys =>
      simp only [PySem.W.keyToksAll, PySem.W.alikeAll, Bool.and_eq_true, List.cons_append, List.append_assoc, List.cons.injEq, true_and] at h e
      obtain ⟨h1, h2⟩ := toks_inj x y _ _ h.1 e
      obtain ⟨h3, h4⟩ := tokss_inj xs ys _ _ h.2 h2
      rw [PyData.eqvAll, h1, h3]
      exact ⟨rfl, h4⟩
end
theorem cmpAll_inj : ∀ (xs ys : List D), xs.length = ys.length ∨ True → cmpAll xs ys = true → PySem.W.keyToksAll xs = PySem.W.keyToksAll ys → PyData.eqvAll xs ys = true
  | [], ys, _, h, e => by
    cases ys <;> simp_all [PySem.W.keyToksAll, PyData.eqvAll]
  | x :: xs, ys, _, h, e => by
    cases ys with
    | nil => simp_all [PySem.W.keyToksAll, PyData.eqvAll]
    | cons y ys =>
      simp only [PySem.W.keyToksAll, List.cons.injEq, true_and] at e
      simp only [cmpAll] at h
      rw [PyData.eqvAll]
      by_cases q : PyData.eqv x y = true
      · rw [if_pos q] at h
        rw [eqv_toks x y q] at e
        rw [q, cmpAll_inj xs ys (.inr trivial) h (List.append_cancel_left e)]
        rfl
      · rw [if_neg q] at h
        exact absurd (toks_inj x y _ _ h e).1 q
theorem cmpT_inj {x y : D} (h : cmpT x y = true) (hx : plain x = true) (hy : plain y = true) (e : PySem.W.keyToks x = PySem.W.keyToks y) : x = y := by
  obtain ⟨a, as, b, bs, rfl, rfl, h1, h2⟩ := cmpT_inv h
  refine (eqv_plain _ _ hx hy).mp ?_
  rw [PyData.eqv]
  simp only [PySem.W.keyToks] at e
  exact cmpAll_inj _ _ (.inr trivial) h2 e
end TT

/-! A25: a display holds only signs of texts. -/
namespace TT
open PySem PySem.Spec PyProof.Rows L2
/-- all signs are signs of texts -/
def Sg (l : List Nat) : Prop := ∀ c ∈ l, c < 0x110000
theorem strOk_sg {x : Str} : PyData.strOk x = true ↔ Sg x.cps.toList := by
  unfold PyData.strOk Sg
  rw [Array.all_eq_true_iff_forall_mem]
  simp
theorem char_lt (c : Char) : c.toNat < 0x110000 := by
  have h := c.valid
  show c.val.toNat < _
  simp only [UInt32.isValidChar, Nat.isValidChar] at h
  omega
theorem ofString_ok (s : String) : PyData.strOk (s : Str) = true := by
  rw [strOk_sg]
  intro c hc
  have hc : c ∈ (Str.ofString s).cps.toList := hc
  rw [Str.ofString_eq_toList] at hc
  simp only [List.mem_map] at hc
  obtain ⟨d, _, rfl⟩ := hc
  exact char_lt d
theorem app_ok {a b : Str} (h1 : PyData.strOk a = true) (h2 : PyData.strOk b = true) : PyData.strOk (a ++ b) = true := by
  have w1 : a.cps.all (· < 0x110000) = true := h1
  have w2 : b.cps.all (· < 0x110000) = true := h2
  show (a.cps ++ b.cps).all (· < 0x110000) = true
  simp only [Array.all_append, w1, w2, Bool.and_self]
theorem reprChar_sg {q c : Nat} (hc : c < 0x110000) : Sg (Builtin.Str.reprChar q c) := by
  have hx : ∀ w, Sg (List.replicate (w - ((Nat.toDigits 16 c).map Char.toNat).length) 48 ++ (Nat.toDigits 16 c).map Char.toNat) := fun w d hd => by
    rcases List.mem_append.mp hd with z | z
    · rw [List.eq_of_mem_replicate z]
      decide
    · obtain ⟨e, _, rfl⟩ := List.mem_map.mp z
      exact char_lt e
  have two : ∀ a b : Nat, a < 0x110000 → b < 0x110000 → Sg [a, b] := fun a b ha hb d hd => by
    rcases List.mem_cons.mp hd with rfl | hd
    · exact ha
    · rw [List.mem_singleton.mp hd]
      exact hb
  have app : ∀ {a b : List Nat}, Sg a → Sg b → Sg (a ++ b) := fun ha hb d hd => (List.mem_append.mp hd).elim (ha d) (hb d)
  unfold Builtin.Str.reprChar
  dsimp only
  repeat' split
  · exact two _ _ (by decide) hc
  · exact two _ _ (by decide) (by decide)
  · exact two _ _ (by decide) (by decide)
  · exact two _ _ (by decide) (by decide)
  · intro d hd
    rw [List.mem_singleton.mp hd]
    exact hc
  · exact app (two _ _ (by decide) (by decide)) (hx 2)
  · exact app (two _ _ (by decide) (by decide)) (hx 4)
  · exact app (two _ _ (by decide) (by decide)) (hx 8)
theorem fold_sg {q : Nat} : ∀ (l : List Nat) (acc : Array Nat), Sg l → Sg acc.toList → Sg (l.foldl (fun out c => out ++ (Builtin.Str.reprChar q c).toArray) acc).toList
  | [], acc, _, h => h
  | c :: l, acc, h1, h => by
    rw [List.foldl_cons]
    refine fold_sg l _ (fun d hd => h1 d (List.mem_cons_of_mem _ hd)) fun d hd => ?_
    rw [Array.toList_append] at hd
    rcases List.mem_append.mp hd with z | z
    · exact h d z
    · exact reprChar_sg (h1 c List.mem_cons_self) d z
theorem repr_ok {x : Str} (h : PyData.strOk x = true) : PyData.strOk (reprText x) = true := by
  have hq : reprQuote x < 0x110000 := by
    unfold reprQuote
    split <;> decide
  rw [strOk_sg] at h ⊢
  intro c hc
  have hc : c ∈ ((x.cps.foldl (fun out c => out ++ (Builtin.Str.reprChar (reprQuote x) c).toArray) #[reprQuote x]).push (reprQuote x)).toList := hc
  rw [Array.toList_push, ← Array.foldl_toList] at hc
  rcases List.mem_append.mp hc with z | z
  · refine fold_sg x.cps.toList #[reprQuote x] h (fun d hd => ?_) c z
    have hd : d ∈ [reprQuote x] := hd
    rw [List.mem_singleton.mp hd]
    exact hq
  · rw [List.mem_singleton.mp z]
    exact hq
theorem textFrom_ok : ∀ (ts : List Str) (k : Nat) (acc : Str), (∀ t ∈ ts, PyData.strOk t = true) → PyData.strOk acc = true → PyData.strOk (textFrom k acc ts) = true
  | [], _, _, _, h => h
  | t :: r, k, acc, ht, h => textFrom_ok r (k + 1) _ (fun u hu => ht u (List.mem_cons_of_mem _ hu)) (app_ok (app_ok h (ofString_ok _)) (ht t List.mem_cons_self))
theorem join_ok {sep : Str} (hs : PyData.strOk sep = true) : ∀ (ts : List Str), (∀ t ∈ ts, PyData.strOk t = true) → PyData.strOk (Str.join sep ts) = true
  | [], _ => by rw [Str.join, strOk_sg]; intro c hc; exact absurd hc (by simp [Str.empty])
  | [x], h => h x List.mem_cons_self
  | x :: y :: r, h => app_ok (app_ok (h x List.mem_cons_self) hs) (join_ok hs (y :: r) fun t ht => h t (List.mem_cons_of_mem _ ht))
mutual
def sOk : D → Bool
  | .str x => PyData.strOk x
  | .list xs => sOks xs
  | .tuple xs => sOks xs
  | .dict kvs => sOkv kvs
  | _ => true
def sOks : List D → Bool
  | [] => true
  | x :: xs => sOk x && sOks xs
def sOkv : List (D × D) → Bool
  | [] => true
  | (k, v) :: r => sOk k && sOk v && sOkv r
end
mutual
theorem shown_ok : ∀ d : D, sOk d = true → PyData.strOk d.shown = true
  | .none, _ => by rw [PyData.shown]; exact ofString_ok _
  | .bool b, _ => by rw [PyData.shown]; split <;> exact ofString_ok _
  | .int i, _ => by rw [PyData.shown]; exact ofString_ok _
  | .str x, h => by rw [PyData.shown]; exact repr_ok (by simpa [sOk] using h)
  | .list xs, h => by
    rw [PyData.shown]
    exact app_ok (textFrom_ok _ _ _ (showns_ok xs (by simpa [sOk] using h)) (ofString_ok _)) (ofString_ok _)
  | .tuple xs, h => by
    rw [PyData.shown]
    exact app_ok (app_ok (ofString_ok _) (join_ok (ofString_ok _) _ (showns_ok xs (by simpa [sOk] using h)))) (ofString_ok _)
  | .dict kvs, h => by
    rw [PyData.shown]
    exact app_ok (app_ok (ofString_ok _) (join_ok (ofString_ok _) _ (shownv_ok kvs (by simpa [sOk] using h)))) (ofString_ok _)
theorem showns_ok : ∀ xs : List D, sOks xs = true → ∀ t ∈ PyData.shownAll xs, PyData.strOk t = true
  | [], _, t, ht => by simp [PyData.shownAll] at ht
  | x :: xs, h, t, ht => by
    simp only [sOks, Bool.and_eq_true] at h
    simp only [PyData.shownAll, List.mem_cons] at ht
    rcases ht with rfl | ht
    · exact shown_ok x h.1
    · exact showns_ok xs h.2 t ht
theorem shownv_ok : ∀ kvs : List (D × D), sOkv kvs = true → ∀ t ∈ PyData.shownKv kvs, PyData.strOk t = true
  | [], _, t, ht => by simp [PyData.shownKv] at ht
  | (k, v) :: r, h, t, ht => by
    simp only [sOkv, Bool.and_eq_true] at h
    simp only [PyData.shownKv, List.mem_cons] at ht
    rcases ht with rfl | ht
    · exact app_ok (app_ok (shown_ok k h.1.1) (ofString_ok _)) (shown_ok v h.1.2)
    · exact shownv_ok r h.2 t ht
end
mutual
theorem sOk_lay : ∀ d : D, d.canLay0 = true → sOk d = true
  | .none, _ => rfl
  | .bool _, _ => rfl
  | .int _, _ => rfl
  | .str x, h => by simpa [sOk, PyData.canLay0] using h
  | .list xs, h => by rw [sOk]; exact sOks_lay xs (by simpa [PyData.canLay0] using h)
  | .tuple xs, h => by rw [sOk]; exact sOks_lay xs (by simpa [PyData.canLay0] using h)
  | .dict _, h => by simp [PyData.canLay0] at h
theorem sOks_lay : ∀ xs : List D, PyData.canLayAll0 xs = true → sOks xs = true
  | [], _ => rfl
  | x :: xs, h => by
    simp only [PyData.canLayAll0, Bool.and_eq_true] at h
    rw [sOks, sOk_lay x h.1, sOks_lay xs h.2]
    rfl
end
theorem q_eqshown {d e : D} (h : sOk d = true) (h2 : sOk e = true) : opF .eq [.str d.shown, .str e.shown] = some (.d (.bool (d.shown == e.shown))) := q_eq (shp_str (shown_ok d h)) (shp_str (shown_ok e h2))
theorem q_neshown {d e : D} (h : sOk d = true) (h2 : sOk e = true) : opF .ne [.str d.shown, .str e.shown] = some (.d (.bool (!(d.shown == e.shown)))) := q_nes (shown_ok d h) (shown_ok e h2)
end TT

set_option maxHeartbeats 0
namespace T_70
open PySem PySem.Spec PyProof.Rows L2 TT
/-! ### the text -/
def top (i : Nat) : Stmt := PySem.Challenge.pw_claimshold_k70_letters.main.body.getD i (.Pass ⟨0, 0, 0, 0⟩)
/-! ### the tables -/
def body0 : Ss := (.cons (.set 2 (.lst .nil))
 (.cons (.for_ (.n 3) (.l (.op .sortset (.cons (.e (.op .add (.cons (.e (.op .list1 (.cons (.e (.rd 0)) .nil))) (.cons (.e (.op .list1 (.cons (.e (.rd 1)) .nil))) .nil)))) .nil))) (.cons (.set 4 (.op .get2 (.cons (.e (.rd 0)) (.cons (.e (.rd 3)) (.cons (.e (.frz (.lst .nil))) .nil)))))
 (.cons (.set 5 (.op .get2 (.cons (.e (.rd 1)) (.cons (.e (.rd 3)) (.cons (.e (.frz (.lst .nil))) .nil)))))
 (.cons (.set 6 (.comp [7] (.n 7) (.l (.rd 4)) (.yes (.op .nin (.cons (.e (.rd 7)) (.cons (.e (.rd 5)) .nil)))) (.rd 7)))
 (.cons (.set 8 (.comp [7] (.n 7) (.l (.rd 5)) (.yes (.op .nin (.cons (.e (.rd 7)) (.cons (.e (.rd 4)) .nil)))) (.rd 7)))
 (.cons (.iff (.op .gt (.cons (.e (.op .add (.cons (.e (.op .len (.cons (.p ⟨6, []⟩) .nil))) (.cons (.e (.op .len (.cons (.p ⟨8, []⟩) .nil))) .nil)))) (.cons (.e (.c (.int 0))) .nil))) (.cons (.app ⟨2, []⟩ (.tup (.cons (.e (.rd 3)) (.cons (.e (.mv 6)) (.cons (.e (.mv 8)) .nil)))))
 .nil) .nil)
 .nil))))))
 (.cons (.ret (.mv 2))
 .nil)))
def d0 : DefT := ⟨"letters", 2, ["before", "after", "told", "person", "old", "new", "gone", "line", "come"], [], body0⟩
def body1 : Ss := (.cons (.ret (.op .sorted1 (.cons (.e (.op .add (.cons (.e (.comp [2] (.n 2) (.l (.rd 0)) (.yes (.op .nin (.cons (.e (.rd 2)) (.cons (.e (.op .ix (.cons (.e (.rd 1)) (.cons (.e (.c (.int 1))) .nil)))) .nil)))) (.rd 2))) (.cons (.e (.op .ix (.cons (.e (.rd 1)) (.cons (.e (.c (.int 2))) .nil)))) .nil)))) .nil)))
 .nil)
def d1 : DefT := ⟨"rebuilt", 2, ["lines", "letter", "line"], [], body1⟩
def body2 : Ss := (.cons (.iff (.op .eq (.cons (.e (.op .ix (.cons (.p ⟨0, []⟩) (.cons (.e (.c (.int 1))) .nil)))) (.cons (.e (.c (.int 0))) .nil))) (.cons (.set 3 (.c (.int 0)))
 (.cons (.iff (.op .gt (.cons (.e (.op .len (.cons (.e (.rd 1)) .nil))) (.cons (.e (.c (.int 0))) .nil))) (.cons (.set 3 (.op .ix (.cons (.e (.rd 1)) (.cons (.e (.op .mod (.cons (.e (.op .ix (.cons (.p ⟨0, []⟩) (.cons (.e (.c (.int 0))) .nil)))) (.cons (.e (.op .len (.cons (.e (.rd 1)) .nil))) .nil)))) .nil))))
 .nil) .nil)
 (.cons (.iff (.op .lt (.cons (.e (.rd 3)) (.cons (.e (.c (.int 0))) .nil))) (.cons (.set 3 (.op .sub (.cons (.e (.c (.int 1))) (.cons (.e (.op .mul (.cons (.e (.c (.int 2))) (.cons (.e (.rd 3)) .nil)))) .nil))))
 .nil) .nil)
 (.cons (.set 4 (.op .mod (.cons (.e (.op .int1 (.cons (.e (.op .mul (.cons (.e (.op .add (.cons (.e (.op .add (.cons (.e (.rd 3)) (.cons (.e (.op .mul (.cons (.e (.op .ix (.cons (.p ⟨0, []⟩) (.cons (.e (.c (.int 0))) .nil)))) (.cons (.e (.c (.int 7919))) .nil)))) .nil)))) (.cons (.e (.c (.int 1))) .nil)))) (.cons (.e (.c (.int 48271))) .nil)))) .nil))) (.cons (.e (.c (.int 2147483647))) .nil))))
 (.cons (.seti ⟨0, []⟩ (.c (.int 1)) (.op .mod (.cons (.e (.op .int1 (.cons (.e (.op .add (.cons (.e (.op .mul (.cons (.e (.rd 4)) (.cons (.e (.c (.int 69621))) .nil)))) (.cons (.e (.op .mul (.cons (.e (.op .ix (.cons (.p ⟨0, []⟩) (.cons (.e (.c (.int 0))) .nil)))) (.cons (.e (.c (.int 104729))) .nil)))) .nil)))) .nil))) (.cons (.e (.c (.int 4294967291))) .nil))))
 (.cons (.iff (.and_ (.op .ge (.cons (.e (.rd 3)) (.cons (.e (.op .pow (.cons (.e (.c (.int 10))) (.cons (.e (.c (.int 18))) .nil)))) .nil))) (.op .lt (.cons (.e (.op .ix (.cons (.p ⟨0, []⟩) (.cons (.e (.c (.int 0))) .nil)))) (.cons (.e (.op .len (.cons (.e (.rd 1)) .nil))) .nil)))) (.cons (.seti ⟨0, []⟩ (.c (.int 1)) (.rd 3))
 .nil) .nil)
 (.cons (.seti ⟨0, []⟩ (.c (.int 0)) (.frz (.op .add (.cons (.e (.op .ix (.cons (.p ⟨0, []⟩) (.cons (.e (.c (.int 0))) .nil)))) (.cons (.e (.c (.int 1))) .nil)))))
 .nil))))))) .nil)
 (.cons (.set 5 (.op .mod (.cons (.e (.op .int1 (.cons (.e (.op .ix (.cons (.p ⟨0, []⟩) (.cons (.e (.c (.int 1))) .nil)))) .nil))) (.cons (.e (.rd 2)) .nil))))
 (.cons (.seti ⟨0, []⟩ (.c (.int 1)) (.op .fdiv (.cons (.e (.op .ix (.cons (.p ⟨0, []⟩) (.cons (.e (.c (.int 1))) .nil)))) (.cons (.e (.rd 2)) .nil))))
 (.cons (.ret (.rd 5))
 .nil))))
def d2 : DefT := ⟨"_law_draw", 3, ["state", "script", "size", "cell", "mixed", "digit"], [0], body2⟩
def body3 : Ss := (.cons (.ret (.op .ix (.cons (.e (.rd 2)) (.cons (.e (.call 2 [0] (.cons (.p ⟨0, []⟩) (.cons (.e (.rd 1)) (.cons (.e (.op .len (.cons (.e (.rd 2)) .nil))) .nil))))) .nil))))
 .nil)
def d3 : DefT := ⟨"_law_pick", 3, ["state", "script", "items"], [0], body3⟩
def body4 : Ss := (.cons (.set 3 (.c (.str "abcdefghijklmnopqrstuvwxyz0123456789")))
 (.cons (.set 4 (.op .ix (.cons (.e (.rd 3)) (.cons (.e (.call 2 [0] (.cons (.p ⟨0, []⟩) (.cons (.e (.rd 1)) (.cons (.e (.c (.int 26))) .nil))))) .nil))))
 (.cons (.for_ (.n 5) (.r1 (.op .ix (.cons (.e (.lst (.cons (.e (.c (.int 0))) (.cons (.e (.c (.int 1))) (.cons (.e (.c (.int 2))) (.cons (.e (.c (.int 9))) .nil)))))) (.cons (.e (.call 2 [0] (.cons (.p ⟨0, []⟩) (.cons (.e (.rd 1)) (.cons (.e (.c (.int 4))) .nil))))) .nil)))) (.cons (.set 4 (.frz (.op .add (.cons (.e (.rd 4)) (.cons (.e (.op .ix (.cons (.e (.rd 3)) (.cons (.e (.call 2 [0] (.cons (.p ⟨0, []⟩) (.cons (.e (.rd 1)) (.cons (.e (.c (.int 36))) .nil))))) .nil)))) .nil)))))
 .nil))
 (.cons (.ret (.op .add (.cons (.e (.rd 4)) (.cons (.e (.op .str1 (.cons (.e (.op .add (.cons (.e (.c (.int 10))) (.cons (.e (.rd 2)) .nil)))) .nil))) .nil))))
 .nil))))
def d4 : DefT := ⟨"_law_name", 3, ["state", "script", "at", "signs", "name", "_"], [0], body4⟩
def body5 : Ss := (.cons (.set 3 (.lst .nil))
 (.cons (.for_ (.n 4) (.r1 (.rd 2)) (.cons (.app ⟨3, []⟩ (.frz (.call 4 [0] (.cons (.p ⟨0, []⟩) (.cons (.e (.rd 1)) (.cons (.e (.rd 4)) .nil))))))
 .nil))
 (.cons (.ret (.mv 3))
 .nil)))
def d5 : DefT := ⟨"_law_names", 3, ["state", "script", "many", "names", "at"], [0], body5⟩
def body6 : Ss := (.cons (.set 3 (.frz (.call 3 [0] (.cons (.p ⟨0, []⟩) (.cons (.e (.rd 1)) (.cons (.e (.rd 2)) .nil))))))
 (.cons (.set 4 (.frz (.call 3 [0] (.cons (.p ⟨0, []⟩) (.cons (.e (.rd 1)) (.cons (.e (.rd 2)) .nil))))))
 (.cons (.set 5 (.frz (.call 2 [0] (.cons (.p ⟨0, []⟩) (.cons (.e (.rd 1)) (.cons (.e (.c (.int 3))) .nil))))))
 (.cons (.set 6 (.frz (.lst (.cons (.e (.frz (.tup (.cons (.e (.c (.str "doc"))) (.cons (.e (.rd 3)) (.cons (.e (.rd 5)) (.cons (.e (.rd 4)) .nil))))))) (.cons (.e (.frz (.tup (.cons (.e (.c (.str "field"))) (.cons (.e (.rd 3)) (.cons (.e (.rd 4)) .nil)))))) (.cons (.e (.frz (.tup (.cons (.e (.c (.str "published"))) (.cons (.e (.rd 3)) (.cons (.e (.rd 5)) .nil)))))) (.cons (.e (.frz (.tup (.cons (.e (.c (.str "thing"))) (.cons (.e (.rd 3)) (.cons (.e (.rd 5)) (.cons (.e (.frz (.op (.sl false true) (.cons (.e (.tup (.cons (.e (.rd 4)) .nil))) (.cons (.e (.rd 5)) .nil))))) (.cons (.e (.frz (.op (.sl false true) (.cons (.e (.tup (.cons (.e (.frz (.tup (.cons (.e (.rd 4)) (.cons (.e (.c (.int 5))) (.cons (.e (.c (.int 7))) .nil)))))) .nil))) (.cons (.e (.rd 5)) .nil))))) .nil)))))))) (.cons (.e (.frz (.tup (.cons (.e (.c (.str "cites"))) (.cons (.e (.rd 4)) (.cons (.e (.rd 3)) .nil)))))) .nil))))))))
 (.cons (.ret (.call 3 [0] (.cons (.p ⟨0, []⟩) (.cons (.e (.rd 1)) (.cons (.e (.frz (.op .add (.cons (.e (.rd 6)) (.cons (.e (.lst (.cons (.e (.frz (.tup (.cons (.e (.c (.str "transfer"))) (.cons (.e (.rd 3)) (.cons (.e (.rd 4)) (.cons (.e (.c (.str "ann"))) (.cons (.e (.c (.int 1000))) (.cons (.e (.rd 5)) .nil))))))))) (.cons (.e (.frz (.tup (.cons (.e (.c (.str "licence"))) (.cons (.e (.rd 3)) (.cons (.e (.rd 4)) (.cons (.e (.c (.str "bob"))) (.cons (.e (.rd 5)) .nil)))))))) (.cons (.e (.frz (.tup (.cons (.e (.c (.str "drop"))) (.cons (.e (.rd 3)) (.cons (.e (.rd 4)) (.cons (.e (.rd 5)) .nil))))))) .nil))))) .nil))))) .nil)))))
 .nil)))))
def d6 : DefT := ⟨"_law_line", 3, ["state", "script", "names", "p", "x", "k", "lines"], [0], body6⟩
def body7 : Ss := (.cons (.set 4 (.lst .nil))
 (.cons (.set 5 (.frz (.call 2 [0] (.cons (.p ⟨0, []⟩) (.cons (.e (.rd 1)) (.cons (.e (.c (.int 3))) .nil))))))
 (.cons (.for_ (.n 6) (.l (.rd 3)) (.cons (.iff (.or_ (.op .gt (.cons (.e (.rd 5)) (.cons (.e (.c (.int 0))) .nil))) (.op .eq (.cons (.e (.call 2 [0] (.cons (.p ⟨0, []⟩) (.cons (.e (.rd 1)) (.cons (.e (.c (.int 2))) .nil))))) (.cons (.e (.c (.int 0))) .nil)))) (.cons (.app ⟨4, []⟩ (.rd 6))
 .nil) .nil)
 .nil))
 (.cons (.iff (.op .lt (.cons (.e (.rd 5)) (.cons (.e (.c (.int 2))) .nil))) (.cons (.for_ (.n 7) (.r1 (.call 2 [0] (.cons (.p ⟨0, []⟩) (.cons (.e (.rd 1)) (.cons (.e (.c (.int 4))) .nil))))) (.cons (.set 6 (.frz (.call 6 [0] (.cons (.p ⟨0, []⟩) (.cons (.e (.rd 1)) (.cons (.e (.rd 2)) .nil))))))
 (.cons (.iff (.op .nin (.cons (.e (.rd 6)) (.cons (.p ⟨4, []⟩) .nil))) (.cons (.app ⟨4, []⟩ (.rd 6))
 .nil) .nil)
 .nil)))
 .nil) .nil)
 (.cons (.ret (.op .sorted1 (.cons (.p ⟨4, []⟩) .nil)))
 .nil)))))
def d7 : DefT := ⟨"_law_turned", 4, ["state", "script", "names", "lines", "found", "keep", "line", "_"], [0], body7⟩
def body8 : Ss := (.cons (.set 2 (.lst .nil))
 (.cons (.for_ (.n 3) (.l (.op .sorted1 (.cons (.e (.op .add (.cons (.e (.op .list1 (.cons (.e (.rd 0)) .nil))) (.cons (.e (.comp [3] (.n 3) (.keys (.rd 1)) (.yes (.op .nin (.cons (.e (.rd 3)) (.cons (.e (.rd 0)) .nil)))) (.rd 3))) .nil)))) .nil))) (.cons (.set 4 (.op .get2 (.cons (.e (.rd 0)) (.cons (.e (.rd 3)) (.cons (.e (.frz (.lst .nil))) .nil)))))
 (.cons (.set 5 (.op .get2 (.cons (.e (.rd 1)) (.cons (.e (.rd 3)) (.cons (.e (.frz (.lst .nil))) .nil)))))
 (.cons (.set 6 (.comp [7] (.n 7) (.l (.rd 4)) (.yes (.op .nin (.cons (.e (.rd 7)) (.cons (.e (.rd 5)) .nil)))) (.rd 7)))
 (.cons (.set 8 (.comp [7] (.n 7) (.l (.rd 5)) (.yes (.op .nin (.cons (.e (.rd 7)) (.cons (.e (.rd 4)) .nil)))) (.rd 7)))
 (.cons (.iff (.or_ (.op .ne (.cons (.p ⟨6, []⟩) (.cons (.e (.lst .nil)) .nil))) (.op .ne (.cons (.p ⟨8, []⟩) (.cons (.e (.lst .nil)) .nil)))) (.cons (.app ⟨2, []⟩ (.frz (.tup (.cons (.e (.rd 3)) (.cons (.e (.rf 6)) (.cons (.e (.rf 8)) .nil))))))
 .nil) .nil)
 .nil))))))
 (.cons (.ret (.mv 2))
 .nil)))
def d8 : DefT := ⟨"_law_letters", 2, ["before", "after", "due", "x", "old", "new", "gone", "line", "come"], [], body8⟩
def body9 : Ss := (.cons (.set 3 (.frz (.call 7 [0] (.cons (.p ⟨0, []⟩) (.cons (.e (.rd 1)) (.cons (.e (.rd 2)) (.cons (.e (.frz (.lst .nil))) .nil)))))))
 (.cons (.set 4 (.comp [5] (.n 5) (.r1 (.call 2 [0] (.cons (.p ⟨0, []⟩) (.cons (.e (.rd 1)) (.cons (.e (.c (.int 3))) .nil))))) .no (.frz (.call 6 [0] (.cons (.p ⟨0, []⟩) (.cons (.e (.rd 1)) (.cons (.e (.rd 2)) .nil)))))))
 (.cons (.set 6 (.comp [5] (.n 5) (.r1 (.call 2 [0] (.cons (.p ⟨0, []⟩) (.cons (.e (.rd 1)) (.cons (.e (.c (.int 3))) .nil))))) .no (.frz (.call 6 [0] (.cons (.p ⟨0, []⟩) (.cons (.e (.rd 1)) (.cons (.e (.rd 2)) .nil)))))))
 (.cons (.set 7 (.frz (.op .sorted1 (.cons (.e (.op .add (.cons (.e (.comp [8] (.n 8) (.l (.rd 3)) (.yes (.op .nin (.cons (.e (.rd 8)) (.cons (.p ⟨4, []⟩) .nil)))) (.rd 8))) (.cons (.p ⟨6, []⟩) .nil)))) .nil))))
 (.cons (.ret (.op .eq (.cons (.e (.reprF (.e (.call 1 [] (.cons (.e (.frz (.op .list1 (.cons (.e (.rd 3)) .nil)))) (.cons (.e (.frz (.tup (.cons (.e (.c (.str "ann"))) (.cons (.e (.frz (.op .list1 (.cons (.p ⟨4, []⟩) .nil)))) (.cons (.e (.frz (.op .list1 (.cons (.p ⟨6, []⟩) .nil)))) .nil)))))) .nil)))))) (.cons (.e (.reprF (.e (.rd 7)))) .nil))))
 .nil)))))
def d9 : DefT := ⟨"_law_any", 3, ["state", "script", "names", "lines", "gone", "_", "new", "due", "line"], [0], body9⟩
def body10 : Ss := (.cons (.set 1 (.lst (.cons (.e (.c (.int 0))) (.cons (.e (.c (.int 0))) .nil))))
 (.cons (.set 2 (.frz (.call 5 [0] (.cons (.p ⟨1, []⟩) (.cons (.e (.rd 0)) (.cons (.e (.c (.int 3))) .nil))))))
 (.cons (.set 3 (.frz (.call 5 [0] (.cons (.p ⟨1, []⟩) (.cons (.e (.rd 0)) (.cons (.e (.c (.int 5))) .nil))))))
 (.cons (.set 4 (.frz (.dic false .nil)))
 (.cons (.for_ (.n 5) (.r1 (.op .add (.cons (.e (.c (.int 1))) (.cons (.e (.call 2 [0] (.cons (.p ⟨1, []⟩) (.cons (.e (.rd 0)) (.cons (.e (.c (.int 5))) .nil))))) .nil)))) (.cons (.set 6 (.dic false .nil))
 (.cons (.set 7 (.op .list1 (.cons (.e (.rd 3)) .nil)))
 (.cons (.whl (.op .gt (.cons (.e (.op .len (.cons (.p ⟨7, []⟩) .nil))) (.cons (.e (.c (.int 0))) .nil))) (.cons (.set 8 (.frz (.pop ⟨7, []⟩ (.cons (.e (.call 2 [0] (.cons (.p ⟨1, []⟩) (.cons (.e (.rd 0)) (.cons (.e (.op .len (.cons (.p ⟨7, []⟩) .nil))) .nil))))) .nil))))
 (.cons (.iff (.op .gt (.cons (.e (.call 2 [0] (.cons (.p ⟨1, []⟩) (.cons (.e (.rd 0)) (.cons (.e (.c (.int 5))) .nil))))) (.cons (.e (.c (.int 0))) .nil))) (.cons (.seti ⟨6, []⟩ (.rd 8) (.frz (.call 7 [0] (.cons (.p ⟨1, []⟩) (.cons (.e (.rd 0)) (.cons (.e (.rd 2)) (.cons (.e (.op .get2 (.cons (.e (.rd 4)) (.cons (.e (.rd 8)) (.cons (.e (.frz (.lst .nil))) .nil))))) .nil)))))))
 .nil) .nil)
 .nil)))
 (.cons (.set 9 (.frz (.call 8 [] (.cons (.e (.rd 4)) (.cons (.e (.rf 6)) .nil)))))
 (.cons (.set 10 (.reprF (.e (.lst (.cons (.e (.rd 4)) (.cons (.e (.rf 6)) .nil))))))
 (.cons (.set 11 (.call 0 [] (.cons (.e (.rd 4)) (.cons (.e (.rf 6)) .nil))))
 (.cons (.iff (.or_ (.op .ne (.cons (.e (.reprF (.p ⟨11, []⟩))) (.cons (.e (.reprF (.e (.rd 9)))) .nil))) (.or_ (.op .ne (.cons (.e (.reprF (.e (.lst (.cons (.e (.rd 4)) (.cons (.e (.rf 6)) .nil)))))) (.cons (.e (.rd 10)) .nil))) (.not_ (.tr (.e (.call 9 [0] (.cons (.p ⟨1, []⟩) (.cons (.e (.rd 0)) (.cons (.e (.rd 2)) .nil))))))))) (.cons (.ret (.c (.bool false)))
 .nil) .nil)
 (.cons (.for_ (.n 12) (.l (.rd 9)) (.cons (.set 13 (.op .get2 (.cons (.e (.rd 4)) (.cons (.e (.op .ix (.cons (.e (.rd 12)) (.cons (.e (.c (.int 0))) .nil)))) (.cons (.e (.frz (.lst .nil))) .nil)))))
 (.cons (.set 14 (.frz (.call 1 [] (.cons (.e (.rd 13)) (.cons (.e (.frz (.tup (.cons (.e (.op .ix (.cons (.e (.rd 12)) (.cons (.e (.c (.int 0))) .nil)))) (.cons (.e (.frz (.op .list1 (.cons (.e (.op .ix (.cons (.e (.rd 12)) (.cons (.e (.c (.int 1))) .nil)))) .nil)))) (.cons (.e (.frz (.op .list1 (.cons (.e (.op .ix (.cons (.e (.rd 12)) (.cons (.e (.c (.int 2))) .nil)))) .nil)))) .nil)))))) .nil)))))
 (.cons (.iff (.or_ (.op .ne (.cons (.e (.reprF (.e (.rd 14)))) (.cons (.e (.reprF (.e (.op .get2 (.cons (.e (.rf 6)) (.cons (.e (.op .ix (.cons (.e (.rd 12)) (.cons (.e (.c (.int 0))) .nil)))) (.cons (.e (.frz (.lst .nil))) .nil))))))) .nil))) (.op .ne (.cons (.e (.reprF (.e (.lst (.cons (.e (.rd 4)) (.cons (.e (.rf 6)) .nil)))))) (.cons (.e (.rd 10)) .nil)))) (.cons (.ret (.c (.bool false)))
 .nil) .nil)
 .nil))))
 (.cons (.zap 11 12)
 (.cons (.iff (.op .ne (.cons (.e (.reprF (.e (.call 0 [] (.cons (.e (.rd 4)) (.cons (.e (.rf 6)) .nil)))))) (.cons (.e (.reprF (.e (.rd 9)))) .nil))) (.cons (.ret (.c (.bool false)))
 .nil) .nil)
 (.cons (.set 4 (.rf 6))
 .nil))))))))))))
 (.cons (.ret (.c (.bool true)))
 .nil))))))
def d10 : DefT := ⟨"law", 1, ["script", "state", "names", "persons", "before", "_", "after", "left", "x", "due", "kept", "told", "letter", "lines", "again"], [], body10⟩
def tab : Nat → Option DefT
  | 0 => some d0
  | 1 => some d1
  | 2 => some d2
  | 3 => some d3
  | 4 => some d4
  | 5 => some d5
  | 6 => some d6
  | 7 => some d7
  | 8 => some d8
  | 9 => some d9
  | 10 => some d10
  | _ => none
/-! ### what the head tells -/
structure Fx (K : PySem.W.Frag) (mg : Str → Option Value) where
  a0 : Addr
  f0 : FuncData
  h0 : FunD K "letters" "letters" (defArgs (top 1)) (defBody (top 1)) (defScope (top 1)) [] [] a0 f0
  g0 : mg "letters" = some (.ref a0)
  k0 : PySem.W.keepIn K (.ref a0) = true
  b0 : Binds K f0 ["before", "after"] []
  a1 : Addr
  f1 : FuncData
  h1 : FunD K "rebuilt" "rebuilt" (defArgs (top 2)) (defBody (top 2)) (defScope (top 2)) [] [] a1 f1
  g1 : mg "rebuilt" = some (.ref a1)
  k1 : PySem.W.keepIn K (.ref a1) = true
  b1 : Binds K f1 ["lines", "letter"] []
  a2 : Addr
  f2 : FuncData
  h2 : FunD K "_law_draw" "_law_draw" (defArgs (top 4)) (defBody (top 4)) (defScope (top 4)) [] [] a2 f2
  g2 : mg "_law_draw" = some (.ref a2)
  k2 : PySem.W.keepIn K (.ref a2) = true
  b2 : Binds K f2 ["state", "script", "size"] []
  a3 : Addr
  f3 : FuncData
  h3 : FunD K "_law_pick" "_law_pick" (defArgs (top 5)) (defBody (top 5)) (defScope (top 5)) [] [] a3 f3
  g3 : mg "_law_pick" = some (.ref a3)
  k3 : PySem.W.keepIn K (.ref a3) = true
  b3 : Binds K f3 ["state", "script", "items"] []
  a4 : Addr
  f4 : FuncData
  h4 : FunD K "_law_name" "_law_name" (defArgs (top 6)) (defBody (top 6)) (defScope (top 6)) [] [] a4 f4
  g4 : mg "_law_name" = some (.ref a4)
  k4 : PySem.W.keepIn K (.ref a4) = true
  b4 : Binds K f4 ["state", "script", "at"] []
  a5 : Addr
  f5 : FuncData
  h5 : FunD K "_law_names" "_law_names" (defArgs (top 7)) (defBody (top 7)) (defScope (top 7)) [] [] a5 f5
  g5 : mg "_law_names" = some (.ref a5)
  k5 : PySem.W.keepIn K (.ref a5) = true
  b5 : Binds K f5 ["state", "script", "many"] []
  a6 : Addr
  f6 : FuncData
  h6 : FunD K "_law_line" "_law_line" (defArgs (top 9)) (defBody (top 9)) (defScope (top 9)) [] [] a6 f6
  g6 : mg "_law_line" = some (.ref a6)
  k6 : PySem.W.keepIn K (.ref a6) = true
  b6 : Binds K f6 ["state", "script", "names"] []
  a7 : Addr
  f7 : FuncData
  h7 : FunD K "_law_turned" "_law_turned" (defArgs (top 10)) (defBody (top 10)) (defScope (top 10)) [] [] a7 f7
  g7 : mg "_law_turned" = some (.ref a7)
  k7 : PySem.W.keepIn K (.ref a7) = true
  b7 : Binds K f7 ["state", "script", "names", "lines"] []
  a8 : Addr
  f8 : FuncData
  h8 : FunD K "_law_letters" "_law_letters" (defArgs (top 11)) (defBody (top 11)) (defScope (top 11)) [] [] a8 f8
  g8 : mg "_law_letters" = some (.ref a8)
  k8 : PySem.W.keepIn K (.ref a8) = true
  b8 : Binds K f8 ["before", "after"] []
  a9 : Addr
  f9 : FuncData
  h9 : FunD K "_law_any" "_law_any" (defArgs (top 12)) (defBody (top 12)) (defScope (top 12)) [] [] a9 f9
  g9 : mg "_law_any" = some (.ref a9)
  k9 : PySem.W.keepIn K (.ref a9) = true
  b9 : Binds K f9 ["state", "script", "names"] []
  a10 : Addr
  f10 : FuncData
  h10 : FunD K "law" "law" (defArgs (top 13)) (defBody (top 13)) (defScope (top 13)) [] [] a10 f10
  g10 : mg "law" = some (.ref a10)
  k10 : PySem.W.keepIn K (.ref a10) = true
  b10 : Binds K f10 ["script"] []
  m_int : mg "int" = none
  m_len : mg "len" = none
  m_list : mg "list" = none
  m_range : mg "range" = none
  m_repr : mg "repr" = none
  m_set : mg "set" = none
  m_sorted : mg "sorted" = none
  m_str : mg "str" = none
/-! ### each def -/
section
variable {P : Program} {w : World} {K : PySem.W.Frag} {mg : Str → Option Value} {base : Heap}
theorem sc0 : FnScope ["before", "after", "told", "person", "old", "new", "gone", "line", "come"] ["before", "after"] (defScope (top 1)) := ⟨rfl, rfl, rfl, by decide +kernel, rfl, by decide +kernel, by decide +kernel⟩
theorem ok0 (X : Fx K mg) (hsys : ∃ mm, base.Ns sysModules mm) {kk : Nat} {G : Nat → DF}  : FnG P w K mg base (kk + 1) X.a0 X.f0 ["before", "after"] (spF K [] (runDef d0 G) []) := by
  refine fundG (d := d0) X.h0 sc0 rfl rfl (by decide) (by decide) fun cdv A outer s H E hr hgd => ?_
  have hun := hr.un
  have hu1 : (A.deeper (envOfC "letters" (defScope (top 1)) s.heap.objs.size X.a0 cdv)).units + 1 < cLine := by omega
  have hu64 : (A.deeper (envOfC "letters" (defScope (top 1)) s.heap.objs.size X.a0 cdv)).units + 64 < cLine := by omega
  have hu65 : (A.deeper (envOfC "letters" (defScope (top 1)) s.heap.objs.size X.a0 cdv)).units + 65 < cLine := by omega
  have hu66 : (A.deeper (envOfC "letters" (defScope (top 1)) s.heap.objs.size X.a0 cdv)).units + 66 < cLine := by omega
  have hu70 : (A.deeper (envOfC "letters" (defScope (top 1)) s.heap.objs.size X.a0 cdv)).units + 70 < cLine := by omega
  have nd : (["before", "after", "told", "person", "old", "new", "gone", "line", "come"] : List Str).Nodup := sc0.nd
  exact (tss_cons (ts_set (by decide) nd rfl (.inl rfl) (te_lst pa_tnil) rfl (.inl rfl))
 (tss_cons (ts_for PassesOwn.never rfl (ti_l (te_sortset (by rfl) hu70 (by rfl) X.m_sorted (by rfl) X.m_set (to_e (te_bin o_add okO2 (fl0 rfl) (to_e (te_callTy (b_list rfl) okOp (by rfl) X.m_list bt_list (pa_tcons (fl0 rfl) (to_e (te_rd (pv 0))) pa_tnil rfl) (by decide) (by rfl) (by rfl) (by rfl))) (to_e (te_callTy (b_list rfl) okOp (by rfl) X.m_list bt_list (pa_tcons (fl0 rfl) (to_e (te_rd (pv 1))) pa_tnil rfl) (by decide) (by rfl) (by rfl) (by rfl))))) (by rfl))) (tg_n (pg_name nd rfl (.inl rfl) (.inr rfl)) (by decide)) (tss_cons (ts_set (by decide) nd rfl (.inr rfl) (te_get2 hu70 rfl (te_rd (pv 0)) (te_rd (pv 3)) (te_frz (te_lst pa_tnil)) ⟨rfl, rfl, rfl, rfl⟩) rfl (.inl rfl))
 (tss_cons (ts_set (by decide) nd rfl (.inr rfl) (te_get2 hu70 rfl (te_rd (pv 1)) (te_rd (pv 3)) (te_frz (te_lst pa_tnil)) ⟨rfl, rfl, rfl, rfl⟩) rfl (.inl rfl))
 (tss_cons (ts_setC (by decide) rfl nd rfl rfl rfl (ti_l (te_rd (pv 4))) (blkOk_by (own := [("line", 7)]) rfl) (by decide) (fun _ _ _ _ _ => (tg_n (pg_name nd rfl (.inl rfl) (.inr rfl)) (by decide))) (fun _ _ _ _ _ => (tts_yes (tt_cmp (o_nin hu65) okO2 (fl0 rfl) (to_e (te_rd (pv 7))) (to_e (te_rd (pv 5))) rfl))) (fun _ _ _ _ _ => (te_rd (pv 7))) (fun _ => rfl))
 (tss_cons (ts_setC (by decide) rfl nd rfl rfl rfl (ti_l (te_rd (pv 5))) (blkOk_by (own := [("line", 7)]) rfl) (by decide) (fun _ _ _ _ _ => (tg_n (pg_name nd rfl (.inl rfl) (.inr rfl)) (by decide))) (fun _ _ _ _ _ => (tts_yes (tt_cmp (o_nin hu65) okO2 (fl0 rfl) (to_e (te_rd (pv 7))) (to_e (te_rd (pv 4))) rfl))) (fun _ _ _ _ _ => (te_rd (pv 7))) (fun _ => rfl))
 (tss_cons (ts_if (tt_cmp o_gt okO2 (fl0 rfl) (to_e (te_bin o_add okO2 (fl0 rfl) (to_e (te_callB b_len okOp (by rfl) X.m_len bt_len (pa_tcons (fl0 rfl) (to_v (pv 6)) pa_tnil rfl) (by decide) (by rfl) (by rfl) (by rfl))) (to_e (te_callB b_len okOp (by rfl) X.m_len bt_len (pa_tcons (fl0 rfl) (to_v (pv 8)) pa_tnil rfl) (by decide) (by rfl) (by rfl) (by rfl))))) (to_e (te_const (v := .int 0) (x := .int 0) (fun _ => .int 0) (fun _ => rfl) pe_int)) rfl) (tss_cons (ts_app (fl0 rfl) (to_v (pv 2)) (te_tup (pa_tcons (fl0 rfl) (to_e (te_rd (pv 3))) (pa_tcons (fl0 rfl) (to_e (te_mv (pv 6))) (pa_tcons (fl0 rfl) (to_e (te_mv (pv 8))) pa_tnil rfl) rfl) rfl)) rfl rfl rfl rfl rfl rfl)
 tss_nil) tss_nil)
 tss_nil))))) (by decide) (fun _ => rfl))
 (tss_cons (ts_ret (te_mv (pv 2)))
 tss_nil)))
theorem sc1 : FnScope ["lines", "letter", "line"] ["lines", "letter"] (defScope (top 2)) := ⟨rfl, rfl, rfl, by decide +kernel, rfl, by decide +kernel, by decide +kernel⟩
theorem ok1 (X : Fx K mg) (hsys : ∃ mm, base.Ns sysModules mm) {kk : Nat} {G : Nat → DF}  : FnG P w K mg base (kk + 1) X.a1 X.f1 ["lines", "letter"] (spF K [] (runDef d1 G) []) := by
  refine fundG (d := d1) X.h1 sc1 rfl rfl (by decide) (by decide) fun cdv A outer s H E hr hgd => ?_
  have hun := hr.un
  have hu1 : (A.deeper (envOfC "rebuilt" (defScope (top 2)) s.heap.objs.size X.a1 cdv)).units + 1 < cLine := by omega
  have hu64 : (A.deeper (envOfC "rebuilt" (defScope (top 2)) s.heap.objs.size X.a1 cdv)).units + 64 < cLine := by omega
  have hu65 : (A.deeper (envOfC "rebuilt" (defScope (top 2)) s.heap.objs.size X.a1 cdv)).units + 65 < cLine := by omega
  have hu66 : (A.deeper (envOfC "rebuilt" (defScope (top 2)) s.heap.objs.size X.a1 cdv)).units + 66 < cLine := by omega
  have hu70 : (A.deeper (envOfC "rebuilt" (defScope (top 2)) s.heap.objs.size X.a1 cdv)).units + 70 < cLine := by omega
  have nd : (["lines", "letter", "line"] : List Str).Nodup := sc1.nd
  exact (tss_cons (ts_ret (te_callB (b_sorted hu66) okOp (by rfl) X.m_sorted bt_sorted (pa_tcons (fl0 rfl) (to_e (te_bin o_add okO2 (fl0 rfl) (to_e (te_comp rfl nd (ti_l (te_rd (pv 0))) (blkOk_by (own := [("line", 2)]) rfl) (by decide) (fun _ _ _ _ _ => (tg_n (pg_name nd rfl (.inl rfl) (.inr rfl)) (by decide))) (fun _ _ _ _ _ => (tts_yes (tt_cmp (o_nin hu65) okO2 (fl0 rfl) (to_e (te_rd (pv 2))) (to_e (te_ix o_ix okO2 (fl0 rfl) (to_e (te_rd (pv 1))) (to_e (te_const (v := .int 1) (x := .int 1) (fun _ => .int 1) (fun _ => rfl) pe_int)) (fun _ _ => rfl))) rfl))) (fun _ _ _ _ _ => (te_rd (pv 2))) (fun _ => rfl))) (to_e (te_ix o_ix okO2 (fl0 rfl) (to_e (te_rd (pv 1))) (to_e (te_const (v := .int 2) (x := .int 2) (fun _ => .int 2) (fun _ => rfl) pe_int)) (fun _ _ => rfl))))) pa_tnil rfl) (by decide) (by rfl) (by rfl) (by rfl)))
 tss_nil)
theorem sc2 : FnScope ["state", "script", "size", "cell", "mixed", "digit"] ["state", "script", "size"] (defScope (top 4)) := ⟨rfl, rfl, rfl, by decide +kernel, rfl, by decide +kernel, by decide +kernel⟩
theorem ok2 (X : Fx K mg) (hsys : ∃ mm, base.Ns sysModules mm) {kk : Nat} {G : Nat → DF}  : FnG P w K mg base (kk + 1) X.a2 X.f2 ["state", "script", "size"] (spF K [] (runDef d2 G) [0]) := by
  refine fundG (d := d2) X.h2 sc2 rfl rfl (by decide) (by decide) fun cdv A outer s H E hr hgd => ?_
  have hun := hr.un
  have hu1 : (A.deeper (envOfC "_law_draw" (defScope (top 4)) s.heap.objs.size X.a2 cdv)).units + 1 < cLine := by omega
  have hu64 : (A.deeper (envOfC "_law_draw" (defScope (top 4)) s.heap.objs.size X.a2 cdv)).units + 64 < cLine := by omega
  have hu65 : (A.deeper (envOfC "_law_draw" (defScope (top 4)) s.heap.objs.size X.a2 cdv)).units + 65 < cLine := by omega
  have hu66 : (A.deeper (envOfC "_law_draw" (defScope (top 4)) s.heap.objs.size X.a2 cdv)).units + 66 < cLine := by omega
  have hu70 : (A.deeper (envOfC "_law_draw" (defScope (top 4)) s.heap.objs.size X.a2 cdv)).units + 70 < cLine := by omega
  have nd : (["state", "script", "size", "cell", "mixed", "digit"] : List Str).Nodup := sc2.nd
  exact (tss_cons (ts_if (tt_cmp (o_eq hu64) okO2 (fl0 rfl) (to_e (te_ix o_ix okO2 (fl0 rfl) (to_v (pv 0)) (to_e (te_const (v := .int 1) (x := .int 1) (fun _ => .int 1) (fun _ => rfl) pe_int)) (fun _ _ => rfl))) (to_e (te_const (v := .int 0) (x := .int 0) (fun _ => .int 0) (fun _ => rfl) pe_int)) rfl) (tss_cons (ts_set (by decide) nd rfl (.inl rfl) (te_const (v := .int 0) (x := .int 0) (fun _ => .int 0) (fun _ => rfl) pe_int) rfl (.inl rfl))
 (tss_cons (ts_if (tt_cmp o_gt okO2 (fl0 rfl) (to_e (te_callB b_len okOp (by rfl) X.m_len bt_len (pa_tcons (fl0 rfl) (to_e (te_rd (pv 1))) pa_tnil rfl) (by decide) (by rfl) (by rfl) (by rfl))) (to_e (te_const (v := .int 0) (x := .int 0) (fun _ => .int 0) (fun _ => rfl) pe_int)) rfl) (tss_cons (ts_set (by decide) nd rfl (.inl rfl) (te_ix o_ix okO2 (fl0 rfl) (to_e (te_rd (pv 1))) (to_e (te_bin o_mod okO2 (fl0 rfl) (to_e (te_ix o_ix okO2 (fl0 rfl) (to_v (pv 0)) (to_e (te_const (v := .int 0) (x := .int 0) (fun _ => .int 0) (fun _ => rfl) pe_int)) (fun _ _ => rfl))) (to_e (te_callB b_len okOp (by rfl) X.m_len bt_len (pa_tcons (fl0 rfl) (to_e (te_rd (pv 1))) pa_tnil rfl) (by decide) (by rfl) (by rfl) (by rfl))))) (fun _ _ => rfl)) rfl (.inl rfl))
 tss_nil) tss_nil)
 (tss_cons (ts_if (tt_cmp o_lt okO2 (fl0 rfl) (to_e (te_rd (pv 3))) (to_e (te_const (v := .int 0) (x := .int 0) (fun _ => .int 0) (fun _ => rfl) pe_int)) rfl) (tss_cons (ts_set (by decide) nd rfl (.inl rfl) (te_bin o_sub okO2 (fl0 rfl) (to_e (te_const (v := .int 1) (x := .int 1) (fun _ => .int 1) (fun _ => rfl) pe_int)) (to_e (te_bin o_mul okO2 (fl0 rfl) (to_e (te_const (v := .int 2) (x := .int 2) (fun _ => .int 2) (fun _ => rfl) pe_int)) (to_e (te_rd (pv 3)))))) rfl (.inl rfl))
 tss_nil) tss_nil)
 (tss_cons (ts_set (by decide) nd rfl (.inl rfl) (te_bin o_mod okO2 (fl0 rfl) (to_e (te_callTy b_int okOp (by rfl) X.m_int bt_int (pa_tcons (fl0 rfl) (to_e (te_bin o_mul okO2 (fl0 rfl) (to_e (te_bin o_add okO2 (fl0 rfl) (to_e (te_bin o_add okO2 (fl0 rfl) (to_e (te_rd (pv 3))) (to_e (te_bin o_mul okO2 (fl0 rfl) (to_e (te_ix o_ix okO2 (fl0 rfl) (to_v (pv 0)) (to_e (te_const (v := .int 0) (x := .int 0) (fun _ => .int 0) (fun _ => rfl) pe_int)) (fun _ _ => rfl))) (to_e (te_const (v := .int 7919) (x := .int 7919) (fun _ => .int 7919) (fun _ => rfl) pe_int)))))) (to_e (te_const (v := .int 1) (x := .int 1) (fun _ => .int 1) (fun _ => rfl) pe_int)))) (to_e (te_const (v := .int 48271) (x := .int 48271) (fun _ => .int 48271) (fun _ => rfl) pe_int)))) pa_tnil rfl) (by decide) (by rfl) (by rfl) (by rfl))) (to_e (te_const (v := .int 2147483647) (x := .int 2147483647) (fun _ => .int 2147483647) (fun _ => rfl) pe_int))) rfl (.inl rfl))
 (tss_cons (ts_seti hu1 (te_bin o_mod okO2 (fl0 rfl) (to_e (te_callTy b_int okOp (by rfl) X.m_int bt_int (pa_tcons (fl0 rfl) (to_e (te_bin o_add okO2 (fl0 rfl) (to_e (te_bin o_mul okO2 (fl0 rfl) (to_e (te_rd (pv 4))) (to_e (te_const (v := .int 69621) (x := .int 69621) (fun _ => .int 69621) (fun _ => rfl) pe_int)))) (to_e (te_bin o_mul okO2 (fl0 rfl) (to_e (te_ix o_ix okO2 (fl0 rfl) (to_v (pv 0)) (to_e (te_const (v := .int 0) (x := .int 0) (fun _ => .int 0) (fun _ => rfl) pe_int)) (fun _ _ => rfl))) (to_e (te_const (v := .int 104729) (x := .int 104729) (fun _ => .int 104729) (fun _ => rfl) pe_int)))))) pa_tnil rfl) (by decide) (by rfl) (by rfl) (by rfl))) (to_e (te_const (v := .int 4294967291) (x := .int 4294967291) (fun _ => .int 4294967291) (fun _ => rfl) pe_int))) (to_v (pv 0)) (te_const (v := .int 1) (x := .int 1) (fun _ => .int 1) (fun _ => rfl) pe_int) rfl rfl rfl (fun _ => rfl))
 (tss_cons (ts_if (PW.pt (tt_and (tt_cmp o_ge okO2 (fl0 rfl) (to_e (te_rd (pv 3))) (to_e (te_bin o_pow okO2 (fl0 rfl) (to_e (te_const (v := .int 10) (x := .int 10) (fun _ => .int 10) (fun _ => rfl) pe_int)) (to_e (te_const (v := .int 18) (x := .int 18) (fun _ => .int 18) (fun _ => rfl) pe_int)))) rfl) (pw_and1 (tt_cmp o_lt okO2 (fl0 rfl) (to_e (te_ix o_ix okO2 (fl0 rfl) (to_v (pv 0)) (to_e (te_const (v := .int 0) (x := .int 0) (fun _ => .int 0) (fun _ => rfl) pe_int)) (fun _ _ => rfl))) (to_e (te_callB b_len okOp (by rfl) X.m_len bt_len (pa_tcons (fl0 rfl) (to_e (te_rd (pv 1))) pa_tnil rfl) (by decide) (by rfl) (by rfl) (by rfl))) rfl)))) (tss_cons (ts_seti hu1 (te_rd (pv 3)) (to_v (pv 0)) (te_const (v := .int 1) (x := .int 1) (fun _ => .int 1) (fun _ => rfl) pe_int) rfl rfl rfl (fun _ => rfl))
 tss_nil) tss_nil)
 (tss_cons (ts_seti hu1 (te_frz (te_bin o_add okO2 (fl0 rfl) (to_e (te_ix o_ix okO2 (fl0 rfl) (to_v (pv 0)) (to_e (te_const (v := .int 0) (x := .int 0) (fun _ => .int 0) (fun _ => rfl) pe_int)) (fun _ _ => rfl))) (to_e (te_const (v := .int 1) (x := .int 1) (fun _ => .int 1) (fun _ => rfl) pe_int)))) (to_v (pv 0)) (te_const (v := .int 0) (x := .int 0) (fun _ => .int 0) (fun _ => rfl) pe_int) rfl rfl rfl (fun _ => rfl))
 tss_nil))))))) tss_nil)
 (tss_cons (ts_set (by decide) nd rfl (.inl rfl) (te_bin o_mod okO2 (fl0 rfl) (to_e (te_callTy b_int okOp (by rfl) X.m_int bt_int (pa_tcons (fl0 rfl) (to_e (te_ix o_ix okO2 (fl0 rfl) (to_v (pv 0)) (to_e (te_const (v := .int 1) (x := .int 1) (fun _ => .int 1) (fun _ => rfl) pe_int)) (fun _ _ => rfl))) pa_tnil rfl) (by decide) (by rfl) (by rfl) (by rfl))) (to_e (te_rd (pv 2)))) rfl (.inl rfl))
 (tss_cons (ts_seti hu1 (te_bin o_fdiv okO2 (fl0 rfl) (to_e (te_ix o_ix okO2 (fl0 rfl) (to_v (pv 0)) (to_e (te_const (v := .int 1) (x := .int 1) (fun _ => .int 1) (fun _ => rfl) pe_int)) (fun _ _ => rfl))) (to_e (te_rd (pv 2)))) (to_v (pv 0)) (te_const (v := .int 1) (x := .int 1) (fun _ => .int 1) (fun _ => rfl) pe_int) rfl rfl rfl (fun _ => rfl))
 (tss_cons (ts_ret (te_rd (pv 5)))
 tss_nil))))
theorem sc3 : FnScope ["state", "script", "items"] ["state", "script", "items"] (defScope (top 5)) := ⟨rfl, rfl, rfl, by decide +kernel, rfl, by decide +kernel, by decide +kernel⟩
theorem ok3 (X : Fx K mg) (hsys : ∃ mm, base.Ns sysModules mm) {kk : Nat} {G : Nat → DF} (I2 : FnG P w K mg base kk X.a2 X.f2 ["state", "script", "size"] (spF K [] (G 2) [0])) : FnG P w K mg base (kk + 1) X.a3 X.f3 ["state", "script", "items"] (spF K [] (runDef d3 G) [0]) := by
  refine fundG (d := d3) X.h3 sc3 rfl rfl (by decide) (by decide) fun cdv A outer s H E hr hgd => ?_
  have hun := hr.un
  have hu1 : (A.deeper (envOfC "_law_pick" (defScope (top 5)) s.heap.objs.size X.a3 cdv)).units + 1 < cLine := by omega
  have hu64 : (A.deeper (envOfC "_law_pick" (defScope (top 5)) s.heap.objs.size X.a3 cdv)).units + 64 < cLine := by omega
  have hu65 : (A.deeper (envOfC "_law_pick" (defScope (top 5)) s.heap.objs.size X.a3 cdv)).units + 65 < cLine := by omega
  have hu66 : (A.deeper (envOfC "_law_pick" (defScope (top 5)) s.heap.objs.size X.a3 cdv)).units + 66 < cLine := by omega
  have hu70 : (A.deeper (envOfC "_law_pick" (defScope (top 5)) s.heap.objs.size X.a3 cdv)).units + 70 < cLine := by omega
  have nd : (["state", "script", "items"] : List Str).Nodup := sc3.nd
  have F2 : FnAt (cxOf CX0 P w K mg base ["state", "script", "items"] "_law_pick" (defScope (top 5)) X.a3 cdv A outer s H E).nox [] G 2 [0] X.a2 0 := ⟨hgd, kk, X.f2, ["state", "script", "size"], I2, hr, X.b2⟩
  exact (tss_cons (ts_ret (te_ix o_ix okO2 (fl0 rfl) (to_e (te_rd (pv 2))) (to_e (te_call F2 (by rfl) X.g2 X.k2 (pa_tcons (fl0 rfl) (to_v (pv 0)) (pa_tcons (fl0 rfl) (to_e (te_rd (pv 1))) (pa_tcons (fl0 rfl) (to_e (te_callB b_len okOp (by rfl) X.m_len bt_len (pa_tcons (fl0 rfl) (to_e (te_rd (pv 2))) pa_tnil rfl) (by decide) (by rfl) (by rfl) (by rfl))) pa_tnil rfl) rfl) rfl) (by rfl) (by rfl) (by rfl))) (fun _ _ => rfl)))
 tss_nil)
theorem sc4 : FnScope ["state", "script", "at", "signs", "name", "_"] ["state", "script", "at"] (defScope (top 6)) := ⟨rfl, rfl, rfl, by decide +kernel, rfl, by decide +kernel, by decide +kernel⟩
theorem ok4 (X : Fx K mg) (hsys : ∃ mm, base.Ns sysModules mm) {kk : Nat} {G : Nat → DF} (I2 : FnG P w K mg base kk X.a2 X.f2 ["state", "script", "size"] (spF K [] (G 2) [0])) : FnG P w K mg base (kk + 1) X.a4 X.f4 ["state", "script", "at"] (spF K [] (runDef d4 G) [0]) := by
  refine fundG (d := d4) X.h4 sc4 rfl rfl (by decide) (by decide) fun cdv A outer s H E hr hgd => ?_
  have hun := hr.un
  have hu1 : (A.deeper (envOfC "_law_name" (defScope (top 6)) s.heap.objs.size X.a4 cdv)).units + 1 < cLine := by omega
  have hu64 : (A.deeper (envOfC "_law_name" (defScope (top 6)) s.heap.objs.size X.a4 cdv)).units + 64 < cLine := by omega
  have hu65 : (A.deeper (envOfC "_law_name" (defScope (top 6)) s.heap.objs.size X.a4 cdv)).units + 65 < cLine := by omega
  have hu66 : (A.deeper (envOfC "_law_name" (defScope (top 6)) s.heap.objs.size X.a4 cdv)).units + 66 < cLine := by omega
  have hu70 : (A.deeper (envOfC "_law_name" (defScope (top 6)) s.heap.objs.size X.a4 cdv)).units + 70 < cLine := by omega
  have nd : (["state", "script", "at", "signs", "name", "_"] : List Str).Nodup := sc4.nd
  have F2 : FnAt (cxOf CX0 P w K mg base ["state", "script", "at", "signs", "name", "_"] "_law_name" (defScope (top 6)) X.a4 cdv A outer s H E).nox [] G 2 [0] X.a2 0 := ⟨hgd, kk, X.f2, ["state", "script", "size"], I2, hr, X.b2⟩
  exact (tss_cons (ts_set (by decide) nd rfl (.inl rfl) (te_const (v := .str "abcdefghijklmnopqrstuvwxyz0123456789") (x := .str "abcdefghijklmnopqrstuvwxyz0123456789") (fun _ => .str "abcdefghijklmnopqrstuvwxyz0123456789") (fun _ => rfl) pe_str) rfl (.inl rfl))
 (tss_cons (ts_set (by decide) nd rfl (.inl rfl) (te_ix o_ix okO2 (fl0 rfl) (to_e (te_rd (pv 3))) (to_e (te_call F2 (by rfl) X.g2 X.k2 (pa_tcons (fl0 rfl) (to_v (pv 0)) (pa_tcons (fl0 rfl) (to_e (te_rd (pv 1))) (pa_tcons (fl0 rfl) (to_e (te_const (v := .int 26) (x := .int 26) (fun _ => .int 26) (fun _ => rfl) pe_int)) pa_tnil rfl) rfl) rfl) (by rfl) (by rfl) (by rfl))) (fun _ _ => rfl)) rfl (.inl rfl))
 (tss_cons (ts_for PassesOwn.never rfl (ti_r1 (by rfl) X.m_range (te_ix o_ix okO2 (fl0 rfl) (to_e (te_lst (pa_tcons (fl0 rfl) (to_e (te_const (v := .int 0) (x := .int 0) (fun _ => .int 0) (fun _ => rfl) pe_int)) (pa_tcons (fl0 rfl) (to_e (te_const (v := .int 1) (x := .int 1) (fun _ => .int 1) (fun _ => rfl) pe_int)) (pa_tcons (fl0 rfl) (to_e (te_const (v := .int 2) (x := .int 2) (fun _ => .int 2) (fun _ => rfl) pe_int)) (pa_tcons (fl0 rfl) (to_e (te_const (v := .int 9) (x := .int 9) (fun _ => .int 9) (fun _ => rfl) pe_int)) pa_tnil rfl) rfl) rfl) rfl))) (to_e (te_call F2 (by rfl) X.g2 X.k2 (pa_tcons (fl0 rfl) (to_v (pv 0)) (pa_tcons (fl0 rfl) (to_e (te_rd (pv 1))) (pa_tcons (fl0 rfl) (to_e (te_const (v := .int 4) (x := .int 4) (fun _ => .int 4) (fun _ => rfl) pe_int)) pa_tnil rfl) rfl) rfl) (by rfl) (by rfl) (by rfl))) (fun _ _ => rfl)) (by rfl)) (tg_n (pg_name nd rfl (.inl rfl) (.inr rfl)) (by decide)) (tss_cons (ts_set (by decide) nd rfl (.inl rfl) (te_frz (te_bin o_add okO2 (fl0 rfl) (to_e (te_rd (pv 4))) (to_e (te_ix o_ix okO2 (fl0 rfl) (to_e (te_rd (pv 3))) (to_e (te_call F2 (by rfl) X.g2 X.k2 (pa_tcons (fl0 rfl) (to_v (pv 0)) (pa_tcons (fl0 rfl) (to_e (te_rd (pv 1))) (pa_tcons (fl0 rfl) (to_e (te_const (v := .int 36) (x := .int 36) (fun _ => .int 36) (fun _ => rfl) pe_int)) pa_tnil rfl) rfl) rfl) (by rfl) (by rfl) (by rfl))) (fun _ _ => rfl))))) rfl (.inl rfl))
 tss_nil) (by decide) (fun _ => rfl))
 (tss_cons (ts_ret (te_bin o_add okO2 (fl0 rfl) (to_e (te_rd (pv 4))) (to_e (te_callTy b_str okOp (by rfl) X.m_str bt_str (pa_tcons (fl0 rfl) (to_e (te_bin o_add okO2 (fl0 rfl) (to_e (te_const (v := .int 10) (x := .int 10) (fun _ => .int 10) (fun _ => rfl) pe_int)) (to_e (te_rd (pv 2))))) pa_tnil rfl) (by decide) (by rfl) (by rfl) (by rfl)))))
 tss_nil))))
theorem sc5 : FnScope ["state", "script", "many", "names", "at"] ["state", "script", "many"] (defScope (top 7)) := ⟨rfl, rfl, rfl, by decide +kernel, rfl, by decide +kernel, by decide +kernel⟩
theorem ok5 (X : Fx K mg) (hsys : ∃ mm, base.Ns sysModules mm) {kk : Nat} {G : Nat → DF} (I4 : FnG P w K mg base kk X.a4 X.f4 ["state", "script", "at"] (spF K [] (G 4) [0])) : FnG P w K mg base (kk + 1) X.a5 X.f5 ["state", "script", "many"] (spF K [] (runDef d5 G) [0]) := by
  refine fundG (d := d5) X.h5 sc5 rfl rfl (by decide) (by decide) fun cdv A outer s H E hr hgd => ?_
  have hun := hr.un
  have hu1 : (A.deeper (envOfC "_law_names" (defScope (top 7)) s.heap.objs.size X.a5 cdv)).units + 1 < cLine := by omega
  have hu64 : (A.deeper (envOfC "_law_names" (defScope (top 7)) s.heap.objs.size X.a5 cdv)).units + 64 < cLine := by omega
  have hu65 : (A.deeper (envOfC "_law_names" (defScope (top 7)) s.heap.objs.size X.a5 cdv)).units + 65 < cLine := by omega
  have hu66 : (A.deeper (envOfC "_law_names" (defScope (top 7)) s.heap.objs.size X.a5 cdv)).units + 66 < cLine := by omega
  have hu70 : (A.deeper (envOfC "_law_names" (defScope (top 7)) s.heap.objs.size X.a5 cdv)).units + 70 < cLine := by omega
  have nd : (["state", "script", "many", "names", "at"] : List Str).Nodup := sc5.nd
  have F4 : FnAt (cxOf CX0 P w K mg base ["state", "script", "many", "names", "at"] "_law_names" (defScope (top 7)) X.a5 cdv A outer s H E).nox [] G 4 [0] X.a4 0 := ⟨hgd, kk, X.f4, ["state", "script", "at"], I4, hr, X.b4⟩
  exact (tss_cons (ts_set (by decide) nd rfl (.inl rfl) (te_lst pa_tnil) rfl (.inl rfl))
 (tss_cons (ts_for PassesOwn.never rfl (ti_r1 (by rfl) X.m_range (te_rd (pv 2)) (by rfl)) (tg_n (pg_name nd rfl (.inl rfl) (.inr rfl)) (by decide)) (tss_cons (ts_app (fl0 rfl) (to_v (pv 3)) (te_frz (te_call F4 (by rfl) X.g4 X.k4 (pa_tcons (fl0 rfl) (to_v (pv 0)) (pa_tcons (fl0 rfl) (to_e (te_rd (pv 1))) (pa_tcons (fl0 rfl) (to_e (te_rd (pv 4))) pa_tnil rfl) rfl) rfl) (by rfl) (by rfl) (by rfl))) rfl rfl rfl rfl rfl rfl)
 tss_nil) (by decide) (fun _ => rfl))
 (tss_cons (ts_ret (te_mv (pv 3)))
 tss_nil)))
theorem sc6 : FnScope ["state", "script", "names", "p", "x", "k", "lines"] ["state", "script", "names"] (defScope (top 9)) := ⟨rfl, rfl, rfl, by decide +kernel, rfl, by decide +kernel, by decide +kernel⟩
theorem ok6 (X : Fx K mg) (hsys : ∃ mm, base.Ns sysModules mm) {kk : Nat} {G : Nat → DF} (I2 : FnG P w K mg base kk X.a2 X.f2 ["state", "script", "size"] (spF K [] (G 2) [0])) (I3 : FnG P w K mg base kk X.a3 X.f3 ["state", "script", "items"] (spF K [] (G 3) [0])) : FnG P w K mg base (kk + 1) X.a6 X.f6 ["state", "script", "names"] (spF K [] (runDef d6 G) [0]) := by
  refine fundG (d := d6) X.h6 sc6 rfl rfl (by decide) (by decide) fun cdv A outer s H E hr hgd => ?_
  have hun := hr.un
  have hu1 : (A.deeper (envOfC "_law_line" (defScope (top 9)) s.heap.objs.size X.a6 cdv)).units + 1 < cLine := by omega
  have hu64 : (A.deeper (envOfC "_law_line" (defScope (top 9)) s.heap.objs.size X.a6 cdv)).units + 64 < cLine := by omega
  have hu65 : (A.deeper (envOfC "_law_line" (defScope (top 9)) s.heap.objs.size X.a6 cdv)).units + 65 < cLine := by omega
  have hu66 : (A.deeper (envOfC "_law_line" (defScope (top 9)) s.heap.objs.size X.a6 cdv)).units + 66 < cLine := by omega
  have hu70 : (A.deeper (envOfC "_law_line" (defScope (top 9)) s.heap.objs.size X.a6 cdv)).units + 70 < cLine := by omega
  have nd : (["state", "script", "names", "p", "x", "k", "lines"] : List Str).Nodup := sc6.nd
  have F2 : FnAt (cxOf CX0 P w K mg base ["state", "script", "names", "p", "x", "k", "lines"] "_law_line" (defScope (top 9)) X.a6 cdv A outer s H E).nox [] G 2 [0] X.a2 0 := ⟨hgd, kk, X.f2, ["state", "script", "size"], I2, hr, X.b2⟩
  have F3 : FnAt (cxOf CX0 P w K mg base ["state", "script", "names", "p", "x", "k", "lines"] "_law_line" (defScope (top 9)) X.a6 cdv A outer s H E).nox [] G 3 [0] X.a3 0 := ⟨hgd, kk, X.f3, ["state", "script", "items"], I3, hr, X.b3⟩
  exact (tss_cons (ts_set (by decide) nd rfl (.inl rfl) (te_frz (te_call F3 (by rfl) X.g3 X.k3 (pa_tcons (fl0 rfl) (to_v (pv 0)) (pa_tcons (fl0 rfl) (to_e (te_rd (pv 1))) (pa_tcons (fl0 rfl) (to_e (te_rd (pv 2))) pa_tnil rfl) rfl) rfl) (by rfl) (by rfl) (by rfl))) rfl (.inl rfl))
 (tss_cons (ts_set (by decide) nd rfl (.inl rfl) (te_frz (te_call F3 (by rfl) X.g3 X.k3 (pa_tcons (fl0 rfl) (to_v (pv 0)) (pa_tcons (fl0 rfl) (to_e (te_rd (pv 1))) (pa_tcons (fl0 rfl) (to_e (te_rd (pv 2))) pa_tnil rfl) rfl) rfl) (by rfl) (by rfl) (by rfl))) rfl (.inl rfl))
 (tss_cons (ts_set (by decide) nd rfl (.inl rfl) (te_frz (te_call F2 (by rfl) X.g2 X.k2 (pa_tcons (fl0 rfl) (to_v (pv 0)) (pa_tcons (fl0 rfl) (to_e (te_rd (pv 1))) (pa_tcons (fl0 rfl) (to_e (te_const (v := .int 3) (x := .int 3) (fun _ => .int 3) (fun _ => rfl) pe_int)) pa_tnil rfl) rfl) rfl) (by rfl) (by rfl) (by rfl))) rfl (.inl rfl))
 (tss_cons (ts_set (by decide) nd rfl (.inl rfl) (te_frz (te_lst (pa_tcons (fl0 rfl) (to_e (te_frz (te_tup (pa_tcons (fl0 rfl) (to_e (te_const (v := .str "doc") (x := .str "doc") (fun _ => .str "doc") (fun _ => rfl) pe_str)) (pa_tcons (fl0 rfl) (to_e (te_rd (pv 3))) (pa_tcons (fl0 rfl) (to_e (te_rd (pv 5))) (pa_tcons (fl0 rfl) (to_e (te_rd (pv 4))) pa_tnil rfl) rfl) rfl) rfl)))) (pa_tcons (fl0 rfl) (to_e (te_frz (te_tup (pa_tcons (fl0 rfl) (to_e (te_const (v := .str "field") (x := .str "field") (fun _ => .str "field") (fun _ => rfl) pe_str)) (pa_tcons (fl0 rfl) (to_e (te_rd (pv 3))) (pa_tcons (fl0 rfl) (to_e (te_rd (pv 4))) pa_tnil rfl) rfl) rfl)))) (pa_tcons (fl0 rfl) (to_e (te_frz (te_tup (pa_tcons (fl0 rfl) (to_e (te_const (v := .str "published") (x := .str "published") (fun _ => .str "published") (fun _ => rfl) pe_str)) (pa_tcons (fl0 rfl) (to_e (te_rd (pv 3))) (pa_tcons (fl0 rfl) (to_e (te_rd (pv 5))) pa_tnil rfl) rfl) rfl)))) (pa_tcons (fl0 rfl) (to_e (te_frz (te_tup (pa_tcons (fl0 rfl) (to_e (te_const (v := .str "thing") (x := .str "thing") (fun _ => .str "thing") (fun _ => rfl) pe_str)) (pa_tcons (fl0 rfl) (to_e (te_rd (pv 3))) (pa_tcons (fl0 rfl) (to_e (te_rd (pv 5))) (pa_tcons (fl0 rfl) (to_e (te_frz (te_sl01 (fl0 rfl) (to_e (te_tup (pa_tcons (fl0 rfl) (to_e (te_rd (pv 4))) pa_tnil rfl))) (te_rd (pv 5))))) (pa_tcons (fl0 rfl) (to_e (te_frz (te_sl01 (fl0 rfl) (to_e (te_tup (pa_tcons (fl0 rfl) (to_e (te_frz (te_tup (pa_tcons (fl0 rfl) (to_e (te_rd (pv 4))) (pa_tcons (fl0 rfl) (to_e (te_const (v := .int 5) (x := .int 5) (fun _ => .int 5) (fun _ => rfl) pe_int)) (pa_tcons (fl0 rfl) (to_e (te_const (v := .int 7) (x := .int 7) (fun _ => .int 7) (fun _ => rfl) pe_int)) pa_tnil rfl) rfl) rfl)))) pa_tnil rfl))) (te_rd (pv 5))))) pa_tnil rfl) rfl) rfl) rfl) rfl)))) (pa_tcons (fl0 rfl) (to_e (te_frz (te_tup (pa_tcons (fl0 rfl) (to_e (te_const (v := .str "cites") (x := .str "cites") (fun _ => .str "cites") (fun _ => rfl) pe_str)) (pa_tcons (fl0 rfl) (to_e (te_rd (pv 4))) (pa_tcons (fl0 rfl) (to_e (te_rd (pv 3))) pa_tnil rfl) rfl) rfl)))) pa_tnil rfl) rfl) rfl) rfl) rfl))) rfl (.inl rfl))
 (tss_cons (ts_ret (te_call F3 (by rfl) X.g3 X.k3 (pa_tcons (fl0 rfl) (to_v (pv 0)) (pa_tcons (fl0 rfl) (to_e (te_rd (pv 1))) (pa_tcons (fl0 rfl) (to_e (te_frz (te_bin o_add okO2 (fl0 rfl) (to_e (te_rd (pv 6))) (to_e (te_lst (pa_tcons (fl0 rfl) (to_e (te_frz (te_tup (pa_tcons (fl0 rfl) (to_e (te_const (v := .str "transfer") (x := .str "transfer") (fun _ => .str "transfer") (fun _ => rfl) pe_str)) (pa_tcons (fl0 rfl) (to_e (te_rd (pv 3))) (pa_tcons (fl0 rfl) (to_e (te_rd (pv 4))) (pa_tcons (fl0 rfl) (to_e (te_const (v := .str "ann") (x := .str "ann") (fun _ => .str "ann") (fun _ => rfl) pe_str)) (pa_tcons (fl0 rfl) (to_e (te_const (v := .int 1000) (x := .int 1000) (fun _ => .int 1000) (fun _ => rfl) pe_int)) (pa_tcons (fl0 rfl) (to_e (te_rd (pv 5))) pa_tnil rfl) rfl) rfl) rfl) rfl) rfl)))) (pa_tcons (fl0 rfl) (to_e (te_frz (te_tup (pa_tcons (fl0 rfl) (to_e (te_const (v := .str "licence") (x := .str "licence") (fun _ => .str "licence") (fun _ => rfl) pe_str)) (pa_tcons (fl0 rfl) (to_e (te_rd (pv 3))) (pa_tcons (fl0 rfl) (to_e (te_rd (pv 4))) (pa_tcons (fl0 rfl) (to_e (te_const (v := .str "bob") (x := .str "bob") (fun _ => .str "bob") (fun _ => rfl) pe_str)) (pa_tcons (fl0 rfl) (to_e (te_rd (pv 5))) pa_tnil rfl) rfl) rfl) rfl) rfl)))) (pa_tcons (fl0 rfl) (to_e (te_frz (te_tup (pa_tcons (fl0 rfl) (to_e (te_const (v := .str "drop") (x := .str "drop") (fun _ => .str "drop") (fun _ => rfl) pe_str)) (pa_tcons (fl0 rfl) (to_e (te_rd (pv 3))) (pa_tcons (fl0 rfl) (to_e (te_rd (pv 4))) (pa_tcons (fl0 rfl) (to_e (te_rd (pv 5))) pa_tnil rfl) rfl) rfl) rfl)))) pa_tnil rfl) rfl) rfl)))))) pa_tnil rfl) rfl) rfl) (by rfl) (by rfl) (by rfl)))
 tss_nil)))))
theorem sc7 : FnScope ["state", "script", "names", "lines", "found", "keep", "line", "_"] ["state", "script", "names", "lines"] (defScope (top 10)) := ⟨rfl, rfl, rfl, by decide +kernel, rfl, by decide +kernel, by decide +kernel⟩
theorem ok7 (X : Fx K mg) (hsys : ∃ mm, base.Ns sysModules mm) {kk : Nat} {G : Nat → DF} (I2 : FnG P w K mg base kk X.a2 X.f2 ["state", "script", "size"] (spF K [] (G 2) [0])) (I6 : FnG P w K mg base kk X.a6 X.f6 ["state", "script", "names"] (spF K [] (G 6) [0])) : FnG P w K mg base (kk + 1) X.a7 X.f7 ["state", "script", "names", "lines"] (spF K [] (runDef d7 G) [0]) := by
  refine fundG (d := d7) X.h7 sc7 rfl rfl (by decide) (by decide) fun cdv A outer s H E hr hgd => ?_
  have hun := hr.un
  have hu1 : (A.deeper (envOfC "_law_turned" (defScope (top 10)) s.heap.objs.size X.a7 cdv)).units + 1 < cLine := by omega
  have hu64 : (A.deeper (envOfC "_law_turned" (defScope (top 10)) s.heap.objs.size X.a7 cdv)).units + 64 < cLine := by omega
  have hu65 : (A.deeper (envOfC "_law_turned" (defScope (top 10)) s.heap.objs.size X.a7 cdv)).units + 65 < cLine := by omega
  have hu66 : (A.deeper (envOfC "_law_turned" (defScope (top 10)) s.heap.objs.size X.a7 cdv)).units + 66 < cLine := by omega
  have hu70 : (A.deeper (envOfC "_law_turned" (defScope (top 10)) s.heap.objs.size X.a7 cdv)).units + 70 < cLine := by omega
  have nd : (["state", "script", "names", "lines", "found", "keep", "line", "_"] : List Str).Nodup := sc7.nd
  have F2 : FnAt (cxOf CX0 P w K mg base ["state", "script", "names", "lines", "found", "keep", "line", "_"] "_law_turned" (defScope (top 10)) X.a7 cdv A outer s H E).nox [] G 2 [0] X.a2 0 := ⟨hgd, kk, X.f2, ["state", "script", "size"], I2, hr, X.b2⟩
  have F6 : FnAt (cxOf CX0 P w K mg base ["state", "script", "names", "lines", "found", "keep", "line", "_"] "_law_turned" (defScope (top 10)) X.a7 cdv A outer s H E).nox [] G 6 [0] X.a6 0 := ⟨hgd, kk, X.f6, ["state", "script", "names"], I6, hr, X.b6⟩
  exact (tss_cons (ts_set (by decide) nd rfl (.inl rfl) (te_lst pa_tnil) rfl (.inl rfl))
 (tss_cons (ts_set (by decide) nd rfl (.inl rfl) (te_frz (te_call F2 (by rfl) X.g2 X.k2 (pa_tcons (fl0 rfl) (to_v (pv 0)) (pa_tcons (fl0 rfl) (to_e (te_rd (pv 1))) (pa_tcons (fl0 rfl) (to_e (te_const (v := .int 3) (x := .int 3) (fun _ => .int 3) (fun _ => rfl) pe_int)) pa_tnil rfl) rfl) rfl) (by rfl) (by rfl) (by rfl))) rfl (.inl rfl))
 (tss_cons (ts_for PassesOwn.never rfl (ti_l (te_rd (pv 3))) (tg_n (pg_name nd rfl (.inl rfl) (.inr rfl)) (by decide)) (tss_cons (ts_if (PW.pt (tt_or (tt_cmp o_gt okO2 (fl0 rfl) (to_e (te_rd (pv 5))) (to_e (te_const (v := .int 0) (x := .int 0) (fun _ => .int 0) (fun _ => rfl) pe_int)) rfl) (pw_or1 (tt_cmp (o_eq hu64) okO2 (fl0 rfl) (to_e (te_call F2 (by rfl) X.g2 X.k2 (pa_tcons (fl0 rfl) (to_v (pv 0)) (pa_tcons (fl0 rfl) (to_e (te_rd (pv 1))) (pa_tcons (fl0 rfl) (to_e (te_const (v := .int 2) (x := .int 2) (fun _ => .int 2) (fun _ => rfl) pe_int)) pa_tnil rfl) rfl) rfl) (by rfl) (by rfl) (by rfl))) (to_e (te_const (v := .int 0) (x := .int 0) (fun _ => .int 0) (fun _ => rfl) pe_int)) rfl)))) (tss_cons (ts_app (fl0 rfl) (to_v (pv 4)) (te_rd (pv 6)) rfl rfl rfl rfl rfl rfl)
 tss_nil) tss_nil)
 tss_nil) (by decide) (fun _ => rfl))
 (tss_cons (ts_if (tt_cmp o_lt okO2 (fl0 rfl) (to_e (te_rd (pv 5))) (to_e (te_const (v := .int 2) (x := .int 2) (fun _ => .int 2) (fun _ => rfl) pe_int)) rfl) (tss_cons (ts_for PassesOwn.never rfl (ti_r1 (by rfl) X.m_range (te_call F2 (by rfl) X.g2 X.k2 (pa_tcons (fl0 rfl) (to_v (pv 0)) (pa_tcons (fl0 rfl) (to_e (te_rd (pv 1))) (pa_tcons (fl0 rfl) (to_e (te_const (v := .int 4) (x := .int 4) (fun _ => .int 4) (fun _ => rfl) pe_int)) pa_tnil rfl) rfl) rfl) (by rfl) (by rfl) (by rfl)) (by rfl)) (tg_n (pg_name nd rfl (.inl rfl) (.inr rfl)) (by decide)) (tss_cons (ts_set (by decide) nd rfl (.inl rfl) (te_frz (te_call F6 (by rfl) X.g6 X.k6 (pa_tcons (fl0 rfl) (to_v (pv 0)) (pa_tcons (fl0 rfl) (to_e (te_rd (pv 1))) (pa_tcons (fl0 rfl) (to_e (te_rd (pv 2))) pa_tnil rfl) rfl) rfl) (by rfl) (by rfl) (by rfl))) rfl (.inl rfl))
 (tss_cons (ts_if (tt_cmp (o_nin hu65) okO2 (fl0 rfl) (to_e (te_rd (pv 6))) (to_v (pv 4)) rfl) (tss_cons (ts_app (fl0 rfl) (to_v (pv 4)) (te_rd (pv 6)) rfl rfl rfl rfl rfl rfl)
 tss_nil) tss_nil)
 tss_nil)) (by decide) (fun _ => rfl))
 tss_nil) tss_nil)
 (tss_cons (ts_ret (te_callB (b_sorted hu66) okOp (by rfl) X.m_sorted bt_sorted (pa_tcons (fl0 rfl) (to_v (pv 4)) pa_tnil rfl) (by decide) (by rfl) (by rfl) (by rfl)))
 tss_nil)))))
theorem sc8 : FnScope ["before", "after", "due", "x", "old", "new", "gone", "line", "come"] ["before", "after"] (defScope (top 11)) := ⟨rfl, rfl, rfl, by decide +kernel, rfl, by decide +kernel, by decide +kernel⟩
theorem ok8 (X : Fx K mg) (hsys : ∃ mm, base.Ns sysModules mm) {kk : Nat} {G : Nat → DF}  : FnG P w K mg base (kk + 1) X.a8 X.f8 ["before", "after"] (spF K [] (runDef d8 G) []) := by
  refine fundG (d := d8) X.h8 sc8 rfl rfl (by decide) (by decide) fun cdv A outer s H E hr hgd => ?_
  have hun := hr.un
  have hu1 : (A.deeper (envOfC "_law_letters" (defScope (top 11)) s.heap.objs.size X.a8 cdv)).units + 1 < cLine := by omega
  have hu64 : (A.deeper (envOfC "_law_letters" (defScope (top 11)) s.heap.objs.size X.a8 cdv)).units + 64 < cLine := by omega
  have hu65 : (A.deeper (envOfC "_law_letters" (defScope (top 11)) s.heap.objs.size X.a8 cdv)).units + 65 < cLine := by omega
  have hu66 : (A.deeper (envOfC "_law_letters" (defScope (top 11)) s.heap.objs.size X.a8 cdv)).units + 66 < cLine := by omega
  have hu70 : (A.deeper (envOfC "_law_letters" (defScope (top 11)) s.heap.objs.size X.a8 cdv)).units + 70 < cLine := by omega
  have nd : (["before", "after", "due", "x", "old", "new", "gone", "line", "come"] : List Str).Nodup := sc8.nd
  exact (tss_cons (ts_set (by decide) nd rfl (.inl rfl) (te_lst pa_tnil) rfl (.inl rfl))
 (tss_cons (ts_for PassesOwn.never rfl (ti_l (te_callB (b_sorted hu66) okOp (by rfl) X.m_sorted bt_sorted (pa_tcons (fl0 rfl) (to_e (te_bin o_add okO2 (fl0 rfl) (to_e (te_callTy (b_list rfl) okOp (by rfl) X.m_list bt_list (pa_tcons (fl0 rfl) (to_e (te_rd (pv 0))) pa_tnil rfl) (by decide) (by rfl) (by rfl) (by rfl))) (to_e (te_comp rfl nd (ti_keys (te_rd (pv 1)) fun _ _ _ h => dE_ok rfl h) (blkOk_by (own := [("x", 3)]) rfl) (by decide) (fun _ _ _ _ _ => (tg_n (pg_name nd rfl (.inl rfl) (.inr rfl)) (by decide))) (fun _ _ _ _ _ => (tts_yes (tt_cmp (o_nin hu65) okO2 (fl0 rfl) (to_e (te_rd (pv 3))) (to_e (te_rd (pv 0))) rfl))) (fun _ _ _ _ _ => (te_rd (pv 3))) (fun _ => rfl))))) pa_tnil rfl) (by decide) (by rfl) (by rfl) (by rfl))) (tg_n (pg_name nd rfl (.inl rfl) (.inr rfl)) (by decide)) (tss_cons (ts_set (by decide) nd rfl (.inr rfl) (te_get2 hu70 rfl (te_rd (pv 0)) (te_rd (pv 3)) (te_frz (te_lst pa_tnil)) ⟨rfl, rfl, rfl, rfl⟩) rfl (.inl rfl))
 (tss_cons (ts_set (by decide) nd rfl (.inr rfl) (te_get2 hu70 rfl (te_rd (pv 1)) (te_rd (pv 3)) (te_frz (te_lst pa_tnil)) ⟨rfl, rfl, rfl, rfl⟩) rfl (.inl rfl))
 (tss_cons (ts_setC (by decide) rfl nd rfl rfl rfl (ti_l (te_rd (pv 4))) (blkOk_by (own := [("line", 7)]) rfl) (by decide) (fun _ _ _ _ _ => (tg_n (pg_name nd rfl (.inl rfl) (.inr rfl)) (by decide))) (fun _ _ _ _ _ => (tts_yes (tt_cmp (o_nin hu65) okO2 (fl0 rfl) (to_e (te_rd (pv 7))) (to_e (te_rd (pv 5))) rfl))) (fun _ _ _ _ _ => (te_rd (pv 7))) (fun _ => rfl))
 (tss_cons (ts_setC (by decide) rfl nd rfl rfl rfl (ti_l (te_rd (pv 5))) (blkOk_by (own := [("line", 7)]) rfl) (by decide) (fun _ _ _ _ _ => (tg_n (pg_name nd rfl (.inl rfl) (.inr rfl)) (by decide))) (fun _ _ _ _ _ => (tts_yes (tt_cmp (o_nin hu65) okO2 (fl0 rfl) (to_e (te_rd (pv 7))) (to_e (te_rd (pv 4))) rfl))) (fun _ _ _ _ _ => (te_rd (pv 7))) (fun _ => rfl))
 (tss_cons (ts_if (PW.pt (tt_or (tt_cmp (o_ne hu64) okO2 (fl0 rfl) (to_v (pv 6)) (to_e (te_lst pa_tnil)) rfl) (pw_or1 (tt_cmp (o_ne hu64) okO2 (fl0 rfl) (to_v (pv 8)) (to_e (te_lst pa_tnil)) rfl)))) (tss_cons (ts_app (fl0 rfl) (to_v (pv 2)) (te_frz (te_tup (pa_tcons (fl0 rfl) (to_e (te_rd (pv 3))) (pa_tcons (fl0 rfl) (to_e (te_rf (pv 6))) (pa_tcons (fl0 rfl) (to_e (te_rf (pv 8))) pa_tnil rfl) rfl) rfl))) rfl rfl rfl rfl rfl rfl)
 tss_nil) tss_nil)
 tss_nil))))) (by decide) (fun _ => rfl))
 (tss_cons (ts_ret (te_mv (pv 2)))
 tss_nil)))
theorem sc9 : FnScope ["state", "script", "names", "lines", "gone", "_", "new", "due", "line"] ["state", "script", "names"] (defScope (top 12)) := ⟨rfl, rfl, rfl, by decide +kernel, rfl, by decide +kernel, by decide +kernel⟩
theorem ok9 (X : Fx K mg) (hsys : ∃ mm, base.Ns sysModules mm) {kk : Nat} {G : Nat → DF} (I1 : FnG P w K mg base kk X.a1 X.f1 ["lines", "letter"] (spF K [] (G 1) [])) (I2 : FnG P w K mg base kk X.a2 X.f2 ["state", "script", "size"] (spF K [] (G 2) [0])) (I6 : FnG P w K mg base kk X.a6 X.f6 ["state", "script", "names"] (spF K [] (G 6) [0])) (I7 : FnG P w K mg base kk X.a7 X.f7 ["state", "script", "names", "lines"] (spF K [] (G 7) [0])) : FnG P w K mg base (kk + 1) X.a9 X.f9 ["state", "script", "names"] (spF K [] (runDef d9 G) [0]) := by
  refine fundG (d := d9) X.h9 sc9 rfl rfl (by decide) (by decide) fun cdv A outer s H E hr hgd => ?_
  have hun := hr.un
  have hu1 : (A.deeper (envOfC "_law_any" (defScope (top 12)) s.heap.objs.size X.a9 cdv)).units + 1 < cLine := by omega
  have hu64 : (A.deeper (envOfC "_law_any" (defScope (top 12)) s.heap.objs.size X.a9 cdv)).units + 64 < cLine := by omega
  have hu65 : (A.deeper (envOfC "_law_any" (defScope (top 12)) s.heap.objs.size X.a9 cdv)).units + 65 < cLine := by omega
  have hu66 : (A.deeper (envOfC "_law_any" (defScope (top 12)) s.heap.objs.size X.a9 cdv)).units + 66 < cLine := by omega
  have hu70 : (A.deeper (envOfC "_law_any" (defScope (top 12)) s.heap.objs.size X.a9 cdv)).units + 70 < cLine := by omega
  have nd : (["state", "script", "names", "lines", "gone", "_", "new", "due", "line"] : List Str).Nodup := sc9.nd
  have F1 : FnAt (cxOf CX0 P w K mg base ["state", "script", "names", "lines", "gone", "_", "new", "due", "line"] "_law_any" (defScope (top 12)) X.a9 cdv A outer s H E).nox [] G 1 [] X.a1 0 := ⟨hgd, kk, X.f1, ["lines", "letter"], I1, hr, X.b1⟩
  have F2 : FnAt (cxOf CX0 P w K mg base ["state", "script", "names", "lines", "gone", "_", "new", "due", "line"] "_law_any" (defScope (top 12)) X.a9 cdv A outer s H E).nox [] G 2 [0] X.a2 0 := ⟨hgd, kk, X.f2, ["state", "script", "size"], I2, hr, X.b2⟩
  have F6 : FnAt (cxOf CX0 P w K mg base ["state", "script", "names", "lines", "gone", "_", "new", "due", "line"] "_law_any" (defScope (top 12)) X.a9 cdv A outer s H E).nox [] G 6 [0] X.a6 0 := ⟨hgd, kk, X.f6, ["state", "script", "names"], I6, hr, X.b6⟩
  have F7 : FnAt (cxOf CX0 P w K mg base ["state", "script", "names", "lines", "gone", "_", "new", "due", "line"] "_law_any" (defScope (top 12)) X.a9 cdv A outer s H E).nox [] G 7 [0] X.a7 0 := ⟨hgd, kk, X.f7, ["state", "script", "names", "lines"], I7, hr, X.b7⟩
  exact (tss_cons (ts_set (by decide) nd rfl (.inl rfl) (te_frz (te_call F7 (by rfl) X.g7 X.k7 (pa_tcons (fl0 rfl) (to_v (pv 0)) (pa_tcons (fl0 rfl) (to_e (te_rd (pv 1))) (pa_tcons (fl0 rfl) (to_e (te_rd (pv 2))) (pa_tcons (fl0 rfl) (to_e (te_frz (te_lst pa_tnil))) pa_tnil rfl) rfl) rfl) rfl) (by rfl) (by rfl) (by rfl))) rfl (.inl rfl))
 (tss_cons (ts_set (by decide) nd rfl (.inr rfl) (te_comp rfl nd (ti_r1 (by rfl) X.m_range (te_call F2 (by rfl) X.g2 X.k2 (pa_tcons (fl0 rfl) (to_v (pv 0)) (pa_tcons (fl0 rfl) (to_e (te_rd (pv 1))) (pa_tcons (fl0 rfl) (to_e (te_const (v := .int 3) (x := .int 3) (fun _ => .int 3) (fun _ => rfl) pe_int)) pa_tnil rfl) rfl) rfl) (by rfl) (by rfl) (by rfl)) (by rfl)) (blkOk_by (own := [("_", 5)]) rfl) (by decide) (fun _ _ _ _ _ => (tg_n (pg_name nd rfl (.inl rfl) (.inr rfl)) (by decide))) (fun _ _ _ _ _ => tts_no) (fun _ _ _ _ _ => (te_frz (te_call ⟨F6.gd, F6.ok⟩ (by rfl) X.g6 X.k6 (pa_tcons (fl0 rfl) (to_v (pv 0)) (pa_tcons (fl0 rfl) (to_e (te_rd (pv 1))) (pa_tcons (fl0 rfl) (to_e (te_rd (pv 2))) pa_tnil rfl) rfl) rfl) (by rfl) (by rfl) (by rfl)))) (fun _ => rfl)) rfl (.inl rfl))
 (tss_cons (ts_setC (by decide) rfl nd rfl rfl rfl (ti_r1 (by rfl) X.m_range (te_call F2 (by rfl) X.g2 X.k2 (pa_tcons (fl0 rfl) (to_v (pv 0)) (pa_tcons (fl0 rfl) (to_e (te_rd (pv 1))) (pa_tcons (fl0 rfl) (to_e (te_const (v := .int 3) (x := .int 3) (fun _ => .int 3) (fun _ => rfl) pe_int)) pa_tnil rfl) rfl) rfl) (by rfl) (by rfl) (by rfl)) (by rfl)) (blkOk_by (own := [("_", 5)]) rfl) (by decide) (fun _ _ _ _ _ => (tg_n (pg_name nd rfl (.inl rfl) (.inr rfl)) (by decide))) (fun _ _ _ _ _ => tts_no) (fun _ _ _ _ _ => (te_frz (te_call ⟨F6.gd, F6.ok⟩ (by rfl) X.g6 X.k6 (pa_tcons (fl0 rfl) (to_v (pv 0)) (pa_tcons (fl0 rfl) (to_e (te_rd (pv 1))) (pa_tcons (fl0 rfl) (to_e (te_rd (pv 2))) pa_tnil rfl) rfl) rfl) (by rfl) (by rfl) (by rfl)))) (fun _ => rfl))
 (tss_cons (ts_set (by decide) nd rfl (.inl rfl) (te_frz (te_callB (b_sorted hu66) okOp (by rfl) X.m_sorted bt_sorted (pa_tcons (fl0 rfl) (to_e (te_bin o_add okO2 (fl0 rfl) (to_e (te_comp rfl nd (ti_l (te_rd (pv 3))) (blkOk_by (own := [("line", 8)]) rfl) (by decide) (fun _ _ _ _ _ => (tg_n (pg_name nd rfl (.inl rfl) (.inr rfl)) (by decide))) (fun _ _ _ _ _ => (tts_yes (tt_cmp (o_nin hu65) okO2 (fl0 rfl) (to_e (te_rd (pv 8))) (to_v (pv 4)) rfl))) (fun _ _ _ _ _ => (te_rd (pv 8))) (fun _ => rfl))) (to_v (pv 6)))) pa_tnil rfl) (by decide) (by rfl) (by rfl) (by rfl))) rfl (.inl rfl))
 (tss_cons (ts_ret (te_cmp (o_eq hu64) okO2 (fl0 rfl) (to_e (te_repr hsys hgd hu70 (by rfl) X.m_repr (to_e (te_call F1 (by rfl) X.g1 X.k1 (pa_tcons (fl0 rfl) (to_e (te_frz (te_callTy (b_list rfl) okOp (by rfl) X.m_list bt_list (pa_tcons (fl0 rfl) (to_e (te_rd (pv 3))) pa_tnil rfl) (by decide) (by rfl) (by rfl) (by rfl)))) (pa_tcons (fl0 rfl) (to_e (te_frz (te_tup (pa_tcons (fl0 rfl) (to_e (te_const (v := .str "ann") (x := .str "ann") (fun _ => .str "ann") (fun _ => rfl) pe_str)) (pa_tcons (fl0 rfl) (to_e (te_frz (te_callTy (b_list rfl) okOp (by rfl) X.m_list bt_list (pa_tcons (fl0 rfl) (to_v (pv 4)) pa_tnil rfl) (by decide) (by rfl) (by rfl) (by rfl)))) (pa_tcons (fl0 rfl) (to_e (te_frz (te_callTy (b_list rfl) okOp (by rfl) X.m_list bt_list (pa_tcons (fl0 rfl) (to_v (pv 6)) pa_tnil rfl) (by decide) (by rfl) (by rfl) (by rfl)))) pa_tnil rfl) rfl) rfl)))) pa_tnil rfl) rfl) (by rfl) (by rfl) (by rfl))) (by rfl))) (to_e (te_repr hsys hgd hu70 (by rfl) X.m_repr (to_e (te_rd (pv 7))) (by rfl))) rfl))
 tss_nil)))))
theorem sc10 : FnScope ["script", "state", "names", "persons", "before", "_", "after", "left", "x", "due", "kept", "told", "letter", "lines", "again"] ["script"] (defScope (top 13)) := ⟨rfl, rfl, rfl, by decide +kernel, rfl, by decide +kernel, by decide +kernel⟩
theorem ok10 (X : Fx K mg) (hsys : ∃ mm, base.Ns sysModules mm) {kk : Nat} {G : Nat → DF} (I0 : FnG P w K mg base kk X.a0 X.f0 ["before", "after"] (spF K [] (G 0) [])) (I1 : FnG P w K mg base kk X.a1 X.f1 ["lines", "letter"] (spF K [] (G 1) [])) (I2 : FnG P w K mg base kk X.a2 X.f2 ["state", "script", "size"] (spF K [] (G 2) [0])) (I5 : FnG P w K mg base kk X.a5 X.f5 ["state", "script", "many"] (spF K [] (G 5) [0])) (I7 : FnG P w K mg base kk X.a7 X.f7 ["state", "script", "names", "lines"] (spF K [] (G 7) [0])) (I8 : FnG P w K mg base kk X.a8 X.f8 ["before", "after"] (spF K [] (G 8) [])) (I9 : FnG P w K mg base kk X.a9 X.f9 ["state", "script", "names"] (spF K [] (G 9) [0])) : FnG P w K mg base (kk + 1) X.a10 X.f10 ["script"] (spF K [] (runDef d10 G) []) := by
  refine fundG (d := d10) X.h10 sc10 rfl rfl (by decide) (by decide) fun cdv A outer s H E hr hgd => ?_
  have hun := hr.un
  have hu1 : (A.deeper (envOfC "law" (defScope (top 13)) s.heap.objs.size X.a10 cdv)).units + 1 < cLine := by omega
  have hu64 : (A.deeper (envOfC "law" (defScope (top 13)) s.heap.objs.size X.a10 cdv)).units + 64 < cLine := by omega
  have hu65 : (A.deeper (envOfC "law" (defScope (top 13)) s.heap.objs.size X.a10 cdv)).units + 65 < cLine := by omega
  have hu66 : (A.deeper (envOfC "law" (defScope (top 13)) s.heap.objs.size X.a10 cdv)).units + 66 < cLine := by omega
  have hu70 : (A.deeper (envOfC "law" (defScope (top 13)) s.heap.objs.size X.a10 cdv)).units + 70 < cLine := by omega
  have nd : (["script", "state", "names", "persons", "before", "_", "after", "left", "x", "due", "kept", "told", "letter", "lines", "again"] : List Str).Nodup := sc10.nd
  have F0 : FnAt (cxOf CX0 P w K mg base ["script", "state", "names", "persons", "before", "_", "after", "left", "x", "due", "kept", "told", "letter", "lines", "again"] "law" (defScope (top 13)) X.a10 cdv A outer s H E).nox [] G 0 [] X.a0 0 := ⟨hgd, kk, X.f0, ["before", "after"], I0, hr, X.b0⟩
  have F1 : FnAt (cxOf CX0 P w K mg base ["script", "state", "names", "persons", "before", "_", "after", "left", "x", "due", "kept", "told", "letter", "lines", "again"] "law" (defScope (top 13)) X.a10 cdv A outer s H E).nox [] G 1 [] X.a1 0 := ⟨hgd, kk, X.f1, ["lines", "letter"], I1, hr, X.b1⟩
  have F2 : FnAt (cxOf CX0 P w K mg base ["script", "state", "names", "persons", "before", "_", "after", "left", "x", "due", "kept", "told", "letter", "lines", "again"] "law" (defScope (top 13)) X.a10 cdv A outer s H E).nox [] G 2 [0] X.a2 0 := ⟨hgd, kk, X.f2, ["state", "script", "size"], I2, hr, X.b2⟩
  have F5 : FnAt (cxOf CX0 P w K mg base ["script", "state", "names", "persons", "before", "_", "after", "left", "x", "due", "kept", "told", "letter", "lines", "again"] "law" (defScope (top 13)) X.a10 cdv A outer s H E).nox [] G 5 [0] X.a5 0 := ⟨hgd, kk, X.f5, ["state", "script", "many"], I5, hr, X.b5⟩
  have F7 : FnAt (cxOf CX0 P w K mg base ["script", "state", "names", "persons", "before", "_", "after", "left", "x", "due", "kept", "told", "letter", "lines", "again"] "law" (defScope (top 13)) X.a10 cdv A outer s H E).nox [] G 7 [0] X.a7 0 := ⟨hgd, kk, X.f7, ["state", "script", "names", "lines"], I7, hr, X.b7⟩
  have F8 : FnAt (cxOf CX0 P w K mg base ["script", "state", "names", "persons", "before", "_", "after", "left", "x", "due", "kept", "told", "letter", "lines", "again"] "law" (defScope (top 13)) X.a10 cdv A outer s H E).nox [] G 8 [] X.a8 0 := ⟨hgd, kk, X.f8, ["before", "after"], I8, hr, X.b8⟩
  have F9 : FnAt (cxOf CX0 P w K mg base ["script", "state", "names", "persons", "before", "_", "after", "left", "x", "due", "kept", "told", "letter", "lines", "again"] "law" (defScope (top 13)) X.a10 cdv A outer s H E).nox [] G 9 [0] X.a9 0 := ⟨hgd, kk, X.f9, ["state", "script", "names"], I9, hr, X.b9⟩
  exact (tss_cons (ts_set (by decide) nd rfl (.inl rfl) (te_lst (pa_tcons (fl0 rfl) (to_e (te_const (v := .int 0) (x := .int 0) (fun _ => .int 0) (fun _ => rfl) pe_int)) (pa_tcons (fl0 rfl) (to_e (te_const (v := .int 0) (x := .int 0) (fun _ => .int 0) (fun _ => rfl) pe_int)) pa_tnil rfl) rfl)) rfl (.inl rfl))
 (tss_cons (ts_set (by decide) nd rfl (.inl rfl) (te_frz (te_call F5 (by rfl) X.g5 X.k5 (pa_tcons (fl0 rfl) (to_v (pv 1)) (pa_tcons (fl0 rfl) (to_e (te_rd (pv 0))) (pa_tcons (fl0 rfl) (to_e (te_const (v := .int 3) (x := .int 3) (fun _ => .int 3) (fun _ => rfl) pe_int)) pa_tnil rfl) rfl) rfl) (by rfl) (by rfl) (by rfl))) rfl (.inl rfl))
 (tss_cons (ts_set (by decide) nd rfl (.inl rfl) (te_frz (te_call F5 (by rfl) X.g5 X.k5 (pa_tcons (fl0 rfl) (to_v (pv 1)) (pa_tcons (fl0 rfl) (to_e (te_rd (pv 0))) (pa_tcons (fl0 rfl) (to_e (te_const (v := .int 5) (x := .int 5) (fun _ => .int 5) (fun _ => rfl) pe_int)) pa_tnil rfl) rfl) rfl) (by rfl) (by rfl) (by rfl))) rfl (.inl rfl))
 (tss_cons (ts_set (by decide) nd rfl (.inl rfl) (te_frz te_dic0) rfl (.inl rfl))
 (tss_cons (ts_for PassesOwn.never rfl (ti_r1 (by rfl) X.m_range (te_bin o_add okO2 (fl0 rfl) (to_e (te_const (v := .int 1) (x := .int 1) (fun _ => .int 1) (fun _ => rfl) pe_int)) (to_e (te_call F2 (by rfl) X.g2 X.k2 (pa_tcons (fl0 rfl) (to_v (pv 1)) (pa_tcons (fl0 rfl) (to_e (te_rd (pv 0))) (pa_tcons (fl0 rfl) (to_e (te_const (v := .int 5) (x := .int 5) (fun _ => .int 5) (fun _ => rfl) pe_int)) pa_tnil rfl) rfl) rfl) (by rfl) (by rfl) (by rfl)))) (by rfl)) (tg_n (pg_name nd rfl (.inl rfl) (.inr rfl)) (by decide)) (tss_cons (ts_set (by decide) nd rfl (.inl rfl) te_dic0 rfl (.inl rfl))
 (tss_cons (ts_set (by decide) nd rfl (.inl rfl) (te_callTy (b_list rfl) okOp (by rfl) X.m_list bt_list (pa_tcons (fl0 rfl) (to_e (te_rd (pv 3))) pa_tnil rfl) (by decide) (by rfl) (by rfl) (by rfl)) rfl (.inl rfl))
 (tss_cons (ts_whl PassesOwn.never (tt_cmp o_gt okO2 (fl0 rfl) (to_e (te_callB b_len okOp (by rfl) X.m_len bt_len (pa_tcons (fl0 rfl) (to_v (pv 7)) pa_tnil rfl) (by decide) (by rfl) (by rfl) (by rfl))) (to_e (te_const (v := .int 0) (x := .int 0) (fun _ => .int 0) (fun _ => rfl) pe_int)) rfl) (tss_cons (ts_set (by decide) nd rfl (.inl rfl) (te_frz (te_pop1 (fl0 rfl) (to_v (pv 7)) (te_call F2 (by rfl) X.g2 X.k2 (pa_tcons (fl0 rfl) (to_v (pv 1)) (pa_tcons (fl0 rfl) (to_e (te_rd (pv 0))) (pa_tcons (fl0 rfl) (to_e (te_callB b_len okOp (by rfl) X.m_len bt_len (pa_tcons (fl0 rfl) (to_v (pv 7)) pa_tnil rfl) (by decide) (by rfl) (by rfl) (by rfl))) pa_tnil rfl) rfl) rfl) (by rfl) (by rfl) (by rfl)) rfl rfl rfl rfl rfl)) rfl (.inl rfl))
 (tss_cons (ts_if (tt_cmp o_gt okO2 (fl0 rfl) (to_e (te_call F2 (by rfl) X.g2 X.k2 (pa_tcons (fl0 rfl) (to_v (pv 1)) (pa_tcons (fl0 rfl) (to_e (te_rd (pv 0))) (pa_tcons (fl0 rfl) (to_e (te_const (v := .int 5) (x := .int 5) (fun _ => .int 5) (fun _ => rfl) pe_int)) pa_tnil rfl) rfl) rfl) (by rfl) (by rfl) (by rfl))) (to_e (te_const (v := .int 0) (x := .int 0) (fun _ => .int 0) (fun _ => rfl) pe_int)) rfl) (tss_cons (ts_seti hu1 (te_frz (te_call F7 (by rfl) X.g7 X.k7 (pa_tcons (fl0 rfl) (to_v (pv 1)) (pa_tcons (fl0 rfl) (to_e (te_rd (pv 0))) (pa_tcons (fl0 rfl) (to_e (te_rd (pv 2))) (pa_tcons (fl0 rfl) (to_e (te_get2 hu70 rfl (te_rd (pv 4)) (te_rd (pv 8)) (te_frz (te_lst pa_tnil)) ⟨rfl, rfl, rfl, rfl⟩)) pa_tnil rfl) rfl) rfl) rfl) (by rfl) (by rfl) (by rfl))) (to_v (pv 6)) (te_rd (pv 8)) rfl rfl rfl (fun _ => rfl))
 tss_nil) tss_nil)
 tss_nil)))
 (tss_cons (ts_set (by decide) nd rfl (.inl rfl) (te_frz (te_call F8 (by rfl) X.g8 X.k8 (pa_tcons (fl0 rfl) (to_e (te_rd (pv 4))) (pa_tcons (fl0 rfl) (to_e (te_rf (pv 6))) pa_tnil rfl) rfl) (by rfl) (by rfl) (by rfl))) rfl (.inl rfl))
 (tss_cons (ts_set (by decide) nd rfl (.inl rfl) (te_repr hsys hgd hu70 (by rfl) X.m_repr (to_e (te_lst (pa_tcons (fl0 rfl) (to_e (te_rd (pv 4))) (pa_tcons (fl0 rfl) (to_e (te_rf (pv 6))) pa_tnil rfl) rfl))) (by rfl)) rfl (.inl rfl))
 (tss_cons (ts_set (by decide) nd rfl (.inl rfl) (te_call F0 (by rfl) X.g0 X.k0 (pa_tcons (fl0 rfl) (to_e (te_rd (pv 4))) (pa_tcons (fl0 rfl) (to_e (te_rf (pv 6))) pa_tnil rfl) rfl) (by rfl) (by rfl) (by rfl)) rfl (.inl rfl))
 (tss_cons (ts_if (PW.pt (tt_or (tt_cmp (o_ne hu64) okO2 (fl0 rfl) (to_e (te_repr hsys hgd hu70 (by rfl) X.m_repr (to_v (pv 11)) (by rfl))) (to_e (te_repr hsys hgd hu70 (by rfl) X.m_repr (to_e (te_rd (pv 9))) (by rfl))) rfl) (tt_or (tt_cmp (o_ne hu64) okO2 (fl0 rfl) (to_e (te_repr hsys hgd hu70 (by rfl) X.m_repr (to_e (te_lst (pa_tcons (fl0 rfl) (to_e (te_rd (pv 4))) (pa_tcons (fl0 rfl) (to_e (te_rf (pv 6))) pa_tnil rfl) rfl))) (by rfl))) (to_e (te_rd (pv 10))) rfl) (pw_or1 (tt_not (tt_tr (to_e (te_call F9 (by rfl) X.g9 X.k9 (pa_tcons (fl0 rfl) (to_v (pv 1)) (pa_tcons (fl0 rfl) (to_e (te_rd (pv 0))) (pa_tcons (fl0 rfl) (to_e (te_rd (pv 2))) pa_tnil rfl) rfl) rfl) (by rfl) (by rfl) (by rfl))) (fun _ => rfl))))))) (tss_cons (ts_ret (te_const (v := .bl false) (x := .bool false) (fun _ => .bl false) (fun _ => rfl) pe_false))
 tss_nil) tss_nil)
 (tss_cons (ts_for PassesOwn.never rfl (ti_l (te_rd (pv 9))) (tg_n (pg_name nd rfl (.inl rfl) (.inr rfl)) (by decide)) (tss_cons (ts_set (by decide) nd rfl (.inl rfl) (te_get2 hu70 rfl (te_rd (pv 4)) (te_ix o_ix okO2 (fl0 rfl) (to_e (te_rd (pv 12))) (to_e (te_const (v := .int 0) (x := .int 0) (fun _ => .int 0) (fun _ => rfl) pe_int)) (fun _ _ => rfl)) (te_frz (te_lst pa_tnil)) ⟨rfl, rfl, rfl, rfl⟩) rfl (.inl rfl))
 (tss_cons (ts_set (by decide) nd rfl (.inl rfl) (te_frz (te_call F1 (by rfl) X.g1 X.k1 (pa_tcons (fl0 rfl) (to_e (te_rd (pv 13))) (pa_tcons (fl0 rfl) (to_e (te_frz (te_tup (pa_tcons (fl0 rfl) (to_e (te_ix o_ix okO2 (fl0 rfl) (to_e (te_rd (pv 12))) (to_e (te_const (v := .int 0) (x := .int 0) (fun _ => .int 0) (fun _ => rfl) pe_int)) (fun _ _ => rfl))) (pa_tcons (fl0 rfl) (to_e (te_frz (te_callTy (b_list rfl) okOp (by rfl) X.m_list bt_list (pa_tcons (fl0 rfl) (to_e (te_ix o_ix okO2 (fl0 rfl) (to_e (te_rd (pv 12))) (to_e (te_const (v := .int 1) (x := .int 1) (fun _ => .int 1) (fun _ => rfl) pe_int)) (fun _ _ => rfl))) pa_tnil rfl) (by decide) (by rfl) (by rfl) (by rfl)))) (pa_tcons (fl0 rfl) (to_e (te_frz (te_callTy (b_list rfl) okOp (by rfl) X.m_list bt_list (pa_tcons (fl0 rfl) (to_e (te_ix o_ix okO2 (fl0 rfl) (to_e (te_rd (pv 12))) (to_e (te_const (v := .int 2) (x := .int 2) (fun _ => .int 2) (fun _ => rfl) pe_int)) (fun _ _ => rfl))) pa_tnil rfl) (by decide) (by rfl) (by rfl) (by rfl)))) pa_tnil rfl) rfl) rfl)))) pa_tnil rfl) rfl) (by rfl) (by rfl) (by rfl))) rfl (.inl rfl))
 (tss_cons (ts_if (PW.pt (tt_or (tt_cmp (o_ne hu64) okO2 (fl0 rfl) (to_e (te_repr hsys hgd hu70 (by rfl) X.m_repr (to_e (te_rd (pv 14))) (by rfl))) (to_e (te_repr hsys hgd hu70 (by rfl) X.m_repr (to_e (te_get2 hu70 rfl (te_rf (pv 6)) (te_ix o_ix okO2 (fl0 rfl) (to_e (te_rd (pv 12))) (to_e (te_const (v := .int 0) (x := .int 0) (fun _ => .int 0) (fun _ => rfl) pe_int)) (fun _ _ => rfl)) (te_frz (te_lst pa_tnil)) ⟨rfl, rfl, rfl, rfl⟩)) (by rfl))) rfl) (pw_or1 (tt_cmp (o_ne hu64) okO2 (fl0 rfl) (to_e (te_repr hsys hgd hu70 (by rfl) X.m_repr (to_e (te_lst (pa_tcons (fl0 rfl) (to_e (te_rd (pv 4))) (pa_tcons (fl0 rfl) (to_e (te_rf (pv 6))) pa_tnil rfl) rfl))) (by rfl))) (to_e (te_rd (pv 10))) rfl)))) (tss_cons (ts_ret (te_const (v := .bl false) (x := .bool false) (fun _ => .bl false) (fun _ => rfl) pe_false))
 tss_nil) tss_nil)
 tss_nil))) (by decide) (fun _ => rfl))
 (tss_cons (ps_weak (ps_for PassesOwn.never rfl (pi_list (pv 11)) (pg_name (i := 12) nd rfl (.inl rfl) (.inl rfl)) (pss_cons (ps_expr (pe_bm PySem.F.plainAttrs_list PySem.F.slot_list_append PySem.F.type_list_append mt_append (pe_ix ix_tup (pv 12) pe_int (fun _ _ => rfl)) (pa_cons (pe_tup (pa_cons pe_str pa_nil)) pa_nil))) (pss_one (ps_expr (pe_bm PySem.F.plainAttrs_list PySem.F.slot_list_append PySem.F.type_list_append mt_append (pe_ix ix_tup (pv 12) pe_int (fun _ _ => rfl)) (pa_cons (pe_tup (pa_cons pe_str pa_nil)) pa_nil))))) (fun _ => rfl)) fun Dn σ H h => zap_red (z := "zz") (by decide) (by decide) h)
 (tss_cons (ts_if (tt_cmp (o_ne hu64) okO2 (fl0 rfl) (to_e (te_repr hsys hgd hu70 (by rfl) X.m_repr (to_e (te_call F0 (by rfl) X.g0 X.k0 (pa_tcons (fl0 rfl) (to_e (te_rd (pv 4))) (pa_tcons (fl0 rfl) (to_e (te_rf (pv 6))) pa_tnil rfl) rfl) (by rfl) (by rfl) (by rfl))) (by rfl))) (to_e (te_repr hsys hgd hu70 (by rfl) X.m_repr (to_e (te_rd (pv 9))) (by rfl))) rfl) (tss_cons (ts_ret (te_const (v := .bl false) (x := .bool false) (fun _ => .bl false) (fun _ => rfl) pe_false))
 tss_nil) tss_nil)
 (tss_cons (ts_set (by decide) nd rfl (.inl rfl) (te_rf (pv 6)) rfl (.inl rfl))
 tss_nil))))))))))) (by decide) (fun _ => rfl))
 (tss_cons (ts_ret (te_const (v := .bl true) (x := .bool true) (fun _ => .bl true) (fun _ => rfl) pe_true))
 tss_nil))))))
/-- the program keeps its tables -/
theorem prog (X : Fx K mg) (hsys : ∃ mm, base.Ns sysModules mm) : ∀ n : Nat, FnG P w K mg base n X.a0 X.f0 ["before", "after"] (spF K [] (sem tab n 0) []) ∧ FnG P w K mg base n X.a1 X.f1 ["lines", "letter"] (spF K [] (sem tab n 1) []) ∧ FnG P w K mg base n X.a2 X.f2 ["state", "script", "size"] (spF K [] (sem tab n 2) [0]) ∧ FnG P w K mg base n X.a3 X.f3 ["state", "script", "items"] (spF K [] (sem tab n 3) [0]) ∧ FnG P w K mg base n X.a4 X.f4 ["state", "script", "at"] (spF K [] (sem tab n 4) [0]) ∧ FnG P w K mg base n X.a5 X.f5 ["state", "script", "many"] (spF K [] (sem tab n 5) [0]) ∧ FnG P w K mg base n X.a6 X.f6 ["state", "script", "names"] (spF K [] (sem tab n 6) [0]) ∧ FnG P w K mg base n X.a7 X.f7 ["state", "script", "names", "lines"] (spF K [] (sem tab n 7) [0]) ∧ FnG P w K mg base n X.a8 X.f8 ["before", "after"] (spF K [] (sem tab n 8) []) ∧ FnG P w K mg base n X.a9 X.f9 ["state", "script", "names"] (spF K [] (sem tab n 9) [0]) ∧ FnG P w K mg base n X.a10 X.f10 ["script"] (spF K [] (sem tab n 10) [])
  | 0 => ⟨fng_zero, fng_zero, fng_zero, fng_zero, fng_zero, fng_zero, fng_zero, fng_zero, fng_zero, fng_zero, fng_zero⟩
  | n + 1 => by
    obtain ⟨i0, i1, i2, i3, i4, i5, i6, i7, i8, i9, i10⟩ := prog X hsys n
    exact ⟨ok0 X hsys, ok1 X hsys, ok2 X hsys, ok3 X hsys i2, ok4 X hsys i2, ok5 X hsys i4, ok6 X hsys i2 i3, ok7 X hsys i2 i6, ok8 X hsys, ok9 X hsys i1 i2 i6 i7, ok10 X hsys i0 i1 i2 i5 i7 i8 i9⟩
end
/-! ### the head -/
def dF (x : Str) (st : Stmt) : He.DefD := ⟨(x, none), x, x, defArgs st, defBody st, defScope st, [], []⟩
def fn : List He.DefD := [dF "letters" (top 1), dF "rebuilt" (top 2), dF "_law_draw" (top 4), dF "_law_pick" (top 5), dF "_law_name" (top 6), dF "_law_names" (top 7), dF "_law_line" (top 9), dF "_law_turned" (top 10), dF "_law_letters" (top 11), dF "_law_any" (top 12), dF "law" (top 13)]
def fa : List He.Fa := [.glo "letters", .glo "rebuilt", .glo "_law_draw", .glo "_law_pick", .glo "_law_name", .glo "_law_names", .glo "_law_line", .glo "_law_turned", .glo "_law_letters", .glo "_law_any", .glo "law", .free "int", .free "len", .free "list", .free "range", .free "repr", .free "set", .free "sorted", .free "str"]
abbrev R : PySem.W.OpenRow := PySem.W.OpenLaw.row PySem.Challenge.rw_claimshold_k70_letters
abbrev hk : PySem.W.Hook := He.hookD 5 fa fn
def ob (s : PySem.W.SharedT) : He.AlD := He.obsDG 5 fa fn (HandSHeadRun.getT s)
theorem ob_eq (s : PySem.W.SharedT) : ob s = hk.obs s.abs := He.obsDG_eq (HandSHeadRun.getT_eq s)
def loose : List PySem.Str := (["letters", "rebuilt", "_law_draw", "_law_pick", "_law_name", "_law_names", "_law_some", "_law_line", "_law_turned", "_law_letters", "_law_any"] : List PySem.Str)
theorem run (w : World) : HandSHeadRun.RunEq R (PySem.W.view R.prog [13]) hk ob 4000 loose w := by
  intro os
  kernel_rfl
theorem facts {K : PySem.W.Frag} {h : Heap} {mg : Str → Option Value} (X : K.In h) (G : h.Ns mainGlobals mg) (c : He.SaysD fa fn K) : ∃ x : Fx K mg, ∀ (s : Shared) (u : Value), BindsTo s x.f10 ⟨[u], []⟩ [("script", u)] := by
  obtain ⟨f0, F0⟩ := c.def_ 0 (d := dF "letters" (top 1)) rfl
  obtain ⟨f1, F1⟩ := c.def_ 1 (d := dF "rebuilt" (top 2)) rfl
  obtain ⟨f2, F2⟩ := c.def_ 2 (d := dF "_law_draw" (top 4)) rfl
  obtain ⟨f3, F3⟩ := c.def_ 3 (d := dF "_law_pick" (top 5)) rfl
  obtain ⟨f4, F4⟩ := c.def_ 4 (d := dF "_law_name" (top 6)) rfl
  obtain ⟨f5, F5⟩ := c.def_ 5 (d := dF "_law_names" (top 7)) rfl
  obtain ⟨f6, F6⟩ := c.def_ 6 (d := dF "_law_line" (top 9)) rfl
  obtain ⟨f7, F7⟩ := c.def_ 7 (d := dF "_law_turned" (top 10)) rfl
  obtain ⟨f8, F8⟩ := c.def_ 8 (d := dF "_law_letters" (top 11)) rfl
  obtain ⟨f9, F9⟩ := c.def_ 9 (d := dF "_law_any" (top 12)) rfl
  obtain ⟨f10, F10⟩ := c.def_ 10 (d := dF "law" (top 13)) rfl
  have bl := FunD.bindsA (ps := ["script"]) F10 fun _ _ _ _ _ _ us hl => match us, hl with | [_], _ => rfl
  exact ⟨⟨_, f0, F0, He.glo_ok X G (c.fact 0 (f := .glo "letters") rfl), F0.kp, (F0.bindsN fun _ _ _ _ _ _ us hl => match us, hl with | [_, _], _ => rfl),
    _, f1, F1, He.glo_ok X G (c.fact 1 (f := .glo "rebuilt") rfl), F1.kp, (F1.bindsN fun _ _ _ _ _ _ us hl => match us, hl with | [_, _], _ => rfl),
    _, f2, F2, He.glo_ok X G (c.fact 2 (f := .glo "_law_draw") rfl), F2.kp, (F2.bindsN fun _ _ _ _ _ _ us hl => match us, hl with | [_, _, _], _ => rfl),
    _, f3, F3, He.glo_ok X G (c.fact 3 (f := .glo "_law_pick") rfl), F3.kp, (F3.bindsN fun _ _ _ _ _ _ us hl => match us, hl with | [_, _, _], _ => rfl),
    _, f4, F4, He.glo_ok X G (c.fact 4 (f := .glo "_law_name") rfl), F4.kp, (F4.bindsN fun _ _ _ _ _ _ us hl => match us, hl with | [_, _, _], _ => rfl),
    _, f5, F5, He.glo_ok X G (c.fact 5 (f := .glo "_law_names") rfl), F5.kp, (F5.bindsN fun _ _ _ _ _ _ us hl => match us, hl with | [_, _, _], _ => rfl),
    _, f6, F6, He.glo_ok X G (c.fact 6 (f := .glo "_law_line") rfl), F6.kp, (F6.bindsN fun _ _ _ _ _ _ us hl => match us, hl with | [_, _, _], _ => rfl),
    _, f7, F7, He.glo_ok X G (c.fact 7 (f := .glo "_law_turned") rfl), F7.kp, (F7.bindsN fun _ _ _ _ _ _ us hl => match us, hl with | [_, _, _, _], _ => rfl),
    _, f8, F8, He.glo_ok X G (c.fact 8 (f := .glo "_law_letters") rfl), F8.kp, (F8.bindsN fun _ _ _ _ _ _ us hl => match us, hl with | [_, _], _ => rfl),
    _, f9, F9, He.glo_ok X G (c.fact 9 (f := .glo "_law_any") rfl), F9.kp, (F9.bindsN fun _ _ _ _ _ _ us hl => match us, hl with | [_, _, _], _ => rfl),
    _, f10, F10, He.glo_ok X G (c.fact 10 (f := .glo "law") rfl), F10.kp, (F10.bindsN fun _ _ _ _ _ _ us hl => match us, hl with | [_], _ => rfl),
    He.free_ok X G (c.fact 11 (f := .free "int") rfl),
    He.free_ok X G (c.fact 12 (f := .free "len") rfl),
    He.free_ok X G (c.fact 13 (f := .free "list") rfl),
    He.free_ok X G (c.fact 14 (f := .free "range") rfl),
    He.free_ok X G (c.fact 15 (f := .free "repr") rfl),
    He.free_ok X G (c.fact 16 (f := .free "set") rfl),
    He.free_ok X G (c.fact 17 (f := .free "sorted") rfl),
    He.free_ok X G (c.fact 18 (f := .free "str") rfl)⟩, fun s v => bl s [v] rfl⟩
/-- the law as a function of the script -/
def lawF (ns : List Int) : Option (X × List X) := sem tab 8 10 [.d (.list (ns.map PyData.int))]
theorem ints_di {K : PySem.W.Frag} {H : Hp} : ∀ ns : List Int, DIs K H (ns.map V.int) (ns.map PyData.int)
  | [] => .nil
  | n :: ns => .cons (.int n) (ints_di ns)
theorem law_sp {K : PySem.W.Frag} {H : Hp} {a : Addr} {ns : List Int} (hS : FrL K H a (ns.map V.int)) (h : lawF ns = some (.d (.bool true), [])) : spF K [] (sem tab 8 10) [] [.ref a] H (fun v _ => v = .bl true) fun _ _ _ => False := by
  refine ⟨[.d (.list (ns.map PyData.int))], noF, .cons (F2 := noF) (.d (.lst hS (ints_di ns))) .nil (fun _ z => z.elim) (fun _ z => z) (fun _ z => z), fun _ z => z.elim, _, _, h, fun v H' F' rs _ _ _ => ?_⟩
  cases rs with
  | cons r _ _ _ _ => exact rep_bool r
def St (s : X) : Prop := ∃ i m : Int, s = .lst [.d (.int i), .d (.int m)]
def scr (ns : List Int) : X := .d (.list (ns.map PyData.int))
theorem sem_succ (n j : Nat) (d : DefT) (h : tab j = some d) (xs : List X) : sem tab (n + 1) j xs = runDef d (sem tab n) xs := by
  show (match tab j with
    | some d => runDef d (sem tab n)
    | none => fun _ => none) xs = _
  rw [h]
abbrev xI (i : Int) : X := .d (.int i)
abbrev sT (i m : Int) : X := .lst [xI i, xI m]
theorem at0 {x y : D} : atI [x, y] 0 = some x := rfl
theorem at1 {x y : D} : atI [x, y] 1 = some y := rfl
theorem q_s0 {i m : Int} : opF .ix [.list [.int i, .int m], .int 0] = some (xI i) := rfl
theorem q_s1 {i m : Int} : opF .ix [.list [.int i, .int m], .int 1] = some (xI m) := rfl
theorem dat_sT {i m : Int} : dat1 (sT i m) = some (.list [.int i, .int m]) := rfl
/-- cell = script[..], or 0, made positive -/
theorem draw_cell (G : Nat → DF) (i m size : Int) (ns : List Int) (c e f : Option X) : ∃ c' : Int, ∀ r w, evSs G r [some (sT i m), some (scr ns), some (xI size), some (xI c'), e, f] = w → evSs G (.cons (.set 3 (.c (.int 0)))
 (.cons (.iff (.op .gt (.cons (.e (.op .len (.cons (.e (.rd 1)) .nil))) (.cons (.e (.c (.int 0))) .nil))) (.cons (.set 3 (.op .ix (.cons (.e (.rd 1)) (.cons (.e (.op .mod (.cons (.e (.op .ix (.cons (.p ⟨0, []⟩) (.cons (.e (.c (.int 0))) .nil)))) (.cons (.e (.op .len (.cons (.e (.rd 1)) .nil))) .nil)))) .nil))))
 .nil) .nil)
 (.cons (.iff (.op .lt (.cons (.e (.rd 3)) (.cons (.e (.c (.int 0))) .nil))) (.cons (.set 3 (.op .sub (.cons (.e (.c (.int 1))) (.cons (.e (.op .mul (.cons (.e (.c (.int 2))) (.cons (.e (.rd 3)) .nil)))) .nil))))
 .nil) .nil) r))) [some (sT i m), some (scr ns), some (xI size), c, e, f] = w := by
  have second : ∀ c0 : Int, ∃ c' : Int, evS G (.iff (.op .lt (.cons (.e (.rd 3)) (.cons (.e (.c (.int 0))) .nil))) (.cons (.set 3 (.op .sub (.cons (.e (.c (.int 1))) (.cons (.e (.op .mul (.cons (.e (.c (.int 2))) (.cons (.e (.rd 3)) .nil)))) .nil))))
 .nil) .nil) [some (sT i m), some (scr ns), some (xI size), some (xI c0), e, f] = some (.nx, [some (sT i m), some (scr ns), some (xI size), some (xI c'), e, f]) := fun c0 => by
    by_cases h : c0 < 0
    · refine ⟨1 - 2 * c0, r_if (k := true) (r_t ((r_op2 (r_e rfl) (r_e rfl) rfl rfl (dat1_d _) (dat1_d _) q_lt).trans (by rw [decide_eq_true h]))) ?_⟩
      exact r_nx ((r_set (r_op2 (r_e rfl) (r_e (r_op2 (r_e rfl) (r_e rfl) rfl rfl (dat1_d _) (dat1_d _) (q_mul (by rfl)))) rfl rfl (dat1_d _) (dat1_d _) q_sub)).trans rfl) rfl
    · exact ⟨c0, r_if (k := false) (r_t ((r_op2 (r_e rfl) (r_e rfl) rfl rfl (dat1_d _) (dat1_d _) q_lt).trans (by rw [decide_eq_false h]))) rfl⟩
  by_cases hn : ns = []
  · subst hn
    obtain ⟨c', hc⟩ := second 0
    exact ⟨c', fun r w hw => r_nx ((r_set rfl).trans rfl) (r_nx (r_if (k := false) (r_t (r_op2 (r_e (r_op1 (r_e rfl) rfl (dat1_d _) q_len)) (r_e rfl) rfl rfl (dat1_d _) (dat1_d _) q_gt)) rfl) (r_nx hc hw))⟩
  · have hl : 0 < ns.length := List.length_pos_iff.mpr hn
    have hl2 : (0 : Int) < ((ns.map PyData.int).length : Nat) := by rw [List.length_map]; omega
    have hne : (((ns.map PyData.int).length : Nat) : Int) ≠ 0 := by omega
    have hlo := Int.fmod_nonneg_of_pos i hl2
    have hhi := Int.fmod_lt_of_pos i hl2
    obtain ⟨c0, hc0⟩ : ∃ c0, (atI (ns.map PyData.int) (i.fmod ((ns.map PyData.int).length : Nat))).map X.d = some (xI c0) := by
      simp only [atI, ixN]
      rw [if_pos hlo, if_pos hhi, Option.bind_some, List.getElem?_map]
      have : (i.fmod ((ns.map PyData.int).length : Nat)).toNat < ns.length := by rw [List.length_map] at hlo hhi ⊢; omega
      rw [List.getElem?_eq_getElem this]
      exact ⟨_, rfl⟩
    obtain ⟨c', hc⟩ := second c0
    refine ⟨c', fun r w hw => r_nx ((r_set rfl).trans rfl) (r_nx (ρ1 := [some (sT i m), some (scr ns), some (xI size), some (xI c0), e, f]) (r_if (k := true) (r_t ((r_op2 (r_e (r_op1 (r_e rfl) rfl (dat1_d _) q_len)) (r_e rfl) rfl rfl (dat1_d _) (dat1_d _) q_gt).trans (by rw [decide_eq_true hl2]))) ?_) (r_nx hc hw))⟩
    exact r_nx ((r_set (r_op2 (r_e rfl) (r_e (r_op2 (r_e (r_op2 (r_p rfl) (r_e rfl) rfl rfl dat_sT (dat1_d _) q_s0)) (r_e (r_op1 (r_e rfl) rfl (dat1_d _) q_len)) rfl rfl (dat1_d _) (dat1_d _) (q_mod hne))) rfl rfl (dat1_d _) (dat1_d _) (q_ixl.trans hc0))).trans rfl) rfl
theorem draw_tail (G : Nat → DF) (i m size : Int) (ns : List Int) (c e f : Option X) (h : size ≠ 0) (h2 : size.natAbs < 1073741824) : evSs G (.cons (.set 5 (.op .mod (.cons (.e (.op .int1 (.cons (.e (.op .ix (.cons (.p ⟨0, []⟩) (.cons (.e (.c (.int 1))) .nil)))) .nil))) (.cons (.e (.rd 2)) .nil))))
 (.cons (.seti ⟨0, []⟩ (.c (.int 1)) (.op .fdiv (.cons (.e (.op .ix (.cons (.p ⟨0, []⟩) (.cons (.e (.c (.int 1))) .nil)))) (.cons (.e (.rd 2)) .nil))))
 (.cons (.ret (.rd 5))
 .nil))) [some (sT i m), some (scr ns), some (xI size), c, e, f] = some (.rt (xI (m.fmod size)), [some (sT i (m.fdiv size)), some (scr ns), some (xI size), c, e, some (xI (m.fmod size))]) :=
  r_nx (ρ1 := [some (sT i m), some (scr ns), some (xI size), c, e, some (xI (m.fmod size))]) ((r_set (r_op2 (r_e (r_op1 (r_e (r_op2 (r_p rfl) (r_e rfl) rfl rfl dat_sT (dat1_d _) q_s1)) rfl (dat1_d _) q_int1)) (r_e rfl) rfl rfl (dat1_d _) (dat1_d _) (q_mod h))).trans rfl)
    (r_nx (ρ1 := [some (sT i (m.fdiv size)), some (scr ns), some (xI size), c, e, some (xI (m.fmod size))]) (r_seti (r_op2 (r_e (r_op2 (r_p rfl) (r_e rfl) rfl rfl dat_sT (dat1_d _) q_s1)) (r_e rfl) rfl rfl (dat1_d _) (dat1_d _) (q_fdiv h h2)) rfl rfl rfl (dat1_d _) rfl rfl) (r_rt (r_ret rfl)))
/-- state[1] is drawn anew -/
theorem draw_new (G : Nat → DF) (i m size cell : Int) (ns : List Int) (e f : Option X) : ∃ m' e', ∀ r w, evSs G r [some (sT (i + 1) m'), some (scr ns), some (xI size), some (xI cell), some (xI e'), f] = w → evSs G (.cons (.set 4 (.op .mod (.cons (.e (.op .int1 (.cons (.e (.op .mul (.cons (.e (.op .add (.cons (.e (.op .add (.cons (.e (.rd 3)) (.cons (.e (.op .mul (.cons (.e (.op .ix (.cons (.p ⟨0, []⟩) (.cons (.e (.c (.int 0))) .nil)))) (.cons (.e (.c (.int 7919))) .nil)))) .nil)))) (.cons (.e (.c (.int 1))) .nil)))) (.cons (.e (.c (.int 48271))) .nil)))) .nil))) (.cons (.e (.c (.int 2147483647))) .nil))))
 (.cons (.seti ⟨0, []⟩ (.c (.int 1)) (.op .mod (.cons (.e (.op .int1 (.cons (.e (.op .add (.cons (.e (.op .mul (.cons (.e (.rd 4)) (.cons (.e (.c (.int 69621))) .nil)))) (.cons (.e (.op .mul (.cons (.e (.op .ix (.cons (.p ⟨0, []⟩) (.cons (.e (.c (.int 0))) .nil)))) (.cons (.e (.c (.int 104729))) .nil)))) .nil)))) .nil))) (.cons (.e (.c (.int 4294967291))) .nil))))
 (.cons (.iff (.and_ (.op .ge (.cons (.e (.rd 3)) (.cons (.e (.op .pow (.cons (.e (.c (.int 10))) (.cons (.e (.c (.int 18))) .nil)))) .nil))) (.op .lt (.cons (.e (.op .ix (.cons (.p ⟨0, []⟩) (.cons (.e (.c (.int 0))) .nil)))) (.cons (.e (.op .len (.cons (.e (.rd 1)) .nil))) .nil)))) (.cons (.seti ⟨0, []⟩ (.c (.int 1)) (.rd 3))
 .nil) .nil)
 (.cons (.seti ⟨0, []⟩ (.c (.int 0)) (.frz (.op .add (.cons (.e (.op .ix (.cons (.p ⟨0, []⟩) (.cons (.e (.c (.int 0))) .nil)))) (.cons (.e (.c (.int 1))) .nil)))))
 r)))) [some (sT i m), some (scr ns), some (xI size), some (xI cell), e, f] = w := by
  have t1 : ∀ (z : Int), evE G (.op .ix (.cons (.p ⟨0, []⟩) (.cons (.e (.c (.int 0))) .nil))) [some (sT i z), some (scr ns), some (xI size), some (xI cell), e, f] = some (xI i, [some (sT i z), some (scr ns), some (xI size), some (xI cell), e, f]) := fun z => r_op2 (r_p rfl) (r_e rfl) rfl rfl dat_sT (dat1_d _) q_s0
  obtain ⟨e', he⟩ : ∃ e' : Int, evE G (.op .mod (.cons (.e (.op .int1 (.cons (.e (.op .mul (.cons (.e (.op .add (.cons (.e (.op .add (.cons (.e (.rd 3)) (.cons (.e (.op .mul (.cons (.e (.op .ix (.cons (.p ⟨0, []⟩) (.cons (.e (.c (.int 0))) .nil)))) (.cons (.e (.c (.int 7919))) .nil)))) .nil)))) (.cons (.e (.c (.int 1))) .nil)))) (.cons (.e (.c (.int 48271))) .nil)))) .nil))) (.cons (.e (.c (.int 2147483647))) .nil))) [some (sT i m), some (scr ns), some (xI size), some (xI cell), e, f] = some (xI e', [some (sT i m), some (scr ns), some (xI size), some (xI cell), e, f]) :=
    ⟨_, r_op2 (r_e (r_op1 (r_e (r_op2 (r_e (r_op2 (r_e (r_op2 (r_e rfl) (r_e (r_op2 (r_e (t1 m)) (r_e rfl) rfl rfl (dat1_d _) (dat1_d _) (q_mul (by rw [Bool.or_comm]; rfl)))) rfl rfl (dat1_d _) (dat1_d _) q_add)) (r_e rfl) rfl rfl (dat1_d _) (dat1_d _) q_add)) (r_e rfl) rfl rfl (dat1_d _) (dat1_d _) (q_mul (by rw [Bool.or_comm]; rfl)))) rfl (dat1_d _) q_int1)) (r_e rfl) rfl rfl (dat1_d _) (dat1_d _) (q_mod (by decide))⟩
  have t2 : ∀ (z : Int), evE G (.op .ix (.cons (.p ⟨0, []⟩) (.cons (.e (.c (.int 0))) .nil))) [some (sT i z), some (scr ns), some (xI size), some (xI cell), some (xI e'), f] = some (xI i, [some (sT i z), some (scr ns), some (xI size), some (xI cell), some (xI e'), f]) := fun z => r_op2 (r_p rfl) (r_e rfl) rfl rfl dat_sT (dat1_d _) q_s0
  obtain ⟨m1, hm1⟩ : ∃ m1 : Int, evE G (.op .mod (.cons (.e (.op .int1 (.cons (.e (.op .add (.cons (.e (.op .mul (.cons (.e (.rd 4)) (.cons (.e (.c (.int 69621))) .nil)))) (.cons (.e (.op .mul (.cons (.e (.op .ix (.cons (.p ⟨0, []⟩) (.cons (.e (.c (.int 0))) .nil)))) (.cons (.e (.c (.int 104729))) .nil)))) .nil)))) .nil))) (.cons (.e (.c (.int 4294967291))) .nil))) [some (sT i m), some (scr ns), some (xI size), some (xI cell), some (xI e'), f] = some (xI m1, [some (sT i m), some (scr ns), some (xI size), some (xI cell), some (xI e'), f]) :=
    ⟨_, r_op2 (r_e (r_op1 (r_e (r_op2 (r_e (r_op2 (r_e rfl) (r_e rfl) rfl rfl (dat1_d _) (dat1_d _) (q_mul (by rw [Bool.or_comm]; rfl)))) (r_e (r_op2 (r_e (t2 m)) (r_e rfl) rfl rfl (dat1_d _) (dat1_d _) (q_mul (by rw [Bool.or_comm]; rfl)))) rfl rfl (dat1_d _) (dat1_d _) q_add)) rfl (dat1_d _) q_int1)) (r_e rfl) rfl rfl (dat1_d _) (dat1_d _) (q_mod (by decide))⟩
  have last : ∀ (z : Int) r w, evSs G r [some (sT (i + 1) z), some (scr ns), some (xI size), some (xI cell), some (xI e'), f] = w → evSs G (.cons (.seti ⟨0, []⟩ (.c (.int 0)) (.frz (.op .add (.cons (.e (.op .ix (.cons (.p ⟨0, []⟩) (.cons (.e (.c (.int 0))) .nil)))) (.cons (.e (.c (.int 1))) .nil))))) r) [some (sT i z), some (scr ns), some (xI size), some (xI cell), some (xI e'), f] = w := fun z r w hw =>
    r_nx (r_seti (r_frz (r_op2 (r_e (t2 z)) (r_e rfl) rfl rfl (dat1_d _) (dat1_d _) q_add) (datF_d _)) rfl rfl rfl (dat1_d _) rfl rfl) hw
  have mid : ∃ m' : Int, evS G (.iff (.and_ (.op .ge (.cons (.e (.rd 3)) (.cons (.e (.op .pow (.cons (.e (.c (.int 10))) (.cons (.e (.c (.int 18))) .nil)))) .nil))) (.op .lt (.cons (.e (.op .ix (.cons (.p ⟨0, []⟩) (.cons (.e (.c (.int 0))) .nil)))) (.cons (.e (.op .len (.cons (.e (.rd 1)) .nil))) .nil)))) (.cons (.seti ⟨0, []⟩ (.c (.int 1)) (.rd 3)) .nil) .nil) [some (sT i m1), some (scr ns), some (xI size), some (xI cell), some (xI e'), f] = some (.nx, [some (sT i m'), some (scr ns), some (xI size), some (xI cell), some (xI e'), f]) := by
    have g1 : ∀ k, decide (((10 : Int) ^ (18 : Int).toNat) ≤ cell) = k → evT G (.op .ge (.cons (.e (.rd 3)) (.cons (.e (.op .pow (.cons (.e (.c (.int 10))) (.cons (.e (.c (.int 18))) .nil)))) .nil))) [some (sT i m1), some (scr ns), some (xI size), some (xI cell), some (xI e'), f] = some (k, [some (sT i m1), some (scr ns), some (xI size), some (xI cell), some (xI e'), f]) := fun k hk => by
      refine r_t ((r_op2 (r_e rfl) (r_e (r_op2 (r_e rfl) (r_e rfl) rfl rfl (dat1_d _) (dat1_d _) (q_pow (by decide)))) rfl rfl (dat1_d _) (dat1_d _) q_ge).trans ?_)
      rw [hk]
    have g2 : ∀ k, decide (i < ((ns.map PyData.int).length : Nat)) = k → evT G (.op .lt (.cons (.e (.op .ix (.cons (.p ⟨0, []⟩) (.cons (.e (.c (.int 0))) .nil)))) (.cons (.e (.op .len (.cons (.e (.rd 1)) .nil))) .nil))) [some (sT i m1), some (scr ns), some (xI size), some (xI cell), some (xI e'), f] = some (k, [some (sT i m1), some (scr ns), some (xI size), some (xI cell), some (xI e'), f]) := fun k hk => by
      refine r_t ((r_op2 (r_e (t2 m1)) (r_e (r_op1 (r_e rfl) rfl (dat1_d _) q_len)) rfl rfl (dat1_d _) (dat1_d _) q_lt).trans ?_)
      rw [hk]
    cases h1 : decide (((10 : Int) ^ (18 : Int).toNat) ≤ cell) with
    | false => exact ⟨m1, r_if (k := false) (r_and1 (g1 _ h1)) rfl⟩
    | true =>
      cases h2 : decide (i < ((ns.map PyData.int).length : Nat)) with
      | false => exact ⟨m1, r_if (k := false) (r_and2 (g1 _ h1) (g2 _ h2)) rfl⟩
      | true => exact ⟨cell, r_if (k := true) (r_and2 (g1 _ h1) (g2 _ h2)) (r_nx (r_seti rfl rfl rfl rfl (dat1_d _) rfl rfl) rfl)⟩
  obtain ⟨m', hm'⟩ := mid
  exact ⟨m', e', fun r w hw => r_nx ((r_set he).trans rfl) (r_nx (r_seti hm1 rfl rfl rfl (dat1_d _) rfl rfl) (r_nx hm' (last m' r w hw)))⟩
/-- a drawn number -/
theorem draw (n : Nat) (ns : List Int) (s : X) (hs : St s) (size : Int) (h1 : 1 ≤ size) (h2 : size ≤ 1000000) :
    ∃ d s', sem tab (n + 1) 2 [s, scr ns, xI size] = some (xI d, [s']) ∧ St s' ∧ 0 ≤ d ∧ d < size := by
  obtain ⟨i, m, rfl⟩ := hs
  rw [sem_succ n 2 d2 rfl]
  have hz : size ≠ 0 := by omega
  have hz2 : size.natAbs < 1073741824 := by omega
  have hp : 0 < size := by omega
  have fin : ∀ (i' m' : Int) (c e f : Option X) (r : Ss), evSs (sem tab n) body2 [some (sT i m), some (scr ns), some (xI size), none, none, none] = some (.rt (xI (m'.fmod size)), [some (sT i' (m'.fdiv size)), some (scr ns), some (xI size), c, e, f]) → ∃ d s', runDef d2 (sem tab n) [sT i m, scr ns, xI size] = some (xI d, [s']) ∧ St s' ∧ 0 ≤ d ∧ d < size := fun i' m' c e f r h => by
    refine ⟨m'.fmod size, sT i' (m'.fdiv size), ?_, ⟨_, _, rfl⟩, Int.fmod_nonneg_of_pos _ hp, Int.fmod_lt_of_pos _ hp⟩
    show (evSs (sem tab n) body2 [some (sT i m), some (scr ns), some (xI size), none, none, none]).bind _ = _
    rw [h]
    rfl
  have test : ∀ k, (m == 0) = k → evT (sem tab n) (.op .eq (.cons (.e (.op .ix (.cons (.p ⟨0, []⟩) (.cons (.e (.c (.int 1))) .nil)))) (.cons (.e (.c (.int 0))) .nil))) [some (sT i m), some (scr ns), some (xI size), none, none, none] = some (k, [some (sT i m), some (scr ns), some (xI size), none, none, none]) := fun k hk => by
    refine r_t ((r_op2 (r_e (r_op2 (r_p rfl) (r_e rfl) rfl rfl dat_sT (dat1_d _) q_s1)) (r_e rfl) rfl rfl (dat1_d _) (dat1_d _) q_eqi).trans ?_)
    rw [hk]
  cases hm : (m == 0) with
  | false => exact fin i m none none _ .nil (r_nx (r_if (test _ hm) rfl) (draw_tail _ i m size ns none none none hz hz2))
  | true =>
    obtain ⟨c', hc⟩ := draw_cell (sem tab n) i m size ns none none none
    obtain ⟨m', e', he⟩ := draw_new (sem tab n) i m size c' ns none none
    exact fin (i + 1) m' _ _ _ .nil (r_nx (r_if (test _ hm) (hc _ _ (he _ _ rfl))) (draw_tail _ (i + 1) m' size ns (some (xI c')) (some (xI e')) none hz hz2))

theorem atI_some {xs : List D} {d : Int} (h1 : 0 ≤ d) (h2 : d < (xs.length : Nat)) : ∃ x ∈ xs, atI xs d = some x := by
  simp only [atI, ixN]
  rw [if_pos h1, if_pos h2, Option.bind_some, List.getElem?_eq_getElem (by omega)]
  exact ⟨_, List.getElem_mem _, rfl⟩
/-- the draw, called -/
theorem c_draw (m : Nat) {ns : List Int} {ρ : TT.Env} {k j : Nat} {a : A} {s : X} {size : Int} (hk : getPl ρ ⟨k, []⟩ = some s) (hs : St s) (hj : evE (sem tab (m + 1)) (.rd j) ρ = some (scr ns, ρ)) (ha : evA (sem tab (m + 1)) a ρ = some (.x (xI size), ρ)) (h1 : 1 ≤ size) (h2 : size ≤ 1000000) :
    ∃ d s', evE (sem tab (m + 1)) (.call 2 [0] (.cons (.p ⟨k, []⟩) (.cons (.e (.rd j)) (.cons a .nil)))) ρ = some (xI d, ρ.set k (some s')) ∧ St s' ∧ 0 ≤ d ∧ d < size := by
  obtain ⟨d, s', q, z⟩ := draw m ns s hs size h1 h2
  refine ⟨d, s', r_call (r_cons (r_p hk) (r_cons (r_e hj) (r_cons ha r_nil))) rfl ?_ q ?_, z⟩
  · show ((getPl ρ ⟨k, []⟩).bind fun x => _) = _
    rw [hk]
    rfl
  · show some ((ρ.set k none).set k (some s')) = _
    rw [List.set_set]
/-- a pick -/
theorem pick (n : Nat) (ns : List Int) (s : X) (hs : St s) (items : List D) (h1 : items ≠ []) (h2 : items.length ≤ 1000000) :
    ∃ x ∈ items, ∃ s', sem tab (n + 2) 3 [s, scr ns, .d (.list items)] = some (.d x, [s']) ∧ St s' := by
  rw [sem_succ (n + 1) 3 d3 rfl]
  have hl : 0 < items.length := List.length_pos_iff.mpr h1
  obtain ⟨d, s', q, z, a1, a2⟩ := c_draw n (ns := ns) (ρ := [some s, some (scr ns), some (.d (.list items))]) (k := 0) (j := 1) (a := .e (.op .len (.cons (.e (.rd 2)) .nil))) (s := s) (size := (items.length : Nat)) rfl hs rfl (r_e (r_op1 (r_e rfl) rfl (dat1_d _) q_len)) (by omega) (by omega)
  obtain ⟨x, hx, e⟩ := atI_some a1 a2
  refine ⟨x, hx, s', ?_, z⟩
  have b : evSs (sem tab (n + 1)) body3 [some s, some (scr ns), some (.d (.list items))] = some (.rt (.d x), [some s', some (scr ns), some (.d (.list items))]) :=
    r_rt (r_ret (r_op2 (r_e rfl) (r_e (q.trans rfl)) rfl rfl (dat1_d _) (dat1_d _) (q_ixl.trans (by rw [e]; rfl))))
  show (evSs (sem tab (n + 1)) body3 [some s, some (scr ns), some (.d (.list items))]).bind _ = _
  rw [b]
  rfl
theorem c_pick (m : Nat) {ns : List Int} {ρ : TT.Env} {k j : Nat} {a : A} {s : X} {items : List D} (hk : getPl ρ ⟨k, []⟩ = some s) (hs : St s) (hj : evE (sem tab (m + 2)) (.rd j) ρ = some (scr ns, ρ)) (ha : evA (sem tab (m + 2)) a ρ = some (.x (.d (.list items)), ρ)) (h1 : items ≠ []) (h2 : items.length ≤ 1000000) :
    ∃ x ∈ items, ∃ s', evE (sem tab (m + 2)) (.call 3 [0] (.cons (.p ⟨k, []⟩) (.cons (.e (.rd j)) (.cons a .nil)))) ρ = some (.d x, ρ.set k (some s')) ∧ St s' := by
  obtain ⟨x, hx, s', q, z⟩ := pick m ns s hs items h1 h2
  refine ⟨x, hx, s', r_call (r_cons (r_p hk) (r_cons (r_e hj) (r_cons ha r_nil))) rfl ?_ q ?_, z⟩
  · show ((getPl ρ ⟨k, []⟩).bind fun x => _) = _
    rw [hk]
    rfl
  · show some ((ρ.set k none).set k (some s')) = _
    rw [List.set_set]
def signs : Str := "abcdefghijklmnopqrstuvwxyz0123456789"
theorem signs_at {d : Int} (h1 : 0 ≤ d) (h2 : d < 36) : ∃ c, c < 128 ∧ opF .ix [.str signs, .int d] = some (.d (.str ⟨#[c]⟩)) := by
  have hl : signs.cps.toList.length = 36 := by decide +kernel
  have ha : signs.cps.toList.all (fun c => decide (c < 128)) = true := by decide +kernel
  have hn : d.toNat < signs.cps.toList.length := by omega
  refine ⟨signs.cps.toList[d.toNat], of_decide_eq_true (List.all_eq_true.mp ha _ (List.getElem_mem hn)), (q_ixs (by decide +kernel)).trans ?_⟩
  simp only [atI, ixN]
  rw [if_pos h1, if_pos (by omega), Option.bind_some, List.getElem?_eq_getElem hn]
  rfl
/-- a short text of plain signs -/
def Tx (n : Nat) (x : Str) : Prop := x.length = n ∧ PyData.strOk x = true
theorem tx_app {a b : Str} {m n : Nat} (h1 : Tx m a) (h2 : Tx n b) : Tx (m + n) (a ++ b) := by
  refine ⟨?_, ?_⟩
  · show (a.cps ++ b.cps).size = _
    rw [Array.size_append]
    have e1 : a.cps.size = m := h1.1
    have e2 : b.cps.size = n := h2.1
    rw [e1, e2]
  · have w1 : a.cps.all (· < 0x110000) = true := h1.2
    have w2 : b.cps.all (· < 0x110000) = true := h2.2
    show (a.cps ++ b.cps).all (· < 0x110000) = true
    simp only [Array.all_append, w1, w2, Bool.and_self]
theorem tx_one {c : Nat} (h : c < 128) : Tx 1 ⟨#[c]⟩ := by
  refine ⟨rfl, ?_⟩
  show (#[c] : Array Nat).all (· < 0x110000) = true
  simp only [List.all_toArray, List.all_cons, List.all_nil, Bool.and_true, decide_eq_true_eq]
  omega

def Nm (x : Str) : Prop := PyData.strOk x = true ∧ x.length ≤ 12
theorem nm_tx {n : Nat} {x : Str} (h : Tx n x) (hn : n ≤ 12) : Nm x := ⟨h.2, by rw [h.1]; exact hn⟩
theorem fits_small {n : Nat} (h : n ≤ 1000) : n ≤ sizeLine := by
  have : (1000 : Nat) ≤ sizeLine := by decide
  omega
theorem str_at {at_ : Int} (h1 : 0 ≤ at_) (h2 : at_ < 5) : opF .str1 [.int (10 + at_)] = some (.d (.str (toString (10 + at_)))) ∧ Tx 2 (toString (10 + at_)) := by
  have : at_ = 0 ∨ at_ = 1 ∨ at_ = 2 ∨ at_ = 3 ∨ at_ = 4 := by omega
  rcases this with rfl | rfl | rfl | rfl | rfl
  all_goals exact ⟨q_str1 (by decide +kernel), by unfold Tx; decide +kernel⟩
theorem loopN (m : Nat) (ns : List Int) (at_ : Int) (ds : List D) (s : X) (hs : St s) (nm : Str) (hn : Tx 1 nm) (hd : ds.length ≤ 9) (c : Option X) : ∃ ρ', forLoop (.n 5) (evSs (sem tab (m + 1)) (.cons (.set 4 (.frz (.op .add (.cons (.e (.rd 4)) (.cons (.e (.op .ix (.cons (.e (.rd 3)) (.cons (.e (.call 2 [0] (.cons (.p ⟨0, []⟩) (.cons (.e (.rd 1)) (.cons (.e (.c (.int 36))) .nil))))) .nil)))) .nil)))))
 .nil)) ds [some s, some (scr ns), some (xI at_), some (.d (.str signs)), some (.d (.str nm)), c] = some (.nx, ρ') ∧ ∃ s' nm' c', St s' ∧ Tx (1 + ds.length) nm' ∧ ρ' = [some s', some (scr ns), some (xI at_), some (.d (.str signs)), some (.d (.str nm')), c'] := by
  obtain ⟨ρ', e, s', nm', c', h1, h2, h3⟩ := for_inv (tg := .n 5) (tb := evSs (sem tab (m + 1)) (.cons (.set 4 (.frz (.op .add (.cons (.e (.rd 4)) (.cons (.e (.op .ix (.cons (.e (.rd 3)) (.cons (.e (.call 2 [0] (.cons (.p ⟨0, []⟩) (.cons (.e (.rd 1)) (.cons (.e (.c (.int 36))) .nil))))) .nil)))) .nil)))))
 .nil)) (fun k ρ => ∃ s' nm' c', St s' ∧ (Tx (1 + k) nm' ∧ k ≤ ds.length) ∧ ρ = [some s', some (scr ns), some (xI at_), some (.d (.str signs)), some (.d (.str nm')), c']) ds 0 _ ⟨s, nm, c, hs, ⟨hn, by omega⟩, rfl⟩ fun k d ρ hk hp => by
    obtain ⟨s1, nm1, c1, a1, a2, rfl⟩ := hp
    obtain ⟨x, s2, q, z, b1, b2⟩ := c_draw m (ns := ns) (ρ := [some s1, some (scr ns), some (xI at_), some (.d (.str signs)), some (.d (.str nm1)), some (.d d)]) (k := 0) (j := 1) (a := .e (.c (.int 36))) (s := s1) (size := 36) rfl a1 rfl (r_e rfl) (by decide) (by decide)
    obtain ⟨ch, hc, e⟩ := signs_at b1 b2
    have hlen := (List.getElem?_eq_some_iff.mp hk).1
    rw [Nat.zero_add] at a2 ⊢
    refine ⟨[some s1, some (scr ns), some (xI at_), some (.d (.str signs)), some (.d (.str nm1)), some (.d d)], [some s2, some (scr ns), some (xI at_), some (.d (.str signs)), some (.d (.str (nm1 ++ ⟨#[ch]⟩))), some (.d d)], rfl, ?_, ⟨s2, _, _, z, ⟨show Tx (1 + k + 1) _ from tx_app a2.1 (tx_one hc), by omega⟩, rfl⟩⟩
    refine r_nx ((r_set (r_frz (r_op2 (r_e rfl) (r_e (r_op2 (r_e rfl) (r_e (q.trans rfl)) rfl rfl (dat1_d _) (dat1_d _) e)) rfl rfl (dat1_d _) (dat1_d _) (q_adds (fits_small ?_))) (datF_d _))).trans rfl) rfl
    rw [a2.1.1, (tx_one hc).1]
    omega
  refine ⟨ρ', e, s', nm', c', h1, ?_, h3⟩
  rw [Nat.zero_add] at h2
  exact h2.1
theorem name (n : Nat) (ns : List Int) (s : X) (hs : St s) (at_ : Int) (h1 : 0 ≤ at_) (h2 : at_ < 5) :
    ∃ x s', sem tab (n + 2) 4 [s, scr ns, xI at_] = some (.d (.str x), [s']) ∧ St s' ∧ Nm x := by
  rw [sem_succ (n + 1) 4 d4 rfl]
  obtain ⟨d1, s1, q1, z1, a1, a2⟩ := c_draw n (ns := ns) (ρ := [some s, some (scr ns), some (xI at_), some (.d (.str signs)), none, none]) (k := 0) (j := 1) (a := .e (.c (.int 26))) (s := s) (size := 26) rfl hs rfl (r_e rfl) (by decide) (by decide)
  obtain ⟨c1, hc1, e1⟩ := signs_at (d := d1) a1 (by omega)
  obtain ⟨d2, s2, q2, z2, b1, b2⟩ := c_draw n (ns := ns) (ρ := [some s1, some (scr ns), some (xI at_), some (.d (.str signs)), some (.d (.str ⟨#[c1]⟩)), none]) (k := 0) (j := 1) (a := .e (.c (.int 4))) (s := s1) (size := 4) rfl z1 rfl (r_e rfl) (by decide) (by decide)
  obtain ⟨v, hv0, hv1, ev⟩ : ∃ v : Int, 0 ≤ v ∧ v ≤ 9 ∧ opF .ix [.list [.int 0, .int 1, .int 2, .int 9], .int d2] = some (xI v) := by
    have : d2 = 0 ∨ d2 = 1 ∨ d2 = 2 ∨ d2 = 3 := by omega
    rcases this with rfl | rfl | rfl | rfl
    · exact ⟨0, by decide, by decide, rfl⟩
    · exact ⟨1, by decide, by decide, rfl⟩
    · exact ⟨2, by decide, by decide, rfl⟩
    · exact ⟨9, by decide, by decide, rfl⟩
  have hr : rngOk v = true := decide_eq_true (by omega)
  have it : evIt (sem tab (n + 1)) (.r1 (.op .ix (.cons (.e (.lst (.cons (.e (.c (.int 0))) (.cons (.e (.c (.int 1))) (.cons (.e (.c (.int 2))) (.cons (.e (.c (.int 9))) .nil)))))) (.cons (.e (.call 2 [0] (.cons (.p ⟨0, []⟩) (.cons (.e (.rd 1)) (.cons (.e (.c (.int 4))) .nil))))) .nil)))) [some s1, some (scr ns), some (xI at_), some (.d (.str signs)), some (.d (.str ⟨#[c1]⟩)), none] = some (rngD 0 v.toNat, [some s2, some (scr ns), some (xI at_), some (.d (.str signs)), some (.d (.str ⟨#[c1]⟩)), none]) := by
    have g := r_op2 (G := sem tab (n + 1)) (o := .ix) (r_e (e := .lst (.cons (.e (.c (.int 0))) (.cons (.e (.c (.int 1))) (.cons (.e (.c (.int 2))) (.cons (.e (.c (.int 9))) .nil))))) (ρ := [some s1, some (scr ns), some (xI at_), some (.d (.str signs)), some (.d (.str ⟨#[c1]⟩)), none]) rfl) (r_e (q2.trans rfl)) rfl rfl rfl (dat1_d _) ev
    show ((evE (sem tab (n + 1)) _ _).bind fun z => (intD z.1).bind fun n => if rngOk n then some (rngD 0 n.toNat, z.2) else none) = _
    rw [g]
    show (if rngOk v then _ else none) = _
    rw [if_pos hr]
    rfl
  have hlen : (rngD 0 v.toNat).length ≤ 9 := by
    simp only [rngD, List.length_map, List.length_range]
    omega
  obtain ⟨ρ', ef, s3, nm, c3, z3, t3, rfl⟩ := loopN n ns at_ (rngD 0 v.toNat) s2 z2 ⟨#[c1]⟩ (tx_one hc1) hlen none
  obtain ⟨es, ts⟩ := str_at h1 h2
  refine ⟨nm ++ toString (10 + at_), s3, ?_, z3, nm_tx (tx_app t3 ts) (by omega)⟩
  have b : evSs (sem tab (n + 1)) body4 [some s, some (scr ns), some (xI at_), none, none, none] = some (.rt (.d (.str (nm ++ toString (10 + at_)))), [some s3, some (scr ns), some (xI at_), some (.d (.str signs)), some (.d (.str nm)), c3]) := by
    refine r_nx ((r_set rfl).trans rfl) (r_nx (ρ1 := [some s1, some (scr ns), some (xI at_), some (.d (.str signs)), some (.d (.str ⟨#[c1]⟩)), none]) ((r_set (r_op2 (r_e rfl) (r_e (q1.trans rfl)) rfl rfl (dat1_d _) (dat1_d _) e1)).trans rfl) (r_nx (ρ1 := [some s3, some (scr ns), some (xI at_), some (.d (.str signs)), some (.d (.str nm)), c3]) ?_ (r_rt (r_ret (r_op2 (r_e rfl) (r_e (r_op1 (r_e (r_op2 (r_e rfl) (r_e rfl) rfl rfl (dat1_d _) (dat1_d _) q_add)) rfl (dat1_d _) es)) rfl rfl (dat1_d _) (dat1_d _) (q_adds (fits_small ?_)))))))
    · show ((evIt _ _ _).bind fun z => forLoop _ _ z.1 z.2) = _
      rw [it]
      exact ef
    · rw [t3.1, ts.1]
      omega
  show (evSs (sem tab (n + 1)) body4 [some s, some (scr ns), some (xI at_), none, none, none]).bind _ = _
  rw [b]
  rfl
/-- rows of names -/
theorem names (n : Nat) (ns : List Int) (s : X) (hs : St s) (many : Int) (h1 : 0 ≤ many) (h2 : many ≤ 5) :
    ∃ (xs : List Str) (s' : X), sem tab (n + 3) 5 [s, scr ns, xI many] = some (own1 (xs.map PyData.str), [s']) ∧ St s' ∧ xs.length = many.toNat ∧ ∀ x ∈ xs, Nm x := by
  rw [sem_succ (n + 2) 5 d5 rfl]
  have hr : rngOk many = true := decide_eq_true (by omega)
  have it : evIt (sem tab (n + 2)) (.r1 (.rd 2)) [some s, some (scr ns), some (xI many), some (.lst []), none] = some (rngD 0 many.toNat, [some s, some (scr ns), some (xI many), some (.lst []), none]) := by
    show (if rngOk many then some (rngD 0 many.toNat, [some s, some (scr ns), some (xI many), some (X.lst []), none]) else none) = _
    rw [if_pos hr]
  have hlen : (rngD 0 many.toNat).length = many.toNat := by simp only [rngD, List.length_map, List.length_range]
  obtain ⟨ρ', ef, s1, xs, c, z1, t1, t2, rfl⟩ := r_for (G := sem tab (n + 2)) (tg := .n 4) (b := .cons (.app ⟨3, []⟩ (.frz (.call 4 [0] (.cons (.p ⟨0, []⟩) (.cons (.e (.rd 1)) (.cons (.e (.rd 4)) .nil)))))) .nil) (fun k ρ => ∃ (s1 : X) (xs : List Str) (c : Option X), St s1 ∧ xs.length = k ∧ (∀ x ∈ xs, Nm x) ∧ ρ = [some s1, some (scr ns), some (xI many), some (own1 (xs.map PyData.str)), c]) it ⟨s, [], none, hs, rfl, (fun _ z => nomatch z), rfl⟩ fun k d ρ hk hp => by
    obtain ⟨s1, xs, c, a1, a2, a3, rfl⟩ := hp
    have hkl := (List.getElem?_eq_some_iff.mp hk).1
    rw [hlen] at hkl
    have hd : d = .int (k : Nat) := by
      simp only [rngD, List.getElem?_map, Option.map_eq_some_iff] at hk
      obtain ⟨j, hj, e⟩ := hk
      rw [List.getElem?_range hkl] at hj
      cases hj
      rw [← e]
      simp
    subst hd
    obtain ⟨x, s2, q, z, hx⟩ := name n ns s1 a1 (k : Nat) (by omega) (by omega)
    refine ⟨[some s1, some (scr ns), some (xI many), some (own1 (xs.map PyData.str)), some (xI (k : Nat))], [some s2, some (scr ns), some (xI many), some (own1 ((xs ++ [x]).map PyData.str)), some (xI (k : Nat))], rfl, ?_, ⟨s2, xs ++ [x], _, z, by rw [List.length_append, a2]; rfl, fun y hy => (List.mem_append.mp hy).elim (a3 y) (fun w => List.mem_singleton.mp w ▸ hx), rfl⟩⟩
    refine r_nx (r_app (y := own1 (xs.map PyData.str)) (xs := (xs.map PyData.str).map X.d) rfl rfl (r_frz (r_call (r_cons (r_p rfl) (r_cons (r_e rfl) (r_cons (r_e rfl) r_nil))) rfl rfl q rfl) (datF_d _)) rfl ?_ ?_) rfl
    · rw [List.length_map, List.length_map]
      exact Nat.lt_of_lt_of_le (show xs.length < 1000 by omega) (by decide)
    · show some [some s2, some (scr ns), some (xI many), some (X.lst ((xs.map PyData.str).map X.d ++ [X.d (.str x)])), some (xI (k : Nat))] = _
      rw [List.map_append, own1, List.map_append]
      rfl
  refine ⟨xs, s1, ?_, z1, by rw [t1, hlen], t2⟩
  have b : evSs (sem tab (n + 2)) body5 [some s, some (scr ns), some (xI many), none, none] = some (.rt (own1 (xs.map PyData.str)), [some s1, some (scr ns), some (xI many), none, c]) :=
    r_nx (ρ1 := [some s, some (scr ns), some (xI many), some (.lst []), none]) ((r_set (x := .lst []) (ρ1 := [some s, some (scr ns), some (xI many), none, none]) rfl).trans rfl) (r_nx ef (r_rt (r_ret (ρ1 := [some s1, some (scr ns), some (xI many), none, c]) rfl)))
  show (evSs (sem tab (n + 2)) body5 [some s, some (scr ns), some (xI many), none, none]).bind _ = _
  rw [b]
  rfl

def kind : Nat → Str
  | 0 => "doc" | 1 => "field" | 2 => "published" | 3 => "thing" | 4 => "cites" | 5 => "transfer" | 6 => "licence" | _ => "drop"
def tk (k : Int) (l : List D) : List D := if k = 0 then [] else l
def lineOf : Nat → Str → Str → Int → List D
  | 0, p, x, k => [.str p, .int k, .str x]
  | 1, p, x, _ => [.str p, .str x]
  | 2, p, _, k => [.str p, .int k]
  | 3, p, x, k => [.str p, .int k, .tuple (tk k [.str x]), .tuple (tk k [.tuple [.str x, .int 5, .int 7]])]
  | 4, p, x, _ => [.str x, .str p]
  | 5, p, x, k => [.str p, .str x, .str "ann", .int 1000, .int k]
  | 6, p, x, k => [.str p, .str x, .str "bob", .int k]
  | _, p, x, k => [.str p, .str x, .int k]
def line (j : Nat) (p x : Str) (k : Int) : D := .tuple (.str (kind j) :: lineOf j p x k)
def IsLine (d : D) : Prop := ∃ (j : Nat) (p x : Str) (k : Int), j < 8 ∧ Nm p ∧ Nm x ∧ (k = 0 ∨ k = 1 ∨ k = 2) ∧ d = line j p x k
theorem alike_tk {k k' : Int} {l l' : List D} (h : PySem.W.alikeAll l l' = true) : PySem.W.alikeAll (tk k l) (tk k' l') = true := by
  unfold tk
  split <;> split
  · rfl
  · cases l' <;> rfl
  · cases l <;> rfl
  · exact h
theorem cmpAll_cons {x y : D} {xs ys : List D} (h : PySem.W.alike x y = true) (h2 : cmpAll xs ys = true) : cmpAll (x :: xs) (y :: ys) = true := by
  show (if PyData.eqv x y then cmpAll xs ys else PySem.W.alike x y) = true
  split
  · exact h2
  · exact h
theorem cmp_same (j : Nat) (p x p' x' : Str) (k k' : Int) : cmpAll (lineOf j p x k) (lineOf j p' x' k') = true := by
  have s : ∀ a b : Str, PySem.W.alike (.str a) (.str b) = true := fun a b => by simp [PySem.W.alike]
  have i : ∀ a b : Int, PySem.W.alike (.int a) (.int b) = true := fun a b => by simp [PySem.W.alike]
  have t : ∀ a b : List D, PySem.W.alikeAll a b = true → PySem.W.alike (.tuple a) (.tuple b) = true := fun a b h => by simpa [PySem.W.alike] using h
  unfold lineOf
  split
  · exact cmpAll_cons (s _ _) (cmpAll_cons (i _ _) (cmpAll_cons (s _ _) rfl))
  · exact cmpAll_cons (s _ _) (cmpAll_cons (s _ _) rfl)
  · exact cmpAll_cons (s _ _) (cmpAll_cons (i _ _) rfl)
  · exact cmpAll_cons (s _ _) (cmpAll_cons (i _ _) (cmpAll_cons (t _ _ (alike_tk (by simp [PySem.W.alikeAll, PySem.W.alike]))) (cmpAll_cons (t _ _ (alike_tk (by simp [PySem.W.alikeAll, PySem.W.alike]))) rfl)))
  · exact cmpAll_cons (s _ _) (cmpAll_cons (s _ _) rfl)
  · exact cmpAll_cons (s _ _) (cmpAll_cons (s _ _) (cmpAll_cons (s _ _) (cmpAll_cons (i _ _) (cmpAll_cons (i _ _) rfl))))
  · exact cmpAll_cons (s _ _) (cmpAll_cons (s _ _) (cmpAll_cons (s _ _) (cmpAll_cons (i _ _) rfl)))
  · exact cmpAll_cons (s _ _) (cmpAll_cons (s _ _) (cmpAll_cons (i _ _) rfl))
theorem kind_ne : ∀ a : Fin 8, ∀ b : Fin 8, a ≠ b → kind a.val ≠ kind b.val := by decide +kernel
theorem line_cmp {a b : D} (ha : IsLine a) (hb : IsLine b) : cmpT a b = true := by
  obtain ⟨j, p, x, k, hj, _, _, _, rfl⟩ := ha
  obtain ⟨j', p', x', k', hj', _, _, _, rfl⟩ := hb
  show (PySem.W.alike (.str (kind j)) (.str (kind j')) && cmpAll (.str (kind j) :: lineOf j p x k) (.str (kind j') :: lineOf j' p' x' k')) = true
  rw [show PySem.W.alike (.str (kind j)) (.str (kind j')) = true by simp [PySem.W.alike], Bool.true_and]
  by_cases e : j = j'
  · subst e
    exact cmpAll_cons (by simp [PySem.W.alike]) (cmp_same _ _ _ _ _ _ _)
  · have n := kind_ne ⟨j, hj⟩ ⟨j', hj'⟩ (fun q => e (Fin.mk.inj q))
    show (if PyData.eqv (.str (kind j)) (.str (kind j')) then _ else PySem.W.alike (.str (kind j)) (.str (kind j'))) = true
    rw [if_neg (by
      rw [PyData.eqv]
      intro q
      exact n (eq_of_beq q))]
    simp [PySem.W.alike]
/-- what the operators ask of data -/
structure Ok (d : D) (w : Nat) (h : Nat) : Prop where
  pl : plain d = true
  lay : d.canLay0 = true
  sh : d.showable = true
  lv : d.leavesShort 13 = true
  kk : kOk d = true
  dp : d.depth ≤ h
  wt : d.weight ≤ w
theorem ok_str {x : Str} {n : Nat} (h : PyData.strOk x = true) (hl : x.length ≤ n) : Ok (.str x) n 0 := by
  refine ⟨rfl, by simpa [PyData.canLay0] using h, rfl, ?_, rfl, Nat.le_refl _, by rw [PyData.weight]; exact hl⟩
  have h1 : x.cps.all (· < 0x110000) = true := h
  rw [PyData.leavesShort, List.all_eq_true]
  intro c hc
  have := (Array.all_eq_true_iff_forall_mem.mp h1) c (Array.mem_toList_iff.mp hc)
  simp only [decide_eq_true_eq] at this ⊢
  omega
theorem ok_nm {x : Str} (h : Nm x) : Ok (.str x) 12 0 := ok_str h.1 h.2
theorem ok_int {i : Int} (h : i = 0 ∨ i = 1 ∨ i = 2 ∨ i = 5 ∨ i = 7 ∨ i = 1000) : Ok (.int i) 10 0 := by
  rcases h with rfl | rfl | rfl | rfl | rfl | rfl
  all_goals exact ⟨rfl, rfl, by decide +kernel, by decide +kernel, rfl, by decide +kernel, by decide +kernel⟩
/-- rows of data -/
structure Oks (ds : List D) (w : Nat) (h : Nat) : Prop where
  pl : plains ds = true
  lay : PyData.canLayAll0 ds = true
  sh : PyData.showableAll ds = true
  lv : PyData.leavesShortAll 13 ds = true
  kk : kOks ds = true
  dp : PyData.depthAll ds ≤ h
  wt : PyData.weightAll ds ≤ w
theorem oks_nil {h : Nat} : Oks [] 0 h := ⟨rfl, rfl, rfl, rfl, rfl, Nat.zero_le _, Nat.le_refl _⟩
theorem oks_cons {d : D} {ds : List D} {w w2 h : Nat} (a : Ok d w h) (b : Oks ds w2 h) : Oks (d :: ds) (w + 1 + w2) h := by
  refine ⟨by rw [plains, a.pl, b.pl]; rfl, by rw [PyData.canLayAll0, a.lay, b.lay]; rfl, by rw [PyData.showableAll, a.sh, b.sh]; rfl, by rw [PyData.leavesShortAll, a.lv, b.lv]; rfl, by rw [kOks, a.kk, b.kk]; rfl, ?_, ?_⟩
  · rw [PyData.depthAll]
    exact Nat.max_le.mpr ⟨a.dp, b.dp⟩
  · rw [PyData.weightAll]
    have := a.wt
    have := b.wt
    omega
theorem Ok.up {d : D} {w w2 h h2 : Nat} (a : Ok d w h) (hw : w ≤ w2 := by omega) (hh : h ≤ h2 := by omega) : Ok d w2 h2 := ⟨a.pl, a.lay, a.sh, a.lv, a.kk, Nat.le_trans a.dp hh, Nat.le_trans a.wt hw⟩
theorem ok_tup {ds : List D} {w h : Nat} (a : Oks ds w h) : Ok (.tuple ds) w (h + 1) := ⟨by rw [TT.plain]; exact a.pl, by rw [PyData.canLay0]; exact a.lay, by rw [PyData.showable]; exact a.sh, by rw [PyData.leavesShort]; exact a.lv, by rw [kOk]; exact a.kk, by rw [PyData.depth]; exact Nat.succ_le_succ a.dp, by rw [PyData.weight]; exact a.wt⟩
theorem ok_list {ds : List D} {w h : Nat} (a : Oks ds w h) : Ok (.list ds) w (h + 1) := ⟨by rw [TT.plain]; exact a.pl, by rw [PyData.canLay0]; exact a.lay, by rw [PyData.showable]; exact a.sh, by rw [PyData.leavesShort]; exact a.lv, by rw [kOk]; exact a.kk, by rw [PyData.depth]; exact Nat.succ_le_succ a.dp, by rw [PyData.weight]; exact a.wt⟩
theorem oks_all {w h : Nat} : ∀ {ds : List D}, (∀ d ∈ ds, Ok d w h) → Oks ds (ds.length * (w + 1)) h
  | [], _ => by
    rw [List.length_nil, Nat.zero_mul]
    exact oks_nil
  | d :: ds, a => by
    have b := oks_cons (a d List.mem_cons_self) (oks_all fun d hd => a d (List.mem_cons_of_mem _ hd))
    rw [List.length_cons, Nat.succ_mul, Nat.add_comm]
    exact b
theorem Ok.shp {d : D} {w h : Nat} (a : Ok d w h) (hh : h ≤ 64) : TT.shp d = true := by
  show (d.canLay0 && decide (d.depth ≤ 64)) = true
  rw [a.lay, Bool.true_and]
  exact decide_eq_true (Nat.le_trans a.dp hh)
theorem Ok.repr {d : D} {w h : Nat} (a : Ok d w h) (hh : h ≤ 64) (hw : w ≤ 1000000) : reprOk d = true := by
  have f : d.shown.length ≤ sizeLine := PyData.shown_fits (B := 13) (by decide) (by decide) a.lv (by have := a.wt; have : (1000000 : Nat) ≤ 2 ^ 20 := (by decide); omega)
  unfold reprOk
  rw [a.sh, a.kk, show fits d.shown.length = true from decide_eq_true f, decide_eq_true (Nat.le_trans a.dp hh)]
  rfl
theorem ok_tk {k : Int} {l : List D} {w h : Nat} (a : Oks l w h) : Oks (tk k l) w h := by
  unfold tk
  split
  · exact ⟨rfl, rfl, rfl, rfl, rfl, Nat.zero_le _, Nat.zero_le _⟩
  · exact a
theorem line_ok {d : D} (h : IsLine d) : Ok d 100 4 := by
  obtain ⟨j, p, x, k, hj, hp, hx, hk, rfl⟩ := h
  have i0 : ∀ {h : Nat}, Ok (.int k) 10 h := (ok_int (by omega)).up
  have p0 : ∀ {h : Nat}, Ok (.str p) 12 h := (ok_nm hp).up
  have x0 : ∀ {h : Nat}, Ok (.str x) 12 h := (ok_nm hx).up
  have c0 : ∀ {i : Int} {h : Nat}, (i = 0 ∨ i = 1 ∨ i = 2 ∨ i = 5 ∨ i = 7 ∨ i = 1000) → Ok (.int i) 10 h := fun q => (ok_int q).up
  have s0 : ∀ {s : Str} {h : Nat}, PyData.strOk s = true → s.length ≤ 9 → Ok (.str s) 9 h := fun a b => (ok_str a b).up
  have kd : Ok (.str (kind j)) 9 3 := by
    have : ∀ j : Fin 8, PyData.strOk (kind j.val) = true ∧ (kind j.val).length ≤ 9 := by decide +kernel
    exact s0 (this ⟨j, hj⟩).1 (this ⟨j, hj⟩).2
  have body : Oks (lineOf j p x k) 90 3 := by
    have up : ∀ {l : List D} {w : Nat}, Oks l w 3 → w ≤ 90 → Oks l 90 3 := fun a b => ⟨a.pl, a.lay, a.sh, a.lv, a.kk, a.dp, Nat.le_trans a.wt b⟩
    unfold lineOf
    split
    · exact up (oks_cons p0 (oks_cons i0 (oks_cons x0 oks_nil))) (by decide)
    · exact up (oks_cons p0 (oks_cons x0 oks_nil)) (by decide)
    · exact up (oks_cons p0 (oks_cons i0 oks_nil)) (by decide)
    · exact up (oks_cons p0 (oks_cons i0 (oks_cons (ok_tup (h := 2) (ok_tk (oks_cons x0 oks_nil))) (oks_cons (ok_tup (h := 2) (ok_tk (oks_cons (ok_tup (h := 1) (oks_cons x0 (oks_cons (c0 (by decide)) (oks_cons (c0 (by decide)) oks_nil)))) oks_nil))) oks_nil)))) (by decide)
    · exact up (oks_cons x0 (oks_cons p0 oks_nil)) (by decide)
    · exact up (oks_cons p0 (oks_cons x0 (oks_cons (s0 (by decide +kernel) (by decide +kernel)) (oks_cons (c0 (by decide)) (oks_cons i0 oks_nil))))) (by decide)
    · exact up (oks_cons p0 (oks_cons x0 (oks_cons (s0 (by decide +kernel) (by decide +kernel)) (oks_cons i0 oks_nil)))) (by decide)
    · exact up (oks_cons p0 (oks_cons x0 (oks_cons i0 oks_nil))) (by decide)
  exact ok_tup (oks_cons kd body)
theorem line_eq {a b : D} (ha : IsLine a) (hb : IsLine b) : PyData.eqv a b = true ↔ a = b := eqv_plain a b (line_ok ha).pl (line_ok hb).pl
theorem line_inj {a b : D} (ha : IsLine a) (hb : IsLine b) (e : PySem.W.keyToks a = PySem.W.keyToks b) : a = b := cmpT_inj (line_cmp ha hb) (line_ok ha).pl (line_ok hb).pl e

theorem lines_set (G : Nat → DF) (s c d e : Option X) (p x : Str) (k : Int) (hk : k = 0 ∨ k = 1 ∨ k = 2) : evE G (.frz (.lst (.cons (.e (.frz (.tup (.cons (.e (.c (.str "doc"))) (.cons (.e (.rd 3)) (.cons (.e (.rd 5)) (.cons (.e (.rd 4)) .nil))))))) (.cons (.e (.frz (.tup (.cons (.e (.c (.str "field"))) (.cons (.e (.rd 3)) (.cons (.e (.rd 4)) .nil)))))) (.cons (.e (.frz (.tup (.cons (.e (.c (.str "published"))) (.cons (.e (.rd 3)) (.cons (.e (.rd 5)) .nil)))))) (.cons (.e (.frz (.tup (.cons (.e (.c (.str "thing"))) (.cons (.e (.rd 3)) (.cons (.e (.rd 5)) (.cons (.e (.frz (.op (.sl false true) (.cons (.e (.tup (.cons (.e (.rd 4)) .nil))) (.cons (.e (.rd 5)) .nil))))) (.cons (.e (.frz (.op (.sl false true) (.cons (.e (.tup (.cons (.e (.frz (.tup (.cons (.e (.rd 4)) (.cons (.e (.c (.int 5))) (.cons (.e (.c (.int 7))) .nil)))))) .nil))) (.cons (.e (.rd 5)) .nil))))) .nil)))))))) (.cons (.e (.frz (.tup (.cons (.e (.c (.str "cites"))) (.cons (.e (.rd 4)) (.cons (.e (.rd 3)) .nil)))))) .nil))))))) [s, c, d, some (.d (.str p)), some (.d (.str x)), some (xI k), e] = some (.d (.list [line 0 p x k, line 1 p x k, line 2 p x k, line 3 p x k, line 4 p x k]), [s, c, d, some (.d (.str p)), some (.d (.str x)), some (xI k), e]) := by
  rcases hk with rfl | rfl | rfl <;> rfl
theorem lines_add (G : Nat → DF) (s c d : Option X) (p x : Str) (k : Int) : evE G (.frz (.op .add (.cons (.e (.rd 6)) (.cons (.e (.lst (.cons (.e (.frz (.tup (.cons (.e (.c (.str "transfer"))) (.cons (.e (.rd 3)) (.cons (.e (.rd 4)) (.cons (.e (.c (.str "ann"))) (.cons (.e (.c (.int 1000))) (.cons (.e (.rd 5)) .nil))))))))) (.cons (.e (.frz (.tup (.cons (.e (.c (.str "licence"))) (.cons (.e (.rd 3)) (.cons (.e (.rd 4)) (.cons (.e (.c (.str "bob"))) (.cons (.e (.rd 5)) .nil)))))))) (.cons (.e (.frz (.tup (.cons (.e (.c (.str "drop"))) (.cons (.e (.rd 3)) (.cons (.e (.rd 4)) (.cons (.e (.rd 5)) .nil))))))) .nil))))) .nil)))) [s, c, d, some (.d (.str p)), some (.d (.str x)), some (xI k), some (.d (.list [line 0 p x k, line 1 p x k, line 2 p x k, line 3 p x k, line 4 p x k]))] = some (.d (.list [line 0 p x k, line 1 p x k, line 2 p x k, line 3 p x k, line 4 p x k, line 5 p x k, line 6 p x k, line 7 p x k]), [s, c, d, some (.d (.str p)), some (.d (.str x)), some (xI k), some (.d (.list [line 0 p x k, line 1 p x k, line 2 p x k, line 3 p x k, line 4 p x k]))]) := rfl
def NL (xs : List Str) : Prop := xs ≠ [] ∧ xs.length ≤ 5 ∧ ∀ x ∈ xs, Nm x
abbrev nms (xs : List Str) : X := .d (.list (xs.map PyData.str))
/-- a line is drawn -/
theorem drawLine (n : Nat) (ns : List Int) (s : X) (hs : St s) (xs : List Str) (hx : NL xs) :
    ∃ l s', sem tab (n + 3) 6 [s, scr ns, nms xs] = some (.d l, [s']) ∧ St s' ∧ IsLine l := by
  rw [sem_succ (n + 2) 6 d6 rfl]
  have h1 : xs.map PyData.str ≠ [] := fun e => hx.1 (List.map_eq_nil_iff.mp e)
  have h2 : (xs.map PyData.str).length ≤ 1000000 := by
    rw [List.length_map]
    exact Nat.le_trans hx.2.1 (by decide)
  have mem : ∀ y ∈ xs.map PyData.str, ∃ z, y = .str z ∧ Nm z := fun y hy => by
    obtain ⟨z, hz, e⟩ := List.mem_map.mp hy
    exact ⟨z, e.symm, hx.2.2 z hz⟩
  obtain ⟨y1, m1, s1, q1, z1⟩ := c_pick n (ns := ns) (ρ := [some s, some (scr ns), some (nms xs), none, none, none, none]) (k := 0) (j := 1) (a := .e (.rd 2)) rfl hs rfl (r_e rfl) h1 h2
  obtain ⟨p, rfl, hp⟩ := mem y1 m1
  obtain ⟨y2, m2, s2, q2, z2⟩ := c_pick n (ns := ns) (ρ := [some s1, some (scr ns), some (nms xs), some (.d (.str p)), none, none, none]) (k := 0) (j := 1) (a := .e (.rd 2)) rfl z1 rfl (r_e rfl) h1 h2
  obtain ⟨x, rfl, hxx⟩ := mem y2 m2
  obtain ⟨k, s3, q3, z3, k1, k2⟩ := c_draw (n + 1) (ns := ns) (ρ := [some s2, some (scr ns), some (nms xs), some (.d (.str p)), some (.d (.str x)), none, none]) (k := 0) (j := 1) (a := .e (.c (.int 3))) (size := 3) rfl z2 rfl (r_e rfl) (by decide) (by decide)
  have hk : k = 0 ∨ k = 1 ∨ k = 2 := by omega
  obtain ⟨l, m4, s4, q4, z4⟩ := c_pick n (ns := ns) (ρ := [some s3, some (scr ns), some (nms xs), some (.d (.str p)), some (.d (.str x)), some (xI k), some (.d (.list [line 0 p x k, line 1 p x k, line 2 p x k, line 3 p x k, line 4 p x k]))]) (k := 0) (j := 1) rfl z3 rfl (r_e (lines_add _ _ _ _ p x k)) (by simp) (by simp)
  refine ⟨l, s4, ?_, z4, ?_⟩
  · have b : evSs (sem tab (n + 2)) body6 [some s, some (scr ns), some (nms xs), none, none, none, none] = some (.rt (.d l), [some s4, some (scr ns), some (nms xs), some (.d (.str p)), some (.d (.str x)), some (xI k), some (.d (.list [line 0 p x k, line 1 p x k, line 2 p x k, line 3 p x k, line 4 p x k]))]) :=
      r_nx (ρ1 := [some s1, some (scr ns), some (nms xs), some (.d (.str p)), none, none, none]) ((r_set (r_frz (q1.trans rfl) (datF_d _))).trans rfl)
      (r_nx (ρ1 := [some s2, some (scr ns), some (nms xs), some (.d (.str p)), some (.d (.str x)), none, none]) ((r_set (r_frz (q2.trans rfl) (datF_d _))).trans rfl)
      (r_nx (ρ1 := [some s3, some (scr ns), some (nms xs), some (.d (.str p)), some (.d (.str x)), some (xI k), none]) ((r_set (r_frz (q3.trans rfl) (datF_d _))).trans rfl)
      (r_nx ((r_set (lines_set _ _ _ _ _ p x k hk)).trans rfl)
      (r_rt (r_ret (q4.trans rfl))))))
    show (evSs (sem tab (n + 2)) body6 [some s, some (scr ns), some (nms xs), none, none, none, none]).bind _ = _
    rw [b]
    rfl
  · simp only [List.mem_cons, List.not_mem_nil, or_false] at m4
    rcases m4 with e | e | e | e | e | e | e | e
    · exact ⟨0, p, x, k, by decide, hp, hxx, hk, e⟩
    · exact ⟨1, p, x, k, by decide, hp, hxx, hk, e⟩
    · exact ⟨2, p, x, k, by decide, hp, hxx, hk, e⟩
    · exact ⟨3, p, x, k, by decide, hp, hxx, hk, e⟩
    · exact ⟨4, p, x, k, by decide, hp, hxx, hk, e⟩
    · exact ⟨5, p, x, k, by decide, hp, hxx, hk, e⟩
    · exact ⟨6, p, x, k, by decide, hp, hxx, hk, e⟩
    · exact ⟨7, p, x, k, by decide, hp, hxx, hk, e⟩
/-- rows of lines -/
def Lines (n : Nat) (ds : List D) : Prop := ds.length ≤ n ∧ ∀ d ∈ ds, IsLine d
theorem Lines.ok {n : Nat} {ds : List D} (h : Lines n ds) : Ok (.list ds) (n * 101) 5 := by
  have a := ok_list (oks_all fun d hd => line_ok (h.2 d hd))
  exact a.up (Nat.mul_le_mul_right _ h.1)
theorem len_ok {n : Nat} (h : n ≤ 10000) : n ≤ sizeLine := Nat.le_trans h (by decide)
theorem Lines.sort {n : Nat} {ds : List D} (h : Lines n ds) (hn : n ≤ 10000) : sortB ds = true := by
  unfold sortB
  have h1 : (ds.all fun a => ds.all fun b => cmpT a b) = true := List.all_eq_true.mpr fun a ha => List.all_eq_true.mpr fun b hb => line_cmp (h.2 a ha) (h.2 b hb)
  have h2 : ds.all TT.shp = true := List.all_eq_true.mpr fun a ha => (line_ok (h.2 a ha)).shp (by decide)
  rw [h1, h2, decide_eq_true (len_ok (Nat.le_trans h.1 hn))]
  rfl
theorem Lines.sorted {n : Nat} {ds : List D} (h : Lines n ds) : Lines n (sortD ds) := ⟨by rw [(sortD_perm0 ds).length_eq]; exact h.1, fun d hd => h.2 d ((sortD_perm0 ds).mem_iff.mp hd)⟩
/-- whether it is there -/
def inB (ds : List D) (x : D) : Bool := ds.any fun z => PyData.eqv z x
theorem inB_iff {ds : List D} {x : D} {n : Nat} (h : Lines n ds) (hx : IsLine x) : inB ds x = true ↔ x ∈ ds := by
  unfold inB
  rw [List.any_eq_true]
  constructor
  · rintro ⟨z, hz, e⟩
    rw [← (line_eq (h.2 z hz) hx).mp e]
    exact hz
  · exact fun hm => ⟨x, hm, (line_eq hx hx).mpr rfl⟩
/-- x not in ds, of lines -/
theorem q_ninL {ds : List D} {x : D} {n : Nat} (h : Lines n ds) (hn : n ≤ 10000) (hx : IsLine x) : opF .nin [x, .list ds] = some (.d (.bool (!inB ds x))) := q_nin ((line_ok hx).shp (by decide)) (h.ok.shp (by decide))

theorem own1_app {F : List D} {d : D} : X.lst (F.map X.d ++ [X.d d]) = own1 (F ++ [d]) := by simp [own1]
theorem Lines.sub {n : Nat} {L F : List D} (h : Lines n L) (s : F.Sublist L) : Lines n F := ⟨Nat.le_trans s.length_le h.1, fun d hd => h.2 d (s.mem hd)⟩
theorem Lines.up {n m : Nat} {L : List D} (h : Lines n L) (s : n ≤ m) : Lines m L := ⟨Nat.le_trans h.1 s, h.2⟩
theorem Lines.app {n : Nat} {F : List D} {d : D} (h : Lines n F) (hd : IsLine d) : Lines (n + 1) (F ++ [d]) := ⟨by rw [List.length_append]; exact Nat.succ_le_succ h.1, fun x hx => (List.mem_append.mp hx).elim (h.2 x) fun z => List.mem_singleton.mp z ▸ hd⟩
theorem Lines.idem {n : Nat} {L : List D} (h : Lines n L) : sortD (sortD L) = sortD L := sortD_perm (sortD_perm0 L) fun a ha b hb e => line_inj (h.sorted.2 a ha) (h.sorted.2 b hb) e
theorem loop7a (m : Nat) (ns : List Int) (xs : List Str) (L : List D) (keep : Int) (s : X) (hs : St s) (nL : Nat) (hL : Lines nL L) (hn : nL ≤ 5000) (c6 c7 : Option X) : ∃ ρ', evS (sem tab (m + 1)) (.for_ (.n 6) (.l (.rd 3)) (.cons (.iff (.or_ (.op .gt (.cons (.e (.rd 5)) (.cons (.e (.c (.int 0))) .nil))) (.op .eq (.cons (.e (.call 2 [0] (.cons (.p ⟨0, []⟩) (.cons (.e (.rd 1)) (.cons (.e (.c (.int 2))) .nil))))) (.cons (.e (.c (.int 0))) .nil)))) (.cons (.app ⟨4, []⟩ (.rd 6))
 .nil) .nil)
 .nil)) [some s, some (scr ns), some (nms xs), some (.d (.list L)), some (own1 []), some (xI keep), c6, c7] = some (.nx, ρ') ∧ ∃ s' F c6', St s' ∧ F.Sublist L ∧ ρ' = [some s', some (scr ns), some (nms xs), some (.d (.list L)), some (own1 F), some (xI keep), c6', c7] := by
  obtain ⟨ρ', e, s', F, c6', h1, h2, h3⟩ := r_for (G := sem tab (m + 1)) (tg := .n 6) (b := .cons (.iff (.or_ (.op .gt (.cons (.e (.rd 5)) (.cons (.e (.c (.int 0))) .nil))) (.op .eq (.cons (.e (.call 2 [0] (.cons (.p ⟨0, []⟩) (.cons (.e (.rd 1)) (.cons (.e (.c (.int 2))) .nil))))) (.cons (.e (.c (.int 0))) .nil)))) (.cons (.app ⟨4, []⟩ (.rd 6))
 .nil) .nil)
 .nil) (it := .l (.rd 3)) (ρ := [some s, some (scr ns), some (nms xs), some (.d (.list L)), some (own1 []), some (xI keep), c6, c7]) (fun k ρ => ∃ (s' : X) (F : List D) (c6' : Option X), St s' ∧ F.Sublist (L.take k) ∧ ρ = [some s', some (scr ns), some (nms xs), some (.d (.list L)), some (own1 F), some (xI keep), c6', c7]) (ds := L) rfl ⟨s, [], c6, hs, by simp, rfl⟩ fun k d ρ hk hp => by
    obtain ⟨s1, F, c, a1, a2, rfl⟩ := hp
    have tk1 : L.take (k + 1) = L.take k ++ [d] := by
      rw [List.take_add_one, hk]
      rfl
    have hF : F.length < sizeLine := Nat.lt_of_le_of_lt (Nat.le_trans a2.length_le (Nat.le_trans (List.length_take_le' _ _) (Nat.le_trans hL.1 hn))) (by decide)
    have w : ∃ s2 kk, evT (sem tab (m + 1)) (.or_ (.op .gt (.cons (.e (.rd 5)) (.cons (.e (.c (.int 0))) .nil))) (.op .eq (.cons (.e (.call 2 [0] (.cons (.p ⟨0, []⟩) (.cons (.e (.rd 1)) (.cons (.e (.c (.int 2))) .nil))))) (.cons (.e (.c (.int 0))) .nil)))) [some s1, some (scr ns), some (nms xs), some (.d (.list L)), some (own1 F), some (xI keep), some (.d d), c7] = some (kk, [some s2, some (scr ns), some (nms xs), some (.d (.list L)), some (own1 F), some (xI keep), some (.d d), c7]) ∧ St s2 := by
      have g : ∀ kk, decide ((0 : Int) < keep) = kk → evT (sem tab (m + 1)) (.op .gt (.cons (.e (.rd 5)) (.cons (.e (.c (.int 0))) .nil))) [some s1, some (scr ns), some (nms xs), some (.d (.list L)), some (own1 F), some (xI keep), some (.d d), c7] = some (kk, [some s1, some (scr ns), some (nms xs), some (.d (.list L)), some (own1 F), some (xI keep), some (.d d), c7]) := fun kk hkk => by
        refine r_t ((r_op2 (r_e rfl) (r_e rfl) rfl rfl (dat1_d _) (dat1_d _) q_gt).trans ?_)
        rw [hkk]
      cases hkk : decide ((0 : Int) < keep) with
      | true => exact ⟨s1, true, r_or1 (g _ hkk), a1⟩
      | false =>
        obtain ⟨z, s2, q, hz, _, _⟩ := c_draw m (ns := ns) (ρ := [some s1, some (scr ns), some (nms xs), some (.d (.list L)), some (own1 F), some (xI keep), some (.d d), c7]) (k := 0) (j := 1) (a := .e (.c (.int 2))) (size := 2) rfl a1 rfl (r_e rfl) (by decide) (by decide)
        exact ⟨s2, z == 0, r_or2 (g _ hkk) (r_t (r_op2 (r_e (q.trans rfl)) (r_e rfl) rfl rfl (dat1_d _) (dat1_d _) q_eqi)), hz⟩
    obtain ⟨s2, kk, q, hz⟩ := w
    cases kk with
    | true =>
      refine ⟨[some s1, some (scr ns), some (nms xs), some (.d (.list L)), some (own1 F), some (xI keep), some (.d d), c7], [some s2, some (scr ns), some (nms xs), some (.d (.list L)), some (own1 (F ++ [d])), some (xI keep), some (.d d), c7], rfl, ?_, ⟨s2, F ++ [d], some (.d d), hz, ?_, rfl⟩⟩
      · refine r_nx (r_if (k := true) q (r_nx (r_app (xs := F.map X.d) rfl rfl rfl rfl (by rw [List.length_map]; exact hF) ?_) rfl)) rfl
        rw [own1_app]
        rfl
      · rw [tk1]
        exact a2.append_right [d]
    | false =>
      refine ⟨[some s1, some (scr ns), some (nms xs), some (.d (.list L)), some (own1 F), some (xI keep), some (.d d), c7], [some s2, some (scr ns), some (nms xs), some (.d (.list L)), some (own1 F), some (xI keep), some (.d d), c7], rfl, r_nx (r_if (k := false) q rfl) rfl, ⟨s2, F, some (.d d), hz, ?_, rfl⟩⟩
      rw [tk1]
      exact a2.trans (List.sublist_append_left _ _)
  rw [List.take_length] at h2
  exact ⟨ρ', e, s', F, c6', h1, h2, h3⟩
theorem loop7b (m : Nat) (ns : List Int) (xs : List Str) (hx : NL xs) (L : X) (keep : X) (s : X) (hs : St s) (F : List D) (nL : Nat) (hF : Lines nL F) (nd : F.Nodup) (hn : nL ≤ 5000) (c6 c7 : Option X) : ∃ ρ', evS (sem tab (m + 3)) (.for_ (.n 7) (.r1 (.call 2 [0] (.cons (.p ⟨0, []⟩) (.cons (.e (.rd 1)) (.cons (.e (.c (.int 4))) .nil))))) (.cons (.set 6 (.frz (.call 6 [0] (.cons (.p ⟨0, []⟩) (.cons (.e (.rd 1)) (.cons (.e (.rd 2)) .nil))))))
 (.cons (.iff (.op .nin (.cons (.e (.rd 6)) (.cons (.p ⟨4, []⟩) .nil))) (.cons (.app ⟨4, []⟩ (.rd 6))
 .nil) .nil)
 .nil))) [some s, some (scr ns), some (nms xs), some L, some (own1 F), some keep, c6, c7] = some (.nx, ρ') ∧ ∃ s' F' c6' c7', St s' ∧ Lines (nL + 3) F' ∧ F'.Nodup ∧ ρ' = [some s', some (scr ns), some (nms xs), some L, some (own1 F'), some keep, c6', c7'] := by
  obtain ⟨v, s1, q, hs1, v1, v2⟩ := c_draw (m + 2) (ns := ns) (ρ := [some s, some (scr ns), some (nms xs), some L, some (own1 F), some keep, c6, c7]) (k := 0) (j := 1) (a := .e (.c (.int 4))) (size := 4) rfl hs rfl (r_e rfl) (by decide) (by decide)
  have hr : rngOk v = true := decide_eq_true (by omega)
  have it : evIt (sem tab (m + 3)) (.r1 (.call 2 [0] (.cons (.p ⟨0, []⟩) (.cons (.e (.rd 1)) (.cons (.e (.c (.int 4))) .nil))))) [some s, some (scr ns), some (nms xs), some L, some (own1 F), some keep, c6, c7] = some (rngD 0 v.toNat, [some s1, some (scr ns), some (nms xs), some L, some (own1 F), some keep, c6, c7]) := by
    show ((evE (sem tab (m + 3)) _ _).bind fun z => (intD z.1).bind fun n => if rngOk n then some (rngD 0 n.toNat, z.2) else none) = _
    rw [q]
    show (if rngOk v then _ else none) = _
    rw [if_pos hr]
    rfl
  have hlen : (rngD 0 v.toNat).length ≤ 3 := by
    simp only [rngD, List.length_map, List.length_range]
    omega
  obtain ⟨ρ', e, s', F', c6', c7', h1, h2, h3, h4⟩ := r_for (G := sem tab (m + 3)) (tg := .n 7) (b := .cons (.set 6 (.frz (.call 6 [0] (.cons (.p ⟨0, []⟩) (.cons (.e (.rd 1)) (.cons (.e (.rd 2)) .nil))))))
 (.cons (.iff (.op .nin (.cons (.e (.rd 6)) (.cons (.p ⟨4, []⟩) .nil))) (.cons (.app ⟨4, []⟩ (.rd 6))
 .nil) .nil)
 .nil)) (fun k ρ => ∃ (s' : X) (F' : List D) (c6' c7' : Option X), St s' ∧ Lines (nL + k) F' ∧ F'.Nodup ∧ ρ = [some s', some (scr ns), some (nms xs), some L, some (own1 F'), some keep, c6', c7']) it ⟨s1, F, c6, c7, hs1, hF, nd, rfl⟩ fun k d ρ hk hp => by
    obtain ⟨s2, F1, d6, d7, b1, b2, b3, rfl⟩ := hp
    have hkl := (List.getElem?_eq_some_iff.mp hk).1
    obtain ⟨l, s3, q3, z3, hl⟩ := drawLine m ns s2 b1 xs hx
    have qc : evE (sem tab (m + 3)) (.call 6 [0] (.cons (.p ⟨0, []⟩) (.cons (.e (.rd 1)) (.cons (.e (.rd 2)) .nil)))) [some s2, some (scr ns), some (nms xs), some L, some (own1 F1), some keep, d6, some (.d d)] = some (.d l, [some s3, some (scr ns), some (nms xs), some L, some (own1 F1), some keep, d6, some (.d d)]) := r_call (r_cons (r_p rfl) (r_cons (r_e rfl) (r_cons (r_e rfl) r_nil))) rfl rfl q3 rfl
    have tt : ∀ kk, (!inB F1 l) = kk → evT (sem tab (m + 3)) (.op .nin (.cons (.e (.rd 6)) (.cons (.p ⟨4, []⟩) .nil))) [some s3, some (scr ns), some (nms xs), some L, some (own1 F1), some keep, some (.d l), some (.d d)] = some (kk, [some s3, some (scr ns), some (nms xs), some L, some (own1 F1), some keep, some (.d l), some (.d d)]) := fun kk hkk => by
      refine r_t ((r_op2 (r_e rfl) (r_p rfl) rfl rfl (dat1_d _) (dat_own F1) (q_ninL b2 (by omega) hl)).trans ?_)
      rw [hkk]
    have st : evS (sem tab (m + 3)) (.set 6 (.frz (.call 6 [0] (.cons (.p ⟨0, []⟩) (.cons (.e (.rd 1)) (.cons (.e (.rd 2)) .nil)))))) [some s2, some (scr ns), some (nms xs), some L, some (own1 F1), some keep, d6, some (.d d)] = some (.nx, [some s3, some (scr ns), some (nms xs), some L, some (own1 F1), some keep, some (.d l), some (.d d)]) := (r_set (r_frz qc (datF_d _))).trans rfl
    refine ⟨[some s2, some (scr ns), some (nms xs), some L, some (own1 F1), some keep, d6, some (.d d)], ?_⟩
    cases hkk : (!inB F1 l) with
    | true =>
      refine ⟨[some s3, some (scr ns), some (nms xs), some L, some (own1 (F1 ++ [l])), some keep, some (.d l), some (.d d)], rfl, r_nx st (r_nx (r_if (k := true) (tt _ hkk) (r_nx (r_app (xs := F1.map X.d) rfl rfl rfl rfl (by rw [List.length_map]; exact Nat.lt_of_le_of_lt b2.1 (Nat.lt_of_le_of_lt (show nL + k ≤ 6000 by omega) (by decide))) ?_) rfl)) rfl), ⟨s3, _, _, _, z3, b2.app hl, ?_, rfl⟩⟩
      · rw [own1_app]
        rfl
      · refine List.nodup_append.mpr ⟨b3, by simp, fun a ha b hb => ?_⟩
        rw [List.mem_singleton.mp hb]
        intro e
        have := (inB_iff b2 hl).mpr (e ▸ ha)
        rw [this] at hkk
        cases hkk
    | false => exact ⟨[some s3, some (scr ns), some (nms xs), some L, some (own1 F1), some keep, some (.d l), some (.d d)], rfl, r_nx st (r_nx (r_if (k := false) (tt _ hkk) rfl) rfl), ⟨s3, F1, _, _, z3, b2.up (by omega), b3, rfl⟩⟩
  exact ⟨ρ', e, s', F', c6', c7', h1, h2.up (by omega), h3, h4⟩
/-- rows as the law makes them: distinct, sorted -/
def Row (n : Nat) (R : List D) : Prop := Lines n R ∧ R.Nodup ∧ sortD R = R
theorem Row.up {n m : Nat} {R : List D} (h : Row n R) (s : n ≤ m) : Row m R := ⟨h.1.up s, h.2⟩
theorem row_sort {n : Nat} {F : List D} (h : Lines n F) (nd : F.Nodup) : Row n (sortD F) := ⟨h.sorted, (sortD_perm0 F).symm.nodup nd, h.idem⟩
theorem turned (n : Nat) (ns : List Int) (xs : List Str) (hx : NL xs) (s : X) (hs : St s) (L : List D) (nL : Nat) (hL : Lines nL L) (nd : L.Nodup) (hn : nL ≤ 5000) :
    ∃ R s', sem tab (n + 4) 7 [s, scr ns, nms xs, .d (.list L)] = some (own1 R, [s']) ∧ St s' ∧ Row (nL + 3) R := by
  rw [sem_succ (n + 3) 7 d7 rfl]
  obtain ⟨keep, s1, q, hs1, k1, k2⟩ := c_draw (n + 2) (ns := ns) (ρ := [some s, some (scr ns), some (nms xs), some (.d (.list L)), some (own1 []), none, none, none]) (k := 0) (j := 1) (a := .e (.c (.int 3))) (size := 3) rfl hs rfl (r_e rfl) (by decide) (by decide)
  obtain ⟨ρa, ea, s2, F, c6, hs2, hF, rfl⟩ := loop7a (n + 2) ns xs L keep s1 hs1 nL hL hn none none
  have lF := hL.sub hF
  have nF := nd.sublist hF
  have t : ∀ kk, decide (keep < 2) = kk → evT (sem tab (n + 3)) (.op .lt (.cons (.e (.rd 5)) (.cons (.e (.c (.int 2))) .nil))) [some s2, some (scr ns), some (nms xs), some (.d (.list L)), some (own1 F), some (xI keep), c6, none] = some (kk, [some s2, some (scr ns), some (nms xs), some (.d (.list L)), some (own1 F), some (xI keep), c6, none]) := fun kk hkk => by
    refine r_t ((r_op2 (r_e rfl) (r_e rfl) rfl rfl (dat1_d _) (dat1_d _) q_lt).trans ?_)
    rw [hkk]
  have fin : ∀ (s3 : X) (F' : List D) (c7 c8 : Option X), St s3 → Lines (nL + 3) F' → F'.Nodup → evSs (sem tab (n + 3)) body7 [some s, some (scr ns), some (nms xs), some (.d (.list L)), none, none, none, none] = evSs (sem tab (n + 3)) (.cons (.ret (.op .sorted1 (.cons (.p ⟨4, []⟩) .nil))) .nil) [some s3, some (scr ns), some (nms xs), some (.d (.list L)), some (own1 F'), some (xI keep), c7, c8] → ∃ R s', runDef d7 (sem tab (n + 3)) [s, scr ns, nms xs, .d (.list L)] = some (own1 R, [s']) ∧ St s' ∧ Row (nL + 3) R := fun s3 F' c7 c8 hs3 l3 n3 e => by
    refine ⟨sortD F', s3, ?_, hs3, row_sort l3 n3⟩
    show (evSs (sem tab (n + 3)) body7 [some s, some (scr ns), some (nms xs), some (.d (.list L)), none, none, none, none]).bind _ = _
    rw [e, r_rt (r_ret (r_op1 (r_p rfl) rfl (dat_own F') (q_sorted (l3.sort (by omega)))))]
    rfl
  have pre : ∀ w, evSs (sem tab (n + 3)) (.cons (.iff (.op .lt (.cons (.e (.rd 5)) (.cons (.e (.c (.int 2))) .nil))) (.cons (.for_ (.n 7) (.r1 (.call 2 [0] (.cons (.p ⟨0, []⟩) (.cons (.e (.rd 1)) (.cons (.e (.c (.int 4))) .nil))))) (.cons (.set 6 (.frz (.call 6 [0] (.cons (.p ⟨0, []⟩) (.cons (.e (.rd 1)) (.cons (.e (.rd 2)) .nil))))))
 (.cons (.iff (.op .nin (.cons (.e (.rd 6)) (.cons (.p ⟨4, []⟩) .nil))) (.cons (.app ⟨4, []⟩ (.rd 6))
 .nil) .nil)
 .nil)))
 .nil) .nil)
 (.cons (.ret (.op .sorted1 (.cons (.p ⟨4, []⟩) .nil)))
 .nil)) [some s2, some (scr ns), some (nms xs), some (.d (.list L)), some (own1 F), some (xI keep), c6, none] = w → evSs (sem tab (n + 3)) body7 [some s, some (scr ns), some (nms xs), some (.d (.list L)), none, none, none, none] = w := fun w hw =>
    r_nx (ρ1 := [some s, some (scr ns), some (nms xs), some (.d (.list L)), some (own1 []), none, none, none]) ((r_set (x := .lst []) (ρ1 := [some s, some (scr ns), some (nms xs), some (.d (.list L)), none, none, none, none]) rfl).trans rfl)
    (r_nx (ρ1 := [some s1, some (scr ns), some (nms xs), some (.d (.list L)), some (own1 []), some (xI keep), none, none]) ((r_set (r_frz (q.trans rfl) (datF_d _))).trans rfl) (r_nx ea hw))
  cases hkk : decide (keep < 2) with
  | true =>
    obtain ⟨ρb, eb, s3, F', c7, c8, hs3, l3, n3, rfl⟩ := loop7b n ns xs hx (.d (.list L)) (xI keep) s2 hs2 F nL lF nF hn c6 none
    exact fin s3 F' c7 c8 hs3 l3 n3 (pre _ (r_nx (r_if (k := true) (t _ hkk) (r_nx eb rfl)) rfl))
  | false => exact fin s2 F c6 none hs2 (lF.up (by omega)) nF (pre _ (r_nx (r_if (k := false) (t _ hkk) rfl) rfl))

theorem Lines.both {a b : Nat} {L M : List D} (h : Lines a L) (h2 : Lines b M) : Lines (a + b) (L ++ M) := ⟨by rw [List.length_append]; exact Nat.add_le_add h.1 h2.1, fun x hx => (List.mem_append.mp hx).elim (h.2 x) (h2.2 x)⟩
theorem Lines.fil {a : Nat} {L : List D} (h : Lines a L) (f : D → Bool) : Lines a (L.filter f) := h.sub List.filter_sublist
/-- the lines without the gone, and the new -/
def reb (L P Q : List D) : List D := sortD (L.filter (fun z => !inB P z) ++ Q)
theorem rebuilt (n : Nat) {a b c : Nat} (L P Q : List D) (nm : D) (hL : Lines a L) (hP : Lines b P) (hQ : Lines c Q) (ha : a ≤ 3000) (hb : b ≤ 3000) (hc : c ≤ 3000) :
    sem tab (n + 1) 1 [.d (.list L), .d (.tuple [nm, .list P, .list Q])] = some (own1 (reb L P Q), []) := by
  rw [sem_succ n 1 d1 rfl]
  have f : evE (sem tab n) (.comp [2] (.n 2) (.l (.rd 0)) (.yes (.op .nin (.cons (.e (.rd 2)) (.cons (.e (.op .ix (.cons (.e (.rd 1)) (.cons (.e (.c (.int 1))) .nil)))) .nil)))) (.rd 2)) [some (.d (.list L)), some (.d (.tuple [nm, .list P, .list Q])), none] = some (own1 (L.filter fun z => !inB P z), [some (.d (.list L)), some (.d (.tuple [nm, .list P, .list Q])), none]) := by
    refine r_fil (fun z => !inB P z) (ds := L) rfl rfl (len_ok (Nat.le_trans hL.1 (by omega))) (Nat.lt_of_lt_of_le (show 2 < 3 by decide) (Nat.le_refl _)) fun d hd => ?_
    exact r_t (r_op2 (ρ1 := [some (.d (.list L)), some (.d (.tuple [nm, .list P, .list Q])), some (.d d)]) (r_e rfl) (r_e (r_op2 (r_e rfl) (r_e rfl) rfl rfl (dat1_d _) (dat1_d _) rfl)) rfl rfl (dat1_d _) (dat1_d _) (q_ninL hP (by omega) (hL.2 d hd)))
  have b : evSs (sem tab n) body1 [some (.d (.list L)), some (.d (.tuple [nm, .list P, .list Q])), none] = some (.rt (own1 (reb L P Q)), [some (.d (.list L)), some (.d (.tuple [nm, .list P, .list Q])), none]) := by
    refine r_rt (r_ret (r_op1 (r_e (r_op2 (r_e f) (r_e (r_op2 (r_e rfl) (r_e rfl) rfl rfl (dat1_d _) (dat1_d _) rfl)) rfl rfl (dat_own _) (dat1_d _) (q_addl ?_))) rfl (dat_own _) (q_sorted (((hL.fil _).both hQ).sort (by omega)))))
    have h1 := (hL.fil fun z => !inB P z).1
    have h2 := hQ.1
    exact len_ok (by omega)
  show (evSs (sem tab n) body1 [some (.d (.list L)), some (.d (.tuple [nm, .list P, .list Q])), none]).bind _ = _
  rw [b]
  rfl
theorem c_lines (m : Nat) (ns : List Int) (xs : List Str) (hx : NL xs) (c3 c4 c6 c7 c8 : Option X) (s : X) (hs : St s) : ∃ s' P, evE (sem tab (m + 3)) (.comp [5] (.n 5) (.r1 (.call 2 [0] (.cons (.p ⟨0, []⟩) (.cons (.e (.rd 1)) (.cons (.e (.c (.int 3))) .nil))))) .no (.frz (.call 6 [0] (.cons (.p ⟨0, []⟩) (.cons (.e (.rd 1)) (.cons (.e (.rd 2)) .nil)))))) [some s, some (scr ns), some (nms xs), c3, c4, none, c6, c7, c8] = some (own1 P, [some s', some (scr ns), some (nms xs), c3, c4, none, c6, c7, c8]) ∧ St s' ∧ Lines 3 P := by
  obtain ⟨v, s1, q, hs1, v1, v2⟩ := c_draw (m + 2) (ns := ns) (ρ := [some s, some (scr ns), some (nms xs), c3, c4, none, c6, c7, c8]) (k := 0) (j := 1) (a := .e (.c (.int 3))) (size := 3) rfl hs rfl (r_e rfl) (by decide) (by decide)
  have hr : rngOk v = true := decide_eq_true (by omega)
  have it : evIt (sem tab (m + 3)) (.r1 (.call 2 [0] (.cons (.p ⟨0, []⟩) (.cons (.e (.rd 1)) (.cons (.e (.c (.int 3))) .nil))))) [some s, some (scr ns), some (nms xs), c3, c4, none, c6, c7, c8] = some (rngD 0 v.toNat, [some s1, some (scr ns), some (nms xs), c3, c4, none, c6, c7, c8]) := by
    show ((evE (sem tab (m + 3)) _ _).bind fun z => (intD z.1).bind fun n => if rngOk n then some (rngD 0 n.toNat, z.2) else none) = _
    rw [q]
    show (if rngOk v then _ else none) = _
    rw [if_pos hr]
    rfl
  have hlen : (rngD 0 v.toNat).length ≤ 3 := by
    simp only [rngD, List.length_map, List.length_range]
    omega
  obtain ⟨ys, ρ', e, ⟨s', hs', rfl⟩, hR, hl⟩ := comp_inv (tg := .n 5) (vs := [5]) (tt := evO (sem tab (m + 3)) .no) (te := evE (sem tab (m + 3)) (.frz (.call 6 [0] (.cons (.p ⟨0, []⟩) (.cons (.e (.rd 1)) (.cons (.e (.rd 2)) .nil)))))) (fun ρ => ∃ s', St s' ∧ ρ = [some s', some (scr ns), some (nms xs), c3, c4, none, c6, c7, c8]) IsLine (rngD 0 v.toNat) [some s1, some (scr ns), some (nms xs), c3, c4, none, c6, c7, c8] [] ⟨s1, hs1, rfl⟩ (len_ok (by simp only [List.length_nil]; omega)) fun d ρ hd hp => by
    obtain ⟨s2, hs2, rfl⟩ := hp
    obtain ⟨l, s3, q3, z3, hl⟩ := drawLine m ns s2 hs2 xs hx
    exact ⟨_, _, l, [some s3, some (scr ns), some (nms xs), c3, c4, some (.d d), c6, c7, c8], rfl, rfl, r_frz (r_call (r_cons (r_p rfl) (r_cons (r_e rfl) (r_cons (r_e rfl) r_nil))) rfl rfl q3 rfl) (datF_d _), hl, s3, z3, rfl⟩
  rw [List.nil_append] at e
  exact ⟨s', ys, (r_comp it rfl e).trans rfl, hs', by omega, hR⟩
/-- any lines, any letter -/
theorem anyOk (n : Nat) (ns : List Int) (xs : List Str) (hx : NL xs) (s : X) (hs : St s) :
    ∃ s', sem tab (n + 5) 9 [s, scr ns, nms xs] = some (.d (.bool true), [s']) ∧ St s' := by
  rw [sem_succ (n + 4) 9 d9 rfl]
  obtain ⟨R, s1, q1, hs1, hR⟩ := turned n ns xs hx s hs [] 0 ⟨Nat.le_refl _, fun _ z => nomatch z⟩ List.nodup_nil (by decide)
  have e1 : evS (sem tab (n + 4)) (.set 3 (.frz (.call 7 [0] (.cons (.p ⟨0, []⟩) (.cons (.e (.rd 1)) (.cons (.e (.rd 2)) (.cons (.e (.frz (.lst .nil))) .nil))))))) [some s, some (scr ns), some (nms xs), none, none, none, none, none, none] = some (.nx, [some s1, some (scr ns), some (nms xs), some (.d (.list R)), none, none, none, none, none]) :=
    (r_set (r_frz (r_call (r_cons (r_p rfl) (r_cons (r_e rfl) (r_cons (r_e rfl) (r_cons (r_e rfl) r_nil)))) rfl rfl q1 rfl) (datF_own R))).trans rfl
  obtain ⟨s2, P, q2, hs2, hP⟩ := c_lines (n + 1) ns xs hx (some (.d (.list R))) none none none none s1 hs1
  obtain ⟨s3, Q, q3, hs3, hQ⟩ := c_lines (n + 1) ns xs hx (some (.d (.list R))) (some (own1 P)) none none none s2 hs2
  have f : evE (sem tab (n + 4)) (.comp [8] (.n 8) (.l (.rd 3)) (.yes (.op .nin (.cons (.e (.rd 8)) (.cons (.p ⟨4, []⟩) .nil)))) (.rd 8)) [some s3, some (scr ns), some (nms xs), some (.d (.list R)), some (own1 P), none, some (own1 Q), none, none] = some (own1 (R.filter fun z => !inB P z), [some s3, some (scr ns), some (nms xs), some (.d (.list R)), some (own1 P), none, some (own1 Q), none, none]) := by
    refine r_fil (fun z => !inB P z) (ds := R) rfl rfl (len_ok (Nat.le_trans hR.1.1 (by decide))) (Nat.lt_of_lt_of_le (show 8 < 9 by decide) (Nat.le_refl _)) fun d hd => ?_
    exact r_t (r_op2 (ρ1 := [some s3, some (scr ns), some (nms xs), some (.d (.list R)), some (own1 P), none, some (own1 Q), none, some (.d d)]) (r_e rfl) (r_p rfl) rfl rfl (dat1_d _) (dat_own _) (q_ninL hP (by decide) (hR.1.2 d hd)))
  have lA : Lines (0 + 3 + 3) (R.filter (fun z => !inB P z) ++ Q) := (hR.1.fil _).both hQ
  have due : evS (sem tab (n + 4)) (.set 7 (.frz (.op .sorted1 (.cons (.e (.op .add (.cons (.e (.comp [8] (.n 8) (.l (.rd 3)) (.yes (.op .nin (.cons (.e (.rd 8)) (.cons (.p ⟨4, []⟩) .nil)))) (.rd 8))) (.cons (.p ⟨6, []⟩) .nil)))) .nil)))) [some s3, some (scr ns), some (nms xs), some (.d (.list R)), some (own1 P), none, some (own1 Q), none, none] = some (.nx, [some s3, some (scr ns), some (nms xs), some (.d (.list R)), some (own1 P), none, some (own1 Q), some (.d (.list (reb R P Q))), none]) := by
    refine (r_set (r_frz (r_op1 (r_e (r_op2 (r_e f) (r_p rfl) rfl rfl (dat_own _) (dat_own _) (q_addl ?_))) rfl (dat_own _) (q_sorted (lA.sort (by decide)))) (datF_own _))).trans rfl
    have h1 := (hR.1.fil fun z => !inB P z).1
    have h2 := hQ.1
    exact len_ok (by omega)
  have okD : Ok (.list (reb R P Q)) 606 5 := (lA.sorted).ok
  have rp : reprOk (.list (reb R P Q)) = true := okD.repr (by decide) (by decide)
  have rb := rebuilt (n + 3) R P Q (.str "ann") hR.1 hP hQ (by decide) (by decide) (by decide)
  have fin : evS (sem tab (n + 4)) (.ret (.op .eq (.cons (.e (.reprF (.e (.call 1 [] (.cons (.e (.frz (.op .list1 (.cons (.e (.rd 3)) .nil)))) (.cons (.e (.frz (.tup (.cons (.e (.c (.str "ann"))) (.cons (.e (.frz (.op .list1 (.cons (.p ⟨4, []⟩) .nil)))) (.cons (.e (.frz (.op .list1 (.cons (.p ⟨6, []⟩) .nil)))) .nil)))))) .nil)))))) (.cons (.e (.reprF (.e (.rd 7)))) .nil)))) [some s3, some (scr ns), some (nms xs), some (.d (.list R)), some (own1 P), none, some (own1 Q), some (.d (.list (reb R P Q))), none] = some (.rt (.d (.bool true)), [some s3, some (scr ns), some (nms xs), some (.d (.list R)), some (own1 P), none, some (own1 Q), some (.d (.list (reb R P Q))), none]) := by
    have a1 : evE (sem tab (n + 4)) (.frz (.op .list1 (.cons (.e (.rd 3)) .nil))) [some s3, some (scr ns), some (nms xs), some (.d (.list R)), some (own1 P), none, some (own1 Q), some (.d (.list (reb R P Q))), none] = some (.d (.list R), [some s3, some (scr ns), some (nms xs), some (.d (.list R)), some (own1 P), none, some (own1 Q), some (.d (.list (reb R P Q))), none]) := r_frz (r_op1 (r_e rfl) rfl (dat1_d _) q_list1) (datF_own R)
    have a2 : evE (sem tab (n + 4)) (.frz (.op .list1 (.cons (.p ⟨4, []⟩) .nil))) [some s3, some (scr ns), some (nms xs), some (.d (.list R)), some (own1 P), none, some (own1 Q), some (.d (.list (reb R P Q))), none] = some (.d (.list P), [some s3, some (scr ns), some (nms xs), some (.d (.list R)), some (own1 P), none, some (own1 Q), some (.d (.list (reb R P Q))), none]) := r_frz (r_op1 (r_p rfl) rfl (dat_own _) q_list1) (datF_own P)
    have a3 : evE (sem tab (n + 4)) (.frz (.op .list1 (.cons (.p ⟨6, []⟩) .nil))) [some s3, some (scr ns), some (nms xs), some (.d (.list R)), some (own1 P), none, some (own1 Q), some (.d (.list (reb R P Q))), none] = some (.d (.list Q), [some s3, some (scr ns), some (nms xs), some (.d (.list R)), some (own1 P), none, some (own1 Q), some (.d (.list (reb R P Q))), none]) := r_frz (r_op1 (r_p rfl) rfl (dat_own _) q_list1) (datF_own Q)
    have b0 := r_cons (r_e (e := .c (.str "ann")) rfl) (r_cons (r_e a2) (r_cons (r_e a3) r_nil))
    have a4 : evE (sem tab (n + 4)) (.frz (.tup (.cons (.e (.c (.str "ann"))) (.cons (.e (.frz (.op .list1 (.cons (.p ⟨4, []⟩) .nil)))) (.cons (.e (.frz (.op .list1 (.cons (.p ⟨6, []⟩) .nil)))) .nil))))) [some s3, some (scr ns), some (nms xs), some (.d (.list R)), some (own1 P), none, some (own1 Q), some (.d (.list (reb R P Q))), none] = some (.d (.tuple [.str "ann", .list P, .list Q]), [some s3, some (scr ns), some (nms xs), some (.d (.list R)), some (own1 P), none, some (own1 Q), some (.d (.list (reb R P Q))), none]) := by
      refine r_frz (x := .d (.tuple [.str "ann", .list P, .list Q])) ?_ (datF_d _)
      show ((evAs _ _ _).bind fun z => (tmpAll z.1).bind fun xs => if xs.length ≤ sizeLine then (match allD xs with
        | some ds => some (X.d (.tuple ds), z.2)
        | none => some (.tup xs, z.2)) else none) = _
      rw [b0]
      rfl
    refine r_ret ((r_op2 (r_e (r_repr (r_e (r_call (r_cons (r_e a1) (r_cons (r_e a4) r_nil)) rfl rfl rb rfl)) rfl (datF_own _) rp)) (r_e (r_repr (r_e rfl) rfl (datF_d _) rp)) rfl rfl (dat1_d _) (dat1_d _) (q_eqshown (sOk_lay _ okD.lay) (sOk_lay _ okD.lay))).trans ?_)
    rw [beq_self_eq_true]
    rfl
  refine ⟨s3, ?_, hs3⟩
  show (evSs (sem tab (n + 4)) body9 [some s, some (scr ns), some (nms xs), none, none, none, none, none, none]).bind _ = _
  have b : evSs (sem tab (n + 4)) body9 [some s, some (scr ns), some (nms xs), none, none, none, none, none, none] = _ := r_nx e1 (r_nx ((r_set q2).trans rfl) (r_nx ((r_set q3).trans rfl) (r_nx due (r_rt fin))))
  rw [b]
  rfl

/-- the dicts of the law: lines by names -/
abbrev Dc := List (Str × List D)
def kv (B : Dc) : List (D × D) := B.map fun p => (.str p.1, .list p.2)
abbrev dcX (B : Dc) : X := .d (.dict (kv B))
def getB : Dc → Str → List D
  | [], _ => []
  | (k, R) :: r, x => if k == x then R else getB r x
def DcOk (n : Nat) (B : Dc) : Prop := (∀ p ∈ B, Nm p.1 ∧ Row n p.2) ∧ (B.map (·.1)).Nodup ∧ B.length ≤ 5
theorem row_nil {n : Nat} : Row n [] := ⟨⟨Nat.zero_le _, fun _ z => nomatch z⟩, List.nodup_nil, by simp [sortD]⟩
theorem getB_row {n : Nat} : ∀ {B : Dc} {x : Str}, (∀ p ∈ B, Nm p.1 ∧ Row n p.2) → Row n (getB B x)
  | [], _, _ => row_nil
  | (k, R) :: r, x, h => by
    show Row n (if k == x then R else getB r x)
    split
    · exact (h _ List.mem_cons_self).2
    · exact getB_row fun p hp => h p (List.mem_cons_of_mem _ hp)
theorem dlook_kv : ∀ (B : Dc) (x : Str), (dlook (kv B) (.str x)).getD (.list []) = .list (getB B x)
  | [], _ => rfl
  | (k, R) :: r, x => by
    show (if (k == x) = true then some (PyData.list R) else dlook (kv r) (.str x)).getD (.list []) = .list (if (k == x) = true then R else getB r x)
    split
    · rfl
    · exact dlook_kv r x
theorem keys_kv {B : Dc} {x : Str} : keysOk (kv B) (.str x) = true := by
  have : ((kv B).all fun p => keyOk false p.1) = true := List.all_eq_true.mpr fun p hp => by
    obtain ⟨q, _, rfl⟩ := List.mem_map.mp hp
    rfl
  unfold keysOk
  rw [this]
  rfl
theorem q_getB {B : Dc} {x : Str} : opF .get2 [.dict (kv B), .str x, .list []] = some (.d (.list (getB B x))) := by rw [q_get2 keys_kv, dlook_kv]
/-- the gone and the new lines make the new out of the old -/
def goneL (old new : List D) : List D := old.filter fun z => !inB new z
theorem goneL_mem {n m : Nat} {old new : List D} (h1 : Lines n old) (h2 : Lines m new) {z : D} : z ∈ goneL old new ↔ z ∈ old ∧ z ∉ new := by
  unfold goneL
  rw [List.mem_filter]
  constructor
  · rintro ⟨a, b⟩
    refine ⟨a, fun c => ?_⟩
    rw [(inB_iff h2 (h1.2 z a)).mpr c] at b
    cases b
  · rintro ⟨a, b⟩
    refine ⟨a, ?_⟩
    cases e : inB new z with
    | false => rfl
    | true => exact absurd ((inB_iff h2 (h1.2 z a)).mp e) b
theorem turn_back {n m : Nat} {old new : List D} (h1 : Row n old) (h2 : Row m new) : reb old (goneL old new) (goneL new old) = new := by
  have lg : Lines n (goneL old new) := h1.1.fil _
  have lc : Lines m (goneL new old) := h2.1.fil _
  have lk : Lines n (goneL old (goneL old new)) := h1.1.fil _
  have hp : (goneL old (goneL old new) ++ goneL new old).Perm new := by
    letI : DecidableEq D := fun _ _ => Classical.propDecidable _
    refine perm_nodup (List.nodup_append.mpr ⟨h1.2.1.sublist List.filter_sublist, h2.2.1.sublist List.filter_sublist, fun a ha b hb e => ?_⟩) h2.2.1 fun z => ?_
    · subst e
      exact ((goneL_mem h2.1 h1.1).mp hb).2 ((goneL_mem h1.1 lg).mp ha).1
    · rw [List.mem_append, goneL_mem h1.1 lg, goneL_mem h2.1 h1.1, goneL_mem h1.1 h2.1]
      constructor
      · rintro (⟨a, b⟩ | ⟨a, _⟩)
        · by_cases c : z ∈ new
          · exact c
          · exact absurd ⟨a, c⟩ b
        · exact a
      · intro a
        by_cases c : z ∈ old
        · exact .inl ⟨c, fun d => d.2 a⟩
        · exact .inr ⟨a, c⟩
  show sortD (goneL old (goneL old new) ++ goneL new old) = new
  rw [← h2.2.2]
  exact sortD_perm (by rw [h2.2.2]; exact hp) fun a ha b hb e => line_inj ((lk.both lc).2 a (by rw [h2.2.2] at ha; exact ha)) ((lk.both lc).2 b (by rw [h2.2.2] at hb; exact hb)) e
/-- whom a letter may go to, in order -/
def namesOf (B A : Dc) : List Str := B.map (·.1) ++ (A.map (·.1)).filter fun x => !(B.map (·.1)).contains x
def whom (B A : Dc) : List D := sortD ((namesOf B A).map PyData.str)
theorem whom_set {B A : Dc} {n m : Nat} (hB : DcOk n B) (hA : DcOk m A) : sortD (dedupD ((B.map (·.1) ++ A.map (·.1)).map PyData.str) []) = whom B A := by
  refine (sort_set ?_ fun j => ?_).symm
  · refine List.nodup_append.mpr ⟨hB.2.1, hA.2.1.sublist List.filter_sublist, fun a ha b hb e => ?_⟩
    subst e
    have := (List.mem_filter.mp hb).2
    rw [List.contains_iff_mem.mpr ha] at this
    cases this
  · unfold namesOf
    rw [List.mem_append, List.mem_append, List.mem_filter]
    constructor
    · rintro (h | h)
      · exact .inl h
      · exact .inr h.1
    · rintro (h | h)
      · exact .inl h
      · by_cases c : j ∈ B.map (·.1)
        · exact .inl c
        · refine .inr ⟨h, ?_⟩
          cases e : (B.map (·.1)).contains j with
          | false => rfl
          | true => exact absurd (List.contains_iff_mem.mp e) c
theorem whom_mem {B A : Dc} {n m : Nat} (hB : DcOk n B) (hA : DcOk m A) {d : D} (h : d ∈ whom B A) : ∃ x, d = .str x ∧ Nm x := by
  have h := (sortD_perm0 _).mem_iff.mp h
  obtain ⟨x, hx, rfl⟩ := List.mem_map.mp h
  refine ⟨x, rfl, ?_⟩
  rcases List.mem_append.mp hx with z | z
  · obtain ⟨p, hp, rfl⟩ := List.mem_map.mp z
    exact (hB.1 p hp).1
  · obtain ⟨p, hp, rfl⟩ := List.mem_map.mp (List.mem_filter.mp z).1
    exact (hA.1 p hp).1
theorem whom_len {B A : Dc} {n m : Nat} (hB : DcOk n B) (hA : DcOk m A) : (whom B A).length ≤ 10 := by
  unfold whom
  rw [(sortD_perm0 _).length_eq, List.length_map]
  unfold namesOf
  rw [List.length_append, List.length_map]
  have h1 := hB.2.2
  have h2 := hA.2.2
  have h3 := List.length_filter_le (fun x => !(B.map (·.1)).contains x) (A.map (·.1))
  rw [List.length_map] at h3
  omega

def one (B A : Dc) : D → List (D × List D × List D)
  | .str x => if (goneL (getB B x) (getB A x)).isEmpty && (goneL (getB A x) (getB B x)).isEmpty then [] else [(.str x, goneL (getB B x) (getB A x), goneL (getB A x) (getB B x))]
  | _ => []
def dueOf (B A : Dc) (ds : List D) : List (D × List D × List D) := ds.flatMap (one B A)
def rowF (p : D × List D × List D) : D := .tuple [p.1, .list p.2.1, .list p.2.2]
def rowX (p : D × List D × List D) : X := .tup [.d p.1, own1 p.2.1, own1 p.2.2]
theorem due_step {B A : Dc} {ds : List D} {k : Nat} {d : D} (h : ds[k]? = some d) : dueOf B A (ds.take (k + 1)) = dueOf B A (ds.take k) ++ one B A d := by
  unfold dueOf
  rw [List.take_add_one, h, List.flatMap_append]
  simp
theorem one_len {B A : Dc} {d : D} : (one B A d).length ≤ 1 := by
  unfold one
  split
  · split <;> simp
  · simp
theorem due_len {B A : Dc} : ∀ {ds : List D}, (dueOf B A ds).length ≤ ds.length
  | [] => Nat.le_refl _
  | d :: r => by
    have h := due_len (B := B) (A := A) (ds := r)
    have h2 := one_len (B := B) (A := A) (d := d)
    unfold dueOf at h ⊢
    rw [List.flatMap_cons, List.length_append, List.length_cons]
    omega
theorem gone_lines {n m : Nat} {o w : List D} (h1 : Lines n o) : Lines n (goneL o w) := h1.fil _
/-- the common steps of a turn -/
theorem four (G : Nat → DF) (B A : Dc) (n : Nat) (hn : n ≤ 3000) (hB : DcOk n B) (hA : DcOk n A) (r c4 c5 c6 c8 : Option X) (x : Str) (rest : Ss) (w : Option (Fl × TT.Env))
    (hw : evSs G rest [some (dcX B), some (dcX A), r, some (.d (.str x)), some (.d (.list (getB B x))), some (.d (.list (getB A x))), some (own1 (goneL (getB B x) (getB A x))), none, some (own1 (goneL (getB A x) (getB B x)))] = w) :
    evSs G (.cons (.set 4 (.op .get2 (.cons (.e (.rd 0)) (.cons (.e (.rd 3)) (.cons (.e (.frz (.lst .nil))) .nil)))))
 (.cons (.set 5 (.op .get2 (.cons (.e (.rd 1)) (.cons (.e (.rd 3)) (.cons (.e (.frz (.lst .nil))) .nil)))))
 (.cons (.set 6 (.comp [7] (.n 7) (.l (.rd 4)) (.yes (.op .nin (.cons (.e (.rd 7)) (.cons (.e (.rd 5)) .nil)))) (.rd 7)))
 (.cons (.set 8 (.comp [7] (.n 7) (.l (.rd 5)) (.yes (.op .nin (.cons (.e (.rd 7)) (.cons (.e (.rd 4)) .nil)))) (.rd 7))) rest)))) [some (dcX B), some (dcX A), r, some (.d (.str x)), c4, c5, c6, none, c8] = w := by
  have o : Row n (getB B x) := getB_row hB.1
  have v : Row n (getB A x) := getB_row hA.1
  have f1 : evE G (.comp [7] (.n 7) (.l (.rd 4)) (.yes (.op .nin (.cons (.e (.rd 7)) (.cons (.e (.rd 5)) .nil)))) (.rd 7)) [some (dcX B), some (dcX A), r, some (.d (.str x)), some (.d (.list (getB B x))), some (.d (.list (getB A x))), c6, none, c8] = some (own1 (goneL (getB B x) (getB A x)), [some (dcX B), some (dcX A), r, some (.d (.str x)), some (.d (.list (getB B x))), some (.d (.list (getB A x))), c6, none, c8]) := by
    refine r_fil (fun z => !inB (getB A x) z) (ds := getB B x) rfl rfl (len_ok (Nat.le_trans o.1.1 (by omega))) (Nat.lt_of_lt_of_le (show 7 < 9 by decide) (Nat.le_refl _)) fun d hd => ?_
    exact r_t (r_op2 (ρ1 := [some (dcX B), some (dcX A), r, some (.d (.str x)), some (.d (.list (getB B x))), some (.d (.list (getB A x))), c6, some (.d d), c8]) (r_e rfl) (r_e rfl) rfl rfl (dat1_d _) (dat1_d _) (q_ninL v.1 (by omega) (o.1.2 d hd)))
  have f2 : evE G (.comp [7] (.n 7) (.l (.rd 5)) (.yes (.op .nin (.cons (.e (.rd 7)) (.cons (.e (.rd 4)) .nil)))) (.rd 7)) [some (dcX B), some (dcX A), r, some (.d (.str x)), some (.d (.list (getB B x))), some (.d (.list (getB A x))), some (own1 (goneL (getB B x) (getB A x))), none, c8] = some (own1 (goneL (getB A x) (getB B x)), [some (dcX B), some (dcX A), r, some (.d (.str x)), some (.d (.list (getB B x))), some (.d (.list (getB A x))), some (own1 (goneL (getB B x) (getB A x))), none, c8]) := by
    refine r_fil (fun z => !inB (getB B x) z) (ds := getB A x) rfl rfl (len_ok (Nat.le_trans v.1.1 (by omega))) (Nat.lt_of_lt_of_le (show 7 < 9 by decide) (Nat.le_refl _)) fun d hd => ?_
    exact r_t (r_op2 (ρ1 := [some (dcX B), some (dcX A), r, some (.d (.str x)), some (.d (.list (getB B x))), some (.d (.list (getB A x))), some (own1 (goneL (getB B x) (getB A x))), some (.d d), c8]) (r_e rfl) (r_e rfl) rfl rfl (dat1_d _) (dat1_d _) (q_ninL o.1 (by omega) (v.1.2 d hd)))
  exact r_nx (ρ1 := [some (dcX B), some (dcX A), r, some (.d (.str x)), some (.d (.list (getB B x))), c5, c6, none, c8]) ((r_set (r_get2 (x := dcX B) (ρ3 := [some (dcX B), some (dcX A), r, some (.d (.str x)), c4, c5, c6, none, c8]) rfl rfl rfl (dat1_d _) (dat1_d _) (dat1_d _) q_getB)).trans rfl)
    (r_nx (ρ1 := [some (dcX B), some (dcX A), r, some (.d (.str x)), some (.d (.list (getB B x))), some (.d (.list (getB A x))), c6, none, c8]) ((r_set (r_get2 (x := dcX A) (ρ3 := [some (dcX B), some (dcX A), r, some (.d (.str x)), some (.d (.list (getB B x))), c5, c6, none, c8]) rfl rfl rfl (dat1_d _) (dat1_d _) (dat1_d _) q_getB)).trans rfl)
    (r_nx ((r_set f1).trans rfl) (r_nx ((r_set f2).trans rfl) hw)))
theorem q_neE {g : List D} {n : Nat} (h : Lines n g) : opF .ne [.list g, .list []] = some (.d (.bool (!g.isEmpty))) := by
  rw [q_ne (h.ok.shp (by decide)) rfl]
  cases g with
  | nil => simp [PyData.eqv, PyData.eqvAll]
  | cons a b => simp [PyData.eqv, PyData.eqvAll]
theorem one_yes {B A : Dc} {x : Str} {g c : List D} (hg : g = goneL (getB B x) (getB A x)) (hc : c = goneL (getB A x) (getB B x)) (h : (g.isEmpty && c.isEmpty) = false) : one B A (.str x) = [(.str x, g, c)] := by
  subst hg hc
  show (if _ then _ else _) = _
  rw [if_neg (by rw [h]; exact Bool.noConfusion)]
theorem one_no {B A : Dc} {x : Str} {g c : List D} (hg : g = goneL (getB B x) (getB A x)) (hc : c = goneL (getB A x) (getB B x)) (h : (g.isEmpty && c.isEmpty) = true) : one B A (.str x) = [] := by
  subst hg hc
  show (if _ then _ else _) = _
  rw [if_pos h]

theorem it_own {G : Nat → DF} {e : E} {ρ ρ1 : TT.Env} {ds : List D} (g : evE G e ρ = some (own1 ds, ρ1)) : evIt G (.l e) ρ = some (ds, ρ1) := by
  show ((evE G e ρ).bind fun z => (seqD z.1).bind fun ds => some (ds, z.2)) = _
  rw [g]
  show ((dat1 (own1 ds)).bind fun d => _).bind _ = _
  rw [dat_own]
  rfl
theorem kv_keys (B : Dc) : (kv B).map (·.1) = (B.map (·.1)).map PyData.str := by
  unfold kv
  rw [List.map_map, List.map_map]
  rfl
theorem dlook_some (x : Str) : ∀ B : Dc, (dlook (kv B) (.str x)).isSome = (B.map (·.1)).contains x
  | [] => rfl
  | (k, R) :: r => by
    show (if (k == x) = true then some (PyData.list R) else dlook (kv r) (.str x)).isSome = (k :: r.map (·.1)).contains x
    rw [List.contains_cons]
    split
    · rename_i h
      rw [eq_of_beq h, beq_self_eq_true]
      rfl
    · rename_i h
      rw [dlook_some x r]
      have : (x == k) = false := by
        cases e : (x == k) with
        | false => rfl
        | true =>
          rw [eq_of_beq e, beq_self_eq_true] at h
          exact absurd rfl h
      rw [this, Bool.false_or]
theorem allkey (B : Dc) : ((kv B).all fun p => keyOk false p.1) = true := List.all_eq_true.mpr fun p hp => by
  obtain ⟨q, _, rfl⟩ := List.mem_map.mp hp
  rfl
theorem filter_names (B A : Dc) : ((kv A).map (·.1)).filter (fun z => !(dlook (kv B) z).isSome) = ((A.map (·.1)).filter fun x => !(B.map (·.1)).contains x).map PyData.str := by
  rw [kv_keys, List.filter_map]
  congr 1
  refine List.filter_congr fun x _ => ?_
  show (!(dlook (kv B) (.str x)).isSome) = _
  rw [dlook_some]
theorem sort_names {xs : List Str} (h : ∀ x ∈ xs, Nm x) (hl : xs.length ≤ 1000) : sortB (xs.map PyData.str) = true := by
  unfold sortB
  have h1 : ((xs.map PyData.str).all noTupD) = true := List.all_eq_true.mpr fun d hd => by
    obtain ⟨x, _, rfl⟩ := List.mem_map.mp hd
    rfl
  have h2 : ((xs.map PyData.str).all fun a => (xs.map PyData.str).all fun b => PySem.W.alike a b) = true := List.all_eq_true.mpr fun a ha => List.all_eq_true.mpr fun b hb => by
    obtain ⟨x, _, rfl⟩ := List.mem_map.mp ha
    obtain ⟨y, _, rfl⟩ := List.mem_map.mp hb
    simp [PySem.W.alike]
  have h3 : ((xs.map PyData.str).all TT.shp) = true := List.all_eq_true.mpr fun d hd => by
    obtain ⟨x, hx, rfl⟩ := List.mem_map.mp hd
    exact shp_str (h x hx).1
  rw [h1, h2, h3, Bool.and_self, Bool.or_true, decide_eq_true (by rw [List.length_map]; exact len_ok (by omega))]
  rfl
theorem names_ok {B A : Dc} {n m : Nat} (hB : DcOk n B) (hA : DcOk m A) : ∀ x ∈ namesOf B A, Nm x := fun x hx => by
  obtain ⟨y, e, hy⟩ := whom_mem hB hA ((sortD_perm0 _).mem_iff.mpr (List.mem_map.mpr ⟨x, hx, rfl⟩))
  cases e
  exact hy
theorem names_len {B A : Dc} {n m : Nat} (hB : DcOk n B) (hA : DcOk m A) : (namesOf B A).length ≤ 10 := by
  have := whom_len hB hA
  unfold whom at this
  rwa [(sortD_perm0 _).length_eq, List.length_map] at this
def loopB8 : Ss := (.cons (.set 4 (.op .get2 (.cons (.e (.rd 0)) (.cons (.e (.rd 3)) (.cons (.e (.frz (.lst .nil))) .nil)))))
 (.cons (.set 5 (.op .get2 (.cons (.e (.rd 1)) (.cons (.e (.rd 3)) (.cons (.e (.frz (.lst .nil))) .nil)))))
 (.cons (.set 6 (.comp [7] (.n 7) (.l (.rd 4)) (.yes (.op .nin (.cons (.e (.rd 7)) (.cons (.e (.rd 5)) .nil)))) (.rd 7)))
 (.cons (.set 8 (.comp [7] (.n 7) (.l (.rd 5)) (.yes (.op .nin (.cons (.e (.rd 7)) (.cons (.e (.rd 4)) .nil)))) (.rd 7)))
 (.cons (.iff (.or_ (.op .ne (.cons (.p ⟨6, []⟩) (.cons (.e (.lst .nil)) .nil))) (.op .ne (.cons (.p ⟨8, []⟩) (.cons (.e (.lst .nil)) .nil)))) (.cons (.app ⟨2, []⟩ (.frz (.tup (.cons (.e (.rd 3)) (.cons (.e (.rf 6)) (.cons (.e (.rf 8)) .nil))))))
 .nil) .nil)
 .nil)))))
abbrev due8 (B A : Dc) (ds : List D) : X := .lst ((dueOf B A ds).map fun p => X.d (rowF p))
theorem turn8 (G : Nat → DF) (B A : Dc) (n : Nat) (hn : n ≤ 3000) (hB : DcOk n B) (hA : DcOk n A) (rs : List X) (hr : rs.length < 1000) (c4 c5 c6 c8 : Option X) (x : Str) : ∃ c4' c5' c6' c8', evSs G loopB8 [some (dcX B), some (dcX A), some (.lst rs), some (.d (.str x)), c4, c5, c6, none, c8] = some (.nx, [some (dcX B), some (dcX A), some (.lst (rs ++ (one B A (.str x)).map fun p => X.d (rowF p))), some (.d (.str x)), c4', c5', c6', none, c8']) := by
  have o : Row n (getB B x) := getB_row hB.1
  have v : Row n (getB A x) := getB_row hA.1
  generalize hg : goneL (getB B x) (getB A x) = g
  generalize hc : goneL (getB A x) (getB B x) = c
  have lg : Lines n g := hg ▸ o.1.fil _
  have lc : Lines n c := hc ▸ v.1.fil _
  have t1 : ∀ k, (!g.isEmpty) = k → evT G (.op .ne (.cons (.p ⟨6, []⟩) (.cons (.e (.lst .nil)) .nil))) [some (dcX B), some (dcX A), some (.lst rs), some (.d (.str x)), some (.d (.list (getB B x))), some (.d (.list (getB A x))), some (own1 g), none, some (own1 c)] = some (k, [some (dcX B), some (dcX A), some (.lst rs), some (.d (.str x)), some (.d (.list (getB B x))), some (.d (.list (getB A x))), some (own1 g), none, some (own1 c)]) := fun k hk => by
    refine r_t ((r_op2 (r_p rfl) (r_e (x := .lst []) rfl) rfl rfl (dat_own g) rfl (q_neE lg)).trans ?_)
    rw [hk]
  have t2 : ∀ k, (!c.isEmpty) = k → evT G (.op .ne (.cons (.p ⟨8, []⟩) (.cons (.e (.lst .nil)) .nil))) [some (dcX B), some (dcX A), some (.lst rs), some (.d (.str x)), some (.d (.list (getB B x))), some (.d (.list (getB A x))), some (own1 g), none, some (own1 c)] = some (k, [some (dcX B), some (dcX A), some (.lst rs), some (.d (.str x)), some (.d (.list (getB B x))), some (.d (.list (getB A x))), some (own1 g), none, some (own1 c)]) := fun k hk => by
    refine r_t ((r_op2 (r_p rfl) (r_e (x := .lst []) rfl) rfl rfl (dat_own c) rfl (q_neE lc)).trans ?_)
    rw [hk]
  have tt : evT G (.or_ (.op .ne (.cons (.p ⟨6, []⟩) (.cons (.e (.lst .nil)) .nil))) (.op .ne (.cons (.p ⟨8, []⟩) (.cons (.e (.lst .nil)) .nil)))) [some (dcX B), some (dcX A), some (.lst rs), some (.d (.str x)), some (.d (.list (getB B x))), some (.d (.list (getB A x))), some (own1 g), none, some (own1 c)] = some (!(g.isEmpty && c.isEmpty), [some (dcX B), some (dcX A), some (.lst rs), some (.d (.str x)), some (.d (.list (getB B x))), some (.d (.list (getB A x))), some (own1 g), none, some (own1 c)]) := by
    cases e1 : g.isEmpty with
    | false => exact r_or1 (t1 _ (by rw [e1]; rfl))
    | true => exact r_or2 (t1 _ (by rw [e1]; rfl)) (t2 _ (by cases c.isEmpty <;> rfl))
  cases e : (g.isEmpty && c.isEmpty) with
  | true =>
    rw [e] at tt
    refine ⟨some (.d (.list (getB B x))), some (.d (.list (getB A x))), some (own1 g), some (own1 c), four G B A n hn hB hA _ c4 c5 c6 c8 x _ _ ?_⟩
    rw [hg, hc, one_no hg.symm hc.symm e, List.map_nil, List.append_nil]
    exact r_nx (r_if (k := false) tt rfl) rfl
  | false =>
    rw [e] at tt
    refine ⟨some (.d (.list (getB B x))), some (.d (.list (getB A x))), some (.d (.list g)), some (.d (.list c)), four G B A n hn hB hA _ c4 c5 c6 c8 x _ _ ?_⟩
    rw [hg, hc, one_yes hg.symm hc.symm e]
    refine r_nx (r_if (k := true) tt (r_nx (r_app (y := .lst rs) (xs := rs) (x := .d (rowF (.str x, g, c))) (ρ1 := [some (dcX B), some (dcX A), some (.lst rs), some (.d (.str x)), some (.d (.list (getB B x))), some (.d (.list (getB A x))), some (.d (.list g)), none, some (.d (.list c))]) rfl rfl (r_frz (x := .d (rowF (.str x, g, c))) ?_ (datF_d _)) rfl (Nat.lt_of_lt_of_le hr (by decide)) rfl) rfl)) rfl
    have a1 : evE G (.rf 6) [some (dcX B), some (dcX A), some (.lst rs), some (.d (.str x)), some (.d (.list (getB B x))), some (.d (.list (getB A x))), some (own1 g), none, some (own1 c)] = some (.d (.list g), [some (dcX B), some (dcX A), some (.lst rs), some (.d (.str x)), some (.d (.list (getB B x))), some (.d (.list (getB A x))), some (.d (.list g)), none, some (own1 c)]) := by
      show ((datF (own1 g)).bind fun d => _) = _
      rw [datF_own]
      rfl
    have a2 : evE G (.rf 8) [some (dcX B), some (dcX A), some (.lst rs), some (.d (.str x)), some (.d (.list (getB B x))), some (.d (.list (getB A x))), some (.d (.list g)), none, some (own1 c)] = some (.d (.list c), [some (dcX B), some (dcX A), some (.lst rs), some (.d (.str x)), some (.d (.list (getB B x))), some (.d (.list (getB A x))), some (.d (.list g)), none, some (.d (.list c))]) := by
      show ((datF (own1 c)).bind fun d => _) = _
      rw [datF_own]
      rfl
    have a0 : evE G (.rd 3) [some (dcX B), some (dcX A), some (.lst rs), some (.d (.str x)), some (.d (.list (getB B x))), some (.d (.list (getB A x))), some (own1 g), none, some (own1 c)] = some (.d (.str x), [some (dcX B), some (dcX A), some (.lst rs), some (.d (.str x)), some (.d (.list (getB B x))), some (.d (.list (getB A x))), some (own1 g), none, some (own1 c)]) := rfl
    have b0 := r_cons (r_e a0) (r_cons (r_e a1) (r_cons (r_e a2) r_nil))
    show ((evAs _ _ _).bind fun z => (tmpAll z.1).bind fun xs => if xs.length ≤ sizeLine then (match allD xs with
      | some ds => some (X.d (.tuple ds), z.2)
      | none => some (.tup xs, z.2)) else none) = _
    rw [b0]
    rfl

/-- _law_letters -/
theorem letters8 (n : Nat) (B A : Dc) (b : Nat) (hb : b ≤ 3000) (hB : DcOk b B) (hA : DcOk b A) : sem tab (n + 1) 8 [dcX B, dcX A] = some (due8 B A (whom B A), []) := by
  rw [sem_succ n 8 d8 rfl]
  have f : evE (sem tab n) (.comp [3] (.n 3) (.keys (.rd 1)) (.yes (.op .nin (.cons (.e (.rd 3)) (.cons (.e (.rd 0)) .nil)))) (.rd 3)) [some (dcX B), some (dcX A), some (.lst []), none, none, none, none, none, none] = some (own1 (((kv A).map (·.1)).filter fun z => !(dlook (kv B) z).isSome), [some (dcX B), some (dcX A), some (.lst []), none, none, none, none, none, none]) := by
    have it : evIt (sem tab n) (.keys (.rd 1)) [some (dcX B), some (dcX A), some (.lst []), none, none, none, none, none, none] = some ((kv A).map (·.1), [some (dcX B), some (dcX A), some (.lst []), none, none, none, none, none, none]) := rfl
    refine r_fil (ρ1 := [some (dcX B), some (dcX A), some (.lst []), none, none, none, none, none, none]) (fun z => !(dlook (kv B) z).isSome) (ds := (kv A).map (·.1)) it rfl ?_ (Nat.lt_of_lt_of_le (show 3 < 9 by decide) (Nat.le_refl _)) fun d hd => ?_
    · rw [kv_keys, List.length_map, List.length_map]
      exact len_ok (Nat.le_trans hA.2.2 (by decide))
    · rw [kv_keys] at hd
      obtain ⟨x, _, rfl⟩ := List.mem_map.mp hd
      exact r_t (r_op2 (ρ1 := [some (dcX B), some (dcX A), some (.lst []), some (.d (.str x)), none, none, none, none, none]) (r_e rfl) (r_e rfl) rfl rfl (dat1_d _) (dat1_d _) (q_nind keys_kv))
  have src : evIt (sem tab n) (.l (.op .sorted1 (.cons (.e (.op .add (.cons (.e (.op .list1 (.cons (.e (.rd 0)) .nil))) (.cons (.e (.comp [3] (.n 3) (.keys (.rd 1)) (.yes (.op .nin (.cons (.e (.rd 3)) (.cons (.e (.rd 0)) .nil)))) (.rd 3))) .nil)))) .nil))) [some (dcX B), some (dcX A), some (.lst []), none, none, none, none, none, none] = some (whom B A, [some (dcX B), some (dcX A), some (.lst []), none, none, none, none, none, none]) := by
    have e : (kv B).map (·.1) ++ ((kv A).map (·.1)).filter (fun z => !(dlook (kv B) z).isSome) = (namesOf B A).map PyData.str := by
      rw [filter_names, kv_keys, ← List.map_append]
      rfl
    have hl := names_len hB hA
    have g := r_op2 (r_e (r_op1 (G := sem tab n) (ρ := [some (dcX B), some (dcX A), some (.lst []), none, none, none, none, none, none]) (r_e (e := .rd 0) (x := dcX B) rfl) rfl (dat1_d _) (q_list1d (allkey B)))) (r_e f) rfl rfl (dat_own _) (dat_own _) (q_addl (by
      rw [← List.length_append, e, List.length_map]
      exact len_ok (by omega)))
    rw [e] at g
    exact it_own (r_op1 (r_e g) rfl (dat_own _) (q_sorted (sort_names (names_ok hB hA) (by omega))))
  obtain ⟨ρ', ef, c3, c4, c5, c6, c8, rfl⟩ := r_for (G := sem tab n) (tg := .n 3) (b := loopB8) (fun k ρ => ∃ (c3 c4 c5 c6 c8 : Option X), ρ = [some (dcX B), some (dcX A), some (due8 B A ((whom B A).take k)), c3, c4, c5, c6, none, c8]) src ⟨none, none, none, none, none, rfl⟩ fun k d ρ hk hp => by
    obtain ⟨c3, c4, c5, c6, c8, rfl⟩ := hp
    obtain ⟨x, rfl, _⟩ := whom_mem hB hA (List.mem_of_getElem? hk)
    have hl : ((dueOf B A ((whom B A).take k)).map fun p => X.d (rowF p)).length < 1000 := by
      rw [List.length_map]
      have h1 := due_len (B := B) (A := A) (ds := (whom B A).take k)
      have h2 := List.length_take_le' k (whom B A)
      have h3 := whom_len hB hA
      omega
    obtain ⟨e4, e5, e6, e8, q⟩ := turn8 (sem tab n) B A b hb hB hA _ hl c4 c5 c6 c8 x
    refine ⟨[some (dcX B), some (dcX A), some (due8 B A ((whom B A).take k)), some (.d (.str x)), c4, c5, c6, none, c8], _, rfl, q, ⟨some (.d (.str x)), e4, e5, e6, e8, ?_⟩⟩
    show _ = [some (dcX B), some (dcX A), some (.lst ((dueOf B A ((whom B A).take (k + 1))).map fun p => X.d (rowF p))), some (.d (.str x)), e4, e5, e6, none, e8]
    rw [due_step hk, List.map_append]
  rw [List.take_length] at ef
  have b : evSs (sem tab n) body8 [some (dcX B), some (dcX A), none, none, none, none, none, none, none] = some (.rt (due8 B A (whom B A)), [some (dcX B), some (dcX A), none, c3, c4, c5, c6, none, c8]) :=
    r_nx (ρ1 := [some (dcX B), some (dcX A), some (.lst []), none, none, none, none, none, none]) ((r_set (x := .lst []) (ρ1 := [some (dcX B), some (dcX A), none, none, none, none, none, none, none]) rfl).trans rfl) (r_nx ef (r_rt (r_ret (ρ1 := [some (dcX B), some (dcX A), none, c3, c4, c5, c6, none, c8]) rfl)))
  show (evSs (sem tab n) body8 [some (dcX B), some (dcX A), none, none, none, none, none, none, none]).bind _ = _
  rw [b]
  rfl

def loopB0 : Ss := (.cons (.set 4 (.op .get2 (.cons (.e (.rd 0)) (.cons (.e (.rd 3)) (.cons (.e (.frz (.lst .nil))) .nil)))))
 (.cons (.set 5 (.op .get2 (.cons (.e (.rd 1)) (.cons (.e (.rd 3)) (.cons (.e (.frz (.lst .nil))) .nil)))))
 (.cons (.set 6 (.comp [7] (.n 7) (.l (.rd 4)) (.yes (.op .nin (.cons (.e (.rd 7)) (.cons (.e (.rd 5)) .nil)))) (.rd 7)))
 (.cons (.set 8 (.comp [7] (.n 7) (.l (.rd 5)) (.yes (.op .nin (.cons (.e (.rd 7)) (.cons (.e (.rd 4)) .nil)))) (.rd 7)))
 (.cons (.iff (.op .gt (.cons (.e (.op .add (.cons (.e (.op .len (.cons (.p ⟨6, []⟩) .nil))) (.cons (.e (.op .len (.cons (.p ⟨8, []⟩) .nil))) .nil)))) (.cons (.e (.c (.int 0))) .nil))) (.cons (.app ⟨2, []⟩ (.tup (.cons (.e (.rd 3)) (.cons (.e (.mv 6)) (.cons (.e (.mv 8)) .nil)))))
 .nil) .nil)
 .nil)))))
abbrev due0 (B A : Dc) (ds : List D) : X := .lst ((dueOf B A ds).map rowX)
theorem turn0 (G : Nat → DF) (B A : Dc) (n : Nat) (hn : n ≤ 3000) (hB : DcOk n B) (hA : DcOk n A) (rs : List X) (hr : rs.length < 1000) (c4 c5 c6 c8 : Option X) (x : Str) : ∃ c4' c5' c6' c8', evSs G loopB0 [some (dcX B), some (dcX A), some (.lst rs), some (.d (.str x)), c4, c5, c6, none, c8] = some (.nx, [some (dcX B), some (dcX A), some (.lst (rs ++ (one B A (.str x)).map rowX)), some (.d (.str x)), c4', c5', c6', none, c8']) := by
  generalize hg : goneL (getB B x) (getB A x) = g
  generalize hc : goneL (getB A x) (getB B x) = c
  have tt : evT G (.op .gt (.cons (.e (.op .add (.cons (.e (.op .len (.cons (.p ⟨6, []⟩) .nil))) (.cons (.e (.op .len (.cons (.p ⟨8, []⟩) .nil))) .nil)))) (.cons (.e (.c (.int 0))) .nil))) [some (dcX B), some (dcX A), some (.lst rs), some (.d (.str x)), some (.d (.list (getB B x))), some (.d (.list (getB A x))), some (own1 g), none, some (own1 c)] = some (!(g.isEmpty && c.isEmpty), [some (dcX B), some (dcX A), some (.lst rs), some (.d (.str x)), some (.d (.list (getB B x))), some (.d (.list (getB A x))), some (own1 g), none, some (own1 c)]) := by
    refine r_t ((r_op2 (r_e (r_op2 (r_e (r_op1 (r_p rfl) rfl (dat_own g) q_len)) (r_e (r_op1 (r_p rfl) rfl (dat_own c) q_len)) rfl rfl (dat1_d _) (dat1_d _) q_add)) (r_e rfl) rfl rfl (dat1_d _) (dat1_d _) q_gt).trans ?_)
    have : decide ((0 : Int) < ((g.length : Nat) : Int) + ((c.length : Nat) : Int)) = !(g.isEmpty && c.isEmpty) := by
      cases g with
      | cons a r =>
        show decide _ = true
        simp only [List.length_cons, decide_eq_true_eq]
        omega
      | nil =>
        cases c with
        | cons a r =>
          show decide _ = true
          simp only [List.length_cons, List.length_nil, decide_eq_true_eq]
          omega
        | nil => rfl
    rw [this]
  cases e : (g.isEmpty && c.isEmpty) with
  | true =>
    rw [e] at tt
    refine ⟨some (.d (.list (getB B x))), some (.d (.list (getB A x))), some (own1 g), some (own1 c), four G B A n hn hB hA _ c4 c5 c6 c8 x _ _ ?_⟩
    rw [hg, hc, one_no hg.symm hc.symm e, List.map_nil, List.append_nil]
    exact r_nx (r_if (k := false) tt rfl) rfl
  | false =>
    rw [e] at tt
    refine ⟨some (.d (.list (getB B x))), some (.d (.list (getB A x))), none, none, four G B A n hn hB hA _ c4 c5 c6 c8 x _ _ ?_⟩
    rw [hg, hc, one_yes hg.symm hc.symm e]
    have q : evE G (.tup (.cons (.e (.rd 3)) (.cons (.e (.mv 6)) (.cons (.e (.mv 8)) .nil)))) [some (dcX B), some (dcX A), some (.lst rs), some (.d (.str x)), some (.d (.list (getB B x))), some (.d (.list (getB A x))), some (own1 g), none, some (own1 c)] = some (rowX (.str x, g, c), [some (dcX B), some (dcX A), some (.lst rs), some (.d (.str x)), some (.d (.list (getB B x))), some (.d (.list (getB A x))), none, none, none]) := rfl
    exact r_nx (r_if (k := true) tt (r_nx (r_app (y := .lst rs) (xs := rs) rfl rfl q rfl (Nat.lt_of_lt_of_le hr (by decide)) rfl) rfl)) rfl
/-- letters -/
theorem letters0 (n : Nat) (B A : Dc) (b : Nat) (hb : b ≤ 3000) (hB : DcOk b B) (hA : DcOk b A) : sem tab (n + 1) 0 [dcX B, dcX A] = some (due0 B A (whom B A), []) := by
  rw [sem_succ n 0 d0 rfl]
  have src : evIt (sem tab n) (.l (.op .sortset (.cons (.e (.op .add (.cons (.e (.op .list1 (.cons (.e (.rd 0)) .nil))) (.cons (.e (.op .list1 (.cons (.e (.rd 1)) .nil))) .nil)))) .nil))) [some (dcX B), some (dcX A), some (.lst []), none, none, none, none, none, none] = some (whom B A, [some (dcX B), some (dcX A), some (.lst []), none, none, none, none, none, none]) := by
    have e : (kv B).map (·.1) ++ (kv A).map (·.1) = (B.map (·.1) ++ A.map (·.1)).map PyData.str := by
      rw [kv_keys, kv_keys, ← List.map_append]
    have hl : (B.map (·.1) ++ A.map (·.1)).length ≤ 10 := by
      rw [List.length_append, List.length_map, List.length_map]
      have h1 := hB.2.2
      have h2 := hA.2.2
      omega
    have g := r_op2 (r_e (r_op1 (G := sem tab n) (ρ := [some (dcX B), some (dcX A), some (.lst []), none, none, none, none, none, none]) (r_e (e := .rd 0) (x := dcX B) rfl) rfl (dat1_d _) (q_list1d (allkey B)))) (r_e (r_op1 (G := sem tab n) (ρ := [some (dcX B), some (dcX A), some (.lst []), none, none, none, none, none, none]) (r_e (e := .rd 1) (x := dcX A) rfl) rfl (dat1_d _) (q_list1d (allkey A)))) rfl rfl (dat_own _) (dat_own _) (q_addl (by
      rw [← List.length_append, e, List.length_map]
      exact len_ok (by omega)))
    rw [e] at g
    have st : ((B.map (·.1) ++ A.map (·.1)).map PyData.str).all isStrD = true := List.all_eq_true.mpr fun d hd => by
      obtain ⟨x, _, rfl⟩ := List.mem_map.mp hd
      rfl
    refine it_own ((r_op1 (r_e g) rfl (dat_own _) (q_sortset st (by rw [List.length_map]; omega))).trans ?_)
    rw [whom_set hB hA]
  obtain ⟨ρ', ef, c3, c4, c5, c6, c8, rfl⟩ := r_for (G := sem tab n) (tg := .n 3) (b := loopB0) (fun k ρ => ∃ (c3 c4 c5 c6 c8 : Option X), ρ = [some (dcX B), some (dcX A), some (due0 B A ((whom B A).take k)), c3, c4, c5, c6, none, c8]) src ⟨none, none, none, none, none, rfl⟩ fun k d ρ hk hp => by
    obtain ⟨c3, c4, c5, c6, c8, rfl⟩ := hp
    obtain ⟨x, rfl, _⟩ := whom_mem hB hA (List.mem_of_getElem? hk)
    have hl : ((dueOf B A ((whom B A).take k)).map rowX).length < 1000 := by
      rw [List.length_map]
      have h1 := due_len (B := B) (A := A) (ds := (whom B A).take k)
      have h2 := List.length_take_le' k (whom B A)
      have h3 := whom_len hB hA
      omega
    obtain ⟨e4, e5, e6, e8, q⟩ := turn0 (sem tab n) B A b hb hB hA _ hl c4 c5 c6 c8 x
    refine ⟨[some (dcX B), some (dcX A), some (due0 B A ((whom B A).take k)), some (.d (.str x)), c4, c5, c6, none, c8], _, rfl, q, ⟨some (.d (.str x)), e4, e5, e6, e8, ?_⟩⟩
    show _ = [some (dcX B), some (dcX A), some (.lst ((dueOf B A ((whom B A).take (k + 1))).map rowX)), some (.d (.str x)), e4, e5, e6, none, e8]
    rw [due_step hk, List.map_append]
  rw [List.take_length] at ef
  have b : evSs (sem tab n) body0 [some (dcX B), some (dcX A), none, none, none, none, none, none, none] = some (.rt (due0 B A (whom B A)), [some (dcX B), some (dcX A), none, c3, c4, c5, c6, none, c8]) :=
    r_nx (ρ1 := [some (dcX B), some (dcX A), some (.lst []), none, none, none, none, none, none]) ((r_set (x := .lst []) (ρ1 := [some (dcX B), some (dcX A), none, none, none, none, none, none, none]) rfl).trans rfl) (r_nx ef (r_rt (r_ret (ρ1 := [some (dcX B), some (dcX A), none, c3, c4, c5, c6, none, c8]) rfl)))
  show (evSs (sem tab n) body0 [some (dcX B), some (dcX A), none, none, none, none, none, none, none]).bind _ = _
  rw [b]
  rfl

/-- a dict that grows -/
def putB : Dc → Str → List D → Dc
  | [], x, R => [(x, R)]
  | (k, S) :: r, x, R => if k == x then (k, R) :: r else (k, S) :: putB r x R
abbrev dcO (A : Dc) : X := .dct false (A.map fun p => .str p.1) (A.map fun p => .d (.list p.2))
theorem putX_B (x : Str) (R : List D) : ∀ A : Dc, putX (A.map fun p => PyData.str p.1) (A.map fun p => X.d (.list p.2)) (.str x) (X.d (.list R)) = ((putB A x R).map (fun p => PyData.str p.1), (putB A x R).map fun p => X.d (.list p.2))
  | [] => rfl
  | (k, S) :: r => by
    have ih := putX_B x R r
    show (if (k == x) = true then _ else _) = _
    unfold putB
    split
    · rfl
    · show (_ :: _, _ :: _) = _
      rw [ih]
      rfl
theorem putB_mem {x : Str} {R : List D} {p : Str × List D} : ∀ {A : Dc}, p ∈ putB A x R → p ∈ A ∨ p = (x, R)
  | [], h => .inr (List.mem_singleton.mp h)
  | (k, S) :: r, h => by
    unfold putB at h
    split at h
    · rename_i e
      rcases List.mem_cons.mp h with z | z
      · rw [eq_of_beq e] at z
        exact .inr z
      · exact .inl (List.mem_cons_of_mem _ z)
    · rcases List.mem_cons.mp h with z | z
      · exact .inl (z ▸ List.mem_cons_self)
      · exact (putB_mem z).imp (List.mem_cons_of_mem _) id
theorem putB_keys {x y : Str} {R : List D} : ∀ {A : Dc}, y ∈ (putB A x R).map (·.1) → y ∈ A.map (·.1) ∨ y = x := fun h => by
  obtain ⟨p, hp, rfl⟩ := List.mem_map.mp h
  rcases putB_mem hp with z | z
  · exact .inl (List.mem_map.mpr ⟨p, z, rfl⟩)
  · exact .inr (by rw [z])
theorem putB_nd {x : Str} {R : List D} : ∀ {A : Dc}, (A.map (·.1)).Nodup → ((putB A x R).map (·.1)).Nodup
  | [], _ => by simp [putB]
  | (k, S) :: r, h => by
    have h2 := List.nodup_cons.mp (show (k :: r.map (·.1)).Nodup from h)
    unfold putB
    split
    · exact h
    · rename_i e
      refine List.nodup_cons.mpr ⟨fun z => ?_, putB_nd h2.2⟩
      rcases putB_keys z with w | w
      · exact h2.1 w
      · exact e (by rw [show k = x from w]; exact beq_self_eq_true _)
theorem putB_len {x : Str} {R : List D} : ∀ {A : Dc}, (putB A x R).length ≤ A.length + 1
  | [] => Nat.le_refl _
  | (k, S) :: r => by
    have ih := putB_len (x := x) (R := R) (A := r)
    unfold putB
    split <;> simp only [List.length_cons] <;> omega
theorem datF_dcO (A : Dc) : datF (dcO A) = some (.dict (kv A)) := by
  show (if (false && (A.map fun p => PyData.str p.1).isEmpty) = true then none else (datFs (A.map fun p => X.d (.list p.2))).map fun ds => PyData.dict ((A.map fun p => PyData.str p.1).zip ds)) = _
  have e : ∀ A : Dc, datFs (A.map fun p => X.d (.list p.2)) = some (A.map fun p => PyData.list p.2) := fun A => by
    induction A with
    | nil => rfl
    | cons d ds ih =>
      show ((datF (X.d (.list d.2))).bind fun d => (datFs (ds.map fun p => X.d (.list p.2))).map (d :: ·)) = _
      rw [ih, datF_d]
      rfl
  have z : ∀ A : Dc, (A.map fun p => PyData.str p.1).zip (A.map fun p => PyData.list p.2) = kv A := fun A => by
    induction A with
    | nil => rfl
    | cons d ds ih =>
      show (_, _) :: ((ds.map fun p => PyData.str p.1).zip (ds.map fun p => PyData.list p.2)) = _
      rw [ih]
      rfl
  rw [Bool.false_and, if_neg (by decide), e, Option.map_some, z]
theorem r_pop {G : Nat → DF} {ρ ρ1 ρ2 : TT.Env} {p : Pl} {a : A} {ys : List X} {u0 y : X} {i : Int} (v0 : getPl ρ p = some u0) (hu : isLst u0 = true) (g : evA G a ρ = some (.x (xI i), ρ1)) (v : getPl ρ1 p = some (.lst ys)) (h1 : 0 ≤ i) (h2 : i < (ys.length : Nat)) (h3 : ys.length ≤ 1000) (hy : ys[i.toNat]? = some y) (u : setPl ρ1 p (.lst (ys.eraseIdx i.toNat)) = some ρ2) : evE G (.pop p (.cons a .nil)) ρ = some (y, ρ2) := by
  show ((getPl ρ p).bind fun u0 => if isLst u0 = false then none else (evAs G (.cons a .nil) ρ).bind fun z => (resAll z.2 z.1).bind fun xs => (datAll xs).bind fun ds => (getPl z.2 p).bind fun x => (match x, ds with
    | .lst ys, [] => (ys[ys.length - 1]?).bind fun y => (setPl z.2 p (.lst ys.dropLast)).bind fun ρ2 => some (y, ρ2)
    | .lst ys, [.int i] => if decide (-(2 ^ 63) ≤ i ∧ i < 2 ^ 63) then (seqIndex? i ys.length).bind fun k => (ys[k]?).bind fun y => (setPl z.2 p (.lst (ys.eraseIdx k))).bind fun ρ2 => some (y, ρ2) else none
    | _, _ => none)) = _
  have e : seqIndex? i ys.length = some i.toNat := by
    unfold seqIndex?
    dsimp only
    rw [if_neg (show ¬ i < 0 by omega), if_pos (by rw [decide_eq_true h1, decide_eq_true h2]; rfl)]
  rw [v0, Option.bind_some, if_neg (by rw [hu]; exact Bool.noConfusion), r_cons g r_nil]
  show ((getPl ρ1 p).bind fun x => (match x, [PyData.int i] with
    | .lst ys, [] => (ys[ys.length - 1]?).bind fun y => (setPl ρ1 p (.lst ys.dropLast)).bind fun ρ2 => some (y, ρ2)
    | .lst ys, [.int i] => if decide (-(2 ^ 63) ≤ i ∧ i < 2 ^ 63) then (seqIndex? i ys.length).bind fun k => (ys[k]?).bind fun y => (setPl ρ1 p (.lst (ys.eraseIdx k))).bind fun ρ2 => some (y, ρ2) else none
    | _, _ => none)) = _
  rw [v]
  show (if decide (-(2 ^ 63) ≤ i ∧ i < 2 ^ 63) = true then (seqIndex? i ys.length).bind fun k => (ys[k]?).bind fun y => (setPl ρ1 p (.lst (ys.eraseIdx k))).bind fun ρ2 => some (y, ρ2) else none) = _
  rw [if_pos (decide_eq_true (by omega)), e, Option.bind_some, hy, Option.bind_some, u]
  rfl

abbrev EV (ns : List Int) (xs ps : List Str) (B : Dc) (c5 c9 c10 c11 c12 c13 c14 : Option X) (s : X) (a l c8 : Option X) : TT.Env := [some (scr ns), some s, some (nms xs), some (nms ps), some (dcX B), c5, a, l, c8, c9, c10, c11, c12, c13, c14]
def wBody : Ss := (.cons (.set 8 (.frz (.pop ⟨7, []⟩ (.cons (.e (.call 2 [0] (.cons (.p ⟨1, []⟩) (.cons (.e (.rd 0)) (.cons (.e (.op .len (.cons (.p ⟨7, []⟩) .nil))) .nil))))) .nil))))
 (.cons (.iff (.op .gt (.cons (.e (.call 2 [0] (.cons (.p ⟨1, []⟩) (.cons (.e (.rd 0)) (.cons (.e (.c (.int 5))) .nil))))) (.cons (.e (.c (.int 0))) .nil))) (.cons (.seti ⟨6, []⟩ (.rd 8) (.frz (.call 7 [0] (.cons (.p ⟨1, []⟩) (.cons (.e (.rd 0)) (.cons (.e (.rd 2)) (.cons (.e (.op .get2 (.cons (.e (.rd 4)) (.cons (.e (.rd 8)) (.cons (.e (.frz (.lst .nil))) .nil))))) .nil)))))))
 .nil) .nil)
 .nil))
theorem ers {α β : Type} (f : α → β) : ∀ (l : List α) (n : Nat), (l.map f).eraseIdx n = (l.eraseIdx n).map f
  | [], _ => rfl
  | _ :: _, 0 => rfl
  | a :: l, n + 1 => congrArg (f a :: ·) (ers f l n)
theorem wTurn (ns : List Int) (xs ps : List Str) (hx : NL xs) (B : Dc) (b : Nat) (hb : b ≤ 3000) (hB : DcOk b B) (c5 c9 c10 c11 c12 c13 c14 : Option X) (s : X) (hs : St s) (A : Dc) (hA : (∀ p ∈ A, Nm p.1 ∧ Row (b + 3) p.2) ∧ (A.map (·.1)).Nodup) (ls : List Str) (hl : ls ≠ []) (hl5 : ls.length ≤ 5) (hA5 : A.length + ls.length ≤ 5) (hN : ∀ x ∈ ls, Nm x) (c8 : Option X) :
    ∃ (s' : X) (A' : Dc) (ls' : List Str) (c8' : Option X), evSs (sem tab 7) wBody (EV ns xs ps B c5 c9 c10 c11 c12 c13 c14 s (some (dcO A)) (some (own1 (ls.map PyData.str))) c8) = some (.nx, EV ns xs ps B c5 c9 c10 c11 c12 c13 c14 s' (some (dcO A')) (some (own1 (ls'.map PyData.str))) c8') ∧ St s' ∧ ((∀ p ∈ A', Nm p.1 ∧ Row (b + 3) p.2) ∧ (A'.map (·.1)).Nodup) ∧ ls'.length = ls.length - 1 ∧ A'.length + ls'.length ≤ 5 ∧ ∀ x ∈ ls', Nm x := by
  have hpos : 0 < ls.length := List.length_pos_iff.mpr hl
  have hlm : (ls.map PyData.str).length = ls.length := List.length_map _
  obtain ⟨i, s1, q1, hs1, i1, i2⟩ := c_draw 6 (ns := ns) (ρ := EV ns xs ps B c5 c9 c10 c11 c12 c13 c14 s (some (dcO A)) (some (own1 (ls.map PyData.str))) c8) (k := 1) (j := 0) (a := .e (.op .len (.cons (.p ⟨7, []⟩) .nil))) (size := ((ls.map PyData.str).length : Nat)) rfl hs rfl (r_e (r_op1 (r_p rfl) rfl (dat_own _) q_len)) (by omega) (by omega)
  have hin : i.toNat < ls.length := by omega
  have e1 : evS (sem tab 7) (.set 8 (.frz (.pop ⟨7, []⟩ (.cons (.e (.call 2 [0] (.cons (.p ⟨1, []⟩) (.cons (.e (.rd 0)) (.cons (.e (.op .len (.cons (.p ⟨7, []⟩) .nil))) .nil))))) .nil)))) (EV ns xs ps B c5 c9 c10 c11 c12 c13 c14 s (some (dcO A)) (some (own1 (ls.map PyData.str))) c8) = some (.nx, EV ns xs ps B c5 c9 c10 c11 c12 c13 c14 s1 (some (dcO A)) (some (own1 ((ls.eraseIdx i.toNat).map PyData.str))) (some (.d (.str ls[i.toNat])))) := by
    refine (r_set (r_frz (r_pop (y := .d (.str ls[i.toNat])) (ys := (ls.map PyData.str).map X.d) (ρ1 := EV ns xs ps B c5 c9 c10 c11 c12 c13 c14 s1 (some (dcO A)) (some (own1 (ls.map PyData.str))) c8) (ρ2 := EV ns xs ps B c5 c9 c10 c11 c12 c13 c14 s1 (some (dcO A)) (some (own1 ((ls.eraseIdx i.toNat).map PyData.str))) c8) rfl rfl (r_e (q1.trans rfl)) rfl i1 (by rw [List.length_map]; exact i2) (by rw [List.length_map, List.length_map]; omega) ?_ ?_) (datF_d _))).trans rfl
    · rw [List.getElem?_map, List.getElem?_map, List.getElem?_eq_getElem hin]
      rfl
    · rw [ers, ers]
      rfl
  generalize hxx : ls[i.toNat] = x at e1
  have hNx : Nm x := hxx ▸ hN _ (List.getElem_mem hin)
  have hle : (ls.eraseIdx i.toNat).length = ls.length - 1 := List.length_eraseIdx_of_lt hin
  have hNl : ∀ x ∈ ls.eraseIdx i.toNat, Nm x := fun y hy => hN y (List.mem_of_mem_eraseIdx hy)
  generalize ls.eraseIdx i.toNat = ls' at e1 hle hNl
  obtain ⟨v, s2, q2, hs2, v1, v2⟩ := c_draw 6 (ns := ns) (ρ := EV ns xs ps B c5 c9 c10 c11 c12 c13 c14 s1 (some (dcO A)) (some (own1 (ls'.map PyData.str))) (some (.d (.str x)))) (k := 1) (j := 0) (a := .e (.c (.int 5))) (size := 5) rfl hs1 rfl (r_e rfl) (by decide) (by decide)
  have tt : ∀ k, decide ((0 : Int) < v) = k → evT (sem tab 7) (.op .gt (.cons (.e (.call 2 [0] (.cons (.p ⟨1, []⟩) (.cons (.e (.rd 0)) (.cons (.e (.c (.int 5))) .nil))))) (.cons (.e (.c (.int 0))) .nil))) (EV ns xs ps B c5 c9 c10 c11 c12 c13 c14 s1 (some (dcO A)) (some (own1 (ls'.map PyData.str))) (some (.d (.str x)))) = some (k, EV ns xs ps B c5 c9 c10 c11 c12 c13 c14 s2 (some (dcO A)) (some (own1 (ls'.map PyData.str))) (some (.d (.str x)))) := fun k hk => by
    refine r_t ((r_op2 (r_e (q2.trans rfl)) (r_e rfl) rfl rfl (dat1_d _) (dat1_d _) q_gt).trans ?_)
    rw [hk]
    rfl
  cases hk : decide ((0 : Int) < v) with
  | false => exact ⟨s2, A, ls', some (.d (.str x)), r_nx e1 (r_nx (r_if (k := false) (tt _ hk) rfl) rfl), hs2, hA, hle, by omega, hNl⟩
  | true =>
    have o : Row b (getB B x) := getB_row hB.1
    obtain ⟨R, s3, q3, hs3, hR⟩ := turned 3 ns xs hx s2 hs2 (getB B x) b o.1 o.2.1 (by omega)
    have g2 : evE (sem tab 7) (.op .get2 (.cons (.e (.rd 4)) (.cons (.e (.rd 8)) (.cons (.e (.frz (.lst .nil))) .nil)))) (EV ns xs ps B c5 c9 c10 c11 c12 c13 c14 s2 (some (dcO A)) (some (own1 (ls'.map PyData.str))) (some (.d (.str x)))) = some (.d (.list (getB B x)), EV ns xs ps B c5 c9 c10 c11 c12 c13 c14 s2 (some (dcO A)) (some (own1 (ls'.map PyData.str))) (some (.d (.str x)))) := r_get2 (x := dcX B) (ρ3 := EV ns xs ps B c5 c9 c10 c11 c12 c13 c14 s2 (some (dcO A)) (some (own1 (ls'.map PyData.str))) (some (.d (.str x)))) rfl rfl rfl (dat1_d _) (dat1_d _) (dat1_d _) q_getB
    refine ⟨s3, putB A x R, ls', some (.d (.str x)), r_nx e1 (r_nx (r_if (k := true) (tt _ hk) (r_nx (r_setk (y := .d (.list R)) (ρ1 := EV ns xs ps B c5 c9 c10 c11 c12 c13 c14 s3 (some (dcO A)) (some (own1 (ls'.map PyData.str))) (some (.d (.str x)))) (r_frz (r_call (r_cons (r_p rfl) (r_cons (r_e rfl) (r_cons (r_e rfl) (r_cons (r_e g2) r_nil)))) rfl rfl q3 rfl) (datF_own R)) rfl rfl rfl (dat1_d _) rfl ?_ ?_) rfl)) rfl), hs3, ⟨fun p hp => ?_, putB_nd hA.2⟩, hle, ?_, hNl⟩
    · rw [List.length_map]
      exact Nat.lt_of_lt_of_le (show A.length < 1000 by omega) (by decide)
    · rw [putX_B]
      rfl
    · rcases putB_mem hp with z | z
      · exact hA.1 p z
      · rw [z]
        exact ⟨hNx, hR⟩
    · have := putB_len (x := x) (R := R) (A := A)
      omega

/-- the persons, one by one: a new state of the lines -/
theorem wLoop (ns : List Int) (xs ps : List Str) (hx : NL xs) (hp : ps.length ≤ 5 ∧ ∀ x ∈ ps, Nm x) (B : Dc) (b : Nat) (hb : b ≤ 3000) (hB : DcOk b B) (c5 c9 c10 c11 c12 c13 c14 : Option X) (s : X) (hs : St s) (c8 : Option X) :
    ∃ ρ', evS (sem tab 7) (.whl (.op .gt (.cons (.e (.op .len (.cons (.p ⟨7, []⟩) .nil))) (.cons (.e (.c (.int 0))) .nil))) wBody) (EV ns xs ps B c5 c9 c10 c11 c12 c13 c14 s (some (.dct false [] [])) (some (own1 (ps.map PyData.str))) c8) = some (.nx, ρ') ∧ ∃ (s' : X) (A : Dc) (c7' c8' : Option X), St s' ∧ DcOk (b + 3) A ∧ ρ' = EV ns xs ps B c5 c9 c10 c11 c12 c13 c14 s' (some (dcO A)) c7' c8' := by
  refine r_whl (fun n ρ => ∃ (s' : X) (A : Dc) (ls : List Str) (c8' : Option X), St s' ∧ ((∀ p ∈ A, Nm p.1 ∧ Row (b + 3) p.2) ∧ (A.map (·.1)).Nodup) ∧ (ls.length = n ∧ A.length + ls.length ≤ 5 ∧ ∀ x ∈ ls, Nm x) ∧ ρ = EV ns xs ps B c5 c9 c10 c11 c12 c13 c14 s' (some (dcO A)) (some (own1 (ls.map PyData.str))) c8') (fun ρ' => ∃ (s' : X) (A : Dc) (c7' c8' : Option X), St s' ∧ DcOk (b + 3) A ∧ ρ' = EV ns xs ps B c5 c9 c10 c11 c12 c13 c14 s' (some (dcO A)) c7' c8') (n := ps.length) (Nat.lt_of_le_of_lt hp.1 (by decide)) ⟨s, [], ps, c8, hs, ⟨(fun _ z => nomatch z), List.nodup_nil⟩, ⟨rfl, by simpa using hp.1, hp.2⟩, rfl⟩ fun n ρ h => ?_
  obtain ⟨s1, A, ls, c8', hs1, hA, ⟨hl, h5, hN⟩, rfl⟩ := h
  refine ⟨EV ns xs ps B c5 c9 c10 c11 c12 c13 c14 s1 (some (dcO A)) (some (own1 (ls.map PyData.str))) c8', ?_, fun hn => ?_, fun hn => ⟨s1, A, _, c8', hs1, ⟨hA.1, hA.2, by omega⟩, rfl⟩⟩
  · refine r_t ((r_op2 (r_e (r_op1 (r_p rfl) rfl (dat_own _) q_len)) (r_e rfl) rfl rfl (dat1_d _) (dat1_d _) q_gt).trans ?_)
    have : decide ((0 : Int) < (((ls.map PyData.str).length : Nat) : Int)) = decide (0 < n) := by
      rw [List.length_map, hl]
      exact decide_eq_decide.mpr (by omega)
    rw [this]
  · have hne : ls ≠ [] := fun e => by
      rw [e] at hl
      simp at hl
      omega
    obtain ⟨s2, A2, ls2, c8b, e, hs2, hA2, l2, h52, hN2⟩ := wTurn ns xs ps hx B b hb hB c5 c9 c10 c11 c12 c13 c14 s1 hs1 A hA ls hne (by omega) h5 hN c8'
    exact ⟨_, e, s2, A2, ls2, c8b, hs2, hA2, ⟨by omega, h52, hN2⟩, rfl⟩

/-- what a display asks -/
structure Rp (d : D) (w : Nat) (h : Nat) : Prop where
  sh : d.showable = true
  lv : d.leavesShort 13 = true
  kk : kOk d = true
  so : sOk d = true
  dp : d.depth ≤ h
  wt : d.weight ≤ w
theorem Ok.rp {d : D} {w h : Nat} (a : Ok d w h) : Rp d w h := ⟨a.sh, a.lv, a.kk, sOk_lay d a.lay, a.dp, a.wt⟩
theorem Rp.ok {d : D} {w h : Nat} (a : Rp d w h) (hh : h ≤ 64) (hw : w ≤ 1000000) : reprOk d = true := by
  have f : d.shown.length ≤ sizeLine := PyData.shown_fits (B := 13) (by decide) (by decide) a.lv (by have := a.wt; have : (1000000 : Nat) ≤ 2 ^ 20 := (by decide); omega)
  unfold reprOk
  rw [a.sh, a.kk, show fits d.shown.length = true from decide_eq_true f, decide_eq_true (Nat.le_trans a.dp hh)]
  rfl
structure Rkv (kvs : List (D × D)) (w : Nat) (h : Nat) : Prop where
  sh : PyData.showableKv kvs = true
  lv : PyData.leavesShortKv 13 kvs = true
  kk : kOkv kvs = true
  so : sOkv kvs = true
  dp : PyData.depthKv kvs ≤ h
  wt : PyData.weightKv kvs ≤ w
theorem rkv (m : Nat) : ∀ (B : Dc), (∀ p ∈ B, Nm p.1 ∧ Row m p.2) → Rkv (kv B) (B.length * (m * 101 + 14)) 5
  | [], _ => ⟨rfl, rfl, rfl, rfl, Nat.zero_le _, Nat.zero_le _⟩
  | (x, R) :: r, h => by
    have a := rkv m r fun p hp => h p (List.mem_cons_of_mem _ hp)
    have h0 := h _ List.mem_cons_self
    have kx := (ok_nm h0.1).rp
    have vx := h0.2.1.ok.rp
    show Rkv ((.str x, .list R) :: kv r) _ 5
    refine ⟨by rw [PyData.showableKv, kx.sh, vx.sh, a.sh]; rfl, by rw [PyData.leavesShortKv, kx.lv, vx.lv, a.lv]; rfl, by rw [kOkv, vx.kk, a.kk]; rfl, by rw [sOkv, kx.so, vx.so, a.so]; rfl, ?_, ?_⟩
    · rw [PyData.depthKv]
      exact Nat.max_le.mpr ⟨Nat.max_le.mpr ⟨Nat.le_trans kx.dp (Nat.zero_le _), vx.dp⟩, a.dp⟩
    · rw [PyData.weightKv, List.length_cons, Nat.succ_mul]
      have h1 : (PyData.str x).weight ≤ 12 := kx.wt
      have h2 : (PyData.list R).weight ≤ m * 101 := vx.wt
      have h3 := a.wt
      omega
theorem rp_dc {m : Nat} {B : Dc} (h : DcOk m B) (hm : m ≤ 100) : Rp (.dict (kv B)) 60000 6 := by
  have a := rkv m B h.1
  refine ⟨by rw [PyData.showable]; exact a.sh, by rw [PyData.leavesShort]; exact a.lv, by rw [kOk]; exact a.kk, by rw [sOk]; exact a.so, by rw [PyData.depth]; exact Nat.succ_le_succ a.dp, ?_⟩
  rw [PyData.weight]
  refine Nat.le_trans a.wt (Nat.le_trans (Nat.mul_le_mul h.2.2 (Nat.add_le_add_right (Nat.mul_le_mul_right 101 hm) 14)) (by decide))
theorem rp_two {a b : D} (ha : Rp a 60000 6) (hb : Rp b 60000 6) : Rp (.list [a, b]) 130000 7 := by
  refine ⟨?_, ?_, ?_, ?_, ?_, ?_⟩
  · rw [PyData.showable, PyData.showableAll, PyData.showableAll, PyData.showableAll, ha.sh, hb.sh]
    rfl
  · rw [PyData.leavesShort, PyData.leavesShortAll, PyData.leavesShortAll, PyData.leavesShortAll, ha.lv, hb.lv]
    rfl
  · rw [kOk, kOks, kOks, kOks, ha.kk, hb.kk]
    rfl
  · rw [sOk, sOks, sOks, sOks, ha.so, hb.so]
    rfl
  · rw [PyData.depth, PyData.depthAll, PyData.depthAll, PyData.depthAll]
    have h1 := ha.dp
    have h2 := hb.dp
    omega
  · rw [PyData.weight, PyData.weightAll, PyData.weightAll, PyData.weightAll]
    have h1 := ha.wt
    have h2 := hb.wt
    omega
abbrev DL (B A : Dc) : List D := (dueOf B A (whom B A)).map rowF
theorem datF_due8 (B A : Dc) (ds : List D) : datF (due8 B A ds) = some (.list ((dueOf B A ds).map rowF)) := by
  have e : due8 B A ds = own1 ((dueOf B A ds).map rowF) := by
    unfold own1
    rw [List.map_map]
    rfl
  rw [e]
  exact datF_own _
theorem datF_row (p : D × List D × List D) : datF (rowX p) = some (rowF p) := by
  show (datFs [X.d p.1, own1 p.2.1, own1 p.2.2]).map PyData.tuple = _
  have e : datFs [X.d p.1, own1 p.2.1, own1 p.2.2] = some [p.1, .list p.2.1, .list p.2.2] := by
    show ((datF (X.d p.1)).bind fun a => (((datF (own1 p.2.1)).bind fun b => (((datF (own1 p.2.2)).bind fun c => (some ([] : List D)).map (c :: ·))).map (b :: ·))).map (a :: ·)) = _
    rw [datF_own, datF_own, datF_d]
    rfl
  rw [e]
  rfl
theorem datF_due0 (B A : Dc) (ds : List D) : datF (due0 B A ds) = some (.list ((dueOf B A ds).map rowF)) := by
  show (datFs ((dueOf B A ds).map rowX)).map PyData.list = _
  have e : ∀ l : List (D × List D × List D), datFs (l.map rowX) = some (l.map rowF) := fun l => by
    induction l with
    | nil => rfl
    | cons p l ih =>
      show ((datF (rowX p)).bind fun d => (datFs (l.map rowX)).map (d :: ·)) = _
      rw [ih, datF_row]
      rfl
  rw [e]
  rfl
theorem due_mem {B A : Dc} {n m : Nat} (hB : DcOk n B) (hA : DcOk m A) {p : D × List D × List D} (h : p ∈ dueOf B A (whom B A)) : ∃ x, Nm x ∧ p = (.str x, goneL (getB B x) (getB A x), goneL (getB A x) (getB B x)) := by
  unfold dueOf at h
  obtain ⟨d, hd, hp⟩ := List.mem_flatMap.mp h
  obtain ⟨x, rfl, hx⟩ := whom_mem hB hA hd
  unfold one at hp
  dsimp only at hp
  split at hp
  · cases hp
  · exact ⟨x, hx, List.mem_singleton.mp hp⟩
theorem ok_DL {B A : Dc} {n : Nat} (hB : DcOk n B) (hA : DcOk n A) (hn : n ≤ 100) : Ok (.list (DL B A)) 300000 7 := by
  have one : ∀ d ∈ DL B A, Ok d 20300 6 := fun d hd => by
    obtain ⟨p, hp, rfl⟩ := List.mem_map.mp hd
    obtain ⟨x, hx, rfl⟩ := due_mem hB hA hp
    have o : Row n (getB B x) := getB_row hB.1
    have v : Row n (getB A x) := getB_row hA.1
    have g : Lines n (goneL (getB B x) (getB A x)) := o.1.fil _
    have c : Lines n (goneL (getB A x) (getB B x)) := v.1.fil _
    have k := ok_tup (oks_cons ((ok_nm hx).up (w2 := 12) (h2 := 5)) (oks_cons g.ok (oks_cons c.ok oks_nil)))
    exact k.up
  have hl : (DL B A).length ≤ 10 := by
    rw [List.length_map]
    exact Nat.le_trans due_len (whom_len hB hA)
  have a := ok_list (oks_all one)
  exact a.up (Nat.le_trans (Nat.mul_le_mul_right _ hl) (by decide))

abbrev BA (B A : Dc) : D := .list [.dict (kv B), .dict (kv A)]
abbrev EW (ns : List Int) (xs ps : List Str) (B A : Dc) (c5 c7 c8 c11 c12 c13 c14 : Option X) (s : X) : TT.Env := [some (scr ns), some s, some (nms xs), some (nms ps), some (dcX B), c5, some (dcX A), c7, c8, some (.d (.list (DL B A))), some (.d (.str (BA B A).shown)), c11, c12, c13, c14]
/-- repr([before, after]) -/
theorem twoR (G : Nat → DF) (ns : List Int) (xs ps : List Str) (B A : Dc) (c5 c7 c8 c11 c12 c13 c14 : Option X) (s : X) (m : Nat) (hB : DcOk m B) (hA : DcOk m A) (hm : m ≤ 100) : evE G (.reprF (.e (.lst (.cons (.e (.rd 4)) (.cons (.e (.rf 6)) .nil))))) (EW ns xs ps B A c5 c7 c8 c11 c12 c13 c14 s) = some (.d (.str (BA B A).shown), EW ns xs ps B A c5 c7 c8 c11 c12 c13 c14 s) :=
  r_repr (x := .lst [dcX B, dcX A]) (r_e rfl) rfl rfl ((rp_two (rp_dc hB hm) (rp_dc hA hm)).ok (by decide) (by decide))
theorem twoT (G : Nat → DF) (ns : List Int) (xs ps : List Str) (B A : Dc) (c5 c7 c8 c11 c12 c13 c14 : Option X) (s : X) (m : Nat) (hB : DcOk m B) (hA : DcOk m A) (hm : m ≤ 100) : evT G (.op .ne (.cons (.e (.reprF (.e (.lst (.cons (.e (.rd 4)) (.cons (.e (.rf 6)) .nil)))))) (.cons (.e (.rd 10)) .nil))) (EW ns xs ps B A c5 c7 c8 c11 c12 c13 c14 s) = some (false, EW ns xs ps B A c5 c7 c8 c11 c12 c13 c14 s) := by
  have so := (rp_two (rp_dc hB hm) (rp_dc hA hm)).so
  refine r_t ((r_op2 (r_e (twoR G ns xs ps B A c5 c7 c8 c11 c12 c13 c14 s m hB hA hm)) (r_e rfl) rfl rfl (dat1_d _) (dat1_d _) (q_neshown so so)).trans ?_)
  rw [beq_self_eq_true]
  rfl

def dBody : Ss := (.cons (.set 13 (.op .get2 (.cons (.e (.rd 4)) (.cons (.e (.op .ix (.cons (.e (.rd 12)) (.cons (.e (.c (.int 0))) .nil)))) (.cons (.e (.frz (.lst .nil))) .nil)))))
 (.cons (.set 14 (.frz (.call 1 [] (.cons (.e (.rd 13)) (.cons (.e (.frz (.tup (.cons (.e (.op .ix (.cons (.e (.rd 12)) (.cons (.e (.c (.int 0))) .nil)))) (.cons (.e (.frz (.op .list1 (.cons (.e (.op .ix (.cons (.e (.rd 12)) (.cons (.e (.c (.int 1))) .nil)))) .nil)))) (.cons (.e (.frz (.op .list1 (.cons (.e (.op .ix (.cons (.e (.rd 12)) (.cons (.e (.c (.int 2))) .nil)))) .nil)))) .nil)))))) .nil)))))
 (.cons (.iff (.or_ (.op .ne (.cons (.e (.reprF (.e (.rd 14)))) (.cons (.e (.reprF (.e (.op .get2 (.cons (.e (.rf 6)) (.cons (.e (.op .ix (.cons (.e (.rd 12)) (.cons (.e (.c (.int 0))) .nil)))) (.cons (.e (.frz (.lst .nil))) .nil))))))) .nil))) (.op .ne (.cons (.e (.reprF (.e (.lst (.cons (.e (.rd 4)) (.cons (.e (.rf 6)) .nil)))))) (.cons (.e (.rd 10)) .nil)))) (.cons (.ret (.c (.bool false)))
 .nil) .nil)
 .nil)))
theorem dTurn (ns : List Int) (xs ps : List Str) (B A : Dc) (c5 c7 c8 c11 c13 c14 : Option X) (s : X) (m : Nat) (hB : DcOk m B) (hA : DcOk m A) (hm : m ≤ 100) (p : D × List D × List D) (hp : p ∈ dueOf B A (whom B A)) :
    ∃ e13 e14, evSs (sem tab 7) dBody (EW ns xs ps B A c5 c7 c8 c11 (some (.d (rowF p))) c13 c14 s) = some (.nx, EW ns xs ps B A c5 c7 c8 c11 (some (.d (rowF p))) e13 e14 s) := by
  obtain ⟨x, hx, rfl⟩ := due_mem hB hA hp
  have o : Row m (getB B x) := getB_row hB.1
  have v : Row m (getB A x) := getB_row hA.1
  generalize hg : goneL (getB B x) (getB A x) = g
  generalize hc : goneL (getB A x) (getB B x) = c
  have lg : Lines m g := hg ▸ o.1.fil _
  have lc : Lines m c := hc ▸ v.1.fil _
  have back : reb (getB B x) g c = getB A x := by
    rw [← hg, ← hc]
    exact turn_back o v
  have rb := rebuilt 6 (getB B x) g c (.str x) o.1 lg lc (by omega) (by omega) (by omega)
  rw [back] at rb
  have ix0 : ∀ e13 e14, evE (sem tab 7) (.op .ix (.cons (.e (.rd 12)) (.cons (.e (.c (.int 0))) .nil))) (EW ns xs ps B A c5 c7 c8 c11 (some (.d (rowF (.str x, g, c)))) e13 e14 s) = some (.d (.str x), EW ns xs ps B A c5 c7 c8 c11 (some (.d (rowF (.str x, g, c)))) e13 e14 s) := fun _ _ => rfl
  have a1 : evE (sem tab 7) (.frz (.op .list1 (.cons (.e (.op .ix (.cons (.e (.rd 12)) (.cons (.e (.c (.int 1))) .nil)))) .nil))) (EW ns xs ps B A c5 c7 c8 c11 (some (.d (rowF (.str x, g, c)))) (some (.d (.list (getB B x)))) c14 s) = some (.d (.list g), EW ns xs ps B A c5 c7 c8 c11 (some (.d (rowF (.str x, g, c)))) (some (.d (.list (getB B x)))) c14 s) := r_frz (r_op1 (r_e (x := .d (.list g)) rfl) rfl (dat1_d _) q_list1) (datF_own g)
  have a2 : evE (sem tab 7) (.frz (.op .list1 (.cons (.e (.op .ix (.cons (.e (.rd 12)) (.cons (.e (.c (.int 2))) .nil)))) .nil))) (EW ns xs ps B A c5 c7 c8 c11 (some (.d (rowF (.str x, g, c)))) (some (.d (.list (getB B x)))) c14 s) = some (.d (.list c), EW ns xs ps B A c5 c7 c8 c11 (some (.d (rowF (.str x, g, c)))) (some (.d (.list (getB B x)))) c14 s) := r_frz (r_op1 (r_e (x := .d (.list c)) rfl) rfl (dat1_d _) q_list1) (datF_own c)
  have tup : evE (sem tab 7) (.frz (.tup (.cons (.e (.op .ix (.cons (.e (.rd 12)) (.cons (.e (.c (.int 0))) .nil)))) (.cons (.e (.frz (.op .list1 (.cons (.e (.op .ix (.cons (.e (.rd 12)) (.cons (.e (.c (.int 1))) .nil)))) .nil)))) (.cons (.e (.frz (.op .list1 (.cons (.e (.op .ix (.cons (.e (.rd 12)) (.cons (.e (.c (.int 2))) .nil)))) .nil)))) .nil))))) (EW ns xs ps B A c5 c7 c8 c11 (some (.d (rowF (.str x, g, c)))) (some (.d (.list (getB B x)))) c14 s) = some (.d (.tuple [.str x, .list g, .list c]), EW ns xs ps B A c5 c7 c8 c11 (some (.d (rowF (.str x, g, c)))) (some (.d (.list (getB B x)))) c14 s) := by
    refine r_frz (x := .d (.tuple [.str x, .list g, .list c])) ?_ (datF_d _)
    show ((evAs _ _ _).bind fun z => (tmpAll z.1).bind fun xs => if xs.length ≤ sizeLine then (match allD xs with
      | some ds => some (X.d (.tuple ds), z.2)
      | none => some (.tup xs, z.2)) else none) = _
    rw [r_cons (r_e (ix0 _ _)) (r_cons (r_e a1) (r_cons (r_e a2) r_nil))]
    rfl
  have okv := v.1.ok
  have rp : reprOk (.list (getB A x)) = true := okv.repr (by decide) (by omega)
  have gA : evE (sem tab 7) (.op .get2 (.cons (.e (.rf 6)) (.cons (.e (.op .ix (.cons (.e (.rd 12)) (.cons (.e (.c (.int 0))) .nil)))) (.cons (.e (.frz (.lst .nil))) .nil)))) (EW ns xs ps B A c5 c7 c8 c11 (some (.d (rowF (.str x, g, c)))) (some (.d (.list (getB B x)))) (some (.d (.list (getB A x)))) s) = some (.d (.list (getB A x)), EW ns xs ps B A c5 c7 c8 c11 (some (.d (rowF (.str x, g, c)))) (some (.d (.list (getB B x)))) (some (.d (.list (getB A x)))) s) := r_get2 (x := dcX A) (ρ1 := EW ns xs ps B A c5 c7 c8 c11 (some (.d (rowF (.str x, g, c)))) (some (.d (.list (getB B x)))) (some (.d (.list (getB A x)))) s) rfl (ix0 _ _) rfl (dat1_d _) (dat1_d _) (dat1_d _) q_getB
  have tt : evT (sem tab 7) (.op .ne (.cons (.e (.reprF (.e (.rd 14)))) (.cons (.e (.reprF (.e (.op .get2 (.cons (.e (.rf 6)) (.cons (.e (.op .ix (.cons (.e (.rd 12)) (.cons (.e (.c (.int 0))) .nil)))) (.cons (.e (.frz (.lst .nil))) .nil))))))) .nil))) (EW ns xs ps B A c5 c7 c8 c11 (some (.d (rowF (.str x, g, c)))) (some (.d (.list (getB B x)))) (some (.d (.list (getB A x)))) s) = some (false, EW ns xs ps B A c5 c7 c8 c11 (some (.d (rowF (.str x, g, c)))) (some (.d (.list (getB B x)))) (some (.d (.list (getB A x)))) s) := by
    refine r_t ((r_op2 (r_e (r_repr (r_e rfl) rfl (datF_d _) rp)) (r_e (r_repr (r_e gA) rfl (datF_d _) rp)) rfl rfl (dat1_d _) (dat1_d _) (q_neshown (sOk_lay _ okv.lay) (sOk_lay _ okv.lay))).trans ?_)
    rw [beq_self_eq_true]
    rfl
  exact ⟨some (.d (.list (getB B x))), some (.d (.list (getB A x))), r_nx ((r_set (r_get2 (x := dcX B) (ρ1 := EW ns xs ps B A c5 c7 c8 c11 (some (.d (rowF (.str x, g, c)))) c13 c14 s) rfl (ix0 _ _) rfl (dat1_d _) (dat1_d _) (dat1_d _) q_getB)).trans rfl) (r_nx (ρ1 := EW ns xs ps B A c5 c7 c8 c11 (some (.d (rowF (.str x, g, c)))) (some (.d (.list (getB B x)))) (some (.d (.list (getB A x)))) s) ((r_set (r_frz (ρ1 := EW ns xs ps B A c5 c7 c8 c11 (some (.d (rowF (.str x, g, c)))) (some (.d (.list (getB B x)))) c14 s) (r_call (r_cons (r_e rfl) (r_cons (r_e tup) r_nil)) rfl rfl rb rfl) (datF_own _))).trans rfl) (r_nx (r_if (k := false) (r_or2 tt (twoT (sem tab 7) ns xs ps B A c5 c7 c8 c11 _ _ _ s m hB hA hm)) rfl) rfl))⟩

theorem dLoop (ns : List Int) (xs ps : List Str) (B A : Dc) (c5 c7 c8 c11 c12 c13 c14 : Option X) (s : X) (m : Nat) (hB : DcOk m B) (hA : DcOk m A) (hm : m ≤ 100) :
    ∃ ρ', evS (sem tab 7) (.for_ (.n 12) (.l (.rd 9)) dBody) (EW ns xs ps B A c5 c7 c8 c11 c12 c13 c14 s) = some (.nx, ρ') ∧ ∃ e12 e13 e14, ρ' = EW ns xs ps B A c5 c7 c8 c11 e12 e13 e14 s := by
  refine r_for (fun _ ρ => ∃ e12 e13 e14, ρ = EW ns xs ps B A c5 c7 c8 c11 e12 e13 e14 s) (ds := DL B A) (ρ1 := EW ns xs ps B A c5 c7 c8 c11 c12 c13 c14 s) rfl ⟨_, _, _, rfl⟩ fun k d ρ hk h => ?_
  obtain ⟨e12, e13, e14, rfl⟩ := h
  obtain ⟨p, hp, rfl⟩ := List.mem_map.mp (List.mem_of_getElem? hk)
  obtain ⟨f13, f14, q⟩ := dTurn ns xs ps B A c5 c7 c8 c11 e13 e14 s m hB hA hm p hp
  exact ⟨_, _, rfl, q, _, _, _, rfl⟩

/-- from the while to the test: slots 9, 10, 11 -/
theorem three (ns : List Int) (xs ps : List Str) (B A : Dc) (c5 c7 c8 c9 c10 c11 c12 c13 c14 : Option X) (s : X) (m : Nat) (hB : DcOk m B) (hA : DcOk m A) (hm : m ≤ 100) (r : Ss) (w : Option (Fl × TT.Env))
    (hw : evSs (sem tab 7) r (EW ns xs ps B A c5 c7 c8 (some (due0 B A (whom B A))) c12 c13 c14 s) = w) :
    evSs (sem tab 7) (.cons (.set 9 (.frz (.call 8 [] (.cons (.e (.rd 4)) (.cons (.e (.rf 6)) .nil)))))
 (.cons (.set 10 (.reprF (.e (.lst (.cons (.e (.rd 4)) (.cons (.e (.rf 6)) .nil))))))
 (.cons (.set 11 (.call 0 [] (.cons (.e (.rd 4)) (.cons (.e (.rf 6)) .nil)))) r))) (EV ns xs ps B c5 c9 c10 c11 c12 c13 c14 s (some (dcO A)) c7 c8) = w := by
  have rf : evE (sem tab 7) (.rf 6) (EV ns xs ps B c5 c9 c10 c11 c12 c13 c14 s (some (dcO A)) c7 c8) = some (dcX A, EV ns xs ps B c5 c9 c10 c11 c12 c13 c14 s (some (dcX A)) c7 c8) := by
    show ((datF (dcO A)).bind fun d => _) = _
    rw [datF_dcO]
    rfl
  have s1 : evS (sem tab 7) (.set 9 (.frz (.call 8 [] (.cons (.e (.rd 4)) (.cons (.e (.rf 6)) .nil))))) (EV ns xs ps B c5 c9 c10 c11 c12 c13 c14 s (some (dcO A)) c7 c8) = some (.nx, EV ns xs ps B c5 (some (.d (.list (DL B A)))) c10 c11 c12 c13 c14 s (some (dcX A)) c7 c8) :=
    (r_set (r_frz (ρ1 := EV ns xs ps B c5 c9 c10 c11 c12 c13 c14 s (some (dcX A)) c7 c8) (r_call (r_cons (r_e (x := dcX B) (ρ1 := EV ns xs ps B c5 c9 c10 c11 c12 c13 c14 s (some (dcO A)) c7 c8) rfl) (r_cons (r_e rf) r_nil)) rfl rfl (letters8 6 B A m (by omega) hB hA) rfl) (datF_due8 B A _))).trans rfl
  have s2 : evS (sem tab 7) (.set 10 (.reprF (.e (.lst (.cons (.e (.rd 4)) (.cons (.e (.rf 6)) .nil)))))) (EV ns xs ps B c5 (some (.d (.list (DL B A)))) c10 c11 c12 c13 c14 s (some (dcX A)) c7 c8) = some (.nx, EW ns xs ps B A c5 c7 c8 c11 c12 c13 c14 s) :=
    (r_set (r_repr (x := .lst [dcX B, dcX A]) (d := BA B A) (ρ1 := EV ns xs ps B c5 (some (.d (.list (DL B A)))) c10 c11 c12 c13 c14 s (some (dcX A)) c7 c8) (r_e rfl) rfl rfl ((rp_two (rp_dc hB hm) (rp_dc hA hm)).ok (by decide) (by decide)))).trans rfl
  have s3 : evS (sem tab 7) (.set 11 (.call 0 [] (.cons (.e (.rd 4)) (.cons (.e (.rf 6)) .nil)))) (EW ns xs ps B A c5 c7 c8 c11 c12 c13 c14 s) = some (.nx, EW ns xs ps B A c5 c7 c8 (some (due0 B A (whom B A))) c12 c13 c14 s) :=
    (r_set (ρ1 := EW ns xs ps B A c5 c7 c8 c11 c12 c13 c14 s) (r_call (r_cons (r_e (x := dcX B) (ρ1 := EW ns xs ps B A c5 c7 c8 c11 c12 c13 c14 s) rfl) (r_cons (r_e (x := dcX A) rfl) r_nil)) rfl rfl (letters0 6 B A m (by omega) hB hA) rfl)).trans rfl
  exact r_nx s1 (r_nx s2 (r_nx s3 hw))

/-- the test behind: told is due, nothing changed, any lines -/
theorem testF (ns : List Int) (xs ps : List Str) (hx : NL xs) (B A : Dc) (c5 c7 c8 c12 c13 c14 : Option X) (s : X) (hs : St s) (m : Nat) (hB : DcOk m B) (hA : DcOk m A) (hm : m ≤ 100) :
    ∃ s', evT (sem tab 7) (.or_ (.op .ne (.cons (.e (.reprF (.p ⟨11, []⟩))) (.cons (.e (.reprF (.e (.rd 9)))) .nil))) (.or_ (.op .ne (.cons (.e (.reprF (.e (.lst (.cons (.e (.rd 4)) (.cons (.e (.rf 6)) .nil)))))) (.cons (.e (.rd 10)) .nil))) (.not_ (.tr (.e (.call 9 [0] (.cons (.p ⟨1, []⟩) (.cons (.e (.rd 0)) (.cons (.e (.rd 2)) .nil))))))))) (EW ns xs ps B A c5 c7 c8 (some (due0 B A (whom B A))) c12 c13 c14 s) = some (false, EW ns xs ps B A c5 c7 c8 (some (due0 B A (whom B A))) c12 c13 c14 s') ∧ St s' := by
  have ok := ok_DL hB hA hm
  have rp := ok.repr (by decide) (by decide)
  have so := sOk_lay _ ok.lay
  obtain ⟨s', q, hs'⟩ := anyOk 2 ns xs hx s hs
  have t1 : evT (sem tab 7) (.op .ne (.cons (.e (.reprF (.p ⟨11, []⟩))) (.cons (.e (.reprF (.e (.rd 9)))) .nil))) (EW ns xs ps B A c5 c7 c8 (some (due0 B A (whom B A))) c12 c13 c14 s) = some (false, EW ns xs ps B A c5 c7 c8 (some (due0 B A (whom B A))) c12 c13 c14 s) := by
    refine r_t ((r_op2 (r_e (r_repr (r_p rfl) rfl (datF_due0 B A _) rp)) (r_e (r_repr (r_e rfl) rfl (datF_d _) rp)) rfl rfl (dat1_d _) (dat1_d _) (q_neshown so so)).trans ?_)
    rw [beq_self_eq_true]
    rfl
  have t3 : evT (sem tab 7) (.not_ (.tr (.e (.call 9 [0] (.cons (.p ⟨1, []⟩) (.cons (.e (.rd 0)) (.cons (.e (.rd 2)) .nil))))))) (EW ns xs ps B A c5 c7 c8 (some (due0 B A (whom B A))) c12 c13 c14 s) = some (false, EW ns xs ps B A c5 c7 c8 (some (due0 B A (whom B A))) c12 c13 c14 s') :=
    r_not (k := true) (r_tr (r_e (r_call (r_cons (r_p rfl) (r_cons (r_e rfl) (r_cons (r_e rfl) r_nil))) rfl rfl q rfl)) rfl)
  exact ⟨s', r_or2 t1 (r_or2 (twoT (sem tab 7) ns xs ps B A c5 c7 c8 _ c12 c13 c14 s m hB hA hm) t3), hs'⟩

/-- the zap and the last test -/
theorem tailF (ns : List Int) (xs ps : List Str) (B A : Dc) (c5 c7 c8 c12 c13 c14 : Option X) (s : X) (m : Nat) (hB : DcOk m B) (hA : DcOk m A) (hm : m ≤ 100) :
    evSs (sem tab 7) (.cons (.zap 11 12)
 (.cons (.iff (.op .ne (.cons (.e (.reprF (.e (.call 0 [] (.cons (.e (.rd 4)) (.cons (.e (.rf 6)) .nil)))))) (.cons (.e (.reprF (.e (.rd 9)))) .nil))) (.cons (.ret (.c (.bool false)))
 .nil) .nil)
 (.cons (.set 4 (.rf 6))
 .nil))) (EW ns xs ps B A c5 c7 c8 (some (due0 B A (whom B A))) c12 c13 c14 s) = some (.nx, [some (scr ns), some s, some (nms xs), some (nms ps), some (dcX A), c5, some (dcX A), c7, c8, some (.d (.list (DL B A))), some (.d (.str (BA B A).shown)), none, none, c13, c14]) := by
  have ok := ok_DL hB hA hm
  have rp := ok.repr (by decide) (by decide)
  have so := sOk_lay _ ok.lay
  have z : ((dueOf B A (whom B A)).map rowX).all zapOk = true := List.all_eq_true.mpr fun y hy => by
    obtain ⟨p, hp, rfl⟩ := List.mem_map.mp hy
    obtain ⟨x, hx, rfl⟩ := due_mem hB hA hp
    have o : Row m (getB B x) := getB_row hB.1
    have v : Row m (getB A x) := getB_row hA.1
    have g : Lines m (goneL (getB B x) (getB A x)) := o.1.fil _
    have c : Lines m (goneL (getB A x) (getB B x)) := v.1.fil _
    have b1 : (goneL (getB B x) (getB A x)).length < sizeLine := Nat.lt_of_le_of_lt (Nat.le_trans g.1 hm) (by decide)
    have b2 : (goneL (getB A x) (getB B x)).length < sizeLine := Nat.lt_of_le_of_lt (Nat.le_trans c.1 hm) (by decide)
    show (decide (((goneL (getB B x) (getB A x)).map X.d).length < sizeLine) && decide (((goneL (getB A x) (getB B x)).map X.d).length < sizeLine)) = true
    rw [List.length_map, List.length_map, decide_eq_true b1, decide_eq_true b2]
    rfl
  have s1 : evS (sem tab 7) (.zap 11 12) (EW ns xs ps B A c5 c7 c8 (some (due0 B A (whom B A))) c12 c13 c14 s) = some (.nx, EW ns xs ps B A c5 c7 c8 none none c13 c14 s) := by
    show (if (((dueOf B A (whom B A)).map rowX).all zapOk && decide (12 < 15)) = true then some (Fl.nx, EW ns xs ps B A c5 c7 c8 none none c13 c14 s) else none) = _
    rw [z]
    rfl
  refine r_nx s1 (r_nx (r_if (k := false) (r_t ((r_op2 (r_e (r_repr (r_e (r_call (r_cons (r_e (x := dcX B) (ρ1 := EW ns xs ps B A c5 c7 c8 none none c13 c14 s) rfl) (r_cons (r_e (x := dcX A) rfl) r_nil)) rfl rfl (letters0 6 B A m (by omega) hB hA) rfl)) rfl (datF_due0 B A _) rp)) (r_e (r_repr (r_e rfl) rfl (datF_d _) rp)) rfl rfl (dat1_d _) (dat1_d _) (q_neshown so so)).trans (by rw [beq_self_eq_true]; rfl))) rfl) (r_nx ((r_set (x := dcX A) (ρ1 := EW ns xs ps B A c5 c7 c8 none none c13 c14 s) rfl).trans rfl) rfl))

def rBody : Ss := match body10 with
  | .cons _ (.cons _ (.cons _ (.cons _ (.cons (.for_ _ _ b) _)))) => b
  | _ => .nil
/-- a round -/
theorem round (ns : List Int) (xs ps : List Str) (hx : NL xs) (hp : ps.length ≤ 5 ∧ ∀ x ∈ ps, Nm x) (B : Dc) (b : Nat) (hb : b + 3 ≤ 100) (hB : DcOk b B) (c5 c6 c7 c8 c9 c10 c11 c12 c13 c14 : Option X) (s : X) (hs : St s) :
    ∃ (s' : X) (A : Dc) (d6 d7 d8 d9 d10 d11 d12 d13 d14 : Option X), evSs (sem tab 7) rBody (EV ns xs ps B c5 c9 c10 c11 c12 c13 c14 s c6 c7 c8) = some (.nx, EV ns xs ps A c5 d9 d10 d11 d12 d13 d14 s' d6 d7 d8) ∧ St s' ∧ DcOk (b + 3) A := by
  have hB3 : DcOk (b + 3) B := ⟨fun p h => ⟨(hB.1 p h).1, (hB.1 p h).2.up (by omega)⟩, hB.2⟩
  obtain ⟨ρw, ew, s1, A, c7', c8', hs1, hA, rfl⟩ := wLoop ns xs ps hx hp B b (by omega) hB c5 c9 c10 c11 c12 c13 c14 s hs c8
  obtain ⟨s2, et, hs2⟩ := testF ns xs ps hx B A c5 c7' c8' c12 c13 c14 s1 hs1 (b + 3) hB3 hA hb
  obtain ⟨ρd, ed, e12, e13, e14, rfl⟩ := dLoop ns xs ps B A c5 c7' c8' (some (due0 B A (whom B A))) c12 c13 c14 s2 (b + 3) hB3 hA hb
  refine ⟨s2, A, _, _, _, _, _, _, _, _, _, r_nx (ρ1 := EV ns xs ps B c5 c9 c10 c11 c12 c13 c14 s (some (.dct false [] [])) c7 c8) ((r_set (x := .dct false [] []) rfl).trans rfl) (r_nx (ρ1 := EV ns xs ps B c5 c9 c10 c11 c12 c13 c14 s (some (.dct false [] [])) (some (own1 (ps.map PyData.str))) c8) ((r_set (r_op1 (r_e (x := nms ps) (ρ1 := EV ns xs ps B c5 c9 c10 c11 c12 c13 c14 s (some (.dct false [] [])) c7 c8) rfl) rfl (dat1_d _) q_list1)).trans rfl) (r_nx ew (three ns xs ps B A c5 c7' c8' c9 c10 c11 c12 c13 c14 s1 (b + 3) hB3 hA hb _ _ (r_nx (r_if (k := false) et rfl) (r_nx ed (tailF ns xs ps B A c5 c7' c8' e12 e13 e14 s2 (b + 3) hB3 hA hb)))))), hs2, hA⟩

theorem pure_law (ns : List Int) (h : ns.length ≤ 63) : lawF ns = some (.d (.bool true), []) := by
  unfold lawF
  rw [sem_succ 7 10 d10 rfl]
  obtain ⟨xs, s1, q1, hs1, l1, n1⟩ := names 4 ns (sT 0 0) ⟨0, 0, rfl⟩ 3 (by decide) (by decide)
  obtain ⟨ps, s2, q2, hs2, l2, n2⟩ := names 4 ns s1 hs1 5 (by decide) (by decide)
  have hx : NL xs := ⟨fun e => by rw [e] at l1; simp at l1, by rw [l1]; decide, n1⟩
  have hp : ps.length ≤ 5 ∧ ∀ x ∈ ps, Nm x := ⟨by rw [l2]; decide, n2⟩
  obtain ⟨v, s3, q3, hs3, v1, v2⟩ := c_draw 6 (ns := ns) (ρ := EV ns xs ps [] none none none none none none none s2 none none none) (k := 1) (j := 0) (a := .e (.c (.int 5))) (size := 5) rfl hs2 rfl (r_e rfl) (by decide) (by decide)
  have hr : rngOk (1 + v) = true := decide_eq_true (by omega)
  have it : evIt (sem tab 7) (.r1 (.op .add (.cons (.e (.c (.int 1))) (.cons (.e (.call 2 [0] (.cons (.p ⟨1, []⟩) (.cons (.e (.rd 0)) (.cons (.e (.c (.int 5))) .nil))))) .nil)))) (EV ns xs ps [] none none none none none none none s2 none none none) = some (rngD 0 (1 + v).toNat, EV ns xs ps [] none none none none none none none s3 none none none) := by
    have g := r_op2 (r_e (e := .c (.int 1)) (x := xI 1) (ρ1 := EV ns xs ps [] none none none none none none none s2 none none none) rfl) (r_e (q3.trans rfl)) rfl rfl (dat1_d _) (dat1_d _) q_add
    show ((evE (sem tab 7) _ _).bind fun z => (intD z.1).bind fun n => if rngOk n then some (rngD 0 n.toNat, z.2) else none) = _
    rw [g]
    show (if rngOk (1 + v) then _ else none) = _
    rw [if_pos hr]
    rfl
  have hlen : (rngD 0 (1 + v).toNat).length ≤ 5 := by
    simp only [rngD, List.length_map, List.length_range]
    omega
  obtain ⟨ρ', ef, s4, A, c5, c6, c7, c8, c9, c10, c11, c12, c13, c14, _, _, rfl⟩ := r_for (G := sem tab 7) (tg := .n 5) (b := rBody) (fun k ρ => ∃ (s' : X) (A : Dc) (c5 c6 c7 c8 c9 c10 c11 c12 c13 c14 : Option X), St s' ∧ DcOk (3 * k) A ∧ ρ = EV ns xs ps A c5 c9 c10 c11 c12 c13 c14 s' c6 c7 c8) it ⟨s3, [], none, none, none, none, none, none, none, none, none, none, hs3, ⟨(fun _ z => nomatch z), List.nodup_nil, by decide⟩, rfl⟩ fun k d ρ hk hq => by
    obtain ⟨s', A, c5, c6, c7, c8, c9, c10, c11, c12, c13, c14, hs', hA, rfl⟩ := hq
    have hkl := (List.getElem?_eq_some_iff.mp hk).1
    obtain ⟨s5, A5, d6, d7, d8, d9, d10, d11, d12, d13, d14, e, hs5, hA5⟩ := round ns xs ps hx hp A (3 * k) (by omega) hA (some (.d d)) c6 c7 c8 c9 c10 c11 c12 c13 c14 s' hs'
    exact ⟨EV ns xs ps A (some (.d d)) c9 c10 c11 c12 c13 c14 s' c6 c7 c8, _, rfl, e, s5, A5, _, _, _, _, _, _, _, _, _, _, hs5, hA5, rfl⟩
  have b : evSs (sem tab 7) body10 [some (scr ns), none, none, none, none, none, none, none, none, none, none, none, none, none, none] = some (.rt (.d (.bool true)), EV ns xs ps A c5 c9 c10 c11 c12 c13 c14 s4 c6 c7 c8) := by
    refine r_nx (ρ1 := [some (scr ns), some (sT 0 0), none, none, none, none, none, none, none, none, none, none, none, none, none]) rfl (r_nx (ρ1 := [some (scr ns), some s1, some (nms xs), none, none, none, none, none, none, none, none, none, none, none, none]) ((r_set (r_frz (r_call (r_cons (r_p rfl) (r_cons (r_e rfl) (r_cons (r_e rfl) r_nil))) rfl rfl q1 rfl) (datF_own _))).trans rfl) (r_nx (ρ1 := [some (scr ns), some s2, some (nms xs), some (nms ps), none, none, none, none, none, none, none, none, none, none, none]) ((r_set (r_frz (r_call (r_cons (r_p rfl) (r_cons (r_e rfl) (r_cons (r_e rfl) r_nil))) rfl rfl q2 rfl) (datF_own _))).trans rfl) (r_nx (ρ1 := EV ns xs ps [] none none none none none none none s2 none none none) rfl (r_nx ef (r_rt (r_ret rfl))))))
  show (evSs (sem tab 7) body10 [some (scr ns), none, none, none, none, none, none, none, none, none, none, none, none, none, none]).bind _ = _
  rw [b]
  rfl

end T_70
open PySem PySem.W PySem.Calls PyProof.Rows
theorem PySem.Challenge.cw_claimshold_k70_letters_holds : PySem.Challenge.rw_claimshold_k70_letters.Holds := by
  w_on; o_law
  refine HandSHeadRun.head_any (r := OpenLaw.row PySem.Challenge.rw_claimshold_k70_letters) (q := view (OpenLaw.row PySem.Challenge.rw_claimshold_k70_letters).prog [13]) (H := T_70.hk) (ob := T_70.ob) (M := 4000) (loose := T_70.loose) (d := HandSHeadRun.topDef (OpenLaw.row PySem.Challenge.rw_claimshold_k70_letters).prog 13) (kwd := []) T_70.ob_eq
    (by kernel_rfl) (fun s => by kernel_rfl) T_70.run (by kernel_rfl) (by kernel_rfl) (by kernel_rfl) (by rfl) (by first | assumption | decide +kernel) (by decide +kernel) ⟨rfl, rfl, rfl, rfl, rfl, by decide +kernel⟩ ?hw ?hc
  case hw => w_witness2
  case hc =>
    refine TT.walk_ofG (l := PySem.Challenge.rw_claimshold_k70_letters) (n := 63) (k := 8) (x := "script") rfl (by decide) (by kernel_rfl) (by decide +kernel) ⟨rfl, by decide, by decide⟩ ?F
    intro w mg fa h Y G hmg0
    obtain ⟨K, KX, c⟩ := Y
    have hmg : mg ("law" : PySem.Str) = some (.ref fa) := by
      have e : (HandSHeadRun.topDef (OpenLaw.row PySem.Challenge.rw_claimshold_k70_letters).prog 13).name = ("law" : PySem.Str) := by kernel_rfl
      rw [← e]
      exact hmg0
    obtain ⟨X, hb⟩ := T_70.facts KX G c
    have e := hmg.symm.trans X.g10
    have e1 : fa = X.a10 := by
      injection e with e
      injection e
    subst e1
    exact ⟨K, X.f10, TT.spF K [] (TT.sem T_70.tab 8 10) [], KX, hb, fun H a ns hl _ hS => T_70.law_sp hS (T_70.pure_law ns hl), fun base _ _ hs => (T_70.prog X hs 8).2.2.2.2.2.2.2.2.2.2⟩

