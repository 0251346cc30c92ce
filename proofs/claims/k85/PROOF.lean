import PyProof.Rows.All
import Wide.All
import OpenK.AllK
import Wide.FinOn
import HandS.ForMost
import HandS.ForExc
import HandS.Defaults
import HandS.HeadHook2
import HandS.Flow
import HandS.TupAny
import HandS.CallSlots
import HandS.Zip
import HandS.ExcOwn
import HandS.Text
import HandS.Wide
import HandS.TupMul
import KE.DataEq
import KE.DataCmp
import KE.DataIsa
import KE.DataMinMax
import KE.SortCalls
import KE.SortData
import HandS.Strs
import KE.KExcInit
import KE.KExcIs
import HandS.ExcInit
import HandS.ExcField
import HandS.TryMany
import HandS.Iter
import HandS.TupLe
import HandS.SetFor
import HandS.Ends
import KE.KStateDown
import Open.SpecLaws
import HandS.Words
import HandS.WordsExc
import HandS.Head0
import HandS.Head1
import HandS.Head2
import HandS.HeadEnd
import KE.LtData
import PySem.Challenge.RW_grovesapart_k85_records_and_their_texts
set_option Elab.async false
set_option linter.all false
set_option maxRecDepth 100000
section
set_option maxHeartbeats 4000000
/-! ME: def bodies as functions over data. What an expression, a statement does is told by a function of abstract slots (data, lists of one's own, objects of a store) and of the store; each rule is shown once over the layer's. -/
namespace ME
open PySem PySem.Spec L2
open PyProof.Rows hiding St

abbrev D := PyData
/-- what stands in a store's object: data, or an object of the store -/
inductive WV where
  | d (x : D) | w (k : Nat)
/-- an object of the store: a list; an instance of the class named c; a list of ints that no one changes (the script) -/
inductive WO where
  | lst (xs : List WV) | ins (c : Str) (fs : List (Str × WV)) | frz (ns : List Int)
abbrev T := List WO
/-- a value: data; the list that slot i owns; the k-th object of the store; a new list that no one else holds -/
inductive Val where
  | d (x : D) | own (i : Nat) | w (k : Nat) | fl (l : List D)
/-- a slot: unknown; data; a list that no one else holds; an object of the store -/
inductive Sl where
  | un | d (x : D) | own (l : List D) | w (k : Nat) | exc (a : Addr) (d : Option Addr) (p : List (Str × D))
abbrev Rho := List Sl

/-! ### outcomes -/
inductive R (α : Type) where
  | ok (a : α) (ρ : Rho) (S : T)
  | exc (c : Str) (p : List (Str × D)) (ρ : Rho) (S : T)
  | bad
abbrev M (α : Type) := Rho → T → R α
def ret {α : Type} (a : α) : M α := fun ρ S => .ok a ρ S
def bad {α : Type} : M α := fun _ _ => .bad
def bind {α β : Type} (m : M α) (f : α → M β) : M β := fun ρ S => match m ρ S with
  | .ok a ρ' S' => f a ρ' S'
  | .exc c p ρ' S' => .exc c p ρ' S'
  | .bad => .bad

/-! ### what represents what -/
mutual
/-- data, told by F: its lists stand in F, its tuples in F or in the written part -/
inductive Dp (K : PySem.W.Frag) (F : Hp) : V → PyData → Prop
  | non : Dp K F .non .none
  | bl (b : Bool) : Dp K F (.bl b) (.bool b)
  | int (i : Int) : Dp K F (.int i) (.int i)
  | str (x : Str) : Dp K F (.str x) (.str x)
  | lst {a : Addr} {vs : List V} {ds : List PyData} : F a = some (.lst vs) → DpAll K F vs ds → Dp K F (.ref a) (.list ds)
  | tup {a : Addr} {vs : List V} {ds : List PyData} : SqT K F a vs → DpAll K F vs ds → Dp K F (.ref a) (.tuple ds)
inductive DpAll (K : PySem.W.Frag) (F : Hp) : List V → List PyData → Prop
  | nil : DpAll K F [] []
  | cons {v : V} {vs : List V} {d : PyData} {ds : List PyData} : Dp K F v d → DpAll K F vs ds → DpAll K F (v :: vs) (d :: ds)
end
mutual
theorem Dp.l2 {K : PySem.W.Frag} {F : Hp} : ∀ {v : V} (d : PyData), Dp K F v d → L2.Dp K F v d
  | _, .none, h => by cases h; exact .non
  | _, .bool _, h => by cases h; exact .bl _
  | _, .int _, h => by cases h; exact .int _
  | _, .str _, h => by cases h; exact .str _
  | _, .list ds, h => by
    cases h with
    | lst hs ha => exact .lst (.inl (.inl hs)) (DpAll.l2 ds ha)
  | _, .tuple ds, h => by
    cases h with
    | tup hs ha => exact .tup hs (DpAll.l2 ds ha)
  | _, .dict _, h => by cases h
theorem DpAll.l2 {K : PySem.W.Frag} {F : Hp} : ∀ {vs : List V} (ds : List PyData), DpAll K F vs ds → L2.DpAll K F vs ds
  | _, [], h => by cases h; exact .nil
  | _, d :: ds, h => by
    cases h with
    | cons h1 h2 => exact .cons (Dp.l2 d h1) (DpAll.l2 ds h2)
end
/-- a slot's own list stands at a -/
def OwnA (ρ : Rho) (σ : St) (a : Addr) : Prop := ∃ (i : Nat) (l : List D), ρ[i]? = some (.own l) ∧ σ[i]? = some (some (.ref a))
/-- an exception's fields, its dict at d -/
def XRep (K : PySem.W.Frag) (F : Hp) (d : Option Addr) (p : List (Str × D)) : Prop := (d = none ∧ p = []) ∨ ∃ a vs, d = some a ∧ F a = some (.xd vs) ∧ Paired (fun q r => q.1 = r.1 ∧ Dp K F q.2 r.2) vs p
section
variable (K : PySem.W.Frag)
def WvRep (F : Hp) (A : List Addr) (v : V) : WV → Prop
  | .d x => Dp K F v x
  | .w k => ∃ a, A[k]? = some a ∧ v = .ref a
def WoRep (F : Hp) (A : List Addr) (H : Hp) (a : Addr) : WO → Prop
  | .lst xs => ∃ vs, H a = some (.lst vs) ∧ Paired (WvRep K F A) vs xs
  | .frz ns => ∃ o, H a = some (.frz o (.lst (ns.map V.int)))
  | .ins c fs => ∃ dx vs, H a = some (.ins (He.ga K c) dx vs) ∧ Paired (fun p q => p.1 = q.1 ∧ WvRep K F A p.2 q.2) vs fs
def SlRep (F : Hp) (A : List Addr) (H : Hp) (o : Option (Option V)) : Sl → Prop
  | .un => True
  | .d x => ∃ v, o = some (some v) ∧ Dp K F v x
  | .w k => ∃ a, A[k]? = some a ∧ o = some (some (.ref a))
  | .own l => ∃ p vs, o = some (some (.ref p)) ∧ H p = some (.lst vs) ∧ F p = none ∧ p ∉ A ∧ DpAll K F vs l
  | .exc a d p => (o = none ∨ o = some (some (.ref a))) ∧ XRep K F d p
def VRep (Hs F : Hp) (A : List Addr) (ρ : Rho) (σ : St) (H : Hp) (x : V) : Val → Prop
  | .d y => Dp K F x y
  | .own i => σ[i]? = some (some x)
  | .w k => ∃ a, A[k]? = some a ∧ x = .ref a
  | .fl l => ∃ p vs, x = .ref p ∧ Hs p = none ∧ H p = some (.lst vs) ∧ F p = none ∧ p ∉ A ∧ ¬ OwnA ρ σ p ∧ DpAll K F vs l
/-- F: what stays as it is; A: where the store's objects stand -/
structure ASF (F : Hp) (A : List Addr) (ρ : Rho) (S : T) (σ : St) (H : Hp) : Prop where
  sub : ∀ a o, F a = some o → H a = some o
  aw : ∀ a ∈ A, F a = none
  nd : A.Nodup
  st : Paired (WoRep K F A H) A S
  sl : ∀ (i : Nat) (s : Sl), ρ[i]? = some s → SlRep K F A H σ[i]? s
  ow : ∀ (i j : Nat) (l l' : List D), ρ[i]? = some (.own l) → ρ[j]? = some (.own l') → σ[i]? = σ[j]? → i = j
end
/-- how things may have gone on -/
structure Ev (F : Hp) (A : List Addr) (ρ : Rho) (σ : St) (H : Hp) (F' : Hp) (A' : List Addr) (ρ' : Rho) (σ' : St) (H' : Hp) : Prop where
  ff : ∀ a o, F a = some o → F' a = some o
  fn : ∀ a, F a = none → F' a ≠ none → H a = none ∨ OwnA ρ σ a
  aa : ∃ B, A' = A ++ B ∧ ∀ a ∈ B, H a = none
  fr : ∀ a o, H a = some o → ¬ OwnA ρ σ a → a ∉ A → H' a = some o
  lv : ∀ a, H a ≠ none → H' a ≠ none
  ow : ∀ a, OwnA ρ' σ' a → OwnA ρ σ a ∨ H a = none

section
variable {K : PySem.W.Frag} {F F1 F2 F3 : Hp} {A A1 A2 A3 : List Addr} {ρ ρ1 ρ2 ρ3 : Rho} {S S1 : T} {σ σ1 σ2 σ3 : St} {H H1 H2 H3 : Hp}
theorem Ev.refl : Ev F A ρ σ H F A ρ σ H := ⟨fun _ _ h => h, fun _ h h' => absurd h h', ⟨[], by simp, by simp⟩, fun _ _ h _ _ => h, fun _ h => h, fun _ h => .inl h⟩
theorem Ev.none (e : Ev F A ρ σ H F1 A1 ρ1 σ1 H1) {a : Addr} (h : H1 a = none) : H a = none := by
  cases q : H a with
  | none => rfl
  | some o => exact absurd h (e.lv a (by rw [q]; simp))
theorem Ev.trans (e : Ev F A ρ σ H F1 A1 ρ1 σ1 H1) (g : Ev F1 A1 ρ1 σ1 H1 F2 A2 ρ2 σ2 H2) : Ev F A ρ σ H F2 A2 ρ2 σ2 H2 where
  ff a o h := g.ff a o (e.ff a o h)
  fn a h h2 := by
    by_cases h1 : F1 a = Option.none
    · rcases g.fn a h1 h2 with n | o
      · exact .inl (e.none n)
      · rcases e.ow a o with z | z
        · exact .inr z
        · exact .inl z
    · exact e.fn a h h1
  aa := by
    obtain ⟨B, e1, n1⟩ := e.aa
    obtain ⟨B', e2, n2⟩ := g.aa
    refine ⟨B ++ B', by rw [e2, e1, List.append_assoc], fun a h => ?_⟩
    rcases List.mem_append.mp h with h | h
    · exact n1 a h
    · exact e.none (n2 a h)
  fr a o h no na := by
    refine g.fr a o (e.fr a o h no na) (fun z => ?_) (fun z => ?_)
    · rcases e.ow a z with z | z
      · exact no z
      · rw [h] at z; cases z
    · obtain ⟨B, e1, n1⟩ := e.aa
      rw [e1] at z
      rcases List.mem_append.mp z with z | z
      · exact na z
      · have := n1 a z
        rw [h] at this; cases this
  lv a h := g.lv a (e.lv a h)
  ow a h := by
    rcases g.ow a h with z | z
    · exact e.ow a z
    · exact .inr (e.none z)
mutual
theorem Dp.up (f : ∀ a o, F a = some o → F1 a = some o) : ∀ (x : D) (v : V), Dp K F v x → Dp K F1 v x
  | .none, _, h => by cases h; exact .non
  | .bool b, _, h => by cases h; exact .bl b
  | .int i, _, h => by cases h; exact .int i
  | .str x, _, h => by cases h; exact .str x
  | .list ds, _, h => by
    cases h with
    | lst hs ha => exact .lst (f _ _ hs) (DpAll.up f ds _ ha)
  | .tuple ds, _, h => by
    cases h with
    | tup hs ha => exact .tup (hs.imp (fun r => r.imp (f _ _) fun ⟨o, r⟩ => ⟨o, f _ _ r⟩) id) (DpAll.up f ds _ ha)
  | .dict _, _, h => by cases h
theorem DpAll.up (f : ∀ a o, F a = some o → F1 a = some o) : ∀ (xs : List D) (vs : List V), DpAll K F vs xs → DpAll K F1 vs xs
  | [], _, h => by cases h; exact .nil
  | x :: xs, _, h => by
    cases h with
    | cons h1 h2 => exact .cons (Dp.up f x _ h1) (DpAll.up f xs _ h2)
end
theorem WvRep.up (f : ∀ a o, F a = some o → F1 a = some o) (g : ∃ B, A1 = A ++ B) {v : V} {x : WV} (h : WvRep K F A v x) : WvRep K F1 A1 v x := by
  cases x with
  | d y => exact Dp.up f y v h
  | w k =>
    obtain ⟨a, h1, h2⟩ := h
    obtain ⟨B, e⟩ := g
    refine ⟨a, ?_, h2⟩
    rw [e, List.getElem?_append_left]
    · exact h1
    · exact (List.getElem?_eq_some_iff.mp h1).1
theorem WoRep.up (f : ∀ a o, F a = some o → F1 a = some o) (g : ∃ B, A1 = A ++ B) {a : Addr} {o : WO} (e : H1 a = H a) (h : WoRep K F A H a o) : WoRep K F1 A1 H1 a o := by
  cases o with
  | lst xs =>
    obtain ⟨vs, h1, h2⟩ := h
    exact ⟨vs, by rw [e]; exact h1, L2.Paired.mapP h2 fun _ _ z => z.up f g⟩
  | frz ns =>
    obtain ⟨u, h1⟩ := h
    exact ⟨u, by rw [e]; exact h1⟩
  | ins c fs =>
    obtain ⟨dx, vs, h1, h2⟩ := h
    exact ⟨dx, vs, by rw [e]; exact h1, L2.Paired.mapP h2 fun _ _ z => ⟨z.1, z.2.up f g⟩⟩
theorem WoRep.there {a : Addr} {o : WO} (h : WoRep K F A H a o) : H a ≠ none := by
  cases o with
  | lst xs =>
    obtain ⟨vs, h1, h2⟩ := h
    rw [h1]; simp
  | frz ns =>
    obtain ⟨u, h1⟩ := h
    rw [h1]; simp
  | ins c fs =>
    obtain ⟨dx, vs, h1, h2⟩ := h
    rw [h1]; simp
theorem VRep.up (e : Ev F A ρ σ H F1 A1 ρ1 σ1 H1) {Hs : Hp} {x : V} {v : Val} (h : VRep K Hs F A ρ σ H x v) (es : σ1 = σ) : VRep K Hs F1 A1 ρ1 σ1 H1 x v := by
  subst es
  cases v with
  | fl l =>
    obtain ⟨p, vs, h1, h0, h2, h3, h4, h5, h6⟩ := h
    refine ⟨p, vs, h1, h0, e.fr p _ h2 h5 h4, ?_, fun z => ?_, fun z => ?_, DpAll.up e.ff l vs h6⟩
    · cases q : F1 p with
      | none => rfl
      | some o =>
        rcases e.fn p h3 (by rw [q]; simp) with z | z
        · rw [h2] at z
          cases z
        · exact absurd z h5
    · obtain ⟨B, e1, n1⟩ := e.aa
      rw [e1] at z
      rcases List.mem_append.mp z with z | z
      · exact h4 z
      · have z := n1 p z
        rw [h2] at z
        cases z
    · rcases e.ow p z with z | z
      · exact h5 z
      · rw [h2] at z
        cases z
  | d y => exact Dp.up e.ff y x h
  | own i => exact h
  | w k =>
    obtain ⟨a, h1, h2⟩ := h
    obtain ⟨B, e, _⟩ := e.aa
    refine ⟨a, ?_, h2⟩
    rw [e, List.getElem?_append_left]
    · exact h1
    · exact (List.getElem?_eq_some_iff.mp h1).1
theorem VRep.back (e : Ev F A ρ σ H F1 A1 ρ1 σ1 H1) {F2 : Hp} {A2 : List Addr} {ρ2 : Rho} {σ2 : St} {H2 : Hp} {x : V} {v : Val} (h : VRep K H1 F2 A2 ρ2 σ2 H2 x v) : VRep K H F2 A2 ρ2 σ2 H2 x v := by
  cases v with
  | d y => exact h
  | own i => exact h
  | w k => exact h
  | fl l =>
    obtain ⟨p, vs, h1, h0, h2⟩ := h
    exact ⟨p, vs, h1, e.none h0, h2⟩
theorem Paired.get {α β : Type} {f : α → β → Prop} : ∀ {l : List α} {m : List β} {i : Nat} {a : α}, Paired f l m → l[i]? = some a → ∃ b, m[i]? = some b ∧ f a b
  | _, _, _, _, .nil, h => by simp at h
  | _, _, 0, a, .cons (b := b) r _, h => by
    rw [List.getElem?_cons_zero, Option.some.injEq] at h
    subst h
    exact ⟨b, rfl, r⟩
  | _, _, i + 1, a, .cons _ t, h => by simpa using Paired.get (i := i) t (by simpa using h)
theorem Paired.get' {α β : Type} {f : α → β → Prop} : ∀ {l : List α} {m : List β} {i : Nat} {b : β}, Paired f l m → m[i]? = some b → ∃ a, l[i]? = some a ∧ f a b
  | _, _, _, _, .nil, h => by simp at h
  | _, _, 0, b, .cons (a := a) r _, h => by
    rw [List.getElem?_cons_zero, Option.some.injEq] at h
    subst h
    exact ⟨a, rfl, r⟩
  | _, _, i + 1, b, .cons _ t, h => by simpa using Paired.get' (i := i) t (by simpa using h)
theorem ASF.world (as : ASF K F A ρ S σ H) {a : Addr} (h : a ∈ A) : H a ≠ none := by
  obtain ⟨i, hi⟩ := List.getElem?_of_mem h
  obtain ⟨o, _, r⟩ := Paired.get as.st hi
  exact r.there
/-- only new objects; F1 tells some of them -/
structure New (F H F1 H1 : Hp) : Prop where
  ff : ∀ a o, F a = some o → F1 a = some o
  hh : ∀ a o, H a = some o → H1 a = some o
  fn : ∀ a, F a = none → F1 a ≠ none → H a = none
  sub : ∀ a o, F1 a = some o → H1 a = some o
theorem New.refl (s : ∀ a o, F a = some o → H a = some o) : New F H F H := ⟨fun _ _ h => h, fun _ _ h => h, fun _ h h' => absurd h h', s⟩
theorem New.trans (n : New F H F1 H1) (m : New F1 H1 F2 H2) : New F H F2 H2 where
  ff a o h := m.ff a o (n.ff a o h)
  hh a o h := m.hh a o (n.hh a o h)
  fn a h h2 := by
    by_cases h1 : F1 a = none
    · have z := m.fn a h1 h2
      cases q : H a with
      | none => rfl
      | some o =>
        rw [n.hh a o q] at z
        cases z
    · exact n.fn a h h1
  sub := m.sub
/-- one new object, told or not -/
theorem New.one {p : Addr} {o : HO} (s : ∀ a o, F a = some o → H a = some o) (n : H p = none) : New F H (upd F p o) (upd H p o) where
  ff a u h := by
    rw [upd_ne]
    · exact h
    · rintro rfl
      rw [s _ _ h] at n
      cases n
  hh a u h := by
    rw [upd_ne (ne_of_none h n)]
    exact h
  fn a h h1 := by
    by_cases e : a = p
    · rw [e]; exact n
    · rw [upd_ne e] at h1
      exact absurd h h1
  sub a u h := by
    by_cases e : a = p
    · subst e
      rw [upd_same] at h ⊢
      exact h
    · rw [upd_ne e] at h ⊢
      exact s _ _ h
theorem New.own {p : Addr} {o : HO} (s : ∀ a o, F a = some o → H a = some o) (n : H p = none) : New F H F (upd H p o) where
  ff a u h := h
  hh a u h := by
    rw [upd_ne (ne_of_none h n)]
    exact h
  fn a h h1 := absurd h h1
  sub a u h := by
    rw [upd_ne (ne_of_none (s _ _ h) n)]
    exact s _ _ h
theorem XRep.up (f : ∀ a o, F a = some o → F1 a = some o) {d : Option Addr} {p : List (Str × D)} (h : XRep K F d p) : XRep K F1 d p := by
  rcases h with h | ⟨a, vs, h1, h2, h3⟩
  · exact .inl h
  · exact .inr ⟨a, vs, h1, f _ _ h2, L2.Paired.mapP h3 fun _ _ z => ⟨z.1, Dp.up f _ _ z.2⟩⟩
theorem SlRep.up (f : ∀ a o, F a = some o → F1 a = some o) (g : ∃ B, A1 = A ++ B) {o : Option (Option V)} {s : Sl} (h : SlRep K F A H o s)
    (k : ∀ p vs l, s = .own l → o = some (some (.ref p)) → H p = some (.lst vs) → F p = none → p ∉ A → H1 p = some (.lst vs) ∧ F1 p = none ∧ p ∉ A1) : SlRep K F1 A1 H1 o s := by
  cases s with
  | un => trivial
  | d x =>
    obtain ⟨v, h1, h2⟩ := h
    exact ⟨v, h1, Dp.up f x v h2⟩
  | w j =>
    obtain ⟨a, h1, h2⟩ := h
    obtain ⟨B, e⟩ := g
    refine ⟨a, ?_, h2⟩
    rw [e, List.getElem?_append_left]
    · exact h1
    · exact (List.getElem?_eq_some_iff.mp h1).1
  | own l =>
    obtain ⟨p, vs, h1, h2, h3, h4, h5⟩ := h
    obtain ⟨k1, k2, k3⟩ := k p vs l rfl h1 h2 h3 h4
    exact ⟨p, vs, h1, k1, k2, k3, DpAll.up f l vs h5⟩
  | exc a d p => exact ⟨h.1, h.2.up f⟩
theorem ASF.new (as : ASF K F A ρ S σ H) (n : New F H F1 H1) : ASF K F1 A ρ S σ H1 where
  sub := n.sub
  aw a h := by
    cases q : F1 a with
    | none => rfl
    | some o =>
      have z := n.fn a (as.aw a h) (by rw [q]; simp)
      exact absurd z (as.world h)
  nd := as.nd
  st := L2.Paired.mapP as.st fun a o h => h.up n.ff ⟨[], by simp⟩ (by
    cases q : H a with
    | none => exact absurd q h.there
    | some u => exact n.hh a u q)
  sl i s h := (as.sl i s h).up n.ff ⟨[], by simp⟩ fun p vs l e e1 e2 e3 e4 => by
    refine ⟨n.hh p _ e2, ?_, e4⟩
    cases q : F1 p with
    | none => rfl
    | some o =>
      have z := n.fn p e3 (by rw [q]; simp)
      rw [e2] at z
      cases z
  ow := as.ow
theorem New.ev (n : New F H F1 H1) : Ev F A ρ σ H F1 A ρ σ H1 where
  ff := n.ff
  fn a h h1 := .inl (n.fn a h h1)
  aa := ⟨[], by simp, by simp⟩
  fr a o h _ _ := n.hh a o h
  lv a h := by
    cases q : H a with
    | none => exact absurd q h
    | some o => rw [n.hh a o q]; simp
  ow a h := .inl h
end
end ME
end

section
set_option maxHeartbeats 4000000
namespace ME
open PySem PySem.Spec L2
open PyProof.Rows hiding St

/-- an exception of the module's class c, with the fields p -/
def ERep (K : PySem.W.Frag) (F _H : Hp) (c : Str) (p : List (Str × D)) (cls : Value) (d : Option Addr) : Prop := cls = .ref (He.ga K c) ∧ XRep K F d p

abbrev Rel (α β : Type) := Hp → Hp → List Addr → Rho → St → Hp → β → α → Prop
/-- what is new behind a later start is new behind an earlier one -/
class Back {α β : Type} (rel : Rel α β) : Prop where
  back : ∀ {F A ρ σ H F1 A1 ρ1 σ1 H1 F2 A2 ρ2 σ2 H2 b a}, Ev F A ρ σ H F1 A1 ρ1 σ1 H1 → rel H1 F2 A2 ρ2 σ2 H2 b a → rel H F2 A2 ρ2 σ2 H2 b a
/-- what must hold so that behind an outcome Q does -/
def Post {α β : Type} (K : PySem.W.Frag) (W : WX) (rel : Rel α β) (r : R α) (F : Hp) (A : List Addr) (ρ : Rho) (σ : St) (H : Hp) (Q : β → Hp → Prop) : Prop := match r with
  | .ok a ρ' S' => ∀ F' A' b H', Ev F A ρ σ H F' A' ρ' σ H' → ASF K F' A' ρ' S' σ H' → rel H F' A' ρ' σ H' b a → Q b H'
  | .exc c p ρ' S' => ∀ F' A' cls d H', Ev F A ρ σ H F' A' ρ' σ H' → ASF K F' A' ρ' S' σ H' → ERep K F' H' c p cls d → W cls d σ H'
  | .bad => False
def rVal (K : PySem.W.Frag) : Rel Val V := fun Hs F A ρ σ H x v => VRep K Hs F A ρ σ H x v
instance {K : PySem.W.Frag} : Back (rVal K) := ⟨fun e h => VRep.back e h⟩
def rVals (K : PySem.W.Frag) : Rel (List Val) (List V) := fun Hs F A ρ σ H xs vs => Paired (VRep K Hs F A ρ σ H) xs vs
instance {K : PySem.W.Frag} : Back (rVals K) := ⟨fun e h => L2.Paired.mapP h fun _ _ z => VRep.back e z⟩
def rBool : Rel Bool Bool := fun _ _ _ _ _ _ b a => b = a
instance : Back rBool := ⟨fun _ h => h⟩

section
variable {K : PySem.W.Frag} {W : WX} {F F1 F2 F3 : Hp} {A A1 A2 A3 : List Addr} {ρ ρ1 ρ2 ρ3 : Rho} {S S1 : T} {σ σ1 σ2 σ3 : St} {H H1 H2 H3 : Hp}
variable {F0 H0 : Hp} {A0 : List Addr} {ρ0 : Rho} {σ0 : St}
theorem Post.bind {α α' β β' : Type} {rel : Rel α β} {rel' : Rel α' β'} {m : M α} {f : α → M α'} {Q : β' → Hp → Prop} {Q1 : β → Hp → Prop}
    (h : Post K W rel' (bind m f ρ S) F0 A0 ρ0 σ H0 Q) (ev0 : Ev F0 A0 ρ0 σ H0 F A ρ σ H)
    (g : ∀ a ρ1 S1 F1 A1 b H1, m ρ S = .ok a ρ1 S1 → Ev F A ρ σ H F1 A1 ρ1 σ H1 → Ev F0 A0 ρ0 σ H0 F1 A1 ρ1 σ H1 → ASF K F1 A1 ρ1 S1 σ H1 → rel H F1 A1 ρ1 σ H1 b a → Post K W rel' (f a ρ1 S1) F0 A0 ρ0 σ H0 Q → Q1 b H1) : Post K W rel (m ρ S) F A ρ σ H Q1 := by
  unfold ME.bind at h
  cases e : m ρ S with
  | ok a ρ1 S1 =>
    rw [e] at h
    intro F1 A1 b H1 ev as r
    exact g a ρ1 S1 F1 A1 b H1 e ev (ev0.trans ev) as r h
  | exc c p ρ1 S1 =>
    rw [e] at h
    intro F1 A1 cls d H1 ev as r
    exact h F1 A1 cls d H1 (ev0.trans ev) as r
  | bad =>
    rw [e] at h
    exact h
/-- an outcome at once -/
theorem Post.now {α β : Type} {rel : Rel α β} {a : α} {b : β} {Q : β → Hp → Prop} (h : Post K W rel (.ok a ρ S) F0 A0 ρ0 σ H0 Q) (ev0 : Ev F0 A0 ρ0 σ H0 F A ρ σ H) (as : ASF K F A ρ S σ H) (r : rel H0 F A ρ σ H b a) : Q b H :=
  h F A b H ev0 as r
theorem Post.mono {α β : Type} {rel : Rel α β} {r : R α} {Q Q' : β → Hp → Prop} (h : Post K W rel r F A ρ σ H Q) (g : ∀ b H, Q b H → Q' b H) : Post K W rel r F A ρ σ H Q' := by
  cases r with
  | ok a ρ' S' => exact fun F' A' b H' e as q => g _ _ (h F' A' b H' e as q)
  | exc c p ρ' S' => exact h
  | bad => exact h
/-- deref: the data that a value is just now -/
def dr (ρ : Rho) : Val → Option D
  | .d x => some x
  | .own i => match ρ[i]? with
    | some (.own l) => some (.list l)
    | some (.d x) => some x
    | _ => none
  | .w _ => none
  | .fl l => some (.list l)
/-- the data, told by what stays, or a list of one's own -/
def DrR (K : PySem.W.Frag) (F H : Hp) (v : V) (x : D) : Prop := Dp K F v x ∨ ∃ p vs l, v = .ref p ∧ H p = some (.lst vs) ∧ DpAll K F vs l ∧ x = .list l
theorem Dp.frz {v : V} {x : D} {a : Addr} (as : ASF K F A ρ S σ H) (h : Dp K F v x) : Dp K H v x := Dp.up as.sub x v h
theorem DpAll.frz {v : List V} {x : List D} (s : ∀ a o, F a = some o → H a = some o) (h : DpAll K F v x) : DpAll K H v x := DpAll.up s x v h
theorem DrR.now {v : V} {x : D} (s : ∀ a o, F a = some o → H a = some o) (h : DrR K F H v x) : Dp K H v x := by
  rcases h with h | ⟨p, vs, l, rfl, h1, h2, rfl⟩
  · exact Dp.up s x v h
  · exact .lst h1 (DpAll.up s l vs h2)
theorem dr_rep {v : V} {x : D} {a : Val} (as : ASF K F A ρ S σ H) {Hs : Hp} (r : VRep K Hs F A ρ σ H v a) (h : dr ρ a = some x) : DrR K F H v x := by
  cases a with
  | d y =>
    have e : y = x := Option.some.inj h
    subst e
    exact .inl r
  | w k => cases h
  | fl l =>
    have e : PyData.list l = x := Option.some.inj h
    subst e
    obtain ⟨p, vs, h1, _, h2, h3, h4, h5, h6⟩ := r
    exact .inr ⟨p, vs, l, h1, h2, h6, rfl⟩
  | own i =>
    have h' : (match ρ[i]? with
      | some (.own l) => some (.list l)
      | some (.d x) => some x
      | _ => none) = some x := h
    have r : σ[i]? = some (some v) := r
    cases q : ρ[i]? with
    | none => rw [q] at h'; cases h'
    | some s =>
      have z := as.sl i s q
      rw [q] at h'
      cases s with
      | un => cases h'
      | w k => cases h'
      | exc _ _ _ => cases h'
      | d y =>
        have e : y = x := Option.some.inj h'
        subst e
        obtain ⟨u, h1, h2⟩ := z
        rw [r] at h1
        cases h1
        exact .inl h2
      | own l =>
        have e : PyData.list l = x := Option.some.inj h'
        subst e
        obtain ⟨p, vs, h1, h2, h3, h4, h5⟩ := z
        rw [r] at h1
        cases h1
        exact .inr ⟨p, vs, l, rfl, h2, h5, rfl⟩
/-- freeze: from now on the data stays -/
def fzv (v : Val) (ρ : Rho) : Option (Val × Rho) := match v with
  | .d x => some (.d x, ρ)
  | .w k => some (.w k, ρ)
  | .fl l => some (.d (.list l), ρ)
  | .own i => match ρ[i]? with
    | some (.own l) => some (.d (.list l), ρ.set i (.d (.list l)))
    | some (.d x) => some (.d x, ρ)
    | _ => none
def fz (v : Val) : M Val := fun ρ S => match fzv v ρ with
  | some (v', ρ') => .ok v' ρ' S
  | none => .bad
theorem fz_ok {v : V} {a a' : Val} {ρ' : Rho} (ev0 : Ev F1 A1 ρ1 σ1 H1 F A ρ σ H) (as : ASF K F A ρ S σ H) (r : VRep K H1 F A ρ σ H v a) (h : fzv a ρ = some (a', ρ')) : ∃ F', Ev F1 A1 ρ1 σ1 H1 F' A ρ' σ H ∧ ASF K F' A ρ' S σ H ∧ VRep K H F' A ρ' σ H v a' := by
  cases a with
  | d x => cases h; exact ⟨F, ev0, as, r⟩
  | w k => cases h; exact ⟨F, ev0, as, r⟩
  | fl l =>
    cases h
    obtain ⟨p, vs, rfl, h0, h2, h3, h4, h5, h6⟩ := r
    have ff : ∀ a o, F a = some o → upd F p (.lst vs) a = some o := fun a o e => by
      rw [upd_ne (ne_of_none e h3)]
      exact e
    have sub : ∀ a o, upd F p (.lst vs) a = some o → H a = some o := fun a o e => by
      by_cases ea : a = p
      · subst ea
        rw [upd_same] at e
        rw [h2]; exact e
      · rw [upd_ne ea] at e
        exact as.sub _ _ e
    have dl : Dp K (upd F p (.lst vs)) (.ref p) (.list l) := .lst upd_same (DpAll.up ff l vs h6)
    refine ⟨upd F p (.lst vs), ?_, ⟨sub, fun a ha => ?_, as.nd, ?_, fun j s e => ?_, as.ow⟩, dl⟩
    · refine ⟨fun a o e => ff a o (ev0.ff a o e), fun a n n1 => ?_, ev0.aa, ev0.fr, ev0.lv, ev0.ow⟩
      by_cases ea : a = p
      · rw [ea]; exact .inl h0
      · rw [upd_ne ea] at n1
        exact ev0.fn a n n1
    · rw [upd_ne (show a ≠ p from fun z => h4 (by rw [← z]; exact ha))]
      exact as.aw a ha
    · exact L2.Paired.mapP as.st fun a o h => h.up ff ⟨[], by simp⟩ rfl
    · refine (as.sl j s e).up ff ⟨[], by simp⟩ fun p' vs' l' es e1 e2 e3 e4 => ⟨e2, ?_, e4⟩
      subst es
      rw [upd_ne]
      · exact e3
      · rintro rfl
        exact h5 ⟨j, l', e, e1⟩
  | own i =>
    have h : (match ρ[i]? with
      | some (.own l) => some (Val.d (.list l), ρ.set i (.d (.list l)))
      | some (.d x) => some (Val.d x, ρ)
      | _ => none) = some (a', ρ') := h
    have r : σ[i]? = some (some v) := r
    cases q : ρ[i]? with
    | none => rw [q] at h; cases h
    | some s =>
      have z := as.sl i s q
      rw [q] at h
      cases s with
      | un => cases h
      | w k => cases h
      | exc _ _ _ => cases h
      | d y =>
        cases h
        obtain ⟨u, h1, h2⟩ := z
        rw [r] at h1
        cases h1
        exact ⟨F, ev0, as, h2⟩
      | own l =>
        cases h
        obtain ⟨p, vs, h1, h2, h3, h4, h5⟩ := z
        rw [r] at h1
        cases h1
        have hi : i < ρ.length := (List.getElem?_eq_some_iff.mp q).1
        have ff : ∀ a o, F a = some o → upd F p (.lst vs) a = some o := fun a o e => by
          rw [upd_ne (ne_of_none e h3)]
          exact e
        have sub : ∀ a o, upd F p (.lst vs) a = some o → H a = some o := fun a o e => by
          by_cases ea : a = p
          · subst ea
            rw [upd_same] at e
            rw [h2]; exact e
          · rw [upd_ne ea] at e
            exact as.sub _ _ e
        have dl : Dp K (upd F p (.lst vs)) (.ref p) (.list l) := .lst upd_same (DpAll.up ff l vs h5)
        refine ⟨upd F p (.lst vs), ev0.trans ⟨ff, fun a n n1 => ?_, ⟨[], by simp, by simp⟩, fun _ _ e _ _ => e, fun _ e => e, fun a e => ?_⟩, ⟨sub, fun a ha => ?_, as.nd, ?_, fun j s e => ?_, fun j k l1 l2 e1 e2 e3 => ?_⟩, dl⟩
        · by_cases ea : a = p
          · subst ea
            exact .inr ⟨i, l, q, r⟩
          · rw [upd_ne ea] at n1
            exact absurd n n1
        · obtain ⟨j, l1, e1, e2⟩ := e
          by_cases ej : j = i
          · subst ej
            rw [List.getElem?_set_self hi] at e1
            cases e1
          · rw [List.getElem?_set_ne (Ne.symm ej)] at e1
            exact .inl ⟨j, l1, e1, e2⟩
        · rw [upd_ne (show a ≠ p from fun z => h4 (by rw [← z]; exact ha))]
          exact as.aw a ha
        · exact L2.Paired.mapP as.st fun a o h => h.up ff ⟨[], by simp⟩ rfl
        · by_cases ej : j = i
          · subst ej
            rw [List.getElem?_set_self hi] at e
            cases e
            exact ⟨_, r, dl⟩
          · rw [List.getElem?_set_ne (Ne.symm ej)] at e
            refine (as.sl j s e).up ff ⟨[], by simp⟩ fun p' vs' l' es e1 e2 e3 e4 => ⟨e2, ?_, e4⟩
            subst es
            rw [upd_ne]
            · exact e3
            · rintro rfl
              exact ej (as.ow j i _ _ e q (e1.trans r.symm))
        · by_cases ej : j = i
          · subst ej
            rw [List.getElem?_set_self hi] at e1
            cases e1
          · by_cases ek : k = i
            · subst ek
              rw [List.getElem?_set_self hi] at e2
              cases e2
            · rw [List.getElem?_set_ne (Ne.symm ej)] at e1
              rw [List.getElem?_set_ne (Ne.symm ek)] at e2
              exact as.ow j k l1 l2 e1 e2 e3
end

section
variable {K : PySem.W.Frag} {W : WX} {F : Hp} {A : List Addr} {ρ : Rho} {S : T} {σ : St} {H : Hp}
theorem Post.fz {m : M Val} {Q : V → Hp → Prop} (q : Post K W (rVal K) (ME.bind m ME.fz ρ S) F A ρ σ H Q) : Post K W (rVal K) (m ρ S) F A ρ σ H Q := by
  unfold ME.bind at q
  cases e : m ρ S with
  | bad => rw [e] at q; exact q
  | exc c p ρ1 S1 => rw [e] at q; exact q
  | ok a ρ1 S1 =>
    rw [e] at q
    intro F1 A1 x H1 ev as r
    have q : Post K W (rVal K) (ME.fz a ρ1 S1) F A ρ σ H Q := q
    unfold ME.fz at q
    cases z : fzv a ρ1 with
    | none => rw [z] at q; exact q.elim
    | some p =>
      obtain ⟨a', ρ'⟩ := p
      rw [z] at q
      obtain ⟨F', ev', as', r'⟩ := fz_ok ev as r z
      exact q F' A1 x H1 ev' as' (VRep.back ev r')
end

/-! ### the judgements -/
def tE (K : PySem.W.Frag) (W : WX) (m : M Val) : TE := fun σ H Q => ∃ F A ρ S, ASF K F A ρ S σ H ∧ Post K W (rVal K) (m ρ S) F A ρ σ H Q
def tA (K : PySem.W.Frag) (W : WX) (m : M (List Val)) : TA := fun σ H Q => ∃ F A ρ S, ASF K F A ρ S σ H ∧ Post K W (rVals K) (m ρ S) F A ρ σ H Q
def tT (K : PySem.W.Frag) (W : WX) (m : M Bool) : TT := fun σ H Q => ∃ F A ρ S, ASF K F A ρ S σ H ∧ Post K W rBool (m ρ S) F A ρ σ H Q
section
variable {X : Cx} {W : WX} {e e1 e2 : Expr}
def ME (X : Cx) (W : WX) (e : Expr) (m : M Val) : Prop := PE X e (tE X.K W m)
def MA (X : Cx) (W : WX) (es : List Expr) (m : M (List Val)) : Prop := PA X es (tA X.K W m)
def MT (X : Cx) (W : WX) (e : Expr) (m : M Bool) : Prop := PT X e (tT X.K W m)
theorem PE.weak {t t' : TE} (h : PE X e t) (g : ∀ pins σ H s Q, Inv X pins σ H s → t' σ H Q → t σ H Q) : PE X e t' := ⟨fun pins s σ H Q I q => h.run pins s σ H Q I (g pins σ H s Q I q)⟩
theorem PA.weak {es : List Expr} {t t' : TA} (h : PA X es t) (g : ∀ pins σ H s Q, Inv X pins σ H s → t' σ H Q → t σ H Q) : PA X es t' := ⟨fun pos pins s σ H Q I q => h.run pos pins s σ H Q I (g pins σ H s Q I q)⟩
theorem PT.weak {t t' : TT} (h : PT X e t) (g : ∀ pins σ H s Q, Inv X pins σ H s → t' σ H Q → t σ H Q) : PT X e t' := ⟨fun pins s σ H Q I q => h.run pins s σ H Q I (g pins σ H s Q I q)⟩
theorem PW.weak {t t' : TT} (h : PW X e t) (g : ∀ pins σ H s Q, Inv X pins σ H s → t' σ H Q → t σ H Q) : PW X e t' := ⟨fun whole pins s σ H Q I q => h.run whole pins s σ H Q I (g pins σ H s Q I q)⟩
theorem me_fz {m : M Val} (h : ME X W e m) : ME X W e (bind m fz) := by
  refine PE.weak h fun pins σ H s Q I q => ?_
  obtain ⟨F, A, ρ, S, as, q⟩ := q
  exact ⟨F, A, ρ, S, as, Post.fz q⟩
/-! names, constants -/
def mVar (i : Nat) : M Val := fun ρ S => match ρ[i]? with
  | some (.d x) => .ok (.d x) ρ S
  | some (.own _) => .ok (.own i) ρ S
  | some (.w k) => .ok (.w k) ρ S
  | _ => .bad
theorem me_var {i : Nat} (h : PE X e (tVar i)) : ME X W e (mVar i) := by
  refine PE.weak h fun pins σ H s Q I q => ?_
  obtain ⟨F, A, ρ, S, as, q⟩ := q
  unfold mVar at q
  cases z : ρ[i]? with
  | none => rw [z] at q; exact q.elim
  | some sl =>
    rw [z] at q
    have r := as.sl i sl z
    cases sl with
    | un => exact q.elim
    | exc _ _ _ => exact q.elim
    | d x =>
      obtain ⟨v, h1, h2⟩ := r
      exact ⟨v, h1, q.now Ev.refl as h2⟩
    | own l =>
      obtain ⟨p, vs, h1, h2⟩ := r
      exact ⟨_, h1, q.now Ev.refl as (show σ[i]? = some (some (.ref p)) from h1)⟩
    | w k =>
      obtain ⟨a, h1, h2⟩ := r
      exact ⟨_, h2, q.now Ev.refl as ⟨a, h1, rfl⟩⟩
def mC (x : D) : M Val := ret (.d x)
theorem me_con {v : V} {x : D} (h : PE X e (tC v)) (r : ∀ F, Dp X.K F v x) : ME X W e (mC x) := by
  refine PE.weak h fun pins σ H s Q I q => ?_
  obtain ⟨F, A, ρ, S, as, q⟩ := q
  exact q.now Ev.refl as (r F)
/-! arguments: each frozen at once -/
def mNil : M (List Val) := ret []
def mCons (m : M Val) (r : M (List Val)) : M (List Val) := bind (bind m fz) fun v => bind r fun vs => ret (v :: vs)
theorem ma_nil : MA X W [] mNil := by
  refine PA.weak pa_nil fun pins σ H s Q I q => ?_
  obtain ⟨F, A, ρ, S, as, q⟩ := q
  exact q.now Ev.refl as .nil
theorem fz_not {v : Val} {ρ ρ' : Rho} {a : Val} (h : fzv v ρ = some (a, ρ')) (i : Nat) : a ≠ .own i := by
  cases v with
  | fl l => cases h; simp
  | d x => cases h; simp
  | w k => cases h; simp
  | own j =>
    unfold fzv at h
    dsimp only at h
    split at h
    · cases h; simp
    · cases h; simp
    · cases h
theorem ma_cons {m : M Val} {r : M (List Val)} {es : List Expr} (he : ME X W e m) (hr : MA X W es r) (hs : starEach (e :: es) X.env = (false, eval e X.env) :: starEach es X.env := by rfl) : MA X W (e :: es) (mCons m r) := by
  refine PA.weak (pa_cons (me_fz he) hr hs) fun pins σ H s Q I q => ?_
  obtain ⟨F, A, ρ, S, as, q⟩ := q
  refine ⟨F, A, ρ, S, as, q.bind Ev.refl fun a ρ1 S1 F1 A1 b H1 e1 _ ev as1 r1 q1 => ?_⟩
  refine ⟨F1, A1, ρ1, S1, as1, q1.bind ev fun a2 ρ2 S2 F2 A2 b2 H2 e2 ev2 ev02 as2 r2 q2 => ?_⟩
  exact q2.now ev02 as2 (.cons (r1.up ev2 rfl) (Back.back ev r2))
end
end ME
end

section
set_option maxHeartbeats 4000000
namespace ME
open PySem PySem.Spec L2
open PyProof.Rows hiding St

/-! ### sizes -/
def Sized (K : PySem.W.Frag) (H : Hp) : Prop := ∀ a xs, (SqL K H a xs ∨ SqT K H a xs) → xs.length ≤ sizeLine
theorem sized_of {X : Cx} {pins : List (Addr × Obj)} {σ : St} {H : Hp} {s : Shared} (I : Inv X pins σ H s) : Sized X.K H := fun a xs h => by
  rcases h with h | h
  · obtain ⟨_, _, _, z⟩ := I.list h
    exact z
  · obtain ⟨_, _, _, z⟩ := I.tuple h
    exact z
section
variable {X : Cx} {W : WX} {e e1 e2 : Expr} {pos : Pos}
theorem PE.sized {t : TE} (h : PE X e t) : PE X e (fun σ H Q => t σ H fun v H' => Sized X.K H' → Q v H') := ⟨fun pins s σ H Q I q =>
  thn (h.run pins s σ H _ I q) fun u s' ⟨v, H', I', r, z⟩ => ⟨v, H', I', r, z (sized_of I')⟩⟩
theorem PA.sized {es : List Expr} {t : TA} (h : PA X es t) : PA X es (fun σ H Q => t σ H fun v H' => Sized X.K H' → Q v H') := ⟨fun pos pins s σ H Q I q =>
  thn (h.run pos pins s σ H _ I q) fun u s' ⟨v, H', I', r, z⟩ => ⟨v, H', I', r, z (sized_of I')⟩⟩
end

/-! ### results of operations on data -/
/-- data; a new list -/
inductive Ro where
  | d (x : D) | fl (l : List D)
def Ro.val : Ro → Val
  | .d x => .d x
  | .fl l => .fl l
def RoR (K : PySem.W.Frag) (F H F1 H1 : Hp) (v : V) : Ro → Prop
  | .d x => New F H F1 H1 ∧ Dp K F1 v x
  | .fl l => New F H F1 H1 ∧ ∃ p vs, v = .ref p ∧ H p = none ∧ H1 p = some (.lst vs) ∧ F1 p = none ∧ DpAll K F1 vs l
/-- a binary operation by data -/
def OpD (K : PySem.W.Frag) (r : R2) (g : D → D → Option Ro) : Prop := ∀ F H x y a b o Q, (∀ a o, F a = some o → H a = some o) → Sized K H → DrR K F H x a → DrR K F H y b → g a b = some o →
  (∀ F1 H1 v, RoR K F H F1 H1 v o → Q v H1) → r x y H Q
def UnD (K : PySem.W.Frag) (r : V → Hp → VK → Prop) (g : D → Option Ro) : Prop := ∀ F H x a o Q, (∀ a o, F a = some o → H a = some o) → Sized K H → DrR K F H x a → g a = some o →
  (∀ F1 H1 v, RoR K F H F1 H1 v o → Q v H1) → r x H Q
inductive DrAll (K : PySem.W.Frag) (F H : Hp) : List V → List D → Prop
  | nil : DrAll K F H [] []
  | cons {v vs x xs} : DrR K F H v x → DrAll K F H vs xs → DrAll K F H (v :: vs) (x :: xs)
/-- a call by data -/
def CaD (K : PySem.W.Frag) (r : List V → Hp → VK → Prop) (g : List D → Option Ro) : Prop := ∀ F H xs as o Q, (∀ a o, F a = some o → H a = some o) → Sized K H → DrAll K F H xs as → g as = some o →
  (∀ F1 H1 v, RoR K F H F1 H1 v o → Q v H1) → r xs H Q
def drs (ρ : Rho) : List Val → Option (List D)
  | [] => some []
  | v :: vs => match dr ρ v, drs ρ vs with
    | some x, some xs => some (x :: xs)
    | _, _ => none
section
variable {K : PySem.W.Frag} {F F1 : Hp} {A : List Addr} {ρ : Rho} {S : T} {σ : St} {H H1 : Hp}
theorem drs_rep (as : ASF K F A ρ S σ H) {Hs : Hp} : ∀ {vs : List V} {as' : List Val} {xs : List D}, Paired (VRep K Hs F A ρ σ H) vs as' → drs ρ as' = some xs → DrAll K F H vs xs
  | _, _, _, .nil, h => by cases h; exact .nil
  | _, _, xs, .cons (a := v) (b := a) r t, h => by
    unfold drs at h
    cases h1 : dr ρ a with
    | none => rw [h1] at h; cases h
    | some x =>
      rw [h1] at h
      split at h
      · rename_i x' xs' e1 e2
        cases e1
        cases h
        exact .cons (dr_rep as r h1) (drs_rep as t e2)
      · cases h
theorem RoR.fin {W : WX} {F0 H0 : Hp} {A0 : List Addr} {ρ0 : Rho} {v : V} {o : Ro} {Q : V → Hp → Prop} (h : Post K W (rVal K) (.ok o.val ρ S) F0 A0 ρ0 σ H0 Q) (ev : Ev F0 A0 ρ0 σ H0 F A ρ σ H) (as : ASF K F A ρ S σ H) (r : RoR K F H F1 H1 v o) : Q v H1 := by
  cases o with
  | d x =>
    obtain ⟨n, r⟩ := r
    exact h.now (ev.trans n.ev) (as.new n) r
  | fl l =>
    obtain ⟨n, p, vs, rfl, h1, h2, h3, h4⟩ := r
    refine h.now (ev.trans n.ev) (as.new n) ⟨p, vs, rfl, ev.none h1, h2, h3, fun z => as.world z h1, fun ⟨i, l', e1, e2⟩ => ?_, h4⟩
    obtain ⟨p', vs', e3, e4, _⟩ := as.sl i _ e1
    rw [e2] at e3
    cases e3
    rw [h1] at e4
    cases e4
end
def roM (o : Option Ro) : M Val := fun ρ S => match o with
  | some o => .ok o.val ρ S
  | none => .bad
def mOp (g : D → D → Option Ro) (ma mb : M Val) : M Val := bind ma fun a => bind mb fun b => fun ρ S => match dr ρ a, dr ρ b with
  | some x, some y => roM (g x y) ρ S
  | _, _ => .bad
def mUn (g : D → Option Ro) (ma : M Val) : M Val := bind ma fun a => fun ρ S => match dr ρ a with
  | some x => roM (g x) ρ S
  | _ => .bad
/-- arguments, not frozen -/
def aNil : M (List Val) := ret []
def aCons (m : M Val) (r : M (List Val)) : M (List Val) := bind m fun v => bind r fun vs => ret (v :: vs)
def mCa (g : List D → Option Ro) (m : M (List Val)) : M Val := bind m fun vs => fun ρ S => match drs ρ vs with
  | some xs => roM (g xs) ρ S
  | none => .bad
section
variable {X : Cx} {W : WX} {e e1 e2 : Expr} {pos : Pos} {ma mb : M Val}
theorem aa_nil : MA X W [] aNil := ma_nil
theorem aa_cons {m : M Val} {r : M (List Val)} {es : List Expr} (he : ME X W e m) (hr : MA X W es r) (hs : starEach (e :: es) X.env = (false, eval e X.env) :: starEach es X.env := by rfl) : MA X W (e :: es) (aCons m r) := by
  refine PA.weak (pa_cons he hr hs) fun pins σ H s Q I q => ?_
  obtain ⟨F, A, ρ, S, as, q⟩ := q
  refine ⟨F, A, ρ, S, as, q.bind Ev.refl fun a ρ1 S1 F1 A1 b H1 e1 _ ev as1 r1 q1 => ?_⟩
  refine ⟨F1, A1, ρ1, S1, as1, q1.bind ev fun a2 ρ2 S2 F2 A2 b2 H2 e2 ev2 ev02 as2 r2 q2 => ?_⟩
  exact q2.now ev02 as2 (.cons (r1.up ev2 rfl) (Back.back ev r2))
theorem me_op2 {r : R2} {g : D → D → Option Ro} {e : Expr} (h : ∀ {ta tb : TE}, PE X e1 ta → PE X e2 tb → PE X e (tOp r ta tb)) (hg : OpD X.K r g) (ha : ME X W e1 ma) (hb : ME X W e2 mb) : ME X W e (mOp g ma mb) := by
  refine PE.weak (h ha (PE.sized hb)) fun pins σ H s Q I q => ?_
  obtain ⟨F, A, ρ, S, as, q⟩ := q
  refine ⟨F, A, ρ, S, as, q.bind Ev.refl fun a ρ1 S1 F1 A1 x H1 _ _ ev as1 r1 q1 => ?_⟩
  refine ⟨F1, A1, ρ1, S1, as1, q1.bind ev fun b ρ2 S2 F2 A2 y H2 _ ev2 ev02 as2 r2 q2 sz => ?_⟩
  cases d1 : dr ρ2 a with
  | none => rw [d1] at q2; exact q2.elim
  | some u =>
    rw [d1] at q2
    cases d2 : dr ρ2 b with
    | none => rw [d2] at q2; exact q2.elim
    | some v =>
      rw [d2] at q2
      dsimp only at q2
      unfold roM at q2
      cases eo : g u v with
      | none => rw [eo] at q2; exact q2.elim
      | some o =>
        rw [eo] at q2
        exact hg F2 H2 x y u v o Q as2.sub sz (dr_rep as2 (r1.up ev2 rfl) d1) (dr_rep as2 r2 d2) eo fun F3 H3 v h3 => h3.fin q2 ev02 as2
theorem me_un1 {r : V → Hp → VK → Prop} {g : D → Option Ro} {e : Expr} (h : ∀ {ta : TE}, PE X e1 ta → PE X e (tUn r ta)) (hg : UnD X.K r g) (ha : ME X W e1 ma) : ME X W e (mUn g ma) := by
  refine PE.weak (h (PE.sized ha)) fun pins σ H s Q I q => ?_
  obtain ⟨F, A, ρ, S, as, q⟩ := q
  refine ⟨F, A, ρ, S, as, q.bind Ev.refl fun a ρ1 S1 F1 A1 x H1 _ _ ev as1 r1 q1 sz => ?_⟩
  cases d1 : dr ρ1 a with
  | none => rw [d1] at q1; exact q1.elim
  | some u =>
    rw [d1] at q1
    dsimp only at q1
    unfold roM at q1
    cases eo : g u with
    | none => rw [eo] at q1; exact q1.elim
    | some o =>
      rw [eo] at q1
      exact hg F1 H1 x u o Q as1.sub sz (dr_rep as1 r1 d1) eo fun F3 H3 v h3 => h3.fin q1 ev as1
theorem me_ca {r : List V → Hp → VK → Prop} {g : List D → Option Ro} {e : Expr} {es : List Expr} {m : M (List Val)} (h : ∀ {t : TA}, PA X es t → PE X e (tCB r t)) (hg : CaD X.K r g) (ha : MA X W es m) : ME X W e (mCa g m) := by
  refine PE.weak (h (PA.sized ha)) fun pins σ H s Q I q => ?_
  obtain ⟨F, A, ρ, S, as, q⟩ := q
  refine ⟨F, A, ρ, S, as, q.bind Ev.refl fun a ρ1 S1 F1 A1 x H1 _ _ ev as1 r1 q1 sz => ?_⟩
  cases d1 : drs ρ1 a with
  | none => rw [d1] at q1; exact q1.elim
  | some u =>
    rw [d1] at q1
    dsimp only at q1
    unfold roM at q1
    cases eo : g u with
    | none => rw [eo] at q1; exact q1.elim
    | some o =>
      rw [eo] at q1
      exact hg F1 H1 x u o Q as1.sub sz (drs_rep as1 r1 d1) eo fun F3 H3 v h3 => h3.fin q1 ev as1
theorem me_bin {op : Operator} {r : R2} {g : D → D → Option Ro} (ho : OpR X (binaryOp op) r) (hg : OpD X.K r g) (ha : ME X W e1 ma) (hb : ME X W e2 mb) : ME X W (.BinOp e1 op e2 pos) (mOp g ma mb) := me_op2 (fun a b => pe_op ho a b) hg ha hb
theorem me_cmp {op : CmpOp} {r : R2} {g : D → D → Option Ro} (ho : OpR X (compareOp op) r) (hg : OpD X.K r g) (ha : ME X W e1 ma) (hb : ME X W e2 mb) (hm : behindInMarks op e2 = false) : ME X W (.Compare e1 [op] [e2] pos) (mOp g ma mb) := me_op2 (fun a b => pe_cmpR ho a b hm) hg ha hb
theorem me_ix {r : R2} {g : D → D → Option Ro} (ho : IxR X r) (hg : OpD X.K r g) (ha : ME X W e1 ma) (hb : ME X W e2 mb) (hs : PlainIx e2) : ME X W (.Subscript e1 e2 pos) (mOp g ma mb) := me_op2 (fun a b => pe_ix ho a b hs) hg ha hb
end
end ME
end

section
set_option maxHeartbeats 4000000
namespace ME
open PySem PySem.Spec L2
open PyProof.Rows hiding St

/-! ### tests -/
def truD : D → Option Bool
  | .none => some false
  | .bool b => some b
  | .int i => some (i != 0)
  | .str y => if y.length ≤ sizeLine then some ((y.length : Int) != 0) else none
  | .list l => some (!l.isEmpty)
  | .tuple l => some (!l.isEmpty)
  | .dict _ => none
section
variable {K : PySem.W.Frag} {F : Hp} {A : List Addr} {ρ : Rho} {S : T} {σ : St} {H : Hp}
theorem DpAll.emp {F : Hp} : ∀ {vs : List V} {l : List D}, DpAll K F vs l → vs.isEmpty = l.isEmpty
  | _, _, .nil => rfl
  | _, _, .cons _ _ => rfl
theorem DpAll.len {F : Hp} : ∀ {vs : List V} {l : List D}, DpAll K F vs l → vs.length = l.length
  | _, _, .nil => rfl
  | _, _, .cons _ h => by rw [List.length_cons, List.length_cons, DpAll.len h]
theorem DpAll.get {F : Hp} : ∀ {vs : List V} {l : List D} {i : Nat} {x : D}, DpAll K F vs l → l[i]? = some x → ∃ v, vs[i]? = some v ∧ Dp K F v x
  | _, _, _, _, .nil, h => by simp at h
  | _, _, 0, x, .cons (v := v) r _, h => by
    rw [List.getElem?_cons_zero, Option.some.injEq] at h
    subst h
    exact ⟨v, rfl, r⟩
  | _, _, i + 1, x, .cons _ t, h => by simpa using DpAll.get (i := i) t (by simpa using h)
theorem DpAll.get' {F : Hp} : ∀ {vs : List V} {l : List D} {i : Nat} {v : V}, DpAll K F vs l → vs[i]? = some v → ∃ x, l[i]? = some x ∧ Dp K F v x
  | _, _, _, _, .nil, h => by simp at h
  | _, _, 0, v, .cons (d := x) r _, h => by
    rw [List.getElem?_cons_zero, Option.some.injEq] at h
    subst h
    exact ⟨x, rfl, r⟩
  | _, _, i + 1, v, .cons _ t, h => by simpa using DpAll.get' (i := i) t (by simpa using h)
theorem DpAll.app {F : Hp} : ∀ {vs ws : List V} {l m : List D}, DpAll K F vs l → DpAll K F ws m → DpAll K F (vs ++ ws) (l ++ m)
  | _, _, _, _, .nil, h => h
  | _, _, _, _, .cons a b, h => .cons a (DpAll.app b h)
theorem DrR.tru {v : V} {x : D} {k : Bool} (r : DrR K F H v x) (s : ∀ a o, F a = some o → H a = some o) (h : truD x = some k) : TruV K v H k := by
  have r := r.now s
  cases r with
  | non => exact (Option.some.inj h).symm
  | bl b => exact (Option.some.inj h).symm
  | int i => exact (Option.some.inj h).symm
  | str y =>
    have h : (if y.length ≤ sizeLine then some ((y.length : Int) != 0) else none) = some k := h
    by_cases z : y.length ≤ sizeLine
    · rw [if_pos z] at h
      exact ⟨z, (Option.some.inj h).symm⟩
    · rw [if_neg z] at h
      cases h
  | lst hs ha => exact .inl ⟨_, .inl (.inl hs), by rw [DpAll.emp ha]; exact (Option.some.inj h).symm⟩
  | tup hs ha => exact .inr (.inl ⟨_, hs, by rw [DpAll.emp ha]; exact (Option.some.inj h).symm⟩)
theorem post_bool {α β : Type} {W : WX} {rel : Rel α β} {m : Bool → M α} {c : Bool} {F0 H0 : Hp} {A0 : List Addr} {ρ0 : Rho} {Q : β → Hp → Prop} (h : Post K W rel (m c ρ S) F0 A0 ρ0 σ H0 Q) : Post K W rel (m c ρ S) F0 A0 ρ0 σ H0 Q := h
end
def mTru (v : Val) : M Bool := fun ρ S => match dr ρ v with
  | some x => (match truD x with
    | some b => .ok b ρ S
    | none => .bad)
  | none => .bad
section
variable {X : Cx} {W : WX} {e e1 e2 e3 : Expr} {pos : Pos} {ma mb mc : M Val} {ta tb tc : M Bool} {es : List Expr}
theorem mTru_ok {K : PySem.W.Frag} {F : Hp} {A : List Addr} {ρ : Rho} {S : T} {σ : St} {H Hs : Hp} {v : V} {a : Val} {α β : Type} {rel : Rel α β} {f : Bool → M α} {F0 H0 : Hp} {A0 : List Addr} {ρ0 : Rho} {Q : β → Hp → Prop}
    (as : ASF K F A ρ S σ H) (r : VRep K Hs F A ρ σ H v a) (h : Post K W rel (bind (mTru a) f ρ S) F0 A0 ρ0 σ H0 Q) : ∃ k, TruV K v H k ∧ Post K W rel (f k ρ S) F0 A0 ρ0 σ H0 Q := by
  unfold bind mTru at h
  cases d : dr ρ a with
  | none => rw [d] at h; exact h.elim
  | some x =>
    rw [d] at h
    dsimp only at h
    cases e : truD x with
    | none => rw [e] at h; exact h.elim
    | some k =>
      rw [e] at h
      exact ⟨k, (dr_rep as r d).tru as.sub e, h⟩
/-- an expression as a test -/
def mTest (m : M Val) : M Bool := bind m fun v => mTru v
theorem Post.re {K : PySem.W.Frag} {α β : Type} {rel : Rel α β} [Back rel] {r : R α} {F F0 H H0 : Hp} {A A0 : List Addr} {ρ ρ0 : Rho} {σ : St} {Q : β → Hp → Prop} (h : Post K W rel r F0 A0 ρ0 σ H0 Q) (ev : Ev F0 A0 ρ0 σ H0 F A ρ σ H) : Post K W rel r F A ρ σ H Q := by
  cases r with
  | ok a ρ' S' => exact fun F' A' b H' e as q => h F' A' b H' (ev.trans e) as (Back.back ev q)
  | exc c p ρ' S' => exact fun F' A' cls d H' e as q => h F' A' cls d H' (ev.trans e) as q
  | bad => exact h
theorem Post.ofB {K : PySem.W.Frag} {α β : Type} {rel : Rel α β} {m : M α} {ρ : Rho} {S : T} {F0 H0 : Hp} {A0 : List Addr} {ρ0 : Rho} {σ : St} {Q : β → Hp → Prop} (h : Post K W rel (m ρ S) F0 A0 ρ0 σ H0 Q) : Post K W rel (ME.bind m ret ρ S) F0 A0 ρ0 σ H0 Q := by
  unfold ME.bind
  cases e : m ρ S with
  | ok a ρ1 S1 => rw [e] at h; exact h
  | exc c p ρ1 S1 => rw [e] at h; exact h
  | bad => rw [e] at h; exact h
theorem mt_of (h : ME X W e ma) (he : ∀ whole, isTrue e X.env whole = (do let v ← whole; standAt e.pos; holding [v] (truthy v)) := by intro _; rfl) : MT X W e (mTest ma) := by
  refine PT.weak (pt_truth h he) fun pins σ H s Q I q => ?_
  obtain ⟨F, A, ρ, S, as, q⟩ := q
  refine ⟨F, A, ρ, S, as, q.bind Ev.refl fun a ρ1 S1 F1 A1 x H1 _ _ ev as1 r1 q1 => ?_⟩
  obtain ⟨k, h1, h2⟩ := mTru_ok as1 r1 (Post.ofB q1)
  exact ⟨k, h1, h2.now ev as1 rfl⟩
def MTW (X : Cx) (W : WX) (e : Expr) (m : M Bool) : Prop := PW X e (tT X.K W m)
theorem MTW.mt (h : MTW X W e tc) : MT X W e tc := PW.pt h
def tAndM (ta tb : M Bool) : M Bool := bind ta fun b => if b = true then tb else ret false
def tOrM (ta tb : M Bool) : M Bool := bind ta fun b => if b = true then ret true else tb
def tNotM (ta : M Bool) : M Bool := bind ta fun b => ret (!b)
theorem mw_and1 (h : MT X W e ta) : MTW X W (.BoolOp .And [e] pos) ta := pw_and1 h
theorem mw_or1 (h : MT X W e ta) : MTW X W (.BoolOp .Or [e] pos) ta := pw_or1 h
theorem mw_and (h : MT X W e ta) (g : MTW X W (.BoolOp .And (e1 :: es) pos) tb) : MTW X W (.BoolOp .And (e :: e1 :: es) pos) (tAndM ta tb) := by
  refine PW.weak (pw_and h g) fun pins σ H s Q I q => ?_
  obtain ⟨F, A, ρ, S, as, q⟩ := q
  refine ⟨F, A, ρ, S, as, q.bind Ev.refl fun a ρ1 S1 F1 A1 x H1 _ _ ev as1 r1 q1 => ?_⟩
  cases r1
  cases a with
  | true => exact ⟨F1, A1, ρ1, S1, as1, q1.re ev⟩
  | false => exact q1.now ev as1 rfl
theorem mw_or (h : MT X W e ta) (g : MTW X W (.BoolOp .Or (e1 :: es) pos) tb) : MTW X W (.BoolOp .Or (e :: e1 :: es) pos) (tOrM ta tb) := by
  refine PW.weak (pw_or h g) fun pins σ H s Q I q => ?_
  obtain ⟨F, A, ρ, S, as, q⟩ := q
  refine ⟨F, A, ρ, S, as, q.bind Ev.refl fun a ρ1 S1 F1 A1 x H1 _ _ ev as1 r1 q1 => ?_⟩
  cases r1
  cases a with
  | false => exact ⟨F1, A1, ρ1, S1, as1, q1.re ev⟩
  | true => exact q1.now ev as1 rfl
theorem mt_not (h : MT X W e ta) : MT X W (.UnaryOp .Not e pos) (tNotM ta) := by
  refine PT.weak (pt_not h) fun pins σ H s Q I q => ?_
  obtain ⟨F, A, ρ, S, as, q⟩ := q
  refine ⟨F, A, ρ, S, as, q.bind Ev.refl fun a ρ1 S1 F1 A1 x H1 _ _ ev as1 r1 q1 => ?_⟩
  cases r1
  exact q1.now ev as1 rfl
/-! the same as values -/
def mNotV (ma : M Val) : M Val := bind (mTest ma) fun b => ret (.d (.bool (!b)))
def mAndV (ma mb : M Val) : M Val := bind ma fun a => bind (mTru a) fun b => if b = true then mb else ret a
def mOrV (ma mb : M Val) : M Val := bind ma fun a => bind (mTru a) fun b => if b = true then ret a else mb
theorem bind_assoc {α β γ : Type} (m : M α) (f : α → M β) (g : β → M γ) : bind (bind m f) g = bind m fun a => bind (f a) g := by
  funext ρ S
  unfold bind
  cases m ρ S <;> rfl
theorem me_not (h : ME X W e ma) : ME X W (.UnaryOp .Not e pos) (mNotV ma) := by
  refine PE.weak (pe_notT h) fun pins σ H s Q I q => ?_
  obtain ⟨F, A, ρ, S, as, q⟩ := q
  rw [mNotV, mTest, bind_assoc] at q
  refine ⟨F, A, ρ, S, as, q.bind Ev.refl fun a ρ1 S1 F1 A1 x H1 _ _ ev as1 r1 q1 => ?_⟩
  obtain ⟨k, h1, h2⟩ := mTru_ok as1 r1 q1
  exact ⟨k, h1, h2.now ev as1 (.bl _)⟩
theorem me_one {op} (h : ME X W e ma) : ME X W (.BoolOp op [e] pos) ma := pe_one h
theorem me_and (h : ME X W e ma) (g : ME X W (.BoolOp .And (e1 :: es) pos) mb) : ME X W (.BoolOp .And (e :: e1 :: es) pos) (mAndV ma mb) := by
  refine PE.weak (pe_andT h g) fun pins σ H s Q I q => ?_
  obtain ⟨F, A, ρ, S, as, q⟩ := q
  refine ⟨F, A, ρ, S, as, q.bind Ev.refl fun a ρ1 S1 F1 A1 x H1 _ _ ev as1 r1 q1 => ?_⟩
  obtain ⟨k, h1, h2⟩ := mTru_ok as1 r1 q1
  refine ⟨k, h1, ?_⟩
  cases k with
  | true => exact ⟨F1, A1, ρ1, S1, as1, h2.re ev⟩
  | false => exact h2.now ev as1 r1
theorem me_or (h : ME X W e ma) (g : ME X W (.BoolOp .Or (e1 :: es) pos) mb) : ME X W (.BoolOp .Or (e :: e1 :: es) pos) (mOrV ma mb) := by
  refine PE.weak (pe_orT h g) fun pins σ H s Q I q => ?_
  obtain ⟨F, A, ρ, S, as, q⟩ := q
  refine ⟨F, A, ρ, S, as, q.bind Ev.refl fun a ρ1 S1 F1 A1 x H1 _ _ ev as1 r1 q1 => ?_⟩
  obtain ⟨k, h1, h2⟩ := mTru_ok as1 r1 q1
  refine ⟨k, h1, ?_⟩
  cases k with
  | false => exact ⟨F1, A1, ρ1, S1, as1, h2.re ev⟩
  | true => exact h2.now ev as1 r1
def mIf (tc : M Bool) (ma mb : M Val) : M Val := bind tc fun b => if b = true then ma else mb
theorem me_if (h : MT X W e tc) (ha : ME X W e1 ma) (hb : ME X W e2 mb) : ME X W (.IfExp e e1 e2 pos) (mIf tc ma mb) := by
  refine PE.weak (pe_ifExp h ha hb) fun pins σ H s Q I q => ?_
  obtain ⟨F, A, ρ, S, as, q⟩ := q
  refine ⟨F, A, ρ, S, as, q.bind Ev.refl fun a ρ1 S1 F1 A1 x H1 _ _ ev as1 r1 q1 => ?_⟩
  cases r1
  cases a with
  | true => exact ⟨F1, A1, ρ1, S1, as1, q1.re ev⟩
  | false => exact ⟨F1, A1, ρ1, S1, as1, q1.re ev⟩
/-! displays -/
def datas : List Val → Option (List D)
  | [] => some []
  | .d x :: vs => match datas vs with
    | some xs => some (x :: xs)
    | none => none
  | _ :: _ => none
theorem datas_rep {K : PySem.W.Frag} {F : Hp} {A : List Addr} {ρ : Rho} {σ : St} {H Hs : Hp} : ∀ {vs : List V} {as' : List Val} {xs : List D}, Paired (VRep K Hs F A ρ σ H) vs as' → datas as' = some xs → DpAll K F vs xs
  | _, _, _, .nil, h => by cases h; exact .nil
  | _, _, xs, .cons (a := v) (b := a) r t, h => by
    cases a with
    | d x =>
      unfold datas at h
      split at h
      · rename_i xs' e
        cases h
        exact .cons r (datas_rep t e)
      · cases h
    | own i => cases h
    | w k => cases h
    | fl l => cases h
theorem datas_len : ∀ {as' : List Val} {xs : List D}, datas as' = some xs → xs.length = as'.length
  | [], _, h => by cases h; rfl
  | .d x :: vs, _, h => by
    unfold datas at h
    split at h
    · rename_i xs' e
      cases h
      rw [List.length_cons, List.length_cons, datas_len e]
    · cases h
  | .own _ :: _, _, h => by cases h
  | .w _ :: _, _, h => by cases h
  | .fl _ :: _, _, h => by cases h
theorem ASF.nof {K : PySem.W.Frag} {F : Hp} {A : List Addr} {ρ : Rho} {S : T} {σ : St} {H : Hp} (as : ASF K F A ρ S σ H) {p : Addr} (n : H p = none) : F p = none := by
  cases z : F p with
  | none => rfl
  | some o =>
    have := as.sub _ _ z
    rw [n] at this
    cases this
def mTup (m : M (List Val)) : M Val := bind m fun vs => fun ρ S => match datas vs with
  | some xs => if xs.length ≤ sizeLine then .ok (.d (.tuple xs)) ρ S else .bad
  | none => .bad
def mLst (m : M (List Val)) : M Val := bind m fun vs => fun ρ S => match datas vs with
  | some xs => if xs.length ≤ sizeLine then .ok (.fl xs) ρ S else .bad
  | none => .bad
theorem me_tup {x1} {m : M (List Val)} (h : MA X W es m) : ME X W (.Tuple es x1 pos) (mTup m) := by
  refine PE.weak (pe_tup h) fun pins σ H s Q I q => ?_
  obtain ⟨F, A, ρ, S, as, q⟩ := q
  refine ⟨F, A, ρ, S, as, q.bind Ev.refl fun a ρ1 S1 F1 A1 vs H1 _ _ ev as1 r1 q1 => ?_⟩
  cases e : datas a with
  | none => rw [e] at q1; exact q1.elim
  | some xs =>
    rw [e] at q1
    dsimp only at q1
    split at q1
    · rename_i z
      have l := datas_len e
      have l2 := r1.length
      refine ⟨by omega, fun p n => ?_⟩
      have nw : New F1 H1 (upd F1 p (.tup vs)) (upd H1 p (.tup vs)) := New.one as1.sub n
      exact q1.now (ev.trans nw.ev) (as1.new nw) (.tup (.inl (.inl upd_same)) (DpAll.up nw.ff _ _ (datas_rep r1 e)))
    · exact q1.elim
theorem me_lst {m : M (List Val)} (h : MA X W es m) : ME X W (.List es pos) (mLst m) := by
  refine PE.weak (pe_lst h) fun pins σ H s Q I q => ?_
  obtain ⟨F, A, ρ, S, as, q⟩ := q
  refine ⟨F, A, ρ, S, as, q.bind Ev.refl fun a ρ1 S1 F1 A1 vs H1 _ _ ev as1 r1 q1 => ?_⟩
  cases e : datas a with
  | none => rw [e] at q1; exact q1.elim
  | some xs =>
    rw [e] at q1
    dsimp only at q1
    split at q1
    · rename_i z
      have l := datas_len e
      have l2 := r1.length
      refine ⟨by omega, fun p n => ?_⟩
      have nw : New F1 H1 F1 (upd H1 p (.lst vs)) := New.own as1.sub n
      have rr : RoR X.K F1 H1 F1 (upd H1 p (.lst vs)) (.ref p) (.fl xs) := ⟨nw, p, vs, rfl, n, upd_same, as1.nof n, datas_rep r1 e⟩
      exact rr.fin (o := .fl xs) q1 ev as1
    · exact q1.elim
end
end ME
end

section
set_option maxHeartbeats 4000000
namespace ME
open PySem PySem.Spec L2
open PyProof.Rows hiding St

/-! ### statements -/
inductive SR where
  | nx (ρ : Rho) (S : T)
  | rt (v : Val) (ρ : Rho) (S : T)
  | bk (ρ : Rho) (S : T)
  | ct (ρ : Rho) (S : T)
  | exc (c : Str) (p : List (Str × D)) (ρ : Rho) (S : T)
  | bad
abbrev MStm := Rho → T → SR
def PostS (K : PySem.W.Frag) (W : WX) (r : SR) (F : Hp) (A : List Addr) (ρ : Rho) (σ : St) (H : Hp) (E : Ends) : Prop := match r with
  | .nx ρ' S' => ∀ F' A' σ' H', Ev F A ρ σ H F' A' ρ' σ' H' → ASF K F' A' ρ' S' σ' H' → E.nx σ' H'
  | .bk ρ' S' => ∀ F' A' σ' H', Ev F A ρ σ H F' A' ρ' σ' H' → ASF K F' A' ρ' S' σ' H' → E.bk σ' H'
  | .ct ρ' S' => ∀ F' A' σ' H', Ev F A ρ σ H F' A' ρ' σ' H' → ASF K F' A' ρ' S' σ' H' → E.ct σ' H'
  | .rt v ρ' S' => ∀ F' A' σ' x H', Ev F A ρ σ H F' A' ρ' σ' H' → ASF K F' A' ρ' S' σ' H' → VRep K H F' A' ρ' σ' H' x v → E.rt x H'
  | .exc c p ρ' S' => ∀ F' A' σ' cls d H', Ev F A ρ σ H F' A' ρ' σ' H' → ASF K F' A' ρ' S' σ' H' → ERep K F' H' c p cls d → W cls d σ' H'
  | .bad => False
def tS (K : PySem.W.Frag) (W : WX) (m : MStm) : TS := fun E σ H => ∃ F A ρ S, ASF K F A ρ S σ H ∧ PostS K W (m ρ S) F A ρ σ H E
def MS (X : Cx) (W : WX) (st : Stmt) (m : MStm) : Prop := PS X st (tS X.K W m)
def MSs (X : Cx) (W : WX) (sts : List Stmt) (m : MStm) : Prop := PSs X sts (tS X.K W m)
/-- an expression ahead of a statement's end -/
def thenS {α : Type} (m : M α) (f : α → MStm) : MStm := fun ρ S => match m ρ S with
  | .ok a ρ' S' => f a ρ' S'
  | .exc c p ρ' S' => .exc c p ρ' S'
  | .bad => .bad
def sNext : MStm := fun ρ S => .nx ρ S
def sSeq (m n : MStm) : MStm := fun ρ S => match m ρ S with
  | .nx ρ' S' => n ρ' S'
  | r => r
section
variable {K : PySem.W.Frag} {W : WX} {F F0 F1 : Hp} {A A0 A1 : List Addr} {ρ ρ0 ρ1 : Rho} {S S1 : T} {σ σ0 σ1 : St} {H H0 H1 : Hp}
theorem VRep.back' (e : Ev F A ρ σ H F1 A1 ρ1 σ1 H1) {F2 : Hp} {A2 : List Addr} {ρ2 : Rho} {σ2 : St} {H2 : Hp} {x : V} {v : Val} (h : VRep K H1 F2 A2 ρ2 σ2 H2 x v) : VRep K H F2 A2 ρ2 σ2 H2 x v := VRep.back e h
theorem PostS.thenS {α β : Type} {rel : Rel α β} {m : M α} {f : α → MStm} {E : Ends} {Q1 : β → Hp → Prop}
    (h : PostS K W (thenS m f ρ S) F0 A0 ρ0 σ0 H0 E) (ev0 : Ev F0 A0 ρ0 σ0 H0 F A ρ σ H)
    (g : ∀ a ρ1 S1 F1 A1 b H1, m ρ S = .ok a ρ1 S1 → Ev F A ρ σ H F1 A1 ρ1 σ H1 → Ev F0 A0 ρ0 σ0 H0 F1 A1 ρ1 σ H1 → ASF K F1 A1 ρ1 S1 σ H1 → rel H F1 A1 ρ1 σ H1 b a → PostS K W (f a ρ1 S1) F0 A0 ρ0 σ0 H0 E → Q1 b H1) : Post K W rel (m ρ S) F A ρ σ H Q1 := by
  unfold ME.thenS at h
  cases e : m ρ S with
  | ok a ρ1 S1 =>
    rw [e] at h
    intro F1 A1 b H1 ev as r
    exact g a ρ1 S1 F1 A1 b H1 e ev (ev0.trans ev) as r h
  | exc c p ρ1 S1 =>
    rw [e] at h
    intro F1 A1 cls d H1 ev as r
    exact h F1 A1 σ cls d H1 (ev0.trans ev) as r
  | bad =>
    rw [e] at h
    exact h
theorem PostS.re {r : SR} {E : Ends} (h : PostS K W r F0 A0 ρ0 σ0 H0 E) (ev : Ev F0 A0 ρ0 σ0 H0 F A ρ σ H) : PostS K W r F A ρ σ H E := by
  cases r with
  | nx ρ' S' => exact fun F' A' σ' H' e as => h F' A' σ' H' (ev.trans e) as
  | bk ρ' S' => exact fun F' A' σ' H' e as => h F' A' σ' H' (ev.trans e) as
  | ct ρ' S' => exact fun F' A' σ' H' e as => h F' A' σ' H' (ev.trans e) as
  | rt v ρ' S' => exact fun F' A' σ' x H' e as q => h F' A' σ' x H' (ev.trans e) as (VRep.back ev q)
  | exc c p ρ' S' => exact fun F' A' σ' cls d H' e as q => h F' A' σ' cls d H' (ev.trans e) as q
  | bad => exact h
theorem PostS.nx {E : Ends} (h : PostS K W (.nx ρ S) F0 A0 ρ0 σ0 H0 E) (ev : Ev F0 A0 ρ0 σ0 H0 F A ρ σ H) (as : ASF K F A ρ S σ H) : E.nx σ H := h F A σ H ev as
/-! a name is stored -/
def setSl (i : Nat) : Val → Rho → Rho
  | .d x, ρ => ρ.set i (.d x)
  | .w k, ρ => ρ.set i (.w k)
  | .fl l, ρ => ρ.set i (.own l)
  | .own _, ρ => ρ.set i .un
theorem getSet {α : Type} {l : List α} {i j : Nat} {x y : α} (h : (l.set i x)[j]? = some y) : (i = j ∧ x = y) ∨ (i ≠ j ∧ l[j]? = some y) := by
  by_cases e : i = j
  · subst e
    by_cases hi : i < l.length
    · rw [List.getElem?_set_self hi] at h
      exact .inl ⟨rfl, Option.some.inj h⟩
    · rw [List.getElem?_eq_none (by simpa using hi)] at h
      cases h
  · rw [List.getElem?_set_ne e] at h
    exact .inr ⟨e, h⟩
theorem set_ok {i : Nat} {v : Val} {x : V} (ev0 : Ev F0 A0 ρ0 σ0 H0 F A ρ σ H) (as : ASF K F A ρ S σ H) (r : VRep K H0 F A ρ σ H x v) (hi : i < σ.length) : Ev F0 A0 ρ0 σ0 H0 F A (setSl i v ρ) (σ.set i (some x)) H ∧ ASF K F A (setSl i v ρ) S (σ.set i (some x)) H := by
  have hs : (σ.set i (some x))[i]? = some (some x) := List.getElem?_set_self hi
  have other : ∀ {j : Nat}, i ≠ j → (σ.set i (some x))[j]? = σ[j]? := fun h => List.getElem?_set_ne h
  have key : ∀ s : Sl, (∀ l, s = .own l → ∃ p vs, x = .ref p ∧ H0 p = none ∧ H p = some (.lst vs) ∧ F p = none ∧ p ∉ A ∧ ¬ OwnA ρ σ p ∧ DpAll K F vs l) → SlRep K F A H (some (some x)) s → Ev F0 A0 ρ0 σ0 H0 F A (ρ.set i s) (σ.set i (some x)) H ∧ ASF K F A (ρ.set i s) S (σ.set i (some x)) H := fun s ho hr => by
    refine ⟨⟨ev0.ff, ev0.fn, ev0.aa, ev0.fr, ev0.lv, fun a ⟨j, l, e1, e2⟩ => ?_⟩, ⟨as.sub, as.aw, as.nd, as.st, fun j s' e => ?_, fun j k l l' e1 e2 e3 => ?_⟩⟩
    · rcases getSet e1 with ⟨rfl, e'⟩ | ⟨n, e'⟩
      · obtain ⟨p, vs, rfl, h0, _⟩ := ho l e'
        rw [hs] at e2
        cases e2
        exact .inr h0
      · rw [other n] at e2
        exact ev0.ow a ⟨j, l, e', e2⟩
    · rcases getSet e with ⟨rfl, e'⟩ | ⟨n, e'⟩
      · subst e'
        rw [hs]
        exact hr
      · rw [other n]
        exact as.sl j s' e'
    · rcases getSet e1 with ⟨rfl, f1⟩ | ⟨n1, f1⟩
      · rcases getSet e2 with ⟨rfl, f2⟩ | ⟨n2, f2⟩
        · rfl
        · obtain ⟨p, vs, rfl, _, _, _, _, nw, _⟩ := ho l f1
          rw [hs, other n2] at e3
          exact absurd ⟨k, l', f2, e3.symm⟩ nw
      · rcases getSet e2 with ⟨rfl, f2⟩ | ⟨n2, f2⟩
        · obtain ⟨p, vs, rfl, _, _, _, _, nw, _⟩ := ho l' f2
          rw [hs, other n1] at e3
          exact absurd ⟨j, l, f1, e3⟩ nw
        · rw [other n1, other n2] at e3
          exact as.ow j k l l' f1 f2 e3
  cases v with
  | d y => exact key (.d y) (fun _ h => nomatch h) ⟨x, rfl, r⟩
  | w k =>
    obtain ⟨a, h1, rfl⟩ := r
    exact key (.w k) (fun _ h => nomatch h) ⟨a, h1, rfl⟩
  | own j => exact key .un (fun _ h => nomatch h) trivial
  | fl l =>
    obtain ⟨p, vs, rfl, h0, h1, h2, h3, h4, h5⟩ := r
    exact key (.own l) (fun l' h => by cases h; exact ⟨p, vs, rfl, h0, h1, h2, h3, h4, h5⟩) ⟨p, vs, rfl, h1, h2, h3, h5⟩
/-! targets -/
/-- a pattern: what a value does to the slots -/
abbrev Pat := Val → Rho → Option Rho
def tG (K : PySem.W.Frag) (W : WX) (p : Pat) (sl : List Nat) : TG := fun x σ H Q => ∃ F0 A0 ρ0 σ0 H0 F A ρ S v, Ev F0 A0 ρ0 σ0 H0 F A ρ σ H ∧ ASF K F A ρ S σ H ∧ VRep K H0 F A ρ σ H x v ∧ (match p v ρ with
  | some ρ' => ∀ σ', Ev F0 A0 ρ0 σ0 H0 F A ρ' σ' H → ASF K F A ρ' S σ' H → σ'.length = σ.length → (∀ j, j ∉ sl → σ'[j]? = σ[j]?) → Q σ' H
  | none => False)
def tGs (K : PySem.W.Frag) (W : WX) (p : List D → Rho → Option Rho) (sl : List Nat) : TGs := fun xs σ H Q => ∃ F0 A0 ρ0 σ0 H0 F A ρ S ds, Ev F0 A0 ρ0 σ0 H0 F A ρ σ H ∧ ASF K F A ρ S σ H ∧ DpAll K F xs ds ∧ (match p ds ρ with
  | some ρ' => ∀ σ', Ev F0 A0 ρ0 σ0 H0 F A ρ' σ' H → ASF K F A ρ' S σ' H → σ'.length = σ.length → (∀ j, j ∉ sl → σ'[j]? = σ[j]?) → Q σ' H
  | none => False)
end
def MG (X : Cx) (W : WX) (e : Expr) (p : Pat) (sl : List Nat) : Prop := PG X e (tG X.K W p sl)
def MGs (X : Cx) (W : WX) (es : List Expr) (p : List D → Rho → Option Rho) (sl : List Nat) : Prop := PGs X es (tGs X.K W p sl)
section
variable {X : Cx} {W : WX} {e e1 e2 : Expr} {es : List Expr} {pos : Pos} {ma mb : M Val} {tc : M Bool} {m n : MStm} {st : Stmt} {sts sts' : List Stmt}
theorem PG.weak {t t' : TG} (h : PG X e t) (g : ∀ pins σ H s v Q, Inv X pins σ H s → t' v σ H Q → t v σ H Q) : PG X e t' := ⟨fun pins s σ H v u Q I r q => h.run pins s σ H v u Q I r (g pins σ H s v Q I q)⟩
theorem PGs.weak {t t' : TGs} (h : PGs X es t) (g : ∀ pins σ H s v Q, Inv X pins σ H s → t' v σ H Q → t v σ H Q) : PGs X es t' := ⟨fun pins s σ H v u Q I r q => h.run pins s σ H v u Q I r (g pins σ H s v Q I q)⟩
theorem PS.weak {t t' : TS} (h : PS X st t) (g : ∀ pins σ H s E, Inv X pins σ H s → t' E σ H → t E σ H) : PS X st t' := ⟨fun pins s σ H E I q => h.run pins s σ H E I (g pins σ H s E I q)⟩
theorem PSs.weak {t t' : TS} (h : PSs X sts t) (g : ∀ pins σ H s E, Inv X pins σ H s → t' E σ H → t E σ H) : PSs X sts t' := ⟨fun pins s σ H E I q => h.run pins s σ H E I (g pins σ H s E I q)⟩
def pName (i : Nat) : Pat := fun v ρ => match v with
  | .own _ => none
  | v => some (setSl i v ρ)
theorem pName_eq {i : Nat} {v : Val} {ρ ρ' : Rho} (h : pName i v ρ = some ρ') : ρ' = setSl i v ρ := by
  cases v with
  | own j => cases h
  | d x => exact (Option.some.inj h).symm
  | w k => exact (Option.some.inj h).symm
  | fl l => exact (Option.some.inj h).symm
theorem mg_name {i : Nat} {x : Str} (h : PG X (.Name x pos) (gName i)) (hi : X.N[i]? = some x) : MG X W (.Name x pos) (pName i) [i] := by
  refine PG.weak h fun pins σ H s v Q I q => ?_
  obtain ⟨F0, A0, ρ0, σ0, H0, F, A, ρ, S, a, ev, as, r, q⟩ := q
  have hl : i < σ.length := by rw [I.len]; exact (List.getElem?_eq_some_iff.mp hi).1
  cases e : pName i a ρ with
  | none => rw [e] at q; exact q.elim
  | some ρ' =>
    rw [e] at q
    have e2 := pName_eq e
    subst e2
    obtain ⟨ev', as'⟩ := set_ok ev as r hl
    exact q _ ev' as' (by simp) fun j hj => List.getElem?_set_ne (fun z => hj (by simp [z]))
def psNil : List D → Rho → Option Rho := fun ds ρ => match ds with
  | [] => some ρ
  | _ => none
def psCons (p : Pat) (ps : List D → Rho → Option Rho) : List D → Rho → Option Rho := fun ds ρ => match ds with
  | [] => none
  | x :: xs => match p (.d x) ρ with
    | some ρ' => ps xs ρ'
    | none => none
theorem mgs_nil : MGs X W [] psNil [] := by
  refine PGs.weak pgs_nil fun pins σ H s v Q I q => ?_
  obtain ⟨F0, A0, ρ0, σ0, H0, F, A, ρ, S, ds, ev, as, r, q⟩ := q
  cases r with
  | nil => exact ⟨rfl, q σ ev as rfl fun _ _ => rfl⟩
  | cons _ _ => exact q.elim
theorem mgs_cons {p : Pat} {ps : List D → Rho → Option Rho} {sl sls : List Nat} (h : MG X W e p sl) (g : MGs X W es ps sls) (hs : (assignEach (e :: es) X.env).map (·.2) = assign e X.env :: (assignEach es X.env).map (·.2) := by rfl) : MGs X W (e :: es) (psCons p ps) (sl ++ sls) := by
  refine PGs.weak (pgs_cons h g hs) fun pins σ H s v Q I q => ?_
  obtain ⟨F0, A0, ρ0, σ0, H0, F, A, ρ, S, ds, ev, as, r, q⟩ := q
  cases r with
  | nil => exact q.elim
  | cons r1 r2 =>
    rename_i v vs x xs
    refine ⟨v, vs, rfl, F0, A0, ρ0, σ0, H0, F, A, ρ, S, .d x, ev, as, r1, ?_⟩
    unfold psCons at q
    dsimp only at q
    cases e : p (.d x) ρ with
    | none => rw [e] at q; exact q.elim
    | some ρ1 =>
      rw [e] at q
      intro σ1 ev1 as1 l1 k1
      refine ⟨F0, A0, ρ0, σ0, H0, F, A, ρ1, S, xs, ev1, as1, r2, ?_⟩
      dsimp only at q
      cases e2 : ps xs ρ1 with
      | none => rw [e2] at q; exact q.elim
      | some ρ2 =>
        rw [e2] at q
        intro σ2 ev2 as2 l2 k2
        exact q σ2 ev2 as2 (l2.trans l1) fun j hj => by
          rw [List.mem_append, not_or] at hj
          rw [k2 j hj.2, k1 j hj.1]
def pTup (n : Nat) (ps : List D → Rho → Option Rho) : Pat := fun v ρ => match v with
  | .d (.tuple xs) => if xs.length = n then ps xs ρ else none
  | _ => none
theorem mg_tup {n : Nat} {ps : List D → Rho → Option Rho} {sl : List Nat} {k : Nat} (h : ∀ {t : TGs}, PGs X es t → PG X (.Tuple es k pos) (gTup X.K n t)) (g : MGs X W es ps sl) : MG X W (.Tuple es k pos) (pTup n ps) sl := by
  refine PG.weak (h g) fun pins σ H s v Q I q => ?_
  obtain ⟨F0, A0, ρ0, σ0, H0, F, A, ρ, S, a, ev, as, r, q⟩ := q
  cases a with
  | own j => exact q.elim
  | w k => exact q.elim
  | fl l => exact q.elim
  | d x =>
    cases x with
    | tuple xs =>
      have q : (match (if xs.length = n then ps xs ρ else none) with
        | some ρ' => ∀ σ', Ev F0 A0 ρ0 σ0 H0 F A ρ' σ' H → ASF X.K F A ρ' S σ' H → σ'.length = σ.length → (∀ j, j ∉ sl → σ'[j]? = σ[j]?) → Q σ' H
        | none => False) := q
      have r : Dp X.K F v (.tuple xs) := r
      cases r with
      | tup hs ha =>
        by_cases hl : xs.length = n
        · rw [if_pos hl] at q
          refine ⟨_, _, rfl, ?_, (DpAll.len ha).trans hl, F0, A0, ρ0, σ0, H0, F, A, ρ, S, xs, ev, as, ha, q⟩
          exact hs.imp (fun r => r.imp (as.sub _ _) fun ⟨o, r⟩ => ⟨o, as.sub _ _ r⟩) id
        · rw [if_neg hl] at q
          exact q.elim
    | _ => exact q.elim
/-! blocks -/
theorem mss_nil : MSs X W [] sNext := by
  refine PSs.weak pss_nil fun pins σ H s E I q => ?_
  obtain ⟨F, A, ρ, S, as, q⟩ := q
  exact q.nx Ev.refl as
theorem mss_cons (h : MS X W st m) (g : MSs X W sts n) : MSs X W (st :: sts) (sSeq m n) := by
  refine PSs.weak (pss_cons h g) fun pins σ H s E I q => ?_
  obtain ⟨F, A, ρ, S, as, q⟩ := q
  refine ⟨F, A, ρ, S, as, ?_⟩
  unfold sSeq at q
  cases e : m ρ S with
  | nx ρ1 S1 =>
    rw [e] at q
    exact fun F' A' σ' H' ev as' => ⟨F', A', ρ1, S1, as', q.re ev⟩
  | bk ρ1 S1 => rw [e] at q; exact q
  | ct ρ1 S1 => rw [e] at q; exact q
  | rt v ρ1 S1 => rw [e] at q; exact q
  | exc c p ρ1 S1 => rw [e] at q; exact q
  | bad => rw [e] at q; exact q
theorem mss_one (h : MS X W st m) : MSs X W [st] m := pss_one h
/-! simple statements -/
def sRet (m : M Val) : MStm := thenS (bind m fz) fun v ρ S => .rt v ρ S
theorem ms_ret (h : ME X W e ma) : MS X W (.Return (some e) pos) (sRet ma) := by
  refine PS.weak (ps_ret (me_fz h)) fun pins σ H s E I q => ?_
  obtain ⟨F, A, ρ, S, as, q⟩ := q
  exact ⟨F, A, ρ, S, as, q.thenS Ev.refl fun a ρ1 S1 F1 A1 x H1 _ _ ev as1 r1 q1 => q1 F1 A1 σ x H1 ev as1 r1⟩
def sRetN : MStm := fun ρ S => .rt (.d .none) ρ S
theorem ms_retN : MS X W (.Return none pos) sRetN := by
  refine PS.weak ps_retN fun pins σ H s E I q => ?_
  obtain ⟨F, A, ρ, S, as, q⟩ := q
  exact q F A σ _ H Ev.refl as Dp.non
def sExpr (m : M Val) : MStm := thenS m fun _ ρ S => .nx ρ S
theorem ms_expr (h : ME X W e ma) (hs : swapsWith e none pos.line X.env = pure false := by rfl) : MS X W (.Expr e pos) (sExpr ma) := by
  refine PS.weak (ps_expr h hs) fun pins σ H s E I q => ?_
  obtain ⟨F, A, ρ, S, as, q⟩ := q
  exact ⟨F, A, ρ, S, as, q.thenS Ev.refl fun a ρ1 S1 F1 A1 x H1 _ _ ev as1 r1 q1 => q1 F1 A1 σ H1 ev as1⟩
theorem ms_pass : MS X W (.Pass pos) sNext := by
  refine PS.weak ps_pass fun pins σ H s E I q => ?_
  obtain ⟨F, A, ρ, S, as, q⟩ := q
  exact q.nx Ev.refl as
def sBreak : MStm := fun ρ S => .bk ρ S
theorem ms_break : MS X W (.Break pos) sBreak := by
  refine PS.weak ps_break fun pins σ H s E I q => ?_
  obtain ⟨F, A, ρ, S, as, q⟩ := q
  exact q F A σ H Ev.refl as
def sCont : MStm := fun ρ S => .ct ρ S
theorem ms_cont : MS X W (.Continue pos) sCont := by
  refine PS.weak ps_continue fun pins σ H s E I q => ?_
  obtain ⟨F, A, ρ, S, as, q⟩ := q
  exact q F A σ H Ev.refl as
def sIf (c : M Bool) (m n : MStm) : MStm := thenS c fun b => if b = true then m else n
theorem ms_if (h : MT X W e tc) (ha : MSs X W sts m) (hb : MSs X W sts' n) : MS X W (.If e sts sts' pos) (sIf tc m n) := by
  refine PS.weak (ps_if h ha hb) fun pins σ H s E I q => ?_
  obtain ⟨F, A, ρ, S, as, q⟩ := q
  refine ⟨F, A, ρ, S, as, q.thenS Ev.refl fun a ρ1 S1 F1 A1 x H1 _ _ ev as1 r1 q1 => ?_⟩
  cases r1
  cases a with
  | true => exact ⟨F1, A1, ρ1, S1, as1, q1.re ev⟩
  | false => exact ⟨F1, A1, ρ1, S1, as1, q1.re ev⟩
/-- another one's list is no longer its own -/
def fzo (v : Val) : M Val := match v with
  | .own i => fz (.own i)
  | v => ret v
theorem fzo_eq {v : Val} (h : ∀ i, v ≠ .own i) : fzo v = ret v := by
  cases v with
  | own i => exact absurd rfl (h i)
  | _ => rfl
theorem fzo_ok {K : PySem.W.Frag} {F F1 : Hp} {A A1 : List Addr} {ρ ρ1 ρ' : Rho} {S S' : T} {σ σ1 : St} {H H1 : Hp} {v : V} {a a' : Val} (ev0 : Ev F1 A1 ρ1 σ1 H1 F A ρ σ H) (as : ASF K F A ρ S σ H) (r : VRep K H1 F A ρ σ H v a) (h : fzo a ρ S = .ok a' ρ' S') : S' = S ∧ ∃ F', Ev F1 A1 ρ1 σ1 H1 F' A ρ' σ H ∧ ASF K F' A ρ' S σ H ∧ VRep K H1 F' A ρ' σ H v a' := by
  have easy : fzo a = ret a → S' = S ∧ ∃ F', Ev F1 A1 ρ1 σ1 H1 F' A ρ' σ H ∧ ASF K F' A ρ' S σ H ∧ VRep K H1 F' A ρ' σ H v a' := fun e => by
    rw [e] at h
    cases h
    exact ⟨rfl, F, ev0, as, r⟩
  cases a with
  | d x => exact easy rfl
  | w k => exact easy rfl
  | fl l => exact easy rfl
  | own i =>
    have h : (match fzv (.own i) ρ with
      | some (v', ρ') => R.ok v' ρ' S
      | none => .bad) = .ok a' ρ' S' := h
    cases e : fzv (.own i) ρ with
    | none => rw [e] at h; cases h
    | some p =>
      rw [e] at h
      cases h
      obtain ⟨F', ev', as', r'⟩ := fz_ok ev0 as r e
      exact ⟨rfl, F', ev', as', VRep.back ev0 r'⟩
theorem Post.fzo {K : PySem.W.Frag} {F : Hp} {A : List Addr} {ρ : Rho} {S : T} {σ : St} {H : Hp} {m : M Val} {Q : V → Hp → Prop} (q : Post K W (rVal K) (ME.bind m ME.fzo ρ S) F A ρ σ H Q) : Post K W (rVal K) (m ρ S) F A ρ σ H Q := by
  unfold ME.bind at q
  cases e : m ρ S with
  | bad => rw [e] at q; exact q
  | exc c p ρ1 S1 => rw [e] at q; exact q
  | ok a ρ1 S1 =>
    rw [e] at q
    intro F1 A1 x H1 ev as r
    have q : Post K W (rVal K) (ME.fzo a ρ1 S1) F A ρ σ H Q := q
    cases z : ME.fzo a ρ1 S1 with
    | bad => rw [z] at q; exact q.elim
    | exc c p ρ2 S2 =>
      exfalso
      cases a with
      | own i =>
        have z : (match fzv (.own i) ρ1 with
          | some (v', ρ') => R.ok v' ρ' S1
          | none => .bad) = .exc c p ρ2 S2 := z
        cases e2 : fzv (.own i) ρ1 with
        | none => rw [e2] at z; cases z
        | some p => rw [e2] at z; cases z
      | _ => cases z
    | ok a' ρ' S' =>
      obtain ⟨e3, F', ev', as', r'⟩ := fzo_ok ev as r z
      subst e3
      have q : Post K W (rVal K) (R.ok a' ρ' S') F A ρ σ H Q := by rw [← z]; exact q
      exact q F' A1 x H1 ev' as' r'
theorem me_fzo (h : ME X W e ma) : ME X W e (bind ma fzo) := by
  refine PE.weak h fun pins σ H s Q I q => ?_
  obtain ⟨F, A, ρ, S, as, q⟩ := q
  exact ⟨F, A, ρ, S, as, Post.fzo q⟩
/-- target = e -/
def sAsg (m : M Val) (p : Pat) : MStm := thenS (bind m fzo) fun v ρ S => match p v ρ with
  | some ρ' => .nx ρ' S
  | none => .bad
theorem ms_asg0 {tg : Expr} {p : Pat} {sl : List Nat} {st : Stmt} (hs : ∀ {t : TE} {g : TG}, PE X e t → PG X tg g → PS X st (tAsg t g)) (h : ME X W e ma) (g : MG X W tg p sl) : MS X W st (sAsg ma p) := by
  refine PS.weak (hs (me_fzo h) g) fun pins σ H s E I q => ?_
  obtain ⟨F, A, ρ, S, as, q⟩ := q
  refine ⟨F, A, ρ, S, as, q.thenS Ev.refl fun a ρ1 S1 F1 A1 x H1 _ _ ev as1 r1 q1 => ?_⟩
  refine ⟨F, A, ρ, σ, H, F1, A1, ρ1, S1, a, ev, as1, r1, ?_⟩
  cases e : p a ρ1 with
  | none => rw [e] at q1; exact q1.elim
  | some ρ2 =>
    rw [e] at q1
    exact fun σ' ev' as' _ _ => q1.nx ev' as'
theorem ms_set {i : Nat} {x : Str} {pos' : Pos} (hN : X.N.Nodup) (hi : X.N[i]? = some x) (hx : Loc X.env.scope x) (h : ME X W e ma) (hs : swapsWith e (some (.Name x pos')) pos.line X.env = pure false := by rfl) (hf : X.fn x = true ∨ X.env.scope.names.lookup x = some .local := by first | exact .inl rfl | exact .inr rfl | assumption) :
    MS X W (.Assign [.Name x pos'] e pos) (sAsg ma (pName i)) := by
  refine PS.weak (ps_set hN hi hx (me_fzo h) hs hf) fun pins σ H s E I q => ?_
  have hl : i < σ.length := by rw [I.len]; exact (List.getElem?_eq_some_iff.mp hi).1
  obtain ⟨F, A, ρ, S, as, q⟩ := q
  refine ⟨F, A, ρ, S, as, q.thenS Ev.refl fun a ρ1 S1 F1 A1 x H1 _ _ ev as1 r1 q1 => ?_⟩
  cases e : pName i a ρ1 with
  | none => rw [e] at q1; exact q1.elim
  | some ρ2 =>
    rw [e] at q1
    have e2 := pName_eq e
    subst e2
    obtain ⟨ev', as'⟩ := set_ok ev as1 r1 hl
    exact q1.nx ev' as'
end
end ME
end

section
set_option maxHeartbeats 4000000
namespace ME
open PySem PySem.Spec L2
open PyProof.Rows hiding St
open RZ (ItzT iZipA)

/-! ### what a loop walks -/
/-- J walks these items, wherever what F tells stands -/
def Yld (K : PySem.W.Frag) (F : Hp) (J : It) (items : List D) : Prop := ∀ F' H, (∀ a o, F a = some o → F' a = some o) → (∀ a o, F' a = some o → H a = some o) → ∀ i,
  (i < items.length → J.go i H ∧ ∀ x H', J.yld i H x H' → ∃ F2, New F' H F2 H' ∧ ∃ d, items[i]? = some d ∧ Dp K F2 x d) ∧ (items.length ≤ i → J.stop i H)
def rIt (K : PySem.W.Frag) : Rel (List D) It := fun _ F _ _ _ _ J items => Yld K F J items
def tI (K : PySem.W.Frag) (W : WX) (m : M (List D)) : TI := fun σ H R => ∃ F A ρ S, ASF K F A ρ S σ H ∧ Post K W (rIt K) (m ρ S) F A ρ σ H R
def MI (X : Cx) (W : WX) (tg iter : Expr) (m : M (List D)) : Prop := PI X tg iter (tI X.K W m)
theorem PI.weak {X : Cx} {tg e : Expr} {t t' : TI} (h : PI X tg e t) (g : ∀ pins σ H s R, Inv X pins σ H s → t' σ H R → t σ H R) : PI X tg e t' := ⟨fun pins s σ H R I q => h.run pins s σ H R I (g pins σ H s R I q)⟩
section
variable {K : PySem.W.Frag} {F : Hp}
theorem sqlUp {H1 H2 : Hp} {a : Addr} {xs : List V} (f : ∀ a o, H1 a = some o → H2 a = some o) (h : SqL K H1 a xs) : SqL K H2 a xs := h.imp (fun r => r.imp (f _ _) fun ⟨o, r⟩ => ⟨o, f _ _ r⟩) id
theorem sqtUp {H1 H2 : Hp} {a : Addr} {xs : List V} (f : ∀ a o, H1 a = some o → H2 a = some o) (h : SqT K H1 a xs) : SqT K H2 a xs := h.imp (fun r => r.imp (f _ _) fun ⟨o, r⟩ => ⟨o, f _ _ r⟩) id
theorem yld_list {a : Addr} {vs : List V} {items : List D} (h : SqL K F a vs) (r : DpAll K F vs items) : Yld K F (Itl K a) items := fun F' H f g i => by
  have hH : SqL K H a vs := sqlUp g (sqlUp f h)
  have l := DpAll.len r
  refine ⟨fun hi => ⟨⟨vs, vs[i]'(by omega), hH, List.getElem?_eq_getElem _⟩, fun x H' hy => ?_⟩, fun hi => ⟨vs, hH, by omega⟩⟩
  obtain ⟨rfl, hx⟩ := hy
  obtain ⟨d, h1, h2⟩ := DpAll.get' r (hx vs hH)
  exact ⟨F', New.refl g, d, h1, Dp.up f d x h2⟩
theorem yld_tup {a : Addr} {vs : List V} {items : List D} (h : SqT K F a vs) (r : DpAll K F vs items) : Yld K F (Itt K a) items := fun F' H f g i => by
  have hH : SqT K H a vs := sqtUp g (sqtUp f h)
  have l := DpAll.len r
  refine ⟨fun hi => ⟨⟨vs, vs[i]'(by omega), hH, List.getElem?_eq_getElem _⟩, fun x H' hy => ?_⟩, fun hi => ⟨vs, hH, by omega⟩⟩
  obtain ⟨rfl, hx⟩ := hy
  obtain ⟨d, h1, h2⟩ := DpAll.get' r (hx vs hH)
  exact ⟨F', New.refl g, d, h1, Dp.up f d x h2⟩
def rangeD (lo : Int) : Nat → List D
  | 0 => []
  | n + 1 => .int lo :: rangeD (lo + 1) n
theorem rangeD_len : ∀ (lo : Int) (n : Nat), (rangeD lo n).length = n
  | _, 0 => rfl
  | lo, n + 1 => by show (rangeD (lo + 1) n).length + 1 = n + 1; rw [rangeD_len]
theorem rangeD_get : ∀ (lo : Int) (n i : Nat), i < n → (rangeD lo n)[i]? = some (.int (lo + i))
  | _, 0, i, h => absurd h (Nat.not_lt_zero i)
  | lo, n + 1, 0, _ => by show some (PyData.int lo) = _; simp
  | lo, n + 1, i + 1, h => by
    show (rangeD (lo + 1) n)[i]? = _
    rw [rangeD_get (lo + 1) n i (by omega)]
    congr 2
    omega
theorem yld_range {lo : Int} {n : Nat} : Yld K F (Itr lo n) (rangeD lo n) := fun F' H f g i => by
  rw [rangeD_len]
  refine ⟨fun hi => ⟨hi, fun x H' hy => ?_⟩, fun hi => hi⟩
  obtain ⟨rfl, rfl⟩ := hy
  exact ⟨F', New.refl g, _, rangeD_get lo n i hi, .int _⟩
def pairD (xs ys : List D) : List D := List.zipWith (fun x y => .tuple [x, y]) xs ys
theorem new_pair {F' H : Hp} {p : Addr} {x y : V} {d e : D} (g : ∀ a o, F' a = some o → H a = some o) (n : H p = none) (h1 : Dp K F' x d) (h2 : Dp K F' y e) : ∃ F2, New F' H F2 (upd H p (.tup [x, y])) ∧ Dp K F2 (.ref p) (.tuple [d, e]) :=
  have nw := New.one (o := .tup [x, y]) g n
  ⟨_, nw, .tup (.inl (.inl upd_same)) (.cons (Dp.up nw.ff d x h1) (.cons (Dp.up nw.ff e y h2) .nil))⟩
theorem pairD_get {xs ys : List D} {i : Nat} {d e : D} (h1 : xs[i]? = some d) (h2 : ys[i]? = some e) : (pairD xs ys)[i]? = some (.tuple [d, e]) := by
  unfold pairD
  rw [List.getElem?_zipWith, h1, h2]
theorem yld_zip {a b : Addr} {vs ws : List V} {xs ys : List D} (h : SqL K F a vs) (r : DpAll K F vs xs) (h' : SqL K F b ws) (r' : DpAll K F ws ys) : Yld K F (Itz K a b) (pairD xs ys) := fun F' H f g i => by
  have hH : SqL K H a vs := sqlUp g (sqlUp f h)
  have hH' : SqL K H b ws := sqlUp g (sqlUp f h')
  have l := DpAll.len r
  have l' := DpAll.len r'
  have lp : (pairD xs ys).length = min xs.length ys.length := List.length_zipWith
  rw [lp]
  refine ⟨fun hi => ⟨⟨vs, ws, vs[i]'(by omega), ws[i]'(by omega), hH, hH', List.getElem?_eq_getElem _, List.getElem?_eq_getElem _⟩, fun x H' hy => ?_⟩, fun hi => ⟨vs, ws, hH, hH', by omega⟩⟩
  obtain ⟨p, x, y, rfl, n, rfl, hx, hy⟩ := hy
  obtain ⟨d, h1, h2⟩ := DpAll.get' r (hx vs hH)
  obtain ⟨e, h3, h4⟩ := DpAll.get' r' (hy ws hH')
  obtain ⟨F2, n2, q⟩ := new_pair g n (Dp.up f d x h2) (Dp.up f e y h4)
  exact ⟨F2, n2, _, pairD_get h1 h3, q⟩
theorem yld_zipT {a b : Addr} {vs ws : List V} {xs ys : List D} (h : SqT K F a vs) (r : DpAll K F vs xs) (h' : SqT K F b ws) (r' : DpAll K F ws ys) : Yld K F (ItzT K a b) (pairD xs ys) := fun F' H f g i => by
  have hH : SqT K H a vs := sqtUp g (sqtUp f h)
  have hH' : SqT K H b ws := sqtUp g (sqtUp f h')
  have l := DpAll.len r
  have l' := DpAll.len r'
  have lp : (pairD xs ys).length = min xs.length ys.length := List.length_zipWith
  rw [lp]
  refine ⟨fun hi => ⟨⟨vs, ws, vs[i]'(by omega), ws[i]'(by omega), hH, hH', List.getElem?_eq_getElem _, List.getElem?_eq_getElem _⟩, fun x H' hy => ?_⟩, fun hi => ⟨vs, ws, hH, hH', by omega⟩⟩
  obtain ⟨p, x, y, rfl, n, rfl, hx, hy⟩ := hy
  obtain ⟨d, h1, h2⟩ := DpAll.get' r (hx vs hH)
  obtain ⟨e, h3, h4⟩ := DpAll.get' r' (hy ws hH')
  obtain ⟨F2, n2, q⟩ := new_pair g n (Dp.up f d x h2) (Dp.up f e y h4)
  exact ⟨F2, n2, _, pairD_get h1 h3, q⟩
theorem yld_enum {a : Addr} {vs : List V} {xs : List D} (h : SqL K F a vs) (r : DpAll K F vs xs) : Yld K F (Ite K a) (pairD (rangeD 0 xs.length) xs) := fun F' H f g i => by
  have hH : SqL K H a vs := sqlUp g (sqlUp f h)
  have l := DpAll.len r
  have lp : (pairD (rangeD 0 xs.length) xs).length = xs.length := by
    unfold pairD
    rw [List.length_zipWith, rangeD_len, Nat.min_self]
  rw [lp]
  refine ⟨fun hi => ⟨⟨vs, vs[i]'(by omega), hH, List.getElem?_eq_getElem _⟩, fun x H' hy => ?_⟩, fun hi => ⟨vs, hH, by omega⟩⟩
  obtain ⟨p, x, rfl, n, rfl, hx⟩ := hy
  obtain ⟨d, h1, h2⟩ := DpAll.get' r (hx vs hH)
  obtain ⟨F2, n2, q⟩ := new_pair g n (.int (i : Nat)) (Dp.up f d x h2)
  refine ⟨F2, n2, _, pairD_get (rangeD_get 0 _ i hi) h1, ?_⟩
  have e0 : (0 : Int) + (i : Nat) = (i : Nat) := by omega
  rw [e0]
  exact q
end
/-- the items of a list, of a tuple -/
def itL (v : Val) : M (List D) := fun ρ S => match v with
  | .d (.list l) => .ok l ρ S
  | _ => .bad
def itT (v : Val) : M (List D) := fun ρ S => match v with
  | .d (.tuple l) => .ok l ρ S
  | _ => .bad
section
variable {X : Cx} {W : WX} {tg e e1 e2 : Expr} {es : List Expr} {pos : Pos} {ma mb : M Val} {ml : M (List Val)}
def iL (m : M Val) : M (List D) := bind (bind m fz) itL
def iT (m : M Val) : M (List D) := bind (bind m fz) itT
theorem mi_list (h : ME X W e ma) : MI X W tg e (iL ma) := by
  refine PI.weak (pi_list (me_fz h)) fun pins σ H s R I q => ?_
  obtain ⟨F, A, ρ, S, as, q⟩ := q
  refine ⟨F, A, ρ, S, as, q.bind Ev.refl fun a ρ1 S1 F1 A1 x H1 _ _ ev as1 r1 q1 => ?_⟩
  cases a with
  | own j => exact q1.elim
  | w k => exact q1.elim
  | fl l => exact q1.elim
  | d y =>
    cases y with
    | list l =>
      have r1 : Dp X.K F1 x (.list l) := r1
      cases r1 with
      | lst hs ha => exact ⟨_, rfl, ⟨_, .inl (.inl (as1.sub _ _ hs))⟩, q1.now ev as1 (yld_list (.inl (.inl hs)) ha)⟩
    | _ => exact q1.elim
theorem mi_tup (h : ME X W e ma) : MI X W tg e (iT ma) := by
  refine PI.weak (pi_tup (me_fz h)) fun pins σ H s R I q => ?_
  obtain ⟨F, A, ρ, S, as, q⟩ := q
  refine ⟨F, A, ρ, S, as, q.bind Ev.refl fun a ρ1 S1 F1 A1 x H1 _ _ ev as1 r1 q1 => ?_⟩
  cases a with
  | own j => exact q1.elim
  | w k => exact q1.elim
  | fl l => exact q1.elim
  | d y =>
    cases y with
    | tuple l =>
      have r1 : Dp X.K F1 x (.tuple l) := r1
      cases r1 with
      | tup hs ha => exact ⟨_, rfl, ⟨_, sqtUp as1.sub hs⟩, q1.now ev as1 (yld_tup hs ha)⟩
    | _ => exact q1.elim
/-- range(n), range(m, n) -/
def iR1 (ml : M (List Val)) : M (List D) := bind ml fun vs => fun ρ S => match vs with
  | [.d (.int j)] => if -(2 ^ 62) ≤ j ∧ j < 2 ^ 62 then .ok (rangeD 0 j.toNat) ρ S else .bad
  | _ => .bad
def iR2 (ml : M (List Val)) : M (List D) := bind ml fun vs => fun ρ S => match vs with
  | [.d (.int i), .d (.int j)] => if -(2 ^ 62) ≤ i ∧ i < 2 ^ 62 ∧ -(2 ^ 62) ≤ j ∧ j < 2 ^ 62 then .ok (rangeD i (j - i).toNat) ρ S else .bad
  | _ => .bad
theorem one_rep {K : PySem.W.Frag} {F : Hp} {A : List Addr} {ρ : Rho} {σ : St} {H Hs : Hp} {xs : List V} {v : Val} (r : Paired (VRep K Hs F A ρ σ H) xs [v]) : ∃ x, xs = [x] ∧ VRep K Hs F A ρ σ H x v := by
  cases r with
  | cons r t => cases t; exact ⟨_, rfl, r⟩
theorem two_rep {K : PySem.W.Frag} {F : Hp} {A : List Addr} {ρ : Rho} {σ : St} {H Hs : Hp} {xs : List V} {v u : Val} (r : Paired (VRep K Hs F A ρ σ H) xs [v, u]) : ∃ x y, xs = [x, y] ∧ VRep K Hs F A ρ σ H x v ∧ VRep K Hs F A ρ σ H y u := by
  cases r with
  | cons r t =>
    obtain ⟨y, rfl, r2⟩ := one_rep t
    exact ⟨_, _, rfl, r, r2⟩
theorem int_rep {K : PySem.W.Frag} {F : Hp} {A : List Addr} {ρ : Rho} {σ : St} {H Hs : Hp} {x : V} {i : Int} (r : VRep K Hs F A ρ σ H x (.d (.int i))) : x = .int i := by
  have r : Dp K F x (.int i) := r
  cases r
  rfl
theorem mi_range1 (h : ∀ {ta : TA}, PA X [e] ta → PI X tg e1 (iRng1 ta)) (ha : MA X W [e] ml) : MI X W tg e1 (iR1 ml) := by
  refine PI.weak (h ha) fun pins σ H s R I q => ?_
  obtain ⟨F, A, ρ, S, as, q⟩ := q
  refine ⟨F, A, ρ, S, as, q.bind Ev.refl fun a ρ1 S1 F1 A1 x H1 he _ ev as1 r1 q1 => ?_⟩
  split at q1
  · rename_i j
    obtain ⟨x, rfl, r⟩ := one_rep r1
    have r := int_rep r
    subst r
    by_cases c : -(2 ^ 62) ≤ j ∧ j < 2 ^ 62
    · rw [if_pos c] at q1
      exact ⟨j, rfl, c.1, c.2, q1.now ev as1 yld_range⟩
    · rw [if_neg c] at q1
      exact q1.elim
  · exact q1.elim
theorem mi_range2 (h : ∀ {ta : TA}, PA X [e, e2] ta → PI X tg e1 (iRng2 ta)) (ha : MA X W [e, e2] ml) : MI X W tg e1 (iR2 ml) := by
  refine PI.weak (h ha) fun pins σ H s R I q => ?_
  obtain ⟨F, A, ρ, S, as, q⟩ := q
  refine ⟨F, A, ρ, S, as, q.bind Ev.refl fun a ρ1 S1 F1 A1 x H1 he _ ev as1 r1 q1 => ?_⟩
  split at q1
  · rename_i i j
    obtain ⟨x, y, rfl, r, r2⟩ := two_rep r1
    have r := int_rep r
    have r2 := int_rep r2
    subst r r2
    by_cases c : -(2 ^ 62) ≤ i ∧ i < 2 ^ 62 ∧ -(2 ^ 62) ≤ j ∧ j < 2 ^ 62
    · rw [if_pos c] at q1
      exact ⟨i, j, rfl, c, q1.now ev as1 yld_range⟩
    · rw [if_neg c] at q1
      exact q1.elim
  · exact q1.elim
/-- zip of two lists or two tuples; enumerate of a list -/
def iZ (ml : M (List Val)) : M (List D) := bind ml fun vs => fun ρ S => match vs with
  | [.d (.list xs), .d (.list ys)] => .ok (pairD xs ys) ρ S
  | [.d (.tuple xs), .d (.tuple ys)] => .ok (pairD xs ys) ρ S
  | _ => .bad
def iE (ml : M (List Val)) : M (List D) := bind ml fun vs => fun ρ S => match vs with
  | [.d (.list xs)] => .ok (pairD (rangeD 0 xs.length) xs) ρ S
  | _ => .bad
theorem mi_zip (h : ∀ {ta : TA}, PA X [e, e2] ta → PI X tg e1 (iZipA X.K ta)) (ha : MA X W [e, e2] ml) : MI X W tg e1 (iZ ml) := by
  refine PI.weak (h ha) fun pins σ H s R I q => ?_
  obtain ⟨F, A, ρ, S, as, q⟩ := q
  refine ⟨F, A, ρ, S, as, q.bind Ev.refl fun a ρ1 S1 F1 A1 x H1 _ _ ev as1 r1 q1 => ?_⟩
  split at q1
  · obtain ⟨x, y, rfl, r, r2⟩ := two_rep r1
    have r : Dp X.K F1 x (.list _) := r
    have r2 : Dp X.K F1 y (.list _) := r2
    cases r with
    | lst hs ha => cases r2 with
      | lst hs2 ha2 => exact ⟨_, _, _, _, rfl, .inl ⟨.inl (.inl (as1.sub _ _ hs)), .inl (.inl (as1.sub _ _ hs2)), q1.now ev as1 (yld_zip (.inl (.inl hs)) ha (.inl (.inl hs2)) ha2)⟩⟩
  · obtain ⟨x, y, rfl, r, r2⟩ := two_rep r1
    have r : Dp X.K F1 x (.tuple _) := r
    have r2 : Dp X.K F1 y (.tuple _) := r2
    cases r with
    | tup hs ha => cases r2 with
      | tup hs2 ha2 => exact ⟨_, _, _, _, rfl, .inr ⟨sqtUp as1.sub hs, sqtUp as1.sub hs2, q1.now ev as1 (yld_zipT hs ha hs2 ha2)⟩⟩
  · exact q1.elim
theorem mi_enum (h : ∀ {ta : TA}, PA X [e] ta → PI X tg e1 (iEnum X.K ta)) (ha : MA X W [e] ml) : MI X W tg e1 (iE ml) := by
  refine PI.weak (h ha) fun pins σ H s R I q => ?_
  obtain ⟨F, A, ρ, S, as, q⟩ := q
  refine ⟨F, A, ρ, S, as, q.bind Ev.refl fun a ρ1 S1 F1 A1 x H1 _ _ ev as1 r1 q1 => ?_⟩
  split at q1
  · obtain ⟨x, rfl, r⟩ := one_rep r1
    have r : Dp X.K F1 x (.list _) := r
    cases r with
    | lst hs ha => exact ⟨_, _, rfl, .inl (.inl (as1.sub _ _ hs)), q1.now ev as1 (yld_enum (.inl (.inl hs)) ha)⟩
  · exact q1.elim
/-! ### for -/
def forM (p : Pat) (body : MStm) : List D → MStm
  | [] => sNext
  | x :: xs => fun ρ S => match p (.d x) ρ with
    | none => .bad
    | some ρ1 => match body ρ1 S with
      | .nx ρ2 S2 => forM p body xs ρ2 S2
      | .ct ρ2 S2 => forM p body xs ρ2 S2
      | .bk ρ2 S2 => .nx ρ2 S2
      | r => r
def sFor (mi : M (List D)) (p : Pat) (body : MStm) : MStm := thenS mi fun xs => forM p body xs
theorem ms_for {mi : M (List D)} {p : Pat} {sl : List Nat} {body : List Stmt} {mb : MStm} (hp : PassesOwn (model X.prog X.w) X.A X.env X.xe) (hc : X.calm = true) (hi : MI X W tg e mi) (hg : MG X W tg p sl) (hb : MSs X W body mb)
    (hs : ∀ x, foldedSetIterable e X.env x = pure x := by intro _; rfl) : MS X W (.For tg e body [] pos) (sFor mi p mb) := by
  refine PS.weak (ps_for hp hc hi hg hb hs) fun pins σ H s E I q => ?_
  obtain ⟨F, A, ρ, S, as, q⟩ := q
  refine ⟨F, A, ρ, S, as, q.thenS Ev.refl fun xs ρ1 S1 F1 A1 J H1 _ _ ev as1 yl q1 => ?_⟩
  refine ⟨fun i m σ' H' => m = xs.length - i ∧ i ≤ xs.length ∧ ∃ F2 A2 ρ2 S2, Ev F A ρ σ H F2 A2 ρ2 σ' H' ∧ (∀ a o, F1 a = some o → F2 a = some o) ∧ ASF X.K F2 A2 ρ2 S2 σ' H' ∧ PostS X.K W (forM p mb (xs.drop i) ρ2 S2) F A ρ σ H E, ⟨xs.length, by simp, Nat.zero_le _, F1, A1, ρ1, S1, ev, fun _ _ h => h, as1, q1⟩, ?_⟩
  rintro i m σ2 H2 ⟨rfl, hi, F2, A2, ρ2, S2, ev2, ff, as2, q2⟩
  have y := yl F2 H2 ff as2.sub i
  by_cases hlt : i < xs.length
  · obtain ⟨go, yy⟩ := y.1 hlt
    refine .inr ⟨go, fun σ' H' => ∃ F3 A3 ρ3 S3, Ev F A ρ σ H F3 A3 ρ3 σ' H' ∧ (∀ a o, F1 a = some o → F3 a = some o) ∧ ASF X.K F3 A3 ρ3 S3 σ' H' ∧ PostS X.K W (forM p mb (xs.drop (i + 1)) ρ3 S3) F A ρ σ H E, fun σ' H' h => ⟨xs.length - (i + 1), by omega, rfl, hlt, h⟩, fun x H' hy => ?_⟩
    obtain ⟨F3, nw, d, hd, rd⟩ := yy x H' hy
    have as3 := as2.new nw
    have ev3 := ev2.trans (nw.ev (A := A2) (ρ := ρ2) (σ := σ2))
    refine ⟨F, A, ρ, σ, H, F3, A2, ρ2, S2, .d d, ev3, as3, rd, ?_⟩
    have hdrop : xs.drop i = d :: xs.drop (i + 1) := by
      rw [List.drop_eq_getElem_cons hlt]
      congr 1
      rw [List.getElem?_eq_getElem hlt] at hd
      exact Option.some.inj hd
    rw [hdrop] at q2
    unfold forM at q2
    cases ep : p (.d d) ρ2 with
    | none => rw [ep] at q2; exact q2.elim
    | some ρ3 =>
      rw [ep] at q2
      intro σ4 ev4 as4 _ _
      refine ⟨F3, A2, ρ3, S2, as4, ?_⟩
      dsimp only at q2
      cases eb : mb ρ3 S2 with
      | nx ρ5 S5 =>
        rw [eb] at q2
        exact fun F5 A5 σ5 H5 ev5 as5 => ⟨F5, A5, ρ5, S5, ev4.trans ev5, fun a o h => ev5.ff _ _ (nw.ff _ _ (ff a o h)), as5, q2⟩
      | ct ρ5 S5 =>
        rw [eb] at q2
        exact fun F5 A5 σ5 H5 ev5 as5 => ⟨F5, A5, ρ5, S5, ev4.trans ev5, fun a o h => ev5.ff _ _ (nw.ff _ _ (ff a o h)), as5, q2⟩
      | bk ρ5 S5 =>
        rw [eb] at q2
        exact fun F5 A5 σ5 H5 ev5 as5 => q2.nx (ev4.trans ev5) as5
      | rt v ρ5 S5 =>
        rw [eb] at q2
        exact PostS.re q2 ev4
      | exc c pp ρ5 S5 =>
        rw [eb] at q2
        exact PostS.re q2 ev4
      | bad => rw [eb] at q2; exact q2
  · have e : i = xs.length := by omega
    subst e
    rw [List.drop_length] at q2
    exact .inl ⟨y.2 (Nat.le_refl _), q2.nx ev2 as2⟩
end
end ME
end

section
set_option maxHeartbeats 4000000
namespace ME
open PySem PySem.Spec L2
open PyProof.Rows hiding St

/-! ### comprehensions -/
def W0 : WX := fun _ _ _ _ => False
/-- the slots vs forgotten; put back -/
def unR : List Nat → Rho → Rho
  | [], ρ => ρ
  | v :: vs, ρ => (unR vs ρ).set v .un
def restR (ρ : Rho) : List Nat → Rho → Rho
  | [], ρ' => ρ'
  | v :: vs, ρ' => (restR ρ vs ρ').set v (ρ.getD v .un)
def notOwn (ρ : Rho) (v : Nat) : Bool := match ρ[v]? with
  | some (.own _) => false
  | _ => true
def compM (vs : List Nat) (p : Pat) (c : M Bool) (m : M Val) : List D → List D → M (List D)
  | [], acc => ret acc
  | x :: xs, acc => fun ρ S => match p (.d x) ρ with
    | none => .bad
    | some ρ1 => match c ρ1 S with
      | .ok true ρ2 S2 => (match bind m fz ρ2 S2 with
        | .ok (.d y) ρ3 S3 => compM vs p c m xs (acc ++ [y]) (unR vs ρ3) S3
        | _ => .bad)
      | .ok false ρ2 S2 => compM vs p c m xs acc (unR vs ρ2) S2
      | _ => .bad
def mLc (vs : List Nat) (mi : M (List D)) (p : Pat) (c : M Bool) (m : M Val) : M Val := bind mi fun xs => fun ρ S => if xs.length ≤ sizeLine ∧ vs.all (notOwn ρ) = true then
    (match compM vs p c m xs [] (unR vs ρ) S with
    | .ok acc ρ' S' => .ok (.fl acc) (restR ρ vs ρ') S'
    | _ => .bad) else .bad
section
variable {K : PySem.W.Frag} {F F1 F2 : Hp} {A A1 A2 : List Addr} {ρ ρ1 ρ2 : Rho} {S S1 : T} {σ σ1 σ2 : St} {H H1 H2 : Hp} {vs : List Nat}
theorem unR_get {i : Nat} {s : Sl} : ∀ {vs : List Nat}, (unR vs ρ)[i]? = some s → s = .un ∨ (i ∉ vs ∧ ρ[i]? = some s)
  | [], h => .inr ⟨by simp, h⟩
  | v :: vs, h => by
    unfold unR at h
    rcases getSet h with ⟨rfl, e⟩ | ⟨n, e⟩
    · exact .inl e.symm
    · rcases unR_get e with e | ⟨e1, e2⟩
      · exact .inl e
      · refine .inr ⟨fun z => ?_, e2⟩
        rcases List.mem_cons.mp z with z | z
        · exact n z.symm
        · exact e1 z
theorem wipe_out' {i : Nat} : ∀ {vs : List Nat}, i ∉ vs → (wipe σ vs)[i]? = σ[i]?
  | [], _ => rfl
  | v :: vs, h => by
    rw [List.mem_cons, not_or] at h
    unfold wipe
    rw [List.getElem?_set_ne (Ne.symm h.1)]
    exact wipe_out' h.2
theorem restR_get {i : Nat} {s : Sl} : ∀ {vs : List Nat}, (restR ρ vs ρ1)[i]? = some s → (i ∈ vs ∧ s = ρ.getD i .un) ∨ (i ∉ vs ∧ ρ1[i]? = some s)
  | [], h => .inr ⟨by simp, h⟩
  | v :: vs, h => by
    unfold restR at h
    rcases getSet h with ⟨rfl, e⟩ | ⟨n, e⟩
    · exact .inl ⟨List.mem_cons_self, e.symm⟩
    · rcases restR_get e with ⟨e1, e2⟩ | ⟨e1, e2⟩
      · exact .inl ⟨List.mem_cons_of_mem _ e1, e2⟩
      · refine .inr ⟨fun z => ?_, e2⟩
        rcases List.mem_cons.mp z with z | z
        · exact n z.symm
        · exact e1 z
theorem own_unR {a : Addr} (h : OwnA (unR vs ρ) (wipe σ vs) a) : OwnA ρ σ a := by
  obtain ⟨i, l, e1, e2⟩ := h
  rcases unR_get e1 with e | ⟨e3, e4⟩
  · cases e
  · rw [wipe_out' e3] at e2
    exact ⟨i, l, e4, e2⟩
theorem ASF.wipe (as : ASF K F A ρ S σ H) : ASF K F A (unR vs ρ) S (L2.wipe σ vs) H where
  sub := as.sub
  aw := as.aw
  nd := as.nd
  st := as.st
  sl i s h := by
    rcases unR_get h with e | ⟨e1, e2⟩
    · subst e; trivial
    · rw [wipe_out' e1]
      exact as.sl i s e2
  ow i j l l' h1 h2 h3 := by
    rcases unR_get h1 with e | ⟨e1, e2⟩
    · cases e
    · rcases unR_get h2 with e | ⟨e3, e4⟩
      · cases e
      · rw [wipe_out' e1, wipe_out' e3] at h3
        exact as.ow i j l l' e2 e4 h3
theorem Ev.wipe (ev : Ev F A ρ σ H F1 A1 ρ1 σ1 H1) : Ev F A ρ σ H F1 A1 (unR vs ρ1) (L2.wipe σ1 vs) H1 := ⟨ev.ff, ev.fn, ev.aa, ev.fr, ev.lv, fun a h => ev.ow a (own_unR h)⟩
/-- a turn's end: the block's slots forgotten again -/
theorem ASF.wipe2 (as : ASF K F A ρ S σ1 H) (e : L2.wipe σ1 vs = L2.wipe σ vs) : ASF K F A (unR vs ρ) S (L2.wipe σ vs) H := by
  rw [← e]
  exact as.wipe
theorem Ev.wipe2 (ev : Ev F A ρ σ H F1 A1 ρ1 σ1 H1) (e : L2.wipe σ1 vs = L2.wipe σ2 vs) : Ev F A ρ σ H F1 A1 (unR vs ρ1) (L2.wipe σ2 vs) H1 := by
  rw [← e]
  exact ev.wipe
theorem Ev.stray {p : Addr} {o : HO} (ev : Ev F A ρ σ H F1 A1 ρ1 σ1 H1) (n : H p = Option.none) : Ev F A ρ σ H F1 A1 ρ1 σ1 (upd H1 p o) where
  ff := ev.ff
  fn := ev.fn
  aa := ev.aa
  fr a u h h1 h2 := by
    rw [upd_ne (ne_of_none h n)]
    exact ev.fr a u h h1 h2
  lv a h := by
    by_cases e : a = p
    · rw [e, upd_same]; simp
    · rw [upd_ne e]; exact ev.lv a h
  ow := ev.ow
theorem ASF.stray {p : Addr} {o : HO} (as : ASF K F A ρ S σ H) (h1 : F p = none) (h2 : p ∉ A) (h3 : ¬ OwnA ρ σ p) : ASF K F A ρ S σ (upd H p o) where
  sub a u h := by
    rw [upd_ne (ne_of_none h h1)]
    exact as.sub a u h
  aw := as.aw
  nd := as.nd
  st := by
    have key : ∀ (A' : List Addr) (S' : T), (∀ a ∈ A', a ≠ p) → Paired (WoRep K F A H) A' S' → Paired (WoRep K F A (upd H p o)) A' S' := by
      intro A' S' hn h
      induction h with
      | nil => exact .nil
      | cons r t ih => exact .cons (r.up (fun _ _ z => z) ⟨[], by simp⟩ (upd_ne (hn _ List.mem_cons_self))) (ih fun a ha => hn a (List.mem_cons_of_mem _ ha))
    exact key A S (fun a ha z => h2 (z ▸ ha)) as.st
  sl i s h := (as.sl i s h).up (fun _ _ z => z) ⟨[], by simp⟩ fun q ws l e e1 e2 e3 e4 => by
    subst e
    refine ⟨?_, e3, e4⟩
    rw [upd_ne]
    · exact e2
    · rintro rfl
      exact h3 ⟨i, l, h, e1⟩
  ow := as.ow
/-- a new list stands by -/
def Fl (K : PySem.W.Frag) (F : Hp) (A : List Addr) (ρ : Rho) (σ : St) (H : Hp) (p : Addr) (l : List D) : Prop := ∃ vs, H p = some (.lst vs) ∧ F p = none ∧ p ∉ A ∧ ¬ OwnA ρ σ p ∧ DpAll K F vs l
theorem Fl.up {p : Addr} {l : List D} (h : Fl K F A ρ σ H p l) (e : Ev F A ρ σ H F1 A1 ρ1 σ1 H1) : Fl K F1 A1 ρ1 σ1 H1 p l := by
  obtain ⟨vs, h2, h3, h4, h5, h6⟩ := h
  have r : VRep K (fun _ => none) F A ρ σ H (.ref p) (.fl l) := ⟨p, vs, rfl, rfl, h2, h3, h4, h5, h6⟩
  refine ⟨vs, e.fr p _ h2 h5 h4, ?_, fun z => ?_, fun z => ?_, DpAll.up e.ff l vs h6⟩
  · cases q : F1 p with
    | none => rfl
    | some o =>
      rcases e.fn p h3 (by rw [q]; simp) with z | z
      · rw [h2] at z; cases z
      · exact absurd z h5
  · obtain ⟨B, e1, n1⟩ := e.aa
    rw [e1] at z
    rcases List.mem_append.mp z with z | z
    · exact h4 z
    · have z := n1 p z
      rw [h2] at z; cases z
  · rcases e.ow p z with z | z
    · exact h5 z
    · rw [h2] at z; cases z
theorem Fl.wipe2 {p : Addr} {l : List D} (h : Fl K F A ρ σ1 H p l) (e : L2.wipe σ1 vs = L2.wipe σ vs) : Fl K F A (unR vs ρ) (L2.wipe σ vs) H p l := by
  obtain ⟨ws, h2, h3, h4, h5, h6⟩ := h
  refine ⟨ws, h2, h3, h4, fun z => h5 ?_, h6⟩
  rw [← e] at z
  exact own_unR z
/-- the block is left -/
theorem ASF.rest (as : ASF K F A ρ S σ H) (ev : Ev F A ρ σ H F1 A1 ρ1 (L2.wipe σ vs) H1) (as1 : ASF K F1 A1 ρ1 S1 (L2.wipe σ vs) H1) (no : vs.all (notOwn ρ) = true) : ASF K F1 A1 (restR ρ vs ρ1) S1 σ H1 where
  sub := as1.sub
  aw := as1.aw
  nd := as1.nd
  st := as1.st
  sl i s h := by
    rcases restR_get h with ⟨h1, h2⟩ | ⟨h1, h2⟩
    · cases q : ρ[i]? with
      | none =>
        have e : ρ.getD i .un = .un := by rw [List.getD_eq_getElem?_getD, q]; rfl
        rw [h2, e]
        trivial
      | some s' =>
        have e : ρ.getD i .un = s' := by rw [List.getD_eq_getElem?_getD, q]; rfl
        rw [h2, e]
        obtain ⟨B, eB, _⟩ := ev.aa
        refine (as.sl i s' q).up ev.ff ⟨B, eB⟩ fun p ws l es _ _ _ _ => ?_
        exfalso
        have z := List.all_eq_true.mp no i h1
        unfold notOwn at z
        rw [q, es] at z
        cases z
    · have z := as1.sl i s h2
      rw [wipe_out' h1] at z
      exact z
  ow i j l l' h1 h2 h3 := by
    have key : ∀ {i : Nat} {l : List D}, (restR ρ vs ρ1)[i]? = some (.own l) → i ∉ vs ∧ ρ1[i]? = some (.own l) := fun {i l} h => by
      rcases restR_get h with ⟨h1, h2⟩ | z
      · exfalso
        have z := List.all_eq_true.mp no i h1
        unfold notOwn at z
        cases q : ρ[i]? with
        | none =>
          have e : ρ.getD i .un = .un := by rw [List.getD_eq_getElem?_getD, q]; rfl
          rw [e] at h2; cases h2
        | some s' =>
          have e : ρ.getD i .un = s' := by rw [List.getD_eq_getElem?_getD, q]; rfl
          rw [e] at h2
          rw [q, ← h2] at z
          cases z
      · exact z
    obtain ⟨k1, k2⟩ := key h1
    obtain ⟨k3, k4⟩ := key h2
    exact as1.ow i j l l' k2 k4 (by rw [wipe_out' k1, wipe_out' k3]; exact h3)
theorem own_rest {a : Addr} (no : vs.all (notOwn ρ) = true) (h : OwnA (restR ρ vs ρ1) σ a) : OwnA ρ1 (L2.wipe σ vs) a := by
  obtain ⟨i, l, e1, e2⟩ := h
  rcases restR_get e1 with ⟨h1, h2⟩ | ⟨h1, h2⟩
  · exfalso
    have z := List.all_eq_true.mp no i h1
    unfold notOwn at z
    cases q : ρ[i]? with
    | none =>
      have e : ρ.getD i .un = .un := by rw [List.getD_eq_getElem?_getD, q]; rfl
      rw [e] at h2; cases h2
    | some s' =>
      have e : ρ.getD i .un = s' := by rw [List.getD_eq_getElem?_getD, q]; rfl
      rw [e] at h2
      rw [q, ← h2] at z
      cases z
  · exact ⟨i, l, h2, by rw [wipe_out' h1]; exact e2⟩
theorem Ev.rest (ev : Ev F A ρ σ H F1 A1 ρ1 (L2.wipe σ vs) H1) {ρ' : Rho} (no : vs.all (notOwn ρ') = true) : Ev F A ρ σ H F1 A1 (restR ρ' vs ρ1) σ H1 := ⟨ev.ff, ev.fn, ev.aa, ev.fr, ev.lv, fun a h => ev.ow a (own_rest no h)⟩
end
def MTs (X : Cx) (W : WX) (ifs : List Expr) (c : M Bool) : Prop := PTs X ifs (tT X.K W c)
section
variable {X : Cx} {W : WX} {tg e e1 e2 elt iter : Expr} {ifs : List Expr} {pos : Pos} {ma mb : M Val} {c : M Bool}
theorem mts_nil : MTs X W [] (ret true) := ⟨fun pins s σ H Q I h => pts_nil.run pins s σ H Q I (by
  obtain ⟨F, A, ρ, S, as, q⟩ := h
  exact q.now Ev.refl as rfl)⟩
theorem mts_one (h : MT X W e c) : MTs X W [e] c := pts_one h
/-- the reading of a comprehension by that of its parts -/
theorem lc_read {K : PySem.W.Frag} {W : WX} {mi : M (List D)} {p : Pat} {sl vs : List Nat} {c : M Bool} {m : M Val} {σ : St} {H : Hp} {Q : VK} (hsl : ∀ j ∈ sl, j ∈ vs)
    (q : tE K W (mLc vs mi p c m) σ H Q) : tLc (tI K W mi) (tG K W0 p sl) (tT K W0 c) (tE K W0 m) vs σ H Q := by
  obtain ⟨F, A, ρ, S, as, q⟩ := q
  refine ⟨F, A, ρ, S, as, q.bind Ev.refl fun xs ρ1 S1 F1 A1 J H1 _ _ ev as1 yl q1 D nD => ?_⟩
  by_cases hz : xs.length ≤ sizeLine ∧ vs.all (notOwn ρ1) = true
  case neg =>
    rw [if_neg hz] at q1
    exact q1.elim
  rw [if_pos hz] at q1
  obtain ⟨hz, no⟩ := hz
  -- what stands at a turn's start
  let I : Nat → Hp → Prop := fun i H2 => ∃ F2 A2 ρ2 S2 acc, Ev F A ρ σ H F2 A2 ρ2 (wipe σ vs) H2 ∧ Ev F1 A1 ρ1 σ H1 F2 A2 ρ2 (wipe σ vs) H2 ∧ ASF K F2 A2 ρ2 S2 (wipe σ vs) H2 ∧ Fl K F2 A2 ρ2 (wipe σ vs) H2 D acc ∧ acc.length ≤ i ∧
    Post K W (rVal K) (match compM vs p c m (xs.drop i) acc ρ2 S2 with
      | .ok acc ρ' S' => .ok (.fl acc) (restR ρ1 vs ρ') S'
      | _ => .bad) F A ρ σ H Q
  have nw : New F1 H1 F1 (upd H1 D (.lst [])) := New.own as1.sub nD
  have asD := as1.new nw
  have nofD := as1.nof nD
  have evD : Ev F1 A1 ρ1 σ H1 F1 A1 ρ1 σ (upd H1 D (.lst [])) := nw.ev
  have h0 : I 0 (upd H1 D (.lst [])) := by
    refine ⟨F1, A1, unR vs ρ1, S1, [], (ev.trans evD).wipe, evD.wipe, asD.wipe, ⟨[], upd_same, nofD, fun z => as1.world z nD, fun z => ?_, .nil⟩, Nat.le_refl _, q1⟩
    obtain ⟨i, l, e1, e2⟩ := own_unR z
    obtain ⟨p', vs', e3, e4, _⟩ := as1.sl i _ e1
    rw [e2] at e3
    cases e3
    rw [nD] at e4
    cases e4
  refine ⟨fun i k H2 => k = xs.length - i ∧ i ≤ xs.length ∧ I i H2, ⟨xs.length, by simp, Nat.zero_le _, h0⟩, ?_⟩
  rintro i k H2 ⟨rfl, hi, F2, A2, ρ2, S2, acc, ev2, ev12, as2, fl, la, q2⟩
  have y := yl F2 H2 ev12.ff as2.sub i
  have nDs : H D = none := ev.none nD
  by_cases hlt : i < xs.length
  · obtain ⟨go, yy⟩ := y.1 hlt
    refine .inr ⟨go, I (i + 1), fun H' h => ⟨xs.length - (i + 1), by omega, rfl, hlt, h⟩, fun x H' hy => ?_⟩
    obtain ⟨F3, nw3, d, hd, rd⟩ := yy x H' hy
    have as3 := as2.new nw3
    have ev3 : Ev F2 A2 ρ2 (wipe σ vs) H2 F3 A2 ρ2 (wipe σ vs) H' := nw3.ev
    refine ⟨F2, A2, ρ2, wipe σ vs, H2, F3, A2, ρ2, S2, .d d, ev3, as3, rd, ?_⟩
    have hdrop : xs.drop i = d :: xs.drop (i + 1) := by
      rw [List.drop_eq_getElem_cons hlt]
      congr 1
      rw [List.getElem?_eq_getElem hlt] at hd
      exact Option.some.inj hd
    rw [hdrop] at q2
    unfold compM at q2
    cases ep : p (.d d) ρ2 with
    | none => rw [ep] at q2; exact q2.elim
    | some ρ3 =>
      rw [ep] at q2
      intro σ4 ev4 as4 l4 k4
      have hw : wipe σ4 vs = wipe σ vs := by
        apply List.ext_getElem?
        intro j
        by_cases hj : j ∈ vs
        · have key : ∀ (τ : St) (ws : List Nat), j ∈ ws → (wipe τ ws)[j]? = if j < τ.length then some none else none := by
            intro τ ws
            induction ws with
            | nil => intro h; cases h
            | cons v ws ih =>
              intro h
              unfold wipe
              by_cases e : v = j
              · subst e
                by_cases lv : v < τ.length
                · rw [if_pos lv, List.getElem?_set_self (by rw [wipe_length]; exact lv)]
                · rw [if_neg lv, List.getElem?_eq_none (by rw [List.length_set, wipe_length]; omega)]
              · rw [List.getElem?_set_ne e]
                rcases List.mem_cons.mp h with h | h
                · exact absurd h.symm e
                · exact ih h
          rw [key σ4 vs hj, key σ vs hj]
          have : σ4.length = σ.length := by rw [l4, wipe_length]
          rw [this]
        · rw [wipe_out' hj, wipe_out' hj, k4 j (fun z => hj (hsl j z)), wipe_out' hj]
      refine ⟨hw, F3, A2, ρ3, S2, as4, ?_⟩
      dsimp only at q2
      cases ec : c ρ3 S2 with
      | bad => rw [ec] at q2; exact q2.elim
      | exc _ _ _ _ => rw [ec] at q2; exact q2.elim
      | ok b ρ4 S4 =>
        rw [ec] at q2
        intro F5 A5 b' H5 ev5 as5 rb
        cases rb
        have evT := ev4.trans ev5
        cases b with
        | false =>
          have q2 : Post K W (rVal K) (match compM vs p c m (xs.drop (i + 1)) acc (unR vs ρ4) S4 with
            | .ok acc ρ' S' => .ok (.fl acc) (restR ρ1 vs ρ') S'
            | _ => .bad) F A ρ σ H Q := q2
          exact ⟨F5, A5, unR vs ρ4, S4, acc, (ev2.trans evT).wipe2 hw, (ev12.trans evT).wipe2 hw, as5.wipe2 hw, (fl.up evT).wipe2 hw, by omega, q2⟩
        | true =>
          have q2 : Post K W (rVal K) (match (match bind m fz ρ4 S4 with
            | .ok (.d y) ρ3 S3 => compM vs p c m (xs.drop (i + 1)) (acc ++ [y]) (unR vs ρ3) S3
            | _ => .bad) with
            | .ok acc ρ' S' => .ok (.fl acc) (restR ρ1 vs ρ') S'
            | _ => .bad) F A ρ σ H Q := q2
          show tE K W0 m σ4 H5 _
          refine ⟨F5, A5, ρ4, S4, as5, Post.fz ?_⟩
          cases em : bind m fz ρ4 S4 with
          | bad => rw [em] at q2; exact q2.elim
          | exc _ _ _ _ => rw [em] at q2; exact q2.elim
          | ok v ρ6 S6 =>
            rw [em] at q2
            intro F6 A6 y H6 ev6 as6 ry
            cases v with
            | own _ => exact q2.elim
            | w _ => exact q2.elim
            | fl _ => exact q2.elim
            | d yd =>
              have evT2 := evT.trans ev6
              obtain ⟨ws, g1, g2, g3, g4, g5⟩ := fl.up evT2
              have lw := DpAll.len g5
              refine ⟨ws, g1, by omega, ?_⟩
              have ry : Dp K F6 y yd := ry
              refine ⟨F6, A6, unR vs ρ6, S6, acc ++ [yd], ((ev2.trans evT2).stray nDs).wipe2 hw, ((ev12.trans evT2).stray nD).wipe2 hw, (as6.stray g2 g3 g4).wipe2 hw, Fl.wipe2 ⟨_, upd_same, g2, g3, g4, DpAll.app g5 (.cons ry .nil)⟩ hw, by rw [List.length_append]; simp; omega, q2⟩
  · have e : i = xs.length := by omega
    subst e
    rw [List.drop_length] at q2
    refine .inl ⟨y.2 (Nat.le_refl _), ?_⟩
    have q2 : Post K W (rVal K) (.ok (.fl acc) (restR ρ1 vs ρ2) S2) F A ρ σ H Q := q2
    refine q2.now (ev2.rest no) (as1.rest ev12 as2 no) ?_
    obtain ⟨ws, g1, g2, g3, g4, g5⟩ := fl
    exact ⟨D, ws, rfl, nDs, g1, g2, g3, fun z => g4 (own_rest no z), g5⟩
theorem me_lc {own : List (Str × Nat)} {scope : Scope} {mi : M (List D)} {p : Pat} {sl : List Nat} (hc : X.calm = true) (hN : X.N.Nodup) (hi : MI X W tg iter mi) (ok : BlkOk X.N X.env.scope scope own)
    (hg : ∀ (s : Shared) (H : Hp) (C : Addr) (cl : List (Str × Addr)) (fp : List Addr), MG (X.blk s H scope (compEnvC scope cl C X.env) fp) W0 tg p sl) (ht : ∀ (s : Shared) (H : Hp) (C : Addr) (cl : List (Str × Addr)) (fp : List Addr), MTs (X.blk s H scope (compEnvC scope cl C X.env) fp) W0 ifs c)
    (he : ∀ (s : Shared) (H : Hp) (C : Addr) (cl : List (Str × Addr)) (fp : List Addr), ME (X.blk s H scope (compEnvC scope cl C X.env) fp) W0 elt mb) (hsl : ∀ j ∈ sl, j ∈ own.map (·.2)) (hs : ∀ x, foldedSetIterable iter X.env x = pure x := by intro _; rfl) :
    ME X W (.ListComp elt [⟨tg, iter, ifs, 0⟩] scope pos) (mLc (own.map (·.2)) mi p c mb) :=
  PE.weak (pe_lc (g := tG X.K W0 p sl) (tt := tT X.K W0 c) (te := tE X.K W0 mb) hc hN hi ok hg ht he hs) fun _ _ _ _ _ _ q => lc_read hsl q
theorem ms_setLc {i : Nat} {y : Str} {py spos : Pos} {own : List (Str × Nat)} {scope : Scope} {mi : M (List D)} {p : Pat} {sl : List Nat} (hc : X.calm = true) (hN : X.N.Nodup) (hy : X.N[i]? = some y) (hyl : X.env.scope.names.lookup y = some .local)
    (hsw : swapsWith (.ListComp elt [⟨tg, iter, ifs, 0⟩] scope pos) (some (.Name y py)) spos.line X.env = pure true) (hi : MI X W tg iter mi) (ok : BlkOk X.N X.env.scope scope own)
    (hg : ∀ (s : Shared) (H : Hp) (C : Addr) (cl : List (Str × Addr)) (fp : List Addr), MG (X.blk s H scope (compEnvC scope cl C X.env) fp) W0 tg p sl) (ht : ∀ (s : Shared) (H : Hp) (C : Addr) (cl : List (Str × Addr)) (fp : List Addr), MTs (X.blk s H scope (compEnvC scope cl C X.env) fp) W0 ifs c)
    (he : ∀ (s : Shared) (H : Hp) (C : Addr) (cl : List (Str × Addr)) (fp : List Addr), ME (X.blk s H scope (compEnvC scope cl C X.env) fp) W0 elt mb) (hsl : ∀ j ∈ sl, j ∈ own.map (·.2)) (hs : ∀ x, foldedSetIterable iter X.env x = pure x := by intro _; rfl) :
    MS X W (.Assign [.Name y py] (.ListComp elt [⟨tg, iter, ifs, 0⟩] scope pos) spos) (sAsg (mLc (own.map (·.2)) mi p c mb) (pName i)) := by
  refine PS.weak (ps_setLc (g := tG X.K W0 p sl) (tt := tT X.K W0 c) (te := tE X.K W0 mb) hc hN hy hyl hsw hi ok hg ht he hs) fun pins σ H s E I q => ?_
  have hl : i < σ.length := by rw [I.len]; exact (List.getElem?_eq_some_iff.mp hy).1
  refine lc_read (W := W) hsl ?_
  obtain ⟨F, A, ρ, S, as, q⟩ := q
  refine ⟨F, A, ρ, S, as, Post.fzo (q.thenS Ev.refl fun a ρ1 S1 F1 A1 x H1 _ _ ev as1 r1 q1 => ?_)⟩
  cases e : pName i a ρ1 with
  | none => rw [e] at q1; exact q1.elim
  | some ρ2 =>
    rw [e] at q1
    have e2 := pName_eq e
    subst e2
    obtain ⟨ev', as'⟩ := set_ok ev as1 r1 hl
    exact q1.nx ev' as'
end
end ME
end

section
set_option maxHeartbeats 4000000
namespace ME
open PySem PySem.Spec L2
open PyProof.Rows hiding St

/-! ### defs as functions -/
inductive RF where
  | ok (v : Val) (S : T)
  | exc (c : Str) (p : List (Str × D)) (S : T)
  | bad
abbrev Fn := List Val → T → RF
/-- what a def does is f -/
def spM (K : PySem.W.Frag) (n : Nat) (f : Fn) : Sp := fun xs H Q E => ∃ F A S as, as.length = n ∧ ASF K F A [] S [] H ∧ Paired (VRep K H F A [] [] H) xs as ∧ (match f as S with
  | .ok v S' => ∀ F' A' x H', Ev F A [] [] H F' A' [] [] H' → ASF K F' A' [] S' [] H' → VRep K H' F' A' [] [] H' x v → Q x H'
  | .exc c p S' => ∀ F' A' cls d H', Ev F A [] [] H F' A' [] [] H' → ASF K F' A' [] S' [] H' → ERep K F' H' c p cls d → E cls d H'
  | .bad => False)
theorem spM_len {K : PySem.W.Frag} {n : Nat} {f : Fn} : ∀ vs H Q E, spM K n f vs H Q E → vs.length = n := fun vs H Q E h => by
  obtain ⟨F, A, S, as, h1, _, h2, _⟩ := h
  exact h2.length.trans h1
/-- the same function, where it is not bad -/
theorem spM_imp {K : PySem.W.Frag} {n : Nat} {f g : Fn} (h : ∀ as S, as.length = n → g as S ≠ .bad → f as S = g as S) : ∀ vs H Q E, spM K n g vs H Q E → spM K n f vs H Q E := fun vs H Q E q => by
  obtain ⟨F, A, S, as, h1, h2, h3, h4⟩ := q
  refine ⟨F, A, S, as, h1, h2, h3, ?_⟩
  rw [h as S h1 (fun z => by rw [z] at h4; exact h4)]
  exact h4
section
variable {K : PySem.W.Frag} {F F1 : Hp} {A A1 : List Addr} {ρ ρ1 : Rho} {S S1 : T} {σ σ1 : St} {H H1 : Hp}
theorem ASF.forget (as : ASF K F A ρ S σ H) : ASF K F A [] S [] H := ⟨as.sub, as.aw, as.nd, as.st, fun i s h => by simp at h, fun i j l l' h => by simp at h⟩
theorem not_own_nil {a : Addr} {σ : St} : ¬ OwnA [] σ a := fun ⟨i, l, h, _⟩ => by simp at h
/-- behind a call -/
theorem ASF.after (as : ASF K F A ρ S σ H) (ev : Ev F A [] [] H F1 A1 [] [] H1) (as1 : ASF K F1 A1 [] S1 [] H1) : Ev F A ρ σ H F1 A1 ρ σ H1 ∧ ASF K F1 A1 ρ S1 σ H1 := by
  refine ⟨⟨ev.ff, fun a h h1 => ?_, ev.aa, fun a o h _ h2 => ev.fr a o h not_own_nil h2, ev.lv, fun a h => .inl h⟩, ⟨as1.sub, as1.aw, as1.nd, as1.st, fun i s h => ?_, as.ow⟩⟩
  · rcases ev.fn a h h1 with z | z
    · exact .inl z
    · exact absurd z not_own_nil
  · obtain ⟨B, eB, nB⟩ := ev.aa
    refine (as.sl i s h).up ev.ff ⟨B, eB⟩ fun p vs l e e1 e2 e3 e4 => ⟨ev.fr p _ e2 not_own_nil e4, ?_, fun z => ?_⟩
    · cases q : F1 p with
      | none => rfl
      | some o =>
        rcases ev.fn p e3 (by rw [q]; simp) with z | z
        · rw [e2] at z; cases z
        · exact absurd z not_own_nil
    · rw [eB] at z
      rcases List.mem_append.mp z with z | z
      · exact e4 z
      · have z := nB p z
        rw [e2] at z; cases z
theorem VRep.forget {x : V} {v : Val} {Hs : Hp} (h : VRep K Hs F A ρ σ H x v) (hv : ∀ i, v ≠ .own i) (hf : ∀ l, v ≠ .fl l) {ρ' : Rho} {σ' : St} {Hs' H' : Hp} : VRep K Hs' F A ρ' σ' H' x v := by
  cases v with
  | d y => exact h
  | w k => exact h
  | own i => exact absurd rfl (hv i)
  | fl l => exact absurd rfl (hf l)
theorem VRep.plain {x : V} {v : Val} (h : VRep K H F A [] [] H x v) : (∀ i, v ≠ .own i) ∧ ∀ l, v ≠ .fl l := by
  cases v with
  | d y => exact ⟨fun _ h => (nomatch h), fun _ h => (nomatch h)⟩
  | w k => exact ⟨fun _ h => (nomatch h), fun _ h => (nomatch h)⟩
  | own i =>
    have h : ([] : St)[i]? = some (some x) := h
    simp at h
  | fl l =>
    obtain ⟨p, vs, _, h0, h1, _⟩ := h
    rw [h0] at h1
    cases h1
end
def plainV : Val → Bool
  | .d _ => true
  | .w _ => true
  | _ => false
def slOf : Val → Sl
  | .d x => .d x
  | .w k => .w k
  | _ => .un
def startR (n : Nat) (as : List Val) : Rho := as.map slOf ++ List.replicate (n - as.length) .un
/-- a body's outcome as a def's -/
def toF (r : SR) : RF := match r with
  | .nx _ S' => .ok (.d .none) S'
  | .rt v _ S' => if plainV v = true then .ok v S' else .bad
  | .exc c p _ S' => .exc c p S'
  | _ => .bad
def bodyFn (n : Nat) (m : MStm) : Fn := fun as S => toF (m (startR n as) S)
theorem start_sl {K : PySem.W.Frag} {F : Hp} {A : List Addr} {H : Hp} : ∀ {xs : List V} {as : List Val}, Paired (VRep K H F A [] [] H) xs as → ∀ (m i : Nat) (s : Sl), (as.map slOf ++ List.replicate m .un)[i]? = some s → s = .un ∨ SlRep K F A H ((xs.map some ++ List.replicate m none)[i]?) s
  | _, _, .nil, m, i, s, h => by
    rw [List.map_nil, List.nil_append, List.getElem?_replicate] at h
    split at h
    · exact .inl (Option.some.inj h).symm
    · cases h
  | _, _, .cons (a := x) (b := a) r t, m, 0, s, h => by
    have h : some (slOf a) = some s := h
    cases h
    cases a with
    | d y => exact .inr ⟨x, rfl, r⟩
    | w k =>
      obtain ⟨p, h1, h2⟩ := r
      exact .inr ⟨p, h1, by subst h2; rfl⟩
    | own j => exact .inl rfl
    | fl l => exact .inl rfl
  | _ :: xs, _ :: as, .cons (a := x) (b := a) r t, m, i + 1, s, h => by
    have h : (List.map slOf as ++ List.replicate m .un)[i]? = some s := by simpa using h
    simpa using start_sl t m i s h
theorem start_own {as : List Val} {m i : Nat} {l : List D} : (as.map slOf ++ List.replicate m Sl.un)[i]? ≠ some (.own l) := fun h => by
  rcases List.mem_append.mp (List.mem_of_getElem? h) with z | z
  · obtain ⟨a, _, e⟩ := List.mem_map.mp z
    cases a <;> cases e
  · have := List.eq_of_mem_replicate z
    cases this
/-- a def keeps a promise wherever no repr is under way -/
structure FnG (P : Program) (w : World) (K : PySem.W.Frag) (mg : Str → Option Value) (base : Heap) (k : Nat) (f : Addr) (fd : FuncData) (ps : List Str) (sp : Sp) : Prop where
  len : ∀ xs H Q E, sp xs H Q E → xs.length = ps.length
  go : ∀ (A : Around) (outer : List Env) (s : Shared) (H : Hp) (args : Args) (us : List Value) (xs : List V) (Q : VK) (E : XK), A.guards = some [] → Room k A → Env0 P w K mg base A outer s H → BindsTo s fd args (ps.zip us) → Vals xs us → sp xs H Q E →
    codeAny (model P w) A (.call (.ref f) args) (CR (CX P w) outer P w H s Q E) s
theorem FnG.mono {P : Program} {w : World} {K : PySem.W.Frag} {mg : Str → Option Value} {base : Heap} {j k : Nat} {f : Addr} {fd : FuncData} {ps : List Str} {sp : Sp} (h : FnG P w K mg base j f fd ps sp) (l : j ≤ k) : FnG P w K mg base k f fd ps sp :=
  ⟨h.len, fun A outer s H args us xs Q E hg hr => h.go A outer s H args us xs Q E hg (hr.mono l)⟩
theorem FnG.imp {P : Program} {w : World} {K : PySem.W.Frag} {mg : Str → Option Value} {base : Heap} {k : Nat} {f : Addr} {fd : FuncData} {ps : List Str} {sp sp' : Sp} (h : FnG P w K mg base k f fd ps sp) (i : ∀ xs H Q E, sp' xs H Q E → sp xs H Q E) : FnG P w K mg base k f fd ps sp' :=
  ⟨fun xs H Q E z => h.len xs H Q E (i _ _ _ _ z), fun A outer s H args us xs Q E hg hr e0 hb r z => h.go A outer s H args us xs Q E hg hr e0 hb r (i _ _ _ _ z)⟩
/-- a def by its body's reading -/
theorem fng_of {P : Program} {w : World} {K : PySem.W.Frag} {mg : Str → Option Value} {base : Heap} {x qual : Str} {params : Arguments} {body : List Stmt} {scope : Scope} {f : Addr} {fd : FuncData} {N ps : List Str} {k : Nat} {dvs : List V} {kws : List (Str × V)} {sp : Sp}
    (Fd : FunD K x qual params body scope dvs kws f fd) (Sc : FnScope N ps scope) (len : ∀ xs H Q E, sp xs H Q E → xs.length = ps.length)
    (hb : ∀ (cdv : Value) (A : Around) (outer : List Env) (s : Shared) (H : Hp) (xs : List V) (Q : VK) (E : XK), A.guards = some [] → Room k (A.deeper (envOfC qual scope s.heap.objs.size f cdv)) → sp xs H Q E →
      ∃ t, PSs (cxOf (CX P w) P w K mg base N qual scope f cdv A outer s H E) body t ∧ t { nx := fun _ H' => Q .non H', rt := Q } (L2.start N xs) H) : FnG P w K mg base (k + 1) f fd ps sp where
  len := len
  go A outer s H args us xs Q E hgd hr e0 hbd r hsp := by
    obtain ⟨oc, od, dV, kV, doc, pm, an, cdv, ct, osl, rfl, lk, hcd, _, _⟩ := Fd.ex
    have hl := len _ _ _ _ hsp
    have kin : K.In s.heap := e0.mod.kin.keeps fun b o e => (e0.bs b o e).1
    have nol : s.heap.NoLimit := e0.mod.nolimit.keeps fun b o e => (e0.bs b o e).1
    refine codeAny_call_function hr.depth (kin _ _ lk) rfl Sc.co Sc.gen rfl (PySem.W.codeRec_of kin hcd) (hbd _ _ _ _ ?_)
    have hk : ∀ y ∈ ps.zip us, scope.names.lookup y.1 = some .local ∨ (scope.names.lookup y.1 = some .cell ∧ ((cellsFrom (s.heap.objs.size + 1) scope.names []).lookup y.1).isSome = true) := by
      intro y hy
      have hm := (List.of_mem_zip (a := y.1) (b := y.2) hy).1
      exact (Sc.par y.1 hm).imp id fun q => ⟨q, PySem.W.cellsFrom_some _ _ _ (.inl q)⟩
    refine wpAny_newFunctionEnv_cells Sc.kind hk fun env he s1 xc => ?_
    subst he
    obtain ⟨t, ht, hq⟩ := hb cdv A outer s H xs Q E hgd (hr.deeper _) hsp
    have I0 : L2.Inv (cxOf (CX P w) P w K mg base N qual scope f cdv A outer s H E) [] (L2.start N xs) H s1 := inv_start Sc hr.hd e0 hl r xc
    refine ⟨nol.keeps xc.toInCall.keep, codeAny_func (wpAny_mono (ht.run [] s1 (L2.start N xs) H _ I0 hq) (fun fl s' hs => ?_) fun e s' hs => hs)⟩
    have done : ∀ {σ' : St} {H' : Hp} {v : V} {u : Value}, L2.Inv (cxOf (CX P w) P w K mg base N qual scope f cdv A outer s H E) [] σ' H' s' → RelV v u → Q v H' → CE outer P w H s Q u s' := fun J rv q => ⟨_, _, J.os, J.bare, J.base, J.hok, rv, q⟩
    cases fl with
    | next =>
      obtain ⟨σ', H', J, q⟩ := hs
      exact done (v := V.non) (u := Value.none) J rfl q
    | ret u =>
      obtain ⟨v, σ', H', J, rv, q⟩ := hs
      exact done J rv q
    | brk => obtain ⟨_, _, _, q⟩ := hs; exact q.elim
    | cont => obtain ⟨_, _, _, q⟩ := hs; exact q.elim
abbrev wE (E : XK) : WX := fun cls d _ H => E cls d H
section
variable {P : Program} {w : World} {K : PySem.W.Frag} {mg : Str → Option Value} {base : Heap} {x qual : Str} {params : Arguments} {body : List Stmt} {scope : Scope} {f : Addr} {fd : FuncData} {N ps : List Str} {k : Nat}
/-- a def from its body -/
theorem fn_body {dvs : List V} {kws : List (Str × V)} {m : MStm} (Fd : FunD K x qual params body scope dvs kws f fd) (Sc : FnScope N ps scope)
    (hb : ∀ (cdv : Value) (A : Around) (outer : List Env) (s : Shared) (H : Hp) (E : XK), A.guards = some [] → Room k (A.deeper (envOfC qual scope s.heap.objs.size f cdv)) →
      Takes (cxOf (CX P w) P w K mg base N qual scope f cdv A outer s H E) (wE E) → PassesOwn (model P w) (A.deeper (envOfC qual scope s.heap.objs.size f cdv)) (envOfC qual scope s.heap.objs.size f cdv) (cxOf (CX P w) P w K mg base N qual scope f cdv A outer s H E).xe →
      MSs (cxOf (CX P w) P w K mg base N qual scope f cdv A outer s H E) (wE E) body m) : FnG P w K mg base (k + 1) f fd ps (spM K ps.length (bodyFn N.length m)) := by
  refine fng_of Fd Sc spM_len fun cdv A outer s H vs Q E hgd hr h => ?_
  have tk : Takes (cxOf (CX P w) P w K mg base N qual scope f cdv A outer s H E) (wE E) := takes_of rfl rfl rfl rfl
  refine ⟨_, hb cdv A outer s H E hgd hr tk (passes_of rfl), ?_⟩
  obtain ⟨F, A', S, as, h1, h2, h3, h4⟩ := h
  have hl : vs.length = as.length := h3.length
  unfold L2.start
  have no0 : ∀ a σ, ¬ OwnA (startR N.length as) σ a := fun a σ ⟨i, l, e, _⟩ => start_own e
  refine ⟨F, A', startR N.length as, S, ⟨h2.sub, h2.aw, h2.nd, h2.st, fun i s e => ?_, fun i j l l' e => absurd e start_own⟩, ?_⟩
  · rw [hl]
    rcases start_sl h3 _ i s e with z | z
    · subst z; trivial
    · exact z
  · unfold bodyFn toF at h4
    have evr : ∀ {F' A'' ρ' σ' H'}, Ev F A' (startR N.length as) (vs.map some ++ List.replicate (N.length - vs.length) none) H F' A'' ρ' σ' H' → Ev F A' [] [] H F' A'' [] [] H' := fun ev => ⟨ev.ff, fun a e e1 => by
      rcases ev.fn a e e1 with z | z
      · exact .inl z
      · exact absurd z (no0 _ _), ev.aa, fun a o e _ e2 => ev.fr a o e (no0 _ _) e2, ev.lv, fun a e => absurd e not_own_nil⟩
    cases e : m (startR N.length as) S with
    | nx ρ' S' =>
      rw [e] at h4
      exact fun F' A'' σ' H' ev as' => h4 F' A'' _ H' (evr ev) as'.forget Dp.non
    | rt v ρ' S' =>
      rw [e] at h4
      intro F' A'' σ' x H' ev as' r
      cases v with
      | d y => exact h4 F' A'' x H' (evr ev) as'.forget r
      | w j => exact h4 F' A'' x H' (evr ev) as'.forget r
      | own j => exact h4.elim
      | fl l => exact h4.elim
    | exc c p ρ' S' =>
      rw [e] at h4
      exact fun F' A'' σ' cls d H' ev as' r => h4 F' A'' cls d H' (evr ev) as'.forget r
    | bk ρ' S' => rw [e] at h4; exact h4.elim
    | ct ρ' S' => rw [e] at h4; exact h4.elim
    | bad => rw [e] at h4; exact h4.elim
/-- .. told by a function of one's own -/
theorem fn_is {m : MStm} {g : Fn} {sp : Sp} (h : FnG P w K mg base k f fd ps (spM K ps.length (bodyFn N.length m))) (e : ∀ as S, as.length = ps.length → g as S ≠ .bad → bodyFn N.length m as S = g as S) : FnG P w K mg base k f fd ps (spM K ps.length g) :=
  h.imp (spM_imp e)
end
/-! ### calls -/
def apF (f : Fn) (vs : List Val) : M Val := fun ρ S => match f vs S with
  | .ok v S' => .ok v ρ S'
  | .exc c p S' => .exc c p ρ S'
  | .bad => .bad
def plainA (vs : List Val) : Bool := vs.all plainV
/-- f(..): n arguments -/
def mCall (n : Nat) (f : Fn) (ma : M (List Val)) : M Val := bind ma fun vs => if (plainA vs && vs.length == n) = true then apF f vs else bad
/-- f(.., k = ..): g puts them in the parameters' order -/
def mCallK (n : Nat) (f : Fn) (g : List Val → List Val → List Val) (ma mk : M (List Val)) : M Val := bind ma fun vs => bind mk fun zs => if (plainA (g vs zs) && (g vs zs).length == n) = true then apF f (g vs zs) else bad
section
variable {X : Cx} {W : WX} {e e1 : Expr} {es : List Expr} {pos p : Pos} {ml mk : M (List Val)} {fn : Fn} {f : Addr} {fd : FuncData} {ps : List Str} {x : Str} {k : Nat}
theorem call_read {F : Hp} {A : List Addr} {ρ : Rho} {S : T} {σ : St} {H H0 F0 : Hp} {A0 : List Addr} {ρ0 : Rho} {xs : List V} {vs : List Val} {Q : VK} (hn : vs.length = ps.length) (hv : plainA vs = true)
    (q : Post X.K W (rVal X.K) (apF fn vs ρ S) F0 A0 ρ0 σ H0 Q) (ev : Ev F0 A0 ρ0 σ H0 F A ρ σ H) (as : ASF X.K F A ρ S σ H) (r : Paired (VRep X.K H0 F A ρ σ H) xs vs) : spM X.K ps.length fn xs H Q (WE W σ) := by
  refine ⟨F, A, S, vs, hn, as.forget, ?_, ?_⟩
  · have key : ∀ {xs : List V} {vs : List Val}, plainA vs = true → Paired (VRep X.K H0 F A ρ σ H) xs vs → Paired (VRep X.K H F A [] [] H) xs vs := by
      intro xs vs hv r
      induction r with
      | nil => exact .nil
      | cons r t ih =>
        rename_i v _ _
        have hv : (plainV v && List.all _ plainV) = true := hv
        rw [Bool.and_eq_true] at hv
        refine .cons (r.forget ?_ ?_) (ih hv.2)
        · intro i z; rw [z] at hv; cases hv.1
        · intro l z; rw [z] at hv; cases hv.1
    exact key hv r
  · unfold apF at q
    cases e : fn vs S with
    | bad => rw [e] at q; exact q.elim
    | ok v S' =>
      rw [e] at q
      intro F' A' x H' ev' as' r'
      obtain ⟨ev2, as2⟩ := as.after ev' as'
      obtain ⟨p1, p2⟩ := r'.plain
      exact q F' A' x H' (ev.trans ev2) as2 (r'.forget p1 p2)
    | exc c p S' =>
      rw [e] at q
      intro F' A' cls d H' ev' as' r'
      obtain ⟨ev2, as2⟩ := as.after ev' as'
      exact q F' A' cls d H' (ev.trans ev2) as2 r'
theorem call_step {F : Hp} {A : List Addr} {ρ : Rho} {S : T} {σ : St} {H H0 F0 : Hp} {A0 : List Addr} {ρ0 : Rho} {xs : List V} {vs : List Val} {Q : VK} {n : Nat} (hn : n = ps.length)
    (q : Post X.K W (rVal X.K) ((if (plainA vs && vs.length == n) = true then apF fn vs else bad) ρ S) F0 A0 ρ0 σ H0 Q) (ev : Ev F0 A0 ρ0 σ H0 F A ρ σ H) (as : ASF X.K F A ρ S σ H) (r : Paired (VRep X.K H0 F A ρ σ H) xs vs) : spM X.K ps.length fn xs H Q (WE W σ) := by
  by_cases c : (plainA vs && vs.length == n) = true
  · rw [if_pos c] at q
    rw [Bool.and_eq_true] at c
    exact call_read ((beq_iff_eq.mp c.2).trans hn) c.1 q ev as r
  · rw [if_neg c] at q
    exact q.elim
theorem run_pos {pins : List (Addr × Obj)} {σ : St} {H : Hp} {s : Shared} {Q : VK} {E : XK} {us : List Value} {xs : List V} {sp : Sp} (Fk : FnG X.prog X.w X.K X.mg X.base k f fd ps sp) (hgd : X.A.guards = some []) (hr : Room k X.A) (hb : Binds X.K fd ps []) (hx : PassesAt (CX X.prog X.w) X σ E)
    (I : L2.Inv X pins σ H s) (r : Vals xs us) (h : sp xs H Q E) : wpAny (model X.prog X.w) X.A (call (.ref f) us) (EP X pins σ Q) X.xe s := by
  have hl : us.length = ps.length := r.length.symm.trans (Fk.len _ _ _ _ h)
  have hbt := hb s us I.kIn (by rw [List.append_nil]; exact hl)
  rw [List.append_nil] at hbt
  refine wpAny_call (codeAny_mono (Fk.go X.A X.stack s H ⟨us, []⟩ us xs Q E hgd hr I.env0 hbt r h) fun r s' hq => ?_)
  cases r with
  | error e => exact hx pins H s e s' I hq
  | ok fl =>
    cases fl with
    | ret u => exact I.after hq
    | _ => exact hq.elim
theorem me_call (Fk : FnG X.prog X.w X.K X.mg X.base k f fd ps (spM X.K ps.length fn)) (tk : Takes X W) (hgd : X.A.guards = some []) (hr : Room k X.A) (hg : Gl X x) (hm : X.mg x = some (.ref f)) (hk : PySem.W.keepIn X.K (.ref f) = true) (hb : Binds X.K fd ps [])
    (ha : MA X W (e :: es) ml) (hdb : (x == ("__debug__" : Str)) = false := by decide) (he : starEach (e :: es) X.env = (false, eval e X.env) :: starEach es X.env := by rfl) (hpl : (backTo pos (starEach es X.env)).any (·.1) = false := by rfl) :
    ME X W (.Call (.Name x p) (e :: es) [] pos) (mCall ps.length fn ml) := by
  refine ⟨fun pins s σ H Q I q => ?_⟩
  obtain ⟨F, A, ρ, S, as, q⟩ := q
  refine wpAny_Call_Name_kw (ld_glob I hg hm ?_ hdb)
  refine PySem.W.callWith_K (h₀ := X.base) I.ok.mod.kin hk (thn (ha.run pos pins s σ H _ I ⟨F, A, ρ, S, as, q.bind Ev.refl (Q1 := fun xs H1 => ∃ a ρ1 S1 F1 A1, Ev F A ρ σ H F1 A1 ρ1 σ H1 ∧ ASF X.K F1 A1 ρ1 S1 σ H1 ∧ Paired (VRep X.K H F1 A1 ρ1 σ H1) xs a ∧
    Post X.K W (rVal X.K) ((if (plainA a && a.length == ps.length) = true then apF fn a else bad) ρ1 S1) F A ρ σ H Q) fun a ρ1 S1 F1 A1 xs H1 _ _ ev as1 r1 q1 => ⟨a, ρ1, S1, F1, A1, ev, as1, r1, q1⟩⟩) fun us s1 ⟨xs, H1, I1, r, a, ρ1, S1, F1, A1, ev, as1, r1, q1⟩ => ⟨I1.kIn, ?_⟩) he hpl
  exact run_pos Fk hgd hr hb (passAt tk σ) I1 r (call_step rfl q1 ev as1 r1)
theorem me_call0 (Fk : FnG X.prog X.w X.K X.mg X.base k f fd ps (spM X.K ps.length fn)) (tk : Takes X W) (hgd : X.A.guards = some []) (hr : Room k X.A) (hg : Gl X x) (hm : X.mg x = some (.ref f)) (hk : PySem.W.keepIn X.K (.ref f) = true) (hb : Binds X.K fd ps [])
    (hdb : (x == ("__debug__" : Str)) = false := by decide) : ME X W (.Call (.Name x p) [] [] pos) (mCall ps.length fn mNil) := by
  refine ⟨fun pins s σ H Q I q => ?_⟩
  obtain ⟨F, A, ρ, S, as, q⟩ := q
  refine wpAny_Call_Name_kw (ld_glob I hg hm ?_ hdb)
  refine PySem.W.callWith_K0 I.kIn hk ?_
  have h := call_step (ps := ps) (xs := []) (vs := []) rfl q Ev.refl as .nil
  exact run_pos (xs := []) (us := []) Fk hgd hr hb (passAt tk σ) I .nil h
/-- the keywords' values -/
def MK (X : Cx) (W : WX) (kws : List Keyword) (m : M (List Val)) : Prop := PK X kws (tA X.K W m)
theorem PK.weak {kws : List Keyword} {t t' : TA} (h : PK X kws t) (g : ∀ pins σ H s Q, Inv X pins σ H s → t' σ H Q → t σ H Q) : PK X kws t' := ⟨fun pos pins s σ H Q I q => h.run pos pins s σ H Q I (g pins σ H s Q I q)⟩
theorem mk_nil : MK X W [] mNil := by
  refine PK.weak pk_nil fun pins σ H s Q I q => ?_
  obtain ⟨F, A, ρ, S, as, q⟩ := q
  exact q.now Ev.refl as .nil
theorem mk_cons {m : M Val} {r : M (List Val)} {nm : Option Str} {kpos : Pos} {kws : List Keyword} (he : ME X W e m) (hr : MK X W kws r) : MK X W (⟨nm, e, kpos⟩ :: kws) (mCons m r) := by
  refine PK.weak (pk_cons (me_fz he) hr) fun pins σ H s Q I q => ?_
  obtain ⟨F, A, ρ, S, as, q⟩ := q
  refine ⟨F, A, ρ, S, as, q.bind Ev.refl fun a ρ1 S1 F1 A1 b H1 e1 _ ev as1 r1 q1 => ?_⟩
  refine ⟨F1, A1, ρ1, S1, as1, q1.bind ev fun a2 ρ2 S2 F2 A2 b2 H2 e2 ev2 ev02 as2 r2 q2 => ?_⟩
  exact q2.now ev02 as2 (.cons (r1.up ev2 rfl) (Back.back ev r2))
/-- how keywords come to parameters -/
structure KB (K : PySem.W.Frag) (fd : FuncData) (ps ks : List Str) (g : {α : Type} → List α → List α → List α) : Prop where
  to : ∀ (s : Shared) (us ws : List Value), K.In s.heap → (g us ws).length = ps.length → BindsTo s fd ⟨us, ks.zip ws⟩ (ps.zip (g us ws))
  rel : ∀ {α β : Type} {r : α → β → Prop} {vs : List α} {us : List β} {zs : List α} {ws : List β}, Paired r vs us → Paired r zs ws → Paired r (g vs zs) (g us ws)
theorem run_kw {ks : List Str} {g : {α : Type} → List α → List α → List α} {pins : List (Addr × Obj)} {σ : St} {H : Hp} {s : Shared} {Q : VK} {E : XK} {us ws : List Value} {vs zs : List V} {sp : Sp} (Fk : FnG X.prog X.w X.K X.mg X.base k f fd ps sp) (hgd : X.A.guards = some []) (hr : Room k X.A) (hb : KB X.K fd ps ks g) (hx : PassesAt (CX X.prog X.w) X σ E)
    (I : Inv X pins σ H s) (r : Vals vs us) (rz : Vals zs ws) (h : sp (g vs zs) H Q E) : wpAny (model X.prog X.w) X.A (call (.ref f) us (ks.zip ws)) (EP X pins σ Q) X.xe s := by
  have r2 : Vals (g vs zs) (g us ws) := hb.rel r rz
  have hl : (g us ws).length = ps.length := by rw [← r2.length]; exact Fk.len _ _ _ _ h
  refine wpAny_call (codeAny_mono (Fk.go X.A X.stack s H ⟨us, ks.zip ws⟩ (g us ws) (g vs zs) Q E hgd hr I.env0 (hb.to s us ws I.kIn hl) r2 h) fun r s' hq => ?_)
  cases r with
  | error e => exact hx pins H s e s' I hq
  | ok fl =>
    cases fl with
    | ret u => exact I.after hq
    | _ => exact hq.elim
theorem me_callK {ks : List Str} {g : {α : Type} → List α → List α → List α} {kws : List Keyword} (Fk : FnG X.prog X.w X.K X.mg X.base k f fd ps (spM X.K ps.length fn)) (tk : Takes X W) (hgd : X.A.guards = some []) (hr : Room k X.A) (hg : Gl X x) (hm : X.mg x = some (.ref f)) (hk : PySem.W.keepIn X.K (.ref f) = true) (hb : KB X.K fd ps ks g)
    (ha : MA X W (e :: es) ml) (hkw : MK X W kws mk) (hall : (backToKw pos (keywordEach kws X.env)).all (·.1.isSome) = true := by rfl) (hks : (backToKw pos (keywordEach kws X.env)).filterMap (·.1) = ks := by rfl)
    (hdb : (x == ("__debug__" : Str)) = false := by decide) (he : starEach (e :: es) X.env = (false, eval e X.env) :: starEach es X.env := by rfl)
    (hpl : ((backTo pos (starEach (e :: es) X.env)).any (·.1) || (backToKw pos (keywordEach kws X.env)).any (·.1.isNone)) = false := by rfl) :
    ME X W (.Call (.Name x p) (e :: es) kws pos) (mCallK ps.length fn g ml mk) := by
  refine ⟨fun pins s σ H Q I q => ?_⟩
  obtain ⟨F, A, ρ, S, as, q⟩ := q
  refine wpAny_Call_Name_kw (ld_glob I hg hm ?_ hdb)
  refine PySem.W.callWith_KW (h₀ := X.base) I.ok.mod.kin hk hall (thn (ha.run pos pins s σ H _ I ⟨F, A, ρ, S, as, q.bind Ev.refl (Q1 := fun xs H1 => ∃ a ρ1 S1 F1 A1, Ev F A ρ σ H F1 A1 ρ1 σ H1 ∧ ASF X.K F1 A1 ρ1 S1 σ H1 ∧ Paired (VRep X.K H F1 A1 ρ1 σ H1) xs a ∧
    Post X.K W (rVal X.K) (bind mk (fun zs => if (plainA (g a zs) && (g a zs).length == ps.length) = true then apF fn (g a zs) else bad) ρ1 S1) F A ρ σ H Q) fun a ρ1 S1 F1 A1 xs H1 _ _ ev as1 r1 q1 => ⟨a, ρ1, S1, F1, A1, ev, as1, r1, q1⟩⟩) fun us s1 ⟨xs, H1, I1, r, a, ρ1, S1, F1, A1, ev, as1, r1, q1⟩ => ?_) hpl he
  refine thn (hkw.run pos pins s1 σ H1 _ I1 ⟨F1, A1, ρ1, S1, as1, q1.bind ev (Q1 := fun ys H2 => ∃ b ρ2 S2 F2 A2, Ev F A ρ σ H F2 A2 ρ2 σ H2 ∧ ASF X.K F2 A2 ρ2 S2 σ H2 ∧ Paired (VRep X.K H F2 A2 ρ2 σ H2) xs a ∧ Paired (VRep X.K H F2 A2 ρ2 σ H2) ys b ∧
    Post X.K W (rVal X.K) ((if (plainA (g a b) && (g a b).length == ps.length) = true then apF fn (g a b) else bad) ρ2 S2) F A ρ σ H Q) fun b ρ2 S2 F2 A2 ys H2 _ ev2 ev02 as2 r2 q2 => ⟨b, ρ2, S2, F2, A2, ev02, as2, L2.Paired.mapP r1 fun _ _ z => z.up ev2 rfl, L2.Paired.mapP r2 fun _ _ z => z.back ev, q2⟩⟩) fun ws s2 ⟨ys, H2, I2, rz, b, ρ2, S2, F2, A2, ev2, as2, r2, r3, q2⟩ => ⟨I2.kIn, ?_⟩
  rw [hks]
  exact run_kw Fk hgd hr hb (passAt tk σ) I2 r rz (call_step rfl q2 ev2 as2 (hb.rel r2 r3))
theorem me_callK0 {ks : List Str} {g : {α : Type} → List α → List α → List α} {kws : List Keyword} (Fk : FnG X.prog X.w X.K X.mg X.base k f fd ps (spM X.K ps.length fn)) (tk : Takes X W) (hgd : X.A.guards = some []) (hr : Room k X.A) (hg : Gl X x) (hm : X.mg x = some (.ref f)) (hk : PySem.W.keepIn X.K (.ref f) = true) (hb : KB X.K fd ps ks g)
    (hkw : MK X W kws mk) (hall : (backToKw pos (keywordEach kws X.env)).all (·.1.isSome) = true := by rfl) (hks : (backToKw pos (keywordEach kws X.env)).filterMap (·.1) = ks := by rfl)
    (hdb : (x == ("__debug__" : Str)) = false := by decide)
    (hpl : ((backTo pos (starEach [] X.env)).any (·.1) || (backToKw pos (keywordEach kws X.env)).any (·.1.isNone)) = false := by rfl) :
    ME X W (.Call (.Name x p) [] kws pos) (mCallK ps.length fn g mNil mk) := by
  refine ⟨fun pins s σ H Q I q => ?_⟩
  obtain ⟨F, A, ρ, S, as, q⟩ := q
  refine wpAny_Call_Name_kw (ld_glob I hg hm ?_ hdb)
  have q : Post X.K W (rVal X.K) (bind mk (fun zs => if (plainA (g [] zs) && (g [] zs).length == ps.length) = true then apF fn (g [] zs) else bad) ρ S) F A ρ σ H Q := q
  refine PySem.W.callWith_KW0 (h₀ := X.base) I.ok.mod.kin hk hall (thn (hkw.run pos pins s σ H _ I ⟨F, A, ρ, S, as, q.bind Ev.refl (Q1 := fun ys H2 => ∃ b ρ2 S2 F2 A2, Ev F A ρ σ H F2 A2 ρ2 σ H2 ∧ ASF X.K F2 A2 ρ2 S2 σ H2 ∧ Paired (VRep X.K H F2 A2 ρ2 σ H2) ys b ∧
    Post X.K W (rVal X.K) ((if (plainA (g [] b) && (g [] b).length == ps.length) = true then apF fn (g [] b) else bad) ρ2 S2) F A ρ σ H Q) fun b ρ2 S2 F2 A2 ys H2 _ ev2 ev02 as2 r2 q2 => ⟨b, ρ2, S2, F2, A2, ev02, as2, r2, q2⟩⟩) fun ws s2 ⟨ys, H2, I2, rz, b, ρ2, S2, F2, A2, ev2, as2, r3, q2⟩ => ⟨I2.kIn, ?_⟩) hpl
  rw [hks]
  exact run_kw (vs := []) (us := []) Fk hgd hr hb (passAt tk σ) I2 .nil rz (call_step rfl q2 ev2 as2 (hb.rel .nil r3))
end
end ME
end

section
set_option maxHeartbeats 4000000
namespace ME
open PySem PySem.Spec L2
open PyProof.Rows hiding St

/-! ### operations on data -/
mutual
theorem Dp.plain {K : PySem.W.Frag} {H : Hp} : ∀ {v : V} (d : D), Dp K H v d → d.plain = true
  | _, .none, _ => rfl
  | _, .bool _, _ => rfl
  | _, .int _, _ => rfl
  | _, .str _, _ => rfl
  | _, .list ds, h => by
    cases h with
    | lst _ ha => exact DpAll.plain ds ha
  | _, .tuple ds, h => by
    cases h with
    | tup _ ha => exact DpAll.plain ds ha
  | _, .dict _, h => by cases h
theorem DpAll.plain {K : PySem.W.Frag} {H : Hp} : ∀ {vs : List V} (ds : List D), DpAll K H vs ds → PyData.plainAll ds = true
  | _, [], _ => rfl
  | _, d :: ds, h => by
    cases h with
    | cons h1 h2 =>
      show (d.plain && PyData.plainAll ds) = true
      rw [Dp.plain d h1, DpAll.plain ds h2]
      rfl
end
mutual
theorem Dp.noDict {K : PySem.W.Frag} {H : Hp} : ∀ {v : V} (d : D), Dp K H v d → d.hasDict = false
  | _, .none, _ => rfl
  | _, .bool _, _ => rfl
  | _, .int _, _ => rfl
  | _, .str _, _ => rfl
  | _, .list ds, h => by
    cases h with
    | lst _ ha => exact DpAll.noDict ds ha
  | _, .tuple ds, h => by
    cases h with
    | tup _ ha => exact DpAll.noDict ds ha
  | _, .dict _, h => by cases h
theorem DpAll.noDict {K : PySem.W.Frag} {H : Hp} : ∀ {vs : List V} (ds : List D), DpAll K H vs ds → PyData.hasDictAll ds = false
  | _, [], _ => rfl
  | _, d :: ds, h => by
    cases h with
    | cons h1 h2 =>
      show (d.hasDict || PyData.hasDictAll ds) = false
      rw [Dp.noDict d h1, DpAll.noDict ds h2]
      rfl
end
section
variable {X : Cx} {K : PySem.W.Frag}
/-- a result without objects -/
theorem ro_scal {F H : Hp} (s : ∀ a o, F a = some o → H a = some o) {v : V} {x : D} (h : ∀ F, Dp K F v x) {Q : VK} {o : Ro} (e : o = .d x) (q : ∀ F1 H1 u, RoR K F H F1 H1 u o → Q u H1) : Q v H := by
  subst e
  exact q F H v ⟨New.refl s, h F⟩
/-- == and != -/
def rEqP (K : PySem.W.Frag) (b : Bool) : R2 := fun x y H Q => ∃ d e, Dp K H x d ∧ Dp K H y e ∧ min d.depth e.depth ≤ 60 ∧ Q (.bl (b ^^ PyData.eqv d e)) H
theorem op_eqP (hu : X.A.units + 64 < cLine) : OpR X (compareOp .Eq) (rEqP X.K false) := by
  intro pins s σ H x y v u Q I rx ry h
  obtain ⟨d, e, hd, he, hm, q⟩ := h
  obtain ⟨as, r1⟩ := L2.Dp.reads I d x v (Dp.l2 _ hd) rx
  obtain ⟨bs, r2⟩ := L2.Dp.reads I e y u (Dp.l2 _ he) ry
  rw [Bool.false_xor] at q
  exact SeqAt.eq_plain r1 r2 (Dp.plain d hd) (Dp.plain e he) (by omega) ⟨.bl _, H, I, rfl, q⟩
theorem op_neP (hu : X.A.units + 64 < cLine) : OpR X (compareOp .NotEq) (rEqP X.K true) := by
  intro pins s σ H x y v u Q I rx ry h
  obtain ⟨d, e, hd, he, hm, q⟩ := h
  obtain ⟨as, r1⟩ := L2.Dp.reads I d x v (Dp.l2 _ hd) rx
  obtain ⟨bs, r2⟩ := L2.Dp.reads I e y u (Dp.l2 _ he) ry
  rw [Bool.true_xor] at q
  exact SeqAt.ne_plain r1 r2 (Dp.plain d hd) (Dp.plain e he) (by omega) ⟨.bl _, H, I, rfl, q⟩
def gEq (b : Bool) (x y : D) : Option Ro := if min x.depth y.depth ≤ 60 then some (.d (.bool (b ^^ PyData.eqv x y))) else none
theorem od_eq (b : Bool) : OpD K (rEqP K b) (gEq b) := fun F H x y d e o Q s _ hx hy g q => by
  unfold gEq at g
  split at g
  · rename_i hm
    cases g
    exact ⟨d, e, hx.now s, hy.now s, hm, ro_scal s (fun _ => .bl _) rfl q⟩
  · cases g
/-- <, <=, >, >= of alike data -/
def rCmp (K : PySem.W.Frag) (f : D → D → Bool) : R2 := fun x y H Q => ∃ d e, Dp K H x d ∧ Dp K H y e ∧ (PySem.W.alike d e = true ∧ (match d with | .none => False | _ => True) ∧ min d.depth e.depth ≤ 60) ∧ Q (.bl (f d e)) H
theorem ne_none {d : D} (h : match d with | .none => False | _ => True) : d ≠ .none := fun z => by subst z; exact h
theorem op_ltD (hu : X.A.units + 64 < cLine) : OpR X (compareOp .Lt) (rCmp X.K fun d e => PySem.W.dataLt d e) := by
  intro pins s σ H x y v u Q I rx ry h
  obtain ⟨d, e, hd, he, ⟨h1, h2, h3⟩, q⟩ := h
  obtain ⟨as, r1⟩ := L2.Dp.reads I d x v (Dp.l2 _ hd) rx
  obtain ⟨bs, r2⟩ := L2.Dp.reads I e y u (Dp.l2 _ he) ry
  exact PySem.W.lt_data r1 r2 h1 (ne_none h2) (by omega) ⟨.bl _, H, I, rfl, q⟩
theorem op_gtD (hu : X.A.units + 64 < cLine) : OpR X (compareOp .Gt) (rCmp X.K fun d e => PySem.W.dataLt e d) := by
  intro pins s σ H x y v u Q I rx ry h
  obtain ⟨d, e, hd, he, ⟨h1, h2, h3⟩, q⟩ := h
  obtain ⟨as, r1⟩ := L2.Dp.reads I d x v (Dp.l2 _ hd) rx
  obtain ⟨bs, r2⟩ := L2.Dp.reads I e y u (Dp.l2 _ he) ry
  exact PySem.W.gt_data r1 r2 h1 (ne_none h2) (by omega) ⟨.bl _, H, I, rfl, q⟩
theorem op_leD (hu : X.A.units + 64 < cLine) : OpR X (compareOp .LtE) (rCmp X.K fun d e => !PySem.W.dataLt e d) := by
  intro pins s σ H x y v u Q I rx ry h
  obtain ⟨d, e, hd, he, ⟨h1, h2, h3⟩, q⟩ := h
  obtain ⟨as, r1⟩ := L2.Dp.reads I d x v (Dp.l2 _ hd) rx
  obtain ⟨bs, r2⟩ := L2.Dp.reads I e y u (Dp.l2 _ he) ry
  exact PySem.W.le_data r1 r2 h1 (ne_none h2) (by omega) ⟨.bl _, H, I, rfl, q⟩
theorem op_geD (hu : X.A.units + 64 < cLine) : OpR X (compareOp .GtE) (rCmp X.K fun d e => !PySem.W.dataLt d e) := by
  intro pins s σ H x y v u Q I rx ry h
  obtain ⟨d, e, hd, he, ⟨h1, h2, h3⟩, q⟩ := h
  obtain ⟨as, r1⟩ := L2.Dp.reads I d x v (Dp.l2 _ hd) rx
  obtain ⟨bs, r2⟩ := L2.Dp.reads I e y u (Dp.l2 _ he) ry
  exact PySem.W.ge_data r1 r2 h1 (ne_none h2) (by omega) ⟨.bl _, H, I, rfl, q⟩
def notNone : D → Bool
  | .none => false
  | _ => true
def gCmp (f : D → D → Bool) (x y : D) : Option Ro := match x, y with
  | .int i, .int j => some (.d (.bool (f (.int i) (.int j))))
  | x, y => if (PySem.W.alike x y && notNone x && decide (min x.depth y.depth ≤ 60)) = true then some (.d (.bool (f x y))) else none
theorem od_cmp (f : D → D → Bool) : OpD K (rCmp K f) (gCmp f) := fun F H x y d e o Q s _ hx hy g q => by
  refine ⟨d, e, hx.now s, hy.now s, ?_⟩
  unfold gCmp at g
  split at g
  · cases g
    exact ⟨⟨rfl, trivial, Nat.zero_le _⟩, ro_scal s (fun _ => .bl _) rfl q⟩
  · split at g
    · rename_i c
      rw [Bool.and_eq_true, Bool.and_eq_true, decide_eq_true_eq] at c
      cases g
      refine ⟨⟨c.1.1, ?_, c.2⟩, ro_scal s (fun _ => .bl _) rfl q⟩
      cases d with
      | none => cases c.1.2
      | _ => trivial
    · cases g
/-- in, not in: a list, a tuple -/
def rInS (K : PySem.W.Frag) (b : Bool) : R2 := fun x y H Q => ∃ d xs, Dp K H x d ∧ (Dp K H y (.list xs) ∨ Dp K H y (.tuple xs)) ∧ d.depth ≤ 60 ∧ Q (.bl (b ^^ xs.any fun z => PyData.eqv z d)) H
theorem op_inS (hu : X.A.units + 64 < cLine) : OpR X (compareOp .In) (rInS X.K false) := by
  intro pins s σ H x y v u Q I rx ry h
  obtain ⟨d, xs, hd, he, hm, q⟩ := h
  obtain ⟨as, r1⟩ := L2.Dp.reads I d x v (Dp.l2 _ hd) rx
  rw [Bool.false_xor] at q
  rcases he with he | he
  · obtain ⟨bs, r2⟩ := L2.Dp.reads I _ y u (Dp.l2 _ he) ry
    exact SeqAt.in_list_data r2 r1 (Dp.plain _ he) (Dp.plain d hd) (by omega) ⟨.bl _, H, I, rfl, q⟩
  · obtain ⟨bs, r2⟩ := L2.Dp.reads I _ y u (Dp.l2 _ he) ry
    exact SeqAt.in_tuple_data r2 r1 (Dp.plain _ he) (Dp.plain d hd) (by omega) ⟨.bl _, H, I, rfl, q⟩
theorem op_ninS (hu : X.A.units + 64 < cLine) : OpR X (compareOp .NotIn) (rInS X.K true) := by
  intro pins s σ H x y v u Q I rx ry h
  obtain ⟨d, xs, hd, he, hm, q⟩ := h
  obtain ⟨as, r1⟩ := L2.Dp.reads I d x v (Dp.l2 _ hd) rx
  rw [Bool.true_xor] at q
  rcases he with he | he
  · obtain ⟨bs, r2⟩ := L2.Dp.reads I _ y u (Dp.l2 _ he) ry
    exact SeqAt.notIn_list_data r2 r1 (Dp.plain _ he) (Dp.plain d hd) (by omega) ⟨.bl _, H, I, rfl, q⟩
  · obtain ⟨bs, r2⟩ := L2.Dp.reads I _ y u (Dp.l2 _ he) ry
    exact SeqAt.notIn_tuple_data r2 r1 (Dp.plain _ he) (Dp.plain d hd) (by omega) ⟨.bl _, H, I, rfl, q⟩
def strIn (x y : Str) : Bool := !(Builtin.Str.occurrences y x 0 y.length 1).isEmpty
/-- in of texts, lists and tuples -/
def rIn (K : PySem.W.Frag) (b : Bool) : R2 := fun x y H Q => rInS K b x y H Q ∨ ∃ i j, x = .str i ∧ y = .str j ∧ Q (.bl (b ^^ strIn i j)) H
theorem op_inD (hu : X.A.units + 64 < cLine) : OpR X (compareOp .In) (rIn X.K false) :=
  (op_inS hu).or fun pins s σ H x y v u Q I rx ry h => op_in_str pins s σ H x y v u Q I rx ry (by
    obtain ⟨i, j, e1, e2, q⟩ := h
    rw [Bool.false_xor] at q
    exact ⟨i, j, e1, e2, q⟩)
theorem op_ninD (hu : X.A.units + 64 < cLine) : OpR X (compareOp .NotIn) (rIn X.K true) :=
  (op_ninS hu).or fun pins s σ H x y v u Q I rx ry h => op_notin_str pins s σ H x y v u Q I rx ry (by
    obtain ⟨i, j, e1, e2, q⟩ := h
    rw [Bool.true_xor] at q
    exact ⟨i, j, e1, e2, q⟩)
def gIn (b : Bool) (x y : D) : Option Ro := match y with
  | .list xs => if x.depth ≤ 60 then some (.d (.bool (b ^^ xs.any fun z => PyData.eqv z x))) else none
  | .tuple xs => if x.depth ≤ 60 then some (.d (.bool (b ^^ xs.any fun z => PyData.eqv z x))) else none
  | .str j => (match x with
    | .str i => some (.d (.bool (b ^^ strIn i j)))
    | _ => none)
  | _ => none
theorem od_in (b : Bool) : OpD K (rIn K b) (gIn b) := fun F H x y d e o Q s _ hx hy g q => by
  have hx := hx.now s
  have hy := hy.now s
  cases e with
  | list xs =>
    have g : (if d.depth ≤ 60 then some (Ro.d (.bool (b ^^ xs.any fun z => PyData.eqv z d))) else none) = some o := g
    split at g
    · cases g
      exact .inl ⟨d, xs, hx, .inl hy, by assumption, ro_scal s (fun _ => .bl _) rfl q⟩
    · cases g
  | tuple xs =>
    have g : (if d.depth ≤ 60 then some (Ro.d (.bool (b ^^ xs.any fun z => PyData.eqv z d))) else none) = some o := g
    split at g
    · cases g
      exact .inl ⟨d, xs, hx, .inr hy, by assumption, ro_scal s (fun _ => .bl _) rfl q⟩
    · cases g
  | str j =>
    cases d with
    | str i =>
      cases g
      cases hx
      cases hy
      exact .inr ⟨i, j, rfl, rfl, ro_scal s (fun _ => .bl _) rfl q⟩
    | _ => cases g
  | _ => cases g
/-- is, is not: None, True, False on the right -/
def rIsC (b : Bool) (c : V) : R2 := fun x y H Q => y = c ∧ Q (.bl (b ^^ decide (x = c))) H
theorem op_isN' : OpR X (compareOp .Is) (rIsC false .non) := fun pins s σ H x y v u Q I rx ry h => op_isN pins s σ H x y v u Q I rx ry (by
  obtain ⟨e, q⟩ := h
  rw [Bool.false_xor] at q
  exact ⟨e, q⟩)
theorem op_notN' : OpR X (compareOp .IsNot) (rIsC true .non) := fun pins s σ H x y v u Q I rx ry h => op_notN pins s σ H x y v u Q I rx ry (by
  obtain ⟨e, q⟩ := h
  rw [Bool.true_xor] at q
  exact ⟨e, q⟩)
def isNone : D → Bool
  | .none => true
  | _ => false
def gIsN (b : Bool) (x y : D) : Option Ro := match y with
  | .none => some (.d (.bool (b ^^ isNone x)))
  | _ => none
theorem od_isN (b : Bool) : OpD K (rIsC b .non) (gIsN b) := fun F H x y d e o Q s _ hx hy g q => by
  have hx := hx.now s
  have hy := hy.now s
  cases e with
  | none =>
    cases g
    cases hy
    refine ⟨rfl, ?_⟩
    have e : decide (x = V.non) = isNone d := by cases hx <;> rfl
    rw [e]
    exact ro_scal s (fun _ => .bl _) rfl q
  | _ => cases g
end
end ME
end

section
set_option maxHeartbeats 4000000
namespace ME
open PySem PySem.Spec L2
open PyProof.Rows hiding St
section
variable {X : Cx} {K : PySem.W.Frag}
theorem ro_tup {F H : Hp} (s : ∀ a o, F a = some o → H a = some o) {p : Addr} (n : H p = none) {vs : List V} {ds : List D} (r : DpAll K F vs ds) {Q : VK} {o : Ro} (e : o = .d (.tuple ds)) (q : ∀ F1 H1 u, RoR K F H F1 H1 u o → Q u H1) : Q (.ref p) (upd H p (.tup vs)) := by
  subst e
  have nw : New F H (upd F p (.tup vs)) (upd H p (.tup vs)) := New.one s n
  exact q _ _ _ ⟨nw, .tup (.inl (.inl upd_same)) (DpAll.up nw.ff _ _ r)⟩
theorem nof {F H : Hp} (s : ∀ a o, F a = some o → H a = some o) {p : Addr} (n : H p = none) : F p = none := by
  cases z : F p with
  | none => rfl
  | some o =>
    have := s _ _ z
    rw [n] at this
    cases this
theorem ro_lst {F H : Hp} (s : ∀ a o, F a = some o → H a = some o) {p : Addr} (n : H p = none) {vs : List V} {ds : List D} (r : DpAll K F vs ds) {Q : VK} {o : Ro} (e : o = .fl ds) (q : ∀ F1 H1 u, RoR K F H F1 H1 u o → Q u H1) : Q (.ref p) (upd H p (.lst vs)) := by
  subst e
  exact q _ _ _ ⟨New.own s n, p, vs, rfl, n, upd_same, nof s n, r⟩
/-- a list, as it stands now, with its items told by F -/
theorem DrR.list {F H : Hp} {x : V} {ds : List D} (s : ∀ a o, F a = some o → H a = some o) (h : DrR K F H x (.list ds)) : ∃ p vs, x = .ref p ∧ H p = some (.lst vs) ∧ DpAll K F vs ds := by
  rcases h with h | ⟨p, vs, l, rfl, h1, h2, e⟩
  · cases h with
    | lst hs ha => exact ⟨_, _, rfl, s _ _ hs, ha⟩
  · cases e
    exact ⟨p, vs, rfl, h1, h2⟩
theorem DrR.tuple {F H : Hp} {x : V} {ds : List D} (s : ∀ a o, F a = some o → H a = some o) (h : DrR K F H x (.tuple ds)) : ∃ p vs, x = .ref p ∧ SqT K H p vs ∧ DpAll K F vs ds ∧ Dp K F x (.tuple ds) := by
  rcases h with h | ⟨p, vs, l, _, _, _, e⟩
  · cases h with
    | tup hs ha => exact ⟨_, _, rfl, hs.imp (fun r => r.imp (s _ _) fun ⟨o, r⟩ => ⟨o, s _ _ r⟩) id, ha, .tup hs ha⟩
  · cases e
theorem DrR.scal {F H : Hp} {x : V} {d : D} (s : ∀ a o, F a = some o → H a = some o) (h : DrR K F H x d) : Dp K H x d := h.now s
/-! arithmetic -/
def rAddD (K : PySem.W.Frag) : R2 := fun x y H Q => rI0 (fun i j => .int (i + j)) x y H Q ∨ (∃ i j, x = .str i ∧ y = .str j ∧ i.length + j.length ≤ sizeLine ∧ Q (.str (i ++ j)) H) ∨ rCat x y H Q ∨ rCatA K x y H Q
theorem op_addD : OpR X (binaryOp .Add) (rAddD X.K) := op_add.or (op_add_str.or (op_cat.or op_catA))
def gAdd (x y : D) : Option Ro := match x, y with
  | .int i, .int j => some (.d (.int (i + j)))
  | .str i, .str j => if i.length + j.length ≤ sizeLine then some (.d (.str (i ++ j))) else none
  | .list xs, .list ys => if xs.length + ys.length ≤ sizeLine then some (.fl (xs ++ ys)) else none
  | .tuple xs, .tuple ys => if xs.length + ys.length ≤ sizeLine then some (.d (.tuple (xs ++ ys))) else none
  | _, _ => none
theorem od_add : OpD K (rAddD K) gAdd := fun F H x y d e o Q s sz hx hy g q => by
  unfold gAdd at g
  split at g
  · cases g
    have h1 := hx.now s
    have h2 := hy.now s
    cases h1; cases h2
    exact .inl ⟨_, _, rfl, rfl, ro_scal s (fun _ => .int _) rfl q⟩
  · split at g
    · cases g
      have h1 := hx.now s
      have h2 := hy.now s
      cases h1; cases h2
      exact .inr (.inl ⟨_, _, rfl, rfl, by assumption, ro_scal s (fun _ => .str _) rfl q⟩)
    · cases g
  · split at g
    · rename_i z
      cases g
      obtain ⟨p, vs, rfl, h1, r1⟩ := hx.list s
      obtain ⟨p', ws, rfl, h2, r2⟩ := hy.list s
      have l1 := DpAll.len r1
      have l2 := DpAll.len r2
      exact .inr (.inr (.inl ⟨p, p', vs, ws, rfl, rfl, h1, h2, by omega, fun a n => ro_lst s n (DpAll.app r1 r2) rfl q⟩))
    · cases g
  · split at g
    · rename_i z
      cases g
      obtain ⟨p, vs, rfl, h1, r1, D1⟩ := hx.tuple s
      obtain ⟨p', ws, rfl, h2, r2, D2⟩ := hy.tuple s
      have l1 := DpAll.len r1
      have l2 := DpAll.len r2
      refine .inr (.inr (.inr ⟨p, p', vs, ws, rfl, rfl, h1, h2, by omega, fun e => ?_, fun _ e => ?_, fun _ _ a n => ro_tup s n (DpAll.app r1 r2) rfl q⟩))
      · subst e
        cases r1
        exact q F H _ ⟨New.refl s, by simpa using D2⟩
      · subst e
        cases r2
        exact q F H _ ⟨New.refl s, by simpa using D1⟩
    · cases g
  · cases g
def gSub (x y : D) : Option Ro := match x, y with
  | .int i, .int j => some (.d (.int (i - j)))
  | _, _ => none
theorem od_int {f : Int → Int → Int} {g : D → D → Option Ro} (hg : ∀ x y o, g x y = some o → ∃ i j, x = .int i ∧ y = .int j ∧ o = .d (.int (f i j))) : OpD K (rI0 fun i j => .int (f i j)) g := fun F H x y d e o Q s sz hx hy g' q => by
  obtain ⟨i, j, rfl, rfl, rfl⟩ := hg _ _ _ g'
  have h1 := hx.now s
  have h2 := hy.now s
  cases h1; cases h2
  exact ⟨_, _, rfl, rfl, ro_scal s (fun _ => .int _) rfl q⟩
theorem od_intC {C : Int → Int → Prop} {f : Int → Int → Int} {g : D → D → Option Ro} (hg : ∀ x y o, g x y = some o → ∃ i j, x = .int i ∧ y = .int j ∧ C i j ∧ o = .d (.int (f i j))) : OpD K (rI C fun i j => .int (f i j)) g := fun F H x y d e o Q s sz hx hy g' q => by
  obtain ⟨i, j, rfl, rfl, c, rfl⟩ := hg _ _ _ g'
  have h1 := hx.now s
  have h2 := hy.now s
  cases h1; cases h2
  exact ⟨_, _, rfl, rfl, c, ro_scal s (fun _ => .int _) rfl q⟩
theorem od_sub : OpD K (rI0 fun i j => .int (i - j)) gSub := od_int (f := fun i j => i - j) fun x y o h => by
  unfold gSub at h
  split at h
  · cases h; exact ⟨_, _, rfl, rfl, rfl⟩
  · cases h
def gMod (x y : D) : Option Ro := match x, y with
  | .int i, .int j => if j ≠ 0 then some (.d (.int (i.fmod j))) else none
  | _, _ => none
theorem od_mod : OpD K (rI (fun _ j => j ≠ 0) fun i j => .int (i.fmod j)) gMod := od_intC (f := fun i j => i.fmod j) fun x y o h => by
  unfold gMod at h
  split at h
  · split at h
    · cases h; exact ⟨_, _, rfl, rfl, by assumption, rfl⟩
    · cases h
  · cases h
def gDiv (x y : D) : Option Ro := match x, y with
  | .int i, .int j => if j ≠ 0 ∧ j.natAbs < 1073741824 then some (.d (.int (i.fdiv j))) else none
  | _, _ => none
theorem od_div : OpD K (rI CDivN fun i j => .int (i.fdiv j)) gDiv := od_intC (f := fun i j => i.fdiv j) fun x y o h => by
  unfold gDiv at h
  split at h
  · split at h
    · cases h; exact ⟨_, _, rfl, rfl, by assumption, rfl⟩
    · cases h
  · cases h
/-! int * int, tuple * int, list * int -/
def rMulD (K : PySem.W.Frag) : R2 := fun x y H Q => rI CMul (fun i j => .int (i * j)) x y H Q ∨ rRep x y H Q ∨ rRepT K x y H Q
theorem op_mulD : OpR X (binaryOp .Mult) (rMulD X.K) := op_mul.or (op_rep.or op_repT)
theorem DpAll.rep {F : Hp} {vs : List V} {ds : List D} (r : DpAll K F vs ds) : ∀ n : Nat, DpAll K F (List.replicate n vs).flatten (List.replicate n ds).flatten
  | 0 => .nil
  | n + 1 => by
    rw [List.replicate_succ, List.replicate_succ, List.flatten_cons, List.flatten_cons]
    exact DpAll.app r (DpAll.rep r n)
def gMul (x y : D) : Option Ro := match x, y with
  | .int i, .int j => if (-(2 ^ 64) < i ∧ i < 2 ^ 64) ∨ (-(2 ^ 64) < j ∧ j < 2 ^ 64) then some (.d (.int (i * j))) else none
  | .list xs, .int k => if (-(2 ^ 63) ≤ k ∧ k < 2 ^ 63) ∧ xs.length * k.toNat ≤ sizeLine then some (.fl (List.replicate k.toNat xs).flatten) else none
  | .tuple xs, .int k => if xs ≠ [] ∧ 2 ≤ k ∧ k ≤ 1000 ∧ xs.length ≤ 1000 then some (.d (.tuple (List.replicate k.toNat xs).flatten)) else none
  | _, _ => none
theorem od_mul : OpD K (rMulD K) gMul := fun F H x y d e o Q s sz hx hy g q => by
  unfold gMul at g
  split at g
  · split at g
    · cases g
      have h1 := hx.now s
      have h2 := hy.now s
      cases h1; cases h2
      exact .inl ⟨_, _, rfl, rfl, by assumption, ro_scal s (fun _ => .int _) rfl q⟩
    · cases g
  · split at g
    · rename_i z
      cases g
      obtain ⟨p, vs, rfl, h1, r1⟩ := hx.list s
      have h2 := hy.now s
      cases h2
      have l1 := DpAll.len r1
      exact .inr (.inl ⟨p, _, vs, rfl, rfl, h1, z.1.1, z.1.2, by rw [l1]; exact z.2, fun a n => ro_lst s n (DpAll.rep r1 _) rfl q⟩)
    · cases g
  · split at g
    · rename_i z
      cases g
      obtain ⟨p, vs, rfl, h1, r1, D1⟩ := hx.tuple s
      have h2 := hy.now s
      cases h2
      have l1 := DpAll.len r1
      refine .inr (.inr ⟨p, _, vs, rfl, rfl, h1, fun e => ?_, z.2.1, z.2.2.1, by rw [l1]; exact z.2.2.2, fun a n => ro_tup s n (DpAll.rep r1 _) rfl q⟩)
      subst e
      cases r1
      exact z.1 rfl
    · cases g
  · cases g
/-! -x -/
def gNeg (x : D) : Option Ro := match x with
  | .int i => some (.d (.int (-i)))
  | _ => none
theorem ud_neg : UnD K (rU fun i => .int (-i)) gNeg := fun F H x d o Q s sz hx g q => by
  unfold gNeg at g
  split at g
  · cases g
    have h1 := hx.now s
    cases h1
    exact ⟨_, rfl, ro_scal s (fun _ => .int _) rfl q⟩
  · cases g
/-! a[i] -/
def gIx (x y : D) : Option Ro := match x, y with
  | .list xs, .int i => (atI xs i).map .d
  | .tuple xs, .int i => (atI xs i).map .d
  | .str z, .int i => if z.length ≤ sizeLine then (atI z.cps.toList i).map fun c => .d (.str ⟨#[c]⟩) else none
  | _, _ => none
theorem at_rep {F : Hp} {vs : List V} {ds : List D} {i : Int} {x : D} (r : DpAll K F vs ds) (h : atI ds i = some x) : ∃ v, atI vs i = some v ∧ Dp K F v x := by
  have l := DpAll.len r
  unfold atI at h ⊢
  rw [l]
  cases e : ixN ds.length i with
  | none => rw [e] at h; cases h
  | some j =>
    rw [e] at h
    exact DpAll.get r h
theorem od_ix : OpD K (rIx K) gIx := fun F H x y d e o Q s sz hx hy g q => by
  have ky := hy.now s
  unfold gIx at g
  split at g
  · rename_i xs i
    cases ky
    obtain ⟨p, vs, rfl, h1, r1⟩ := hx.list s
    cases ea : atI xs i with
    | none => rw [ea] at g; cases g
    | some u =>
      rw [ea] at g
      cases g
      obtain ⟨v, h2, h3⟩ := at_rep r1 ea
      exact .inl ⟨p, vs, i, v, rfl, rfl, .inl (.inl h1), h2, q F H v ⟨New.refl s, h3⟩⟩
  · rename_i xs i
    cases ky
    obtain ⟨p, vs, rfl, h1, r1, _⟩ := hx.tuple s
    cases ea : atI xs i with
    | none => rw [ea] at g; cases g
    | some u =>
      rw [ea] at g
      cases g
      obtain ⟨v, h2, h3⟩ := at_rep r1 ea
      exact .inr (.inl ⟨p, vs, i, v, rfl, rfl, h1, h2, q F H v ⟨New.refl s, h3⟩⟩)
  · rename_i z i
    cases ky
    have kx := hx.now s
    cases kx
    split at g
    · cases ea : atI z.cps.toList i with
      | none => rw [ea] at g; cases g
      | some u =>
        rw [ea] at g
        cases g
        exact .inr (.inr ⟨z, i, u, rfl, rfl, by assumption, ea, ro_scal s (fun _ => .str _) rfl q⟩)
    · cases g
  · cases g
end
end ME
end

section
set_option maxHeartbeats 4000000
namespace ME
open PySem PySem.Spec L2
open PyProof.Rows hiding St
section
variable {X : Cx} {K : PySem.W.Frag}
theorem DrAll.one {F H : Hp} {xs : List V} {d : D} (h : DrAll K F H xs [d]) : ∃ x, xs = [x] ∧ DrR K F H x d := by
  cases h with
  | cons h t => cases t; exact ⟨_, rfl, h⟩
theorem DrAll.two {F H : Hp} {xs : List V} {d e : D} (h : DrAll K F H xs [d, e]) : ∃ x y, xs = [x, y] ∧ DrR K F H x d ∧ DrR K F H y e := by
  cases h with
  | cons h t =>
    obtain ⟨y, rfl, h2⟩ := t.one
    exact ⟨_, _, rfl, h, h2⟩
/-- a call of one argument, by data -/
theorem cd_one {r : List V → Hp → VK → Prop} {g : D → Option Ro} (h : ∀ F H x d o Q, (∀ a o, F a = some o → H a = some o) → Sized K H → DrR K F H x d → g d = some o → (∀ F1 H1 v, RoR K F H F1 H1 v o → Q v H1) → r [x] H Q) :
    CaD K r (fun ds => match ds with | [d] => g d | _ => none) := fun F H xs ds o Q s sz hd g' q => by
  match ds, hd, g' with
  | [d], hd, g' =>
    obtain ⟨x, rfl, hx⟩ := hd.one
    exact h F H x d o Q s sz hx g' q
  | [], _, g' => cases g'
  | _ :: _ :: _, _, g' => cases g'
theorem cd_two {r : List V → Hp → VK → Prop} {g : D → D → Option Ro} (h : ∀ F H x y d e o Q, (∀ a o, F a = some o → H a = some o) → Sized K H → DrR K F H x d → DrR K F H y e → g d e = some o → (∀ F1 H1 v, RoR K F H F1 H1 v o → Q v H1) → r [x, y] H Q) :
    CaD K r (fun ds => match ds with | [d, e] => g d e | _ => none) := fun F H xs ds o Q s sz hd g' q => by
  match ds, hd, g' with
  | [d, e], hd, g' =>
    obtain ⟨x, y, rfl, hx, hy⟩ := hd.two
    exact h F H x y d e o Q s sz hx hy g' q
  | [], _, g' => cases g'
  | [_], _, g' => cases g'
  | _ :: _ :: _ :: _, _, g' => cases g'
/-! len -/
def gLen (d : D) : Option Ro := match d with
  | .list l => some (.d (.int l.length))
  | .tuple l => some (.d (.int l.length))
  | .str z => if z.length ≤ sizeLine then some (.d (.int z.length)) else none
  | _ => none
theorem cd_len : CaD K (fun xs H Q => ∃ x n, xs = [x] ∧ LenV K x H n ∧ Q (.int n) H) (fun ds => match ds with | [d] => gLen d | _ => none) := cd_one fun F H x d o Q s sz hx g q => by
  cases d with
  | list l =>
    cases g
    obtain ⟨p, vs, rfl, h1, r1⟩ := hx.list s
    exact ⟨_, l.length, rfl, .inl ⟨vs, .inl (.inl h1), (DpAll.len r1).symm⟩, ro_scal s (fun _ => .int _) rfl q⟩
  | tuple l =>
    cases g
    obtain ⟨p, vs, rfl, h1, r1, _⟩ := hx.tuple s
    exact ⟨_, l.length, rfl, .inr ⟨vs, h1, (DpAll.len r1).symm⟩, ro_scal s (fun _ => .int _) rfl q⟩
  | str z =>
    have g : (if z.length ≤ sizeLine then some (Ro.d (.int z.length)) else none) = some o := g
    split at g
    · cases g
      have h1 := hx.now s
      cases h1
      exact ⟨_, z.length, rfl, ⟨by assumption, rfl⟩, ro_scal s (fun _ => .int _) rfl q⟩
    · cases g
  | _ => cases g
/-! all, any of a list of bools -/
def boolsOf : List D → Option (List Bool)
  | [] => some []
  | .bool b :: r => (boolsOf r).map (b :: ·)
  | _ => none
theorem bools_rep {F : Hp} : ∀ {vs : List V} {ds : List D} {bs : List Bool}, DpAll K F vs ds → boolsOf ds = some bs → vs = bs.map V.bl
  | _, _, _, .nil, h => by cases h; rfl
  | _, d :: ds, bs, .cons r t, h => by
    cases d with
    | bool b =>
      have h : (boolsOf ds).map (b :: ·) = some bs := h
      cases e : boolsOf ds with
      | none => rw [e] at h; cases h
      | some bs' =>
        rw [e] at h
        cases h
        cases r
        rw [List.map_cons, bools_rep t e]
    | _ => cases h
def gAll (d : D) : Option Ro := match d with
  | .list l => (boolsOf l).map fun bs => .d (.bool (bs.all id))
  | _ => none
def gAny (d : D) : Option Ro := match d with
  | .list l => (boolsOf l).map fun bs => .d (.bool (bs.any id))
  | _ => none
theorem cd_all : CaD K (rAll K) (fun ds => match ds with | [d] => gAll d | _ => none) := cd_one fun F H x d o Q s sz hx g q => by
  cases d with
  | list l =>
    have g : (boolsOf l).map (fun bs => Ro.d (.bool (bs.all id))) = some o := g
    cases e : boolsOf l with
    | none => rw [e] at g; cases g
    | some bs =>
      rw [e] at g
      cases g
      obtain ⟨p, vs, rfl, h1, r1⟩ := hx.list s
      have ev := bools_rep r1 e
      subst ev
      exact ⟨p, bs, rfl, .inl (.inl h1), ro_scal s (fun _ => .bl _) rfl q⟩
  | _ => cases g
theorem cd_any : CaD K (rAny K) (fun ds => match ds with | [d] => gAny d | _ => none) := cd_one fun F H x d o Q s sz hx g q => by
  cases d with
  | list l =>
    have g : (boolsOf l).map (fun bs => Ro.d (.bool (bs.any id))) = some o := g
    cases e : boolsOf l with
    | none => rw [e] at g; cases g
    | some bs =>
      rw [e] at g
      cases g
      obtain ⟨p, vs, rfl, h1, r1⟩ := hx.list s
      have ev := bools_rep r1 e
      subst ev
      exact ⟨p, bs, rfl, .inl (.inl h1), ro_scal s (fun _ => .bl _) rfl q⟩
  | _ => cases g
/-! tuple(..), list(..) -/
def gTuple (d : D) : Option Ro := match d with
  | .list l => some (.d (.tuple l))
  | .tuple l => some (.d (.tuple l))
  | _ => none
theorem cd_tuple : CaD K (fun xs H Q => ∃ p ys, xs = [.ref p] ∧ ((SqL K H p ys ∧ ∀ l, H l = none → Q (.ref l) (upd H l (.tup ys))) ∨ (SqT K H p ys ∧ Q (.ref p) H))) (fun ds => match ds with | [d] => gTuple d | _ => none) := cd_one fun F H x d o Q s sz hx g q => by
  cases d with
  | list l =>
    cases g
    obtain ⟨p, vs, rfl, h1, r1⟩ := hx.list s
    exact ⟨p, vs, rfl, .inl ⟨.inl (.inl h1), fun a n => ro_tup s n r1 rfl q⟩⟩
  | tuple l =>
    cases g
    obtain ⟨p, vs, rfl, h1, r1, D1⟩ := hx.tuple s
    exact ⟨p, vs, rfl, .inr ⟨h1, q F H _ ⟨New.refl s, D1⟩⟩⟩
  | _ => cases g
def gList (d : D) : Option Ro := match d with
  | .list l => some (.fl l)
  | .tuple l => some (.fl l)
  | _ => none
theorem cd_list : CaD K (fun xs H Q => ∃ p ys, xs = [.ref p] ∧ (SqL K H p ys ∨ SqT K H p ys) ∧ ∀ l, H l = none → Q (.ref l) (upd H l (.lst ys))) (fun ds => match ds with | [d] => gList d | _ => none) := cd_one fun F H x d o Q s sz hx g q => by
  cases d with
  | list l =>
    cases g
    obtain ⟨p, vs, rfl, h1, r1⟩ := hx.list s
    exact ⟨p, vs, rfl, .inl (.inl (.inl h1)), fun a n => ro_lst s n r1 rfl q⟩
  | tuple l =>
    cases g
    obtain ⟨p, vs, rfl, h1, r1, D1⟩ := hx.tuple s
    exact ⟨p, vs, rfl, .inr h1, fun a n => ro_lst s n r1 rfl q⟩
  | _ => cases g
/-! str(int), int(int), int(text), abs, max, min -/
def gStr (d : D) : Option Ro := match d with
  | .int i => if i.natAbs.log2 < 1920 then some (.d (.str (toString i))) else none
  | _ => none
theorem cd_str : CaD K (fun xs H Q => ∃ i, xs = [.int i] ∧ i.natAbs.log2 < 1920 ∧ Q (.str (toString i)) H) (fun ds => match ds with | [d] => gStr d | _ => none) := cd_one fun F H x d o Q s sz hx g q => by
  cases d with
  | int i =>
    have g : (if i.natAbs.log2 < 1920 then some (Ro.d (.str (toString i))) else none) = some o := g
    split at g
    · cases g
      have h1 := hx.now s
      cases h1
      exact ⟨i, rfl, by assumption, ro_scal s (fun _ => .str _) rfl q⟩
    · cases g
  | _ => cases g
def gInt (d : D) : Option Ro := match d with
  | .int i => some (.d (.int i))
  | .str z => if z.length ≤ 640 then (PySem.intText? z).map fun n => .d (.int n) else none
  | _ => none
def rIntD : List V → Hp → VK → Prop := fun xs H Q => (∃ i, xs = [.int i] ∧ Q (.int i) H) ∨ ∃ a n, xs = [.str a] ∧ PySem.intText? a = some n ∧ a.length ≤ 640 ∧ Q (.int n) H
theorem call_intD : CallR X (.type "int") rIntD := fun pins s σ H xs us Q I r h => by
  rcases h with ⟨i, rfl, q⟩ | h
  · exact call_int1 pins s σ H _ us Q I r (.inl ⟨i, rfl, q⟩)
  · exact call_int_str pins s σ H _ us Q I r h
theorem cd_int : CaD K rIntD (fun ds => match ds with | [d] => gInt d | _ => none) := cd_one fun F H x d o Q s sz hx g q => by
  cases d with
  | int i =>
    cases g
    have h1 := hx.now s
    cases h1
    exact .inl ⟨i, rfl, ro_scal s (fun _ => .int _) rfl q⟩
  | str z =>
    have g : (if z.length ≤ 640 then (PySem.intText? z).map fun n => Ro.d (.int n) else none) = some o := g
    split at g
    · cases e : PySem.intText? z with
      | none => rw [e] at g; cases g
      | some n =>
        rw [e] at g
        cases g
        have h1 := hx.now s
        cases h1
        exact .inr ⟨z, n, rfl, e, by assumption, ro_scal s (fun _ => .int _) rfl q⟩
    · cases g
  | _ => cases g
def gAbs (d : D) : Option Ro := match d with
  | .int i => some (.d (.int (if i < 0 then -i else i)))
  | _ => none
theorem cd_abs : CaD K (fun xs H Q => ∃ i, xs = [.int i] ∧ Q (.int (if i < 0 then -i else i)) H) (fun ds => match ds with | [d] => gAbs d | _ => none) := cd_one fun F H x d o Q s sz hx g q => by
  cases d with
  | int i =>
    cases g
    have h1 := hx.now s
    cases h1
    exact ⟨i, rfl, ro_scal s (fun _ => .int _) rfl q⟩
  | _ => cases g
def gMax2 (d e : D) : Option Ro := match d, e with
  | .int i, .int j => some (.d (.int (if j > i then j else i)))
  | _, _ => none
theorem cd_max2 : CaD K (fun xs H Q => ∃ i j, xs = [.int i, .int j] ∧ Q (.int (if j > i then j else i)) H) (fun ds => match ds with | [d, e] => gMax2 d e | _ => none) := cd_two fun F H x y d e o Q s sz hx hy g q => by
  unfold gMax2 at g
  split at g
  · cases g
    have h1 := hx.now s
    have h2 := hy.now s
    cases h1; cases h2
    exact ⟨_, _, rfl, ro_scal s (fun _ => .int _) rfl q⟩
  · cases g
def gMin2 (d e : D) : Option Ro := match d, e with
  | .int i, .int j => some (.d (.int (if j < i then j else i)))
  | _, _ => none
theorem cd_min2 : CaD K (fun xs H Q => ∃ i j, xs = [.int i, .int j] ∧ Q (.int (if j < i then j else i)) H) (fun ds => match ds with | [d, e] => gMin2 d e | _ => none) := cd_two fun F H x y d e o Q s sz hx hy g q => by
  unfold gMin2 at g
  split at g
  · cases g
    have h1 := hx.now s
    have h2 := hy.now s
    cases h1; cases h2
    exact ⟨_, _, rfl, ro_scal s (fun _ => .int _) rfl q⟩
  · cases g
/-! repr -/
def rRepr (K : PySem.W.Frag) : List V → Hp → VK → Prop := fun xs H Q => ∃ x d, xs = [x] ∧ Dp K H x d ∧ d.showable = true ∧ d.shown.length ≤ sizeLine ∧ d.depth ≤ 60 ∧ Q (.str d.shown) H
theorem call_repr (hgd : X.A.guards = some []) (hu : X.A.units + 64 < cLine) : CallR X (.builtin "repr") (rRepr X.K) := by
  intro pins s σ H xs us Q I r h
  obtain ⟨x, d, rfl, hd, h1, h2, h3, q⟩ := h
  obtain ⟨u, rfl, ru⟩ := vals1 r
  obtain ⟨as, rd⟩ := L2.Dp.reads I d x u (Dp.l2 _ hd) ru
  have nd := Dp.noDict d hd
  cases d with
  | none =>
    cases hd
    cases ru
    exact PySem.P.repr_of_none ⟨.str _, H, I.tok _, ⟨_, rfl⟩, q⟩
  | bool b =>
    cases hd
    cases ru
    exact PySem.P.repr_of_bool ⟨.str _, H, I.tok _, ⟨_, rfl⟩, q⟩
  | int i =>
    cases hd
    obtain ⟨t, rfl⟩ := ru
    exact PySem.P.repr_of_int (of_decide_eq_true h1) ⟨.str _, H, I.tok _, ⟨_, rfl⟩, q⟩
  | str z =>
    cases hd
    obtain ⟨t, rfl⟩ := ru
    exact PySem.P.repr_of_str ⟨.str _, H, I.tok _, ⟨_, rfl⟩, q⟩ h2
  | list ds =>
    cases hd with
    | lst hs ha =>
      cases ru
      exact repr_of_reads' rd h1 (fun z => by rw [nd] at z; cases z) hgd (by omega) (fun _ _ e => e) (fun h' u tk k => ⟨.str _, H, I.kept k, ⟨_, rfl⟩, q⟩) h2
  | tuple ds =>
    cases hd with
    | tup hs ha =>
      cases ru
      exact repr_of_reads' rd h1 (fun z => by rw [nd] at z; cases z) hgd (by omega) (fun _ _ e => e) (fun h' u tk k => ⟨.str _, H, I.kept k, ⟨_, rfl⟩, q⟩) h2
  | dict _ => cases hd
def gRepr (d : D) : Option Ro := if (d.showable && decide (d.shown.length ≤ sizeLine) && decide (d.depth ≤ 60)) = true then some (.d (.str d.shown)) else none
theorem cd_repr : CaD K (rRepr K) (fun ds => match ds with | [d] => gRepr d | _ => none) := cd_one fun F H x d o Q s sz hx g q => by
  unfold gRepr at g
  split at g
  · rename_i c
    rw [Bool.and_eq_true, Bool.and_eq_true, decide_eq_true_eq, decide_eq_true_eq] at c
    cases g
    exact ⟨x, d, rfl, hx.now s, c.1.1, c.1.2, c.2, ro_scal s (fun _ => .str _) rfl q⟩
  · cases g
/-! isinstance(x, T), T a built-in class -/
def rIsa (K : PySem.W.Frag) (T : String) (f : D → Bool) : List V → Hp → VK → Prop := fun xs H Q => ∃ x d, xs = [x, .ty T] ∧ Dp K H x d ∧ Q (.bl (f d)) H
theorem isa_by {T : String} {f : D → Bool} (h : ∀ {s : Shared} {v : Value} {d : D} {as : List Addr} {Q : Value → Shared → Prop}, Reads s.heap v d as → (∀ tk, s.toks ≤ tk → Q (.bool (f d)) { s with toks := tk }) → wpAny (model X.prog X.w) X.A (call (.builtin "isinstance") [v, .type T]) Q X.xe s) : CallR X (.builtin "isinstance") (rIsa X.K T f) := by
  intro pins s σ H xs us Q I r hq
  obtain ⟨x, d, rfl, hd, q⟩ := hq
  obtain ⟨u, w', rfl, ru, rw'⟩ := vals2 r
  obtain ⟨as, rd⟩ := L2.Dp.reads I d x u (Dp.l2 _ hd) ru
  cases rw'
  exact h rd fun tk _ => ⟨.bl _, H, I.tok tk, rfl, q⟩
theorem isa_int : CallR X (.builtin "isinstance") (rIsa X.K "int" PyData.isInt) := isa_by fun r h => PySem.W.isinstance_int_data r h
theorem isa_bool : CallR X (.builtin "isinstance") (rIsa X.K "bool" PyData.isBool) := isa_by fun r h => PySem.W.isinstance_bool_data r h
theorem isa_str : CallR X (.builtin "isinstance") (rIsa X.K "str" PyData.isStr) := isa_by fun r h => PySem.W.isinstance_str_data r h
theorem isa_list : CallR X (.builtin "isinstance") (rIsa X.K "list" PyData.isList) := isa_by fun r h => PySem.W.isinstance_list_data r h
theorem isa_tuple : CallR X (.builtin "isinstance") (rIsa X.K "tuple" PyData.isTuple) := isa_by fun r h => PySem.W.isinstance_tuple_data r h
def mIsa (f : D → Bool) (ma : M Val) : M Val := mUn (fun d => some (.d (.bool (f d)))) ma
theorem me_isa {W : WX} {T : String} {f : D → Bool} {e eT e0 : Expr} {ma : M Val} (h : ∀ {t : TA}, PA X [e, eT] t → PE X e0 (tCB (rIsa X.K T f) t)) (ha : ME X W e ma) (hT : PE X eT (tC (.ty T))) (hs : starEach [e, eT] X.env = (false, eval e X.env) :: starEach [eT] X.env := by rfl) (hs2 : starEach [eT] X.env = (false, eval eT X.env) :: starEach [] X.env := by rfl) : ME X W e0 (mIsa f ma) := by
  refine PE.weak (h (pa_cons ha (pa_cons hT pa_nil hs2) hs)) fun pins σ H s Q I q => ?_
  obtain ⟨F, A, ρ, S, as, q⟩ := q
  refine ⟨F, A, ρ, S, as, q.bind Ev.refl fun a ρ1 S1 F1 A1 x H1 _ _ ev as1 r1 q1 => ?_⟩
  cases d1 : dr ρ1 a with
  | none => rw [d1] at q1; exact q1.elim
  | some d =>
    rw [d1] at q1
    refine ⟨x, d, rfl, (dr_rep as1 r1 d1).now as1.sub, ?_⟩
    exact q1.now ev as1 (Dp.bl _)
/-! slices -/
def gSl (x : D) (lo hi : Option Int) : Option Ro := match x with
  | .list l => some (.fl ((l.drop (HT.sIx l.length 0 lo)).take (HT.sIx l.length l.length hi - HT.sIx l.length 0 lo)))
  | .tuple l => some (.d (.tuple ((l.drop (HT.sIx l.length 0 lo)).take (HT.sIx l.length l.length hi - HT.sIx l.length 0 lo))))
  | .str z => if z.length ≤ sizeLine then some (.d (.str (cutS z lo hi))) else none
  | _ => none
theorem DpAll.take {F : Hp} : ∀ {vs : List V} {ds : List D} (n : Nat), DpAll K F vs ds → DpAll K F (vs.take n) (ds.take n)
  | _, _, 0, _ => .nil
  | _, _, _ + 1, .nil => .nil
  | _, _, n + 1, .cons r t => .cons r (DpAll.take n t)
theorem DpAll.drop {F : Hp} : ∀ {vs : List V} {ds : List D} (n : Nat), DpAll K F vs ds → DpAll K F (vs.drop n) (ds.drop n)
  | _, _, 0, r => r
  | _, _, _ + 1, .nil => .nil
  | _, _, n + 1, .cons _ t => DpAll.drop n t
/-- the slices of lists, tuples, texts -/
def rSl (K : PySem.W.Frag) : V → Option Int → Option Int → Hp → VK → Prop := fun x lo hi H Q => rSlL K x lo hi H Q ∨ rSlA K x lo hi H Q ∨ rSlS x lo hi H Q
theorem sl_all : SlR X (rSl X.K) := sl_list.or (sl_tupA.or sl_str)
theorem sl_read {F H : Hp} {x : V} {d : D} {lo hi : Option Int} {o : Ro} {Q : VK} (s : ∀ a o, F a = some o → H a = some o) (hx : DrR K F H x d) (g : gSl d lo hi = some o) (q : ∀ F1 H1 v, RoR K F H F1 H1 v o → Q v H1) : rSl K x lo hi H Q := by
  cases d with
  | list l =>
    cases g
    obtain ⟨p, vs, rfl, h1, r1⟩ := hx.list s
    have e := DpAll.len r1
    refine .inl ⟨p, vs, rfl, .inl (.inl h1), fun a n => ?_⟩
    unfold cutV
    rw [e]
    exact ro_lst s n (DpAll.take _ (DpAll.drop _ r1)) rfl q
  | tuple l =>
    cases g
    obtain ⟨p, vs, rfl, h1, r1, D1⟩ := hx.tuple s
    have e := DpAll.len r1
    refine .inr (.inl ⟨p, vs, rfl, h1, fun hw => ?_, fun _ a n => ?_⟩)
    · rw [e] at hw
      have e2 : (l.drop (HT.sIx l.length 0 lo)).take (HT.sIx l.length l.length hi - HT.sIx l.length 0 lo) = l := by
        rw [hw.1, hw.2]
        simp
      refine q F H _ ⟨New.refl s, ?_⟩
      rw [e2]
      exact D1
    · unfold cutV
      rw [e]
      exact ro_tup s n (DpAll.take _ (DpAll.drop _ r1)) rfl q
  | str z =>
    have g : (if z.length ≤ sizeLine then some (Ro.d (.str (cutS z lo hi))) else none) = some o := g
    split at g
    · cases g
      have h1 := hx.now s
      cases h1
      exact .inr (.inr ⟨z, rfl, by assumption, ro_scal s (fun _ => .str _) rfl q⟩)
    · cases g
  | _ => cases g
/-- a slice's bound: an int, or none -/
def tO (K : PySem.W.Frag) (W : WX) (m : M (Option Int)) : TO := fun σ H Q => ∃ F A ρ S, ASF K F A ρ S σ H ∧ Post K W (fun _ _ _ _ _ _ b a => b = a) (m ρ S) F A ρ σ H Q
def MO (X : Cx) (W : WX) (e : Option Expr) (m : M (Option Int)) : Prop := PO X e (tO X.K W m)
theorem PO.weak {e : Option Expr} {t t' : TO} (h : PO X e t) (g : ∀ pins σ H s Q, L2.Inv X pins σ H s → t' σ H Q → t σ H Q) : PO X e t' := ⟨fun pins s σ H Q I q => h.run pins s σ H Q I (g pins σ H s Q I q)⟩
def oInt (v : Val) : M (Option Int) := fun ρ S => match v with
  | .d (.int i) => .ok (some i) ρ S
  | _ => .bad
theorem mo_none {W : WX} : MO X W none (ret none) := by
  refine PO.weak po_none fun pins σ H s Q I q => ?_
  obtain ⟨F, A, ρ, S, as, q⟩ := q
  exact q.now Ev.refl as rfl
theorem mo_some {W : WX} {e : Expr} {ma : M Val} (h : ME X W e ma) : MO X W (some e) (bind ma oInt) := by
  refine PO.weak (po_some h) fun pins σ H s Q I q => ?_
  obtain ⟨F, A, ρ, S, as, q⟩ := q
  refine ⟨F, A, ρ, S, as, q.bind Ev.refl fun a ρ1 S1 F1 A1 x H1 _ _ ev as1 r1 q1 => ?_⟩
  cases a with
  | d y =>
    cases y with
    | int i =>
      have r1 : Dp X.K F1 x (.int i) := r1
      cases r1
      exact ⟨i, rfl, q1.now ev as1 rfl⟩
    | _ => exact q1.elim
  | _ => exact q1.elim
def mSl (ma : M Val) (ml mh : M (Option Int)) : M Val := bind ma fun a => bind ml fun lo => bind mh fun hi => fun ρ S => match dr ρ a with
  | some x => roM (gSl x lo hi) ρ S
  | none => .bad
theorem me_sl {W : WX} {e : Expr} {lo hi : Option Expr} {pos p2 : Pos} {ma : M Val} {ml mh : M (Option Int)} (ha : ME X W e ma) (hl : MO X W lo ml) (hh : MO X W hi mh) : ME X W (.Subscript e (.Slice lo hi none p2) pos) (mSl ma ml mh) := by
  refine PE.weak (pe_slice sl_all ha hl hh) fun pins σ H s Q I q => ?_
  obtain ⟨F, A, ρ, S, as, q⟩ := q
  refine ⟨F, A, ρ, S, as, q.bind Ev.refl fun a ρ1 S1 F1 A1 x H1 _ _ ev as1 r1 q1 => ?_⟩
  refine ⟨F1, A1, ρ1, S1, as1, q1.bind ev fun l ρ2 S2 F2 A2 l' H2 _ ev2 ev02 as2 e2 q2 => ?_⟩
  cases e2
  refine ⟨F2, A2, ρ2, S2, as2, q2.bind ev02 fun h ρ3 S3 F3 A3 h' H3 _ ev3 ev03 as3 e3 q3 => ?_⟩
  cases e3
  cases d1 : dr ρ3 a with
  | none => rw [d1] at q3; exact q3.elim
  | some d =>
    rw [d1] at q3
    have q3 : Post X.K W (rVal X.K) (roM (gSl d l h) ρ3 S3) F A ρ σ H Q := q3
    unfold roM at q3
    cases eo : gSl d l h with
    | none => rw [eo] at q3; exact q3.elim
    | some o =>
      rw [eo] at q3
      exact sl_read as3.sub (dr_rep as3 (r1.up (ev2.trans ev3) rfl) d1) eo fun F4 H4 v h4 => h4.fin q3 ev03 as3
end
end ME
end

section
set_option maxHeartbeats 4000000
namespace ME
open PySem PySem.Spec L2
open PyProof.Rows hiding St
/-! ### sorted -/
section
variable {prog : Program} {w : World} {A : Around} {E : Value → Shared → Prop} {s : Shared}
/-- what sorted makes of a tuple: a list of its own ahead -/
theorem collect_tup {l : Addr} {vs : List Value} {Q : List Value → Shared → Prop} (hl : s.heap.IsTuple l vs.toArray)
    (h : Q vs { s with heap := (s.heap.push (seqObj "list" #[] 0)).update s.heap.objs.size (Obj.mapSeq (· ++ vs.toArray)) }) (hsz : vs.length ≤ sizeLine) :
    wpAny (model prog w) A (collect (.ref l)) Q E s := by
  obtain ⟨o, ho, hc, n, hd⟩ := id hl
  unfold collect
  refine wpAny_bind (wpAny_runValue (codeAny_builtin entry_proto_collect' ?_))
  show wpAny _ _ (do again (.builtin "list.__iadd__" ⟨[← newList [], .ref l], []⟩)) _ _ s
  refine wpAny_bind (wpAny_newList (wpAny_pure ⟨Code.quiet_builtin _ (by decide +kernel), codeAny_builtin entry_list_iadd' ?_⟩))
  have hold : (s.heap.push (seqObj "list" #[] 0)).get? l = some o := Heap.get?_push_of_some _ ho
  have eA : A.under (Code.builtin "list.__iadd__" ⟨[.ref s.heap.objs.size, .ref l], []⟩) = A.in1 := by
    first | rfl | (simp [Around.under, Around.in1, Code.weight, Code.envs, Code.guards, Code.cUnits, pushEnvs, pushGuards]; done)
  rw [eA]
  refine wpAny_extend_seq (s := { s with heap := s.heap.push (seqObj "list" #[] 0) }) (R := fun r s' => match r with
    | .ok (.ret v) => wpAny (model prog w) A (match v with
      | .ref a => do
        let o ← load a
        match o.data with
          | .seq xs _ => pure xs.toList
          | _ => unsupported "internal:collect"
      | _ => unsupported "internal:collect") Q E s'
    | .ok _ => False
    | .error e => E e s') s.heap.objs.size l (.ref s.heap.objs.size) 0 (T := "tuple") (.inr rfl) (Heap.get?_push_size _ rfl) hold hc hd ?_ (by rw [List.size_toArray]; exact hsz)
  show wpAny (model prog w) A (do
    let o ← load s.heap.objs.size
    match o.data with
      | .seq xs _ => pure xs.toList
      | _ => unsupported "internal:collect") Q E _
  refine wpAny_bind (wpAny_load (get?_update_seq (Heap.get?_push_size _ rfl) _) ?_)
  have e2 : ((#[] : Array Value) ++ vs.toArray).toList = vs := by simp
  show wpAny _ _ (pure ((#[] : Array Value) ++ vs.toArray).toList) Q E _
  rw [e2]
  exact wpAny_pure h
end
end ME
namespace PySem.W
open PySem PySem.Calls PyProof.Rows
variable {prog : Program} {w : World} {A : Around} {E : Value → Shared → Prop} {s : Shared} {κ : PyProof.Rows.KeyKind}
/-- sorted of a tuple -/
theorem sorted_tup_vals {l : Addr} {vs : List Value} {Q : Value → Shared → Prop} (hl : s.heap.IsTuple l vs.toArray) (S : SortsAt prog w A.in1.in1 { s with heap := sortingHeap (copyHeap s.heap vs) (s.heap.objs.size + 1) vs } κ vs) (hL : vs.length ≤ sizeLine)
    (h : Q (.ref (s.heap.objs.size + 1)) { s with heap := sortedAll s.heap vs (sortVals κ false vs vs).toArray }) : wpAny (model prog w) A (call (.builtin "sorted") [.ref l]) Q E s := by
  refine call_function_entry kind_sorted plain_sorted entry_sorted (args_sorted1 _) ?_
  unfold Builtin.«sorted»
  refine wpAny_bind (m := checkCount "sorted" 1 1 _) (wpAny_pure (wpAny_bind (ME.collect_tup hl (wpAny_bind (wpAny_newList ?_ hL)) hL)))
  have hz : ((s.heap.push (seqObj "list" #[] 0)).update s.heap.objs.size (Obj.mapSeq (· ++ vs.toArray))).objs.size = s.heap.objs.size + 1 := (Heap.size_update ..).trans (size_push' ..)
  show wpAny _ _ _ _ _ { s with heap := copyHeap s.heap vs }
  rw [hz]
  refine wpAny_bind (wpAny_holding (wpAny_call_entry slot_list_sort ⟨_, copyHeap_at s.heap vs, rfl⟩ entry_list_sort ?body (args_list_sort _)))
  case body =>
    show wpAny (model prog w) A.in1.in1 (Builtin.«list.sort» ⟨[.ref (s.heap.objs.size + 1)], []⟩) _ _ _
    exact list_sort_vals (s := { s with heap := copyHeap s.heap vs }) (copyHeap_at s.heap vs) S hL ⟨_, rfl, wpAny_pure ⟨_, rfl, h⟩⟩
end PySem.W
namespace ME
open PySem PySem.Spec L2
open PyProof.Rows hiding St
/-! by data -/
def allAlikeB (ds : List D) : Bool := ds.all fun d => ds.all fun e => PySem.W.alike d e
def sortableB (ds : List D) : Bool := (ds.all fun d => match d with
  | .tuple (_ :: _) => true
  | _ => false) || ds.all fun d => match d with
  | .tuple _ => false
  | .none => false
  | _ => true
theorem allAlike_of {ds : List D} (h : allAlikeB ds = true) : PySem.W.AllAlike ds := fun d hd e he => List.all_eq_true.mp (List.all_eq_true.mp h d hd) e he
theorem sortable_of {ds : List D} (h : sortableB ds = true) : PySem.W.Sortable ds := by
  unfold sortableB at h
  rw [Bool.or_eq_true] at h
  refine h.imp (fun h d hd => ?_) fun h d hd => ?_
  · have z := List.all_eq_true.mp h d hd
    cases d with
    | tuple l => cases l with
      | nil => cases z
      | cons x r => exact ⟨x, r, rfl⟩
    | _ => cases z
  · have z := List.all_eq_true.mp h d hd
    cases d with
    | tuple l => cases z
    | none => cases z
    | _ => exact ⟨fun e => (nomatch e), fun _ e => (nomatch e)⟩
/-- the order of data -/
def leD (x y : D) : Bool := !PySem.W.dataLt y x
def sortD (ds : List D) : List D := ds.mergeSort leD
def gSorted (d : D) : Option Ro := match d with
  | .list l => if (allAlikeB l && sortableB l && decide (PyData.depthAll l ≤ 50)) = true then some (.fl (sortD l)) else none
  | .tuple l => if (allAlikeB l && sortableB l && decide (PyData.depthAll l ≤ 50)) = true then some (.fl (sortD l)) else none
  | _ => none
theorem depth_mem : ∀ {ds : List D} {d : D}, d ∈ ds → d.depth ≤ PyData.depthAll ds
  | x :: xs, d, h => by
    show d.depth ≤ max x.depth (PyData.depthAll xs)
    rcases List.mem_cons.mp h with e | h
    · rw [e]; exact Nat.le_max_left _ _
    · exact Nat.le_trans (depth_mem h) (Nat.le_max_right _ _)
  | [], _, h => by cases h
/-- values beside what they are -/
inductive Trip (K : PySem.W.Frag) (F : Hp) : List Value → List (V × D) → Prop
  | nil : Trip K F [] []
  | cons {u : Value} {v : V} {d : D} {us : List Value} {ps : List (V × D)} : RelV v u → Dp K F v d → Trip K F us ps → Trip K F (u :: us) ((v, d) :: ps)
theorem trip_of {K : PySem.W.Frag} {F : Hp} : ∀ {vs : List V} {us : List Value} {ds : List D}, Vals vs us → DpAll K F vs ds → ∃ ps : List (V × D), Trip K F us ps ∧ ps.map (·.1) = vs ∧ ps.map (·.2) = ds
  | _, _, _, .nil, r => by cases r; exact ⟨[], .nil, rfl, rfl⟩
  | _, _, _, .cons r1 t1, r => by
    cases r with
    | cons r2 t2 =>
      obtain ⟨ps, h1, h2, h3⟩ := trip_of t1 t2
      exact ⟨_, .cons r1 r2 h1, by rw [List.map_cons, h2], by rw [List.map_cons, h3]⟩
theorem trip_each {K : PySem.W.Frag} {F : Hp} : ∀ {us : List Value} {ps : List (V × D)}, Trip K F us ps → PySem.W.EachIs (fun u p => RelV p.1 u ∧ Dp K F p.1 p.2) us ps
  | _, _, .nil => .nil
  | _, _, .cons r1 r2 t => .cons ⟨r1, r2⟩ (trip_each t)
theorem each_vals {K : PySem.W.Frag} {F : Hp} : ∀ {us : List Value} {ps : List (V × D)}, PySem.W.EachIs (fun u p => RelV p.1 u ∧ Dp K F p.1 p.2) us ps → Vals (ps.map (·.1)) us ∧ DpAll K F (ps.map (·.1)) (ps.map (·.2))
  | _, _, .nil => ⟨.nil, .nil⟩
  | _, _, .cons r t => ⟨.cons r.1 (each_vals t).1, .cons r.2 (each_vals t).2⟩
def rSorted' (K : PySem.W.Frag) : List V → Hp → VK → Prop := fun xs H Q => ∃ p F vs ds, xs = [.ref p] ∧ (SqL K H p vs ∨ SqT K H p vs) ∧ (∀ a o, F a = some o → H a = some o) ∧ DpAll K F vs ds ∧ PySem.W.AllAlike ds ∧ PySem.W.Sortable ds ∧ PyData.depthAll ds ≤ 50 ∧
  ∀ q ws, H q = none → DpAll K F ws (sortD ds) → Q (.ref q) (upd H q (.lst ws))
theorem call_sorted' {X : Cx} (hu : X.A.units + 64 < cLine) : CallR X (.builtin "sorted") (rSorted' X.K) := by
  intro pins s σ H xs us Q I r h
  obtain ⟨p, F, vs, ds, rfl, hs, sub, dd, hal, hk, hdp, q⟩ := h
  obtain ⟨u, rfl, ru⟩ := vals1 r
  cases ru
  have key : ∀ its : List Value, Vals vs its → vs.length ≤ sizeLine → (∀ κ, PySem.W.SortsAt X.prog X.w X.A.in1.in1 { s with heap := PySem.W.sortingHeap (PySem.W.copyHeap s.heap its) (s.heap.objs.size + 1) its } κ its →
      EP X pins σ Q (.ref (s.heap.objs.size + 1)) { s with heap := sortedAll s.heap its (PySem.W.sortVals κ false its its).toArray } → wpAny (model X.prog X.w) X.A (call (.builtin "sorted") [.ref p]) (EP X pins σ Q) X.xe s) → wpAny (model X.prog X.w) X.A (call (.builtin "sorted") [.ref p]) (EP X pins σ Q) X.xe s := by
    intro its rv hz go
    obtain ⟨ps, ht, e1, e2⟩ := trip_of rv dd
    have lp : its.length = ps.length := (trip_each ht).length
    have er : PySem.W.EachIs (fun v (b : V × D) => ∃ as, Reads s.heap v b.2 as) its ps := (trip_each ht).mono fun u b z => L2.Dp.reads I b.2 b.1 u (Dp.l2 _ (Dp.up sub _ _ z.2)) z.1
    have er' : PySem.W.EachIs (fun v (b : V × D) => ∃ as, Reads (PySem.W.sortingHeap (PySem.W.copyHeap s.heap its) (s.heap.objs.size + 1) its) v b.2 as) its ps := er.mono fun _ _ ⟨as, z⟩ => ⟨as, PyProof.Rows.Reads.keeps (fun _ _ => PySem.W.sorting_copy_old) z⟩
    have hal' : PySem.W.AllAlike (ps.map (·.2)) := by rw [e2]; exact hal
    have hk' : PySem.W.Sortable (ps.map (·.2)) := by rw [e2]; exact hk
    have S := PySem.W.SortsAt.data (prog := X.prog) (w := X.w) (A := X.A.in1.in1) (s := { s with heap := PySem.W.sortingHeap (PySem.W.copyHeap s.heap its) (s.heap.objs.size + 1) its }) (PySem.W.each_map (R := fun v d => ∃ as, Reads (PySem.W.sortingHeap (PySem.W.copyHeap s.heap its) (s.heap.objs.size + 1) its) v d as) (fun p : V × D => p.2) er') hal' hk' (fun d hd => by
      have := depth_mem hd
      rw [e2] at this
      show X.A.units + 1 + 1 + d.depth < cLine
      omega)
    refine go _ S ?_
    have out := PySem.W.sortVals_data (R := fun u (p : V × D) => RelV p.1 u ∧ Dp X.K F p.1 p.2) (enc := fun p : V × D => p.2) false (trip_each ht) er' hal'
    obtain ⟨o1, o2⟩ := each_vals out
    have es : (ps.mergeSort (PySem.W.dataLe false fun p : V × D => p.2)).map (·.2) = sortD ds := by
      rw [← e2]
      exact List.map_mergeSort fun a _ b _ => by rw [PySem.W.dataLe_eq]; rfl
    rw [es] at o2
    have ln : ((ps.mergeSort (PySem.W.dataLe false fun p : V × D => p.2)).map (·.1)).length ≤ sizeLine := by
      rw [List.length_map, List.length_mergeSort, ← lp]
      exact Nat.le_trans (Nat.le_of_eq rv.length.symm) hz
    have nq : H (s.heap.objs.size + 1) = none := I.hok.fresh (Nat.le_succ _)
    refine ⟨.ref (s.heap.objs.size + 1), _, I.laid (t' := s.toks) (o := .lst ((ps.mergeSort (PySem.W.dataLe false fun p : V × D => p.2)).map (·.1))) (fun b o e => sortedAll_old e) (Nat.le_succ _) ⟨ln, _, _, o1, (sortedAll_at s.heap its _).choose_spec⟩, rfl, q _ _ nq o2⟩
  rcases hs with hs | hs
  · obtain ⟨its, rv, pl, hz⟩ := I.list hs
    exact key its rv hz fun κ S e => PySem.W.sorted_vals pl.isList S (by rw [← rv.length]; exact hz) e
  · obtain ⟨its, rv, pl, hz⟩ := I.tuple hs
    exact key its rv hz fun κ S e => PySem.W.sorted_tup_vals pl S (by rw [← rv.length]; exact hz) e
theorem cd_sorted {K : PySem.W.Frag} : CaD K (rSorted' K) (fun ds => match ds with | [d] => gSorted d | _ => none) := cd_one fun F H x d o Q s sz hx g q => by
  cases d with
  | list l =>
    have g : (if (allAlikeB l && sortableB l && decide (PyData.depthAll l ≤ 50)) = true then some (Ro.fl (sortD l)) else none) = some o := g
    split at g
    · rename_i c
      rw [Bool.and_eq_true, Bool.and_eq_true, decide_eq_true_eq] at c
      cases g
      obtain ⟨p, vs, rfl, h1, r1⟩ := hx.list s
      exact ⟨p, F, vs, l, rfl, .inl (.inl (.inl h1)), s, r1, allAlike_of c.1.1, sortable_of c.1.2, c.2, fun a ws n r2 => ro_lst s n r2 rfl q⟩
    · cases g
  | tuple l =>
    have g : (if (allAlikeB l && sortableB l && decide (PyData.depthAll l ≤ 50)) = true then some (Ro.fl (sortD l)) else none) = some o := g
    split at g
    · rename_i c
      rw [Bool.and_eq_true, Bool.and_eq_true, decide_eq_true_eq] at c
      cases g
      obtain ⟨p, vs, rfl, h1, r1, _⟩ := hx.tuple s
      exact ⟨p, F, vs, l, rfl, .inr h1, s, r1, allAlike_of c.1.1, sortable_of c.1.2, c.2, fun a ws n r2 => ro_lst s n r2 rfl q⟩
    · cases g
  | _ => cases g
end ME
end

section
set_option maxHeartbeats 4000000
namespace ME
open PySem PySem.Spec L2
open PyProof.Rows hiding St

/-! ### exceptions of one's own classes -/
structure OxC (K : PySem.W.Frag) (C : Addr) : Prop where
  ini : ∃ B n i b, ExcBaseFacts B n i b ∧ StoreFacts B b "object.__setattr__" "object" ∧ PySem.W.excInitIn K C b n = true ∧ PySem.W.excOver K C b = true
  hd : PySem.W.hasDictIn K C = true
  sa : PySem.W.findIn K (.ref C) "__setattr__" = some (some (.builtin "object.__setattr__"))
  ga : PySem.W.findIn K (.ref C) "__getattribute__" = some (some (.builtin "BaseException.__getattribute__"))
  gg : PySem.W.findIn K (.ref C) "__getattr__" = some none
  exC : PySem.W.subIn K (.ref C) (.type "BaseException") = some true
  tyC : PySem.W.typeIn K (.ref C) = some (.type "type")
  kC : PySem.W.keepIn K (.ref C) = true
  ca : PySem.W.findIn K (.ref C) "__class__" = some (some (.builtin "object.__class__"))
  cn : PySem.W.specialIn K (.builtin "object.__class__") "__get__" = some (some (.builtin "getset_descriptor.__get__"))
  ct : PySem.W.takesIn K (.builtin "object.__class__") = some true
  cm : PySem.W.mroIn K C (.type "object") = some true
inductive Bas where
  | ve | re | le | ae
def Bas.tail : Bas → List Value
  | .ve => [.type "ValueError", .type "Exception", .type "BaseException", .type "object"]
  | .re => [.type "RuntimeError", .type "Exception", .type "BaseException", .type "object"]
  | .le => [.type "LookupError", .type "Exception", .type "BaseException", .type "object"]
  | .ae => [.type "ArithmeticError", .type "Exception", .type "BaseException", .type "object"]
def Bas.new : Bas → String
  | .ve => "ValueError.__new__"
  | .re => "RuntimeError.__new__"
  | .le => "LookupError.__new__"
  | .ae => "ArithmeticError.__new__"
theorem Bas.facts (b : Bas) : ∃ B i, ExcBaseFacts B b.new i b.tail ∧ StoreFacts B b.tail "object.__setattr__" "object" := by
  cases b with
  | ve => exact ⟨_, _, F.excBase_ValueError, F.store_ValueError⟩
  | re => exact ⟨_, _, F.excBase_RuntimeError, F.store_RuntimeError⟩
  | le => exact ⟨_, _, F.excBase_LookupError, F.store_LookupError⟩
  | ae => exact ⟨_, _, F.excBase_ArithmeticError, F.store_ArithmeticError⟩
def oxB (K : PySem.W.Frag) (C : Addr) (b : Bas) : Bool :=
  PySem.W.excInitIn K C b.tail b.new && (PySem.W.excOver K C b.tail && (PySem.W.hasDictIn K C && (decide (PySem.W.findIn K (.ref C) "__setattr__" = some (some (.builtin "object.__setattr__"))) &&
  (decide (PySem.W.findIn K (.ref C) "__getattribute__" = some (some (.builtin "BaseException.__getattribute__"))) && (decide (PySem.W.findIn K (.ref C) "__getattr__" = some none) && (decide (PySem.W.subIn K (.ref C) (.type "BaseException") = some true) &&
  (decide (PySem.W.typeIn K (.ref C) = some (.type "type")) && (PySem.W.keepIn K (.ref C) && (decide (PySem.W.findIn K (.ref C) "__class__" = some (some (.builtin "object.__class__"))) &&
  (decide (PySem.W.specialIn K (.builtin "object.__class__") "__get__" = some (some (.builtin "getset_descriptor.__get__"))) && (decide (PySem.W.takesIn K (.builtin "object.__class__") = some true) && decide (PySem.W.mroIn K C (.type "object") = some true))))))))))))
theorem oxB_ok {K : PySem.W.Frag} {C : Addr} {b : Bas} (h : oxB K C b = true) : OxC K C := by
  unfold oxB at h
  simp only [Bool.and_eq_true, decide_eq_true_eq] at h
  obtain ⟨h1, h2, h3, h4, h5, h6, h7, h8, h9, h10, h11, h12, h13⟩ := h
  obtain ⟨B, i, f1, f2⟩ := b.facts
  exact ⟨⟨B, b.new, i, b.tail, f1, f2, h1, h2⟩, h3, h4, h5, h6, h7, h8, h9, h10, h11, h12, h13⟩

/-! ### __init__: self.f = f, .. -/
inductive IniB : List Str → List Stmt → Prop
  | nil : IniB [] []
  | cons {x : Str} {fs : List Str} {sts : List Stmt} {q1 q2 q3 q4 : Pos} (h : IniB fs sts) (hs : ∀ env, swapsWith (.Name x q3) (some (.Attribute (.Name "self" q1) x q2)) q4.line env = pure false) : IniB (x :: fs) (.Assign [.Attribute (.Name "self" q1) x q2] (.Name x q3) q4 :: sts)
theorem look_cons {α : Type} (f g : Str) (y : α) (fs : List (Str × α)) : ((f, y) :: fs).lookup g = if g = f then some y else fs.lookup g := by
  by_cases h : g = f
  · subst h; simp [List.lookup]
  · have e : (g == f) = false := by simpa using h
    simp [List.lookup, e, h]
section
variable {prog : Program} {w : World} {A : Around} {E : Value → Shared → Prop} {R : Result → Shared → Prop} {hp : Heap} {g : Array GenState} {d : Drawn} {t : Nat} {os : OsState} {K : PySem.W.Frag} {C x dx : Addr} {f : Str} {v : Value} {fv : Array Value}
open PySem.W Builtin Builtin.ObjectAttr
theorem taker_of (h : findIn K (.ref C) f = some none) : takerIn K C f = some none := by
  unfold takerIn
  rw [h] <;> rfl
/-- the first store on an exception -/
theorem set_ox0 (T : OxC K C) (X : K.In hp) (hx : hp.get? x = some { cls := .ref C, data := .fields fv }) (hno : findIn K (.ref C) f = some none) {Q : Unit → Shared → Prop}
    (hq : ∀ h' tk' dx, (∀ b o, b ≠ x → hp.get? b = some o → h'.get? b = some o) → hp.objs.size ≤ dx → dx ≠ x → h'.get? x = some { cls := .ref C, dict := some dx, data := .fields fv } → h'.Ns1 dx (fun y => [(f, v)].lookup y) → Q () ⟨h', g, d, tk', os⟩) :
    wpAny (model prog w) A (setAttr (.ref x) f v) Q E ⟨hp, g, d, t, os⟩ := by
  obtain ⟨B, n, i, b, _, SF, _, ov⟩ := T.ini
  refine set_plain (od := none) X ⟨hx, rfl, rfl, trivial⟩ T.sa ?_
  refine osa_openX (od := none) SF X ⟨hx, rfl, rfl, trivial⟩ ov (taker_of hno) fun bb => ?_
  obtain ⟨cd, hc, hd'⟩ := any_some T.hd
  have xs : x ≠ hp.objs.size := Nat.ne_of_lt (Heap.lt_size hx)
  have hcls : Looks (model prog w) hp (classData C) cd := looks_clsIn X hc
  show wpAny _ _ (storeInOwnDict (.ref x) (.ref C) (.str f _) f v bb) _ _ _
  unfold storeInOwnDict ownDictForStores
  obtain ⟨nm, bs, mro, ns, qn, hd, sn, sb, ab, col, del⟩ := cd
  dsimp only at hd'
  subst hd'
  repeat (first | with_reducible refine HandSPX.store_in_new ?_ ?_ | with_reducible refine wpAny_loadPart_at hx ?_ | with_reducible refine hcls.at ?_ | wp_step)
  · exact ⟨_, #[], _, (Heap.get?_update_ne _ _ _ _ (Ne.symm xs)).trans (Heap.get?_push_at rfl rfl), rfl, fun e he => absurd he (by simp), fun _ => rfl⟩
  · intro h' tk' hn' hs
    have hx1 : (hp.push { cls := .type "dict", data := .dict #[] }).get? x = some { cls := .ref C, data := .fields fv } := Heap.get?_push_of_some _ hx
    have en : (fun y : Str => if y = f then some v else none) = fun y => [(f, v)].lookup y := by
      funext y
      rw [look_cons] <;> rfl
    refine hq h' tk' hp.objs.size (fun b o hb ho => ?_) (Nat.le_refl _) (Ne.symm xs) ?_ (en ▸ hn')
    · exact (hs.2 b (Nat.ne_of_lt (Heap.lt_size ho))).trans ((Heap.get?_update_ne _ _ _ _ hb).trans (Heap.get?_push_of_some _ ho))
    · exact (hs.2 x xs).trans (Heap.get?_update_self _ hx1 rfl)
/-- a later one -/
theorem set_oxD {prev : List (Str × Value)} (T : OxC K C) (X : K.In hp) (hx : hp.get? x = some { cls := .ref C, dict := some dx, data := .fields fv }) (hn : hp.Ns1 dx (fun y => prev.lookup y)) (hl : prev.length ≤ 900) (hno : findIn K (.ref C) f = some none) {Q : Unit → Shared → Prop}
    (hq : ∀ h' tk', (∀ b o, b ≠ dx → hp.get? b = some o → h'.get? b = some o) → h'.Ns1 dx (fun y => ((f, v) :: prev).lookup y) → Q () ⟨h', g, d, tk', os⟩) :
    wpAny (model prog w) A (setAttr (.ref x) f v) Q E ⟨hp, g, d, t, os⟩ := by
  obtain ⟨B, n, i, b, _, SF, _, ov⟩ := T.ini
  have hw : Within (fun y => prev.lookup y) (prev.map (·.1)) := fun y hy => by
    have key : ∀ {l : List (Str × Value)}, l.lookup y ≠ none → y ∈ l.map (·.1) := by
      intro l
      induction l with
      | nil => intro h; exact absurd rfl h
      | cons p l ih =>
        obtain ⟨a, b⟩ := p
        intro h
        rw [look_cons] at h
        by_cases e : y = a
        · rw [e]; exact List.mem_cons_self ..
        · rw [if_neg e] at h
          exact List.mem_cons_of_mem _ (ih h)
    exact key hy
  obtain ⟨oD, _, _, hoD, _, _⟩ := hn.count hw
  refine set_plain (od := some oD) X ⟨hx, rfl, rfl, hoD⟩ T.sa ?_
  refine osa_openX (od := some oD) SF X ⟨hx, rfl, rfl, hoD⟩ ov (taker_of hno) fun bb => ?_
  obtain ⟨cd, hc, hd'⟩ := any_some T.hd
  have hcls : Looks (model prog w) hp (classData C) cd := looks_clsIn X hc
  show wpAny _ _ (storeInOwnDict (.ref x) (.ref C) (.str f _) f v bb) _ _ _
  unfold storeInOwnDict ownDictForStores
  obtain ⟨nm, bs, mro, ns, qn, hd, sn, sb, ab, col, del⟩ := cd
  dsimp only at hd'
  subst hd'
  repeat (first | with_reducible refine OEX.store_in_old hn hw (by rw [List.length_map]; omega) ?_ | with_reducible refine wpAny_loadPart_at hx ?_ | with_reducible refine hcls.at ?_ | wp_step)
  intro h' tk' hn' hs
  have en : (fun y : Str => if y = f then some v else prev.lookup y) = fun y => ((f, v) :: prev).lookup y := by
    funext y
    rw [look_cons]
  exact hq h' tk' (fun b o hb ho => (hs.2 b hb).trans ho) (en ▸ hn')
/-- what __init__ leaves of a fresh exception at x: its dict, the fields -/
structure IniEnd (h h' : Heap) (x C dx t1 : Addr) (m : List (Str × Value)) : Prop where
  keep : ∀ b o, b ≠ x → h.get? b = some o → h'.get? b = some o
  obj : h'.get? x = some { cls := .ref C, dict := some dx, data := .fields #[.ref t1, .none, .none, .none, .bool false, .none] }
  dbig : h.objs.size ≤ dx
  dne : dx ≠ x
  ns : h'.Ns1 dx (fun y => m.lookup y)
/-- what each name's value is in the frame -/
def InF (env : Env) (K : PySem.W.Frag) (C : Addr) (mL : Str → Option Value) : Str → Value → Prop := fun f u => mL f = some u ∧ env.kindOf f = some .local ∧ findIn K (.ref C) f = some none ∧ (f == ("__debug__" : Str)) = false
theorem ini_rest {env : Env} {mL : Str → Option Value} {h0 : Heap} {t1 : Addr} (T : OxC K C) (ks : env.scope.kind = .function) (kl : env.kindOf "self" = some .local) (ml : mL "self" = some (.ref x)) (hL : env.locals ≠ x) : ∀ {fs : List Str} {sts : List Stmt} {us : List Value} (_ : IniB fs sts) (_ : Paired (InF env K C mL) fs us) {prev : List (Str × Value)} {hp : Heap} {t : Nat}
    (_ : K.In hp) (_ : hp.Ns env.locals mL) (_ : env.locals ≠ dx) (_ : h0.objs.size ≤ dx) (_ : K.lookup dx = none) (_ : IniEnd h0 hp x C dx t1 prev) (_ : prev.length + fs.length ≤ 800) {Q : Flow → Shared → Prop}
    (_ : ∀ h' tk', IniEnd h0 h' x C dx t1 ((fs.zip us).reverse ++ prev) → Q .next ⟨h', g, d, tk', os⟩), wpAny (model prog w) A (execs sts env) Q E ⟨hp, g, d, t, os⟩
  | _, _, us, .nil, r, prev, hp, t, X, hn, hd, hb, hk, I, hl, Q, q => by
    cases r
    exact wpAny_execs_nil (q hp t I)
  | _, _, us, .cons (x := f) (fs := fs) hB hs, r, prev, hp, t, X, hn, hd, hb, hk, I, hl, Q, q => by
    cases r with
    | cons r1 r2 =>
      rename_i u us'
      obtain ⟨m1, m2, m3, m4⟩ := r1
      have hl' : prev.length + (fs.length + 1) ≤ 800 := hl
      refine wpAny_execs_cons (plainObj_wpAny_Assign_Attribute ?_ (hs env))
      refine wpAny_Name (wpAny_loadName_local ks m2 hn m1 ?_) m4
      refine wpAny_Name (wpAny_loadName_local ks kl hn ml ?_)
      refine set_oxD T X I.obj I.ns (by omega) m3 fun h' tk' k hns => ?_
      refine ini_rest T ks kl ml hL hB r2 (prev := (f, u) :: prev) (fun a o e => k a o (fun z => by rw [z, hk] at e; cases e) (X a o e)) (hn.at fun o e => k _ _ hd e) hd hb hk ⟨fun b o hb' e => ?_, k _ _ (Ne.symm I.dne) I.obj, I.dbig, I.dne, hns⟩ (by rw [List.length_cons]; omega) fun h2 tk2 I2 => ?_
      · exact k b o (Nat.ne_of_lt (Nat.lt_of_lt_of_le (Heap.lt_size e) hb)) (I.keep b o hb' e)
      · refine q h2 tk2 ?_
        have e : ((f :: fs).zip (u :: us')).reverse ++ prev = (fs.zip us').reverse ++ (f, u) :: prev := by simp
        rw [e]
        exact I2
end
/-- a def's first lines as an exception's maker -/
structure IniD (K : PySem.W.Frag) (fI : Addr) (fs : List Str) : Prop where
  ty : PySem.W.typeIn K (.ref fI) = some (.type "function")
  ex : ∃ x qual params body scope dvs kws fd, FunD K x qual params body scope dvs kws fI fd ∧ FnScope ("self" :: fs) ("self" :: fs) scope ∧ (∀ f ∈ (("self" : Str) :: fs), scope.names.lookup f = some .local) ∧ IniB fs body ∧
    L2.Binds K fd (("self" : Str) :: fs) [] ∧ (∀ f ∈ fs, (f == ("__debug__" : Str)) = false) ∧ fs.length ≤ 700 ∧ fs ≠ []
section
variable {prog : Program} {w : World} {A : Around} {R : Result → Shared → Prop} {s : Shared} {K : PySem.W.Frag} {C fI : Addr} {fs : List Str}
open PySem.W
theorem ini_call {x t0 : Addr} {us : List Value} (I : IniD K fI fs) (T : OxC K C) (hno : ∀ f ∈ fs, findIn K (.ref C) f = some none) (X : K.In s.heap) (hlim : s.heap.NoLimit) (hx : s.heap.get? x = some (HandSPX.excO C t0)) (hnx : K.lookup x = none) (hroom : A.depth < recursionLimit) (hu : us.length = fs.length)
    (hq : ∀ h' tk dx, IniEnd s.heap h' x C dx t0 (fs.zip us).reverse → R (.ok (.ret .none)) { s with heap := h', toks := tk }) :
    codeAny (model prog w) A (.call (.ref fI) ⟨.ref x :: us, []⟩) R s := by
  obtain ⟨nm, qual, params, body, scope, dvs, kws, fd, Fd, Sc, hloc, hB, hb, hdb, hlen, hne⟩ := I.ex
  obtain ⟨oc, od, dV, kV, doc, pm, an, cdv, ct, osl, rfl, lk, hcd, _, _⟩ := Fd.ex
  have hbt := hb s (.ref x :: us) X (by simp [hu])
  rw [List.append_nil] at hbt
  refine Att.call_fn (binds := (("self" : Str) :: fs).zip (Value.ref x :: us)) X hlim lk hcd hroom hbt ?_ (fun s1 IC => ?_) Sc.co Sc.gen Sc.kind
  · rw [List.all_eq_true]
    intro y hy
    have hm := (List.of_mem_zip (a := y.1) (b := y.2) hy).1
    rw [hloc y.1 hm] <;> rfl
  · obtain ⟨h1, tk1, rfl⟩ := IC.toInCall.same
    obtain ⟨hp0, g, d, t, os⟩ := s
    have k : ∀ b o, hp0.get? b = some o → h1.get? b = some o := IC.toInCall.keep
    have hn : h1.Ns hp0.objs.size _ := IC.toInCall.ns
    have hxL : hp0.objs.size ≠ x := Nat.ne_of_gt (Heap.lt_size hx)
    have kn : ∀ f ∈ (("self" : Str) :: fs), (envOfC qual scope hp0.objs.size fI cdv).kindOf f = some .local := hloc
    have gl : ∀ (i : Nat) (f : Str) (u : Value), (("self" : Str) :: fs)[i]? = some f → (Value.ref x :: us)[i]? = some u → bindL (envOfC qual scope hp0.objs.size fI cdv).kindOf ((("self" : Str) :: fs).zip (Value.ref x :: us)) (fun _ => none) f = some u := fun i f u e1 e2 => bindL_get Sc.nd e1 e2 (kn f (List.mem_of_getElem? e1))
    have pr : Paired (InF (envOfC qual scope hp0.objs.size fI cdv) K C (bindL (envOfC qual scope hp0.objs.size fI cdv).kindOf ((("self" : Str) :: fs).zip (Value.ref x :: us)) (fun _ => none))) fs us := by
      have key : ∀ (gs : List Str) (vs : List Value), gs.length = vs.length → (∀ (i : Nat) (f : Str) (u : Value), gs[i]? = some f → vs[i]? = some u → InF (envOfC qual scope hp0.objs.size fI cdv) K C (bindL (envOfC qual scope hp0.objs.size fI cdv).kindOf ((("self" : Str) :: fs).zip (Value.ref x :: us)) (fun _ => none)) f u) → Paired (InF (envOfC qual scope hp0.objs.size fI cdv) K C (bindL (envOfC qual scope hp0.objs.size fI cdv).kindOf ((("self" : Str) :: fs).zip (Value.ref x :: us)) (fun _ => none))) gs vs := by
        intro gs
        induction gs with
        | nil => intro vs h _; cases vs with
          | nil => exact .nil
          | cons _ _ => cases h
        | cons f gs ih => intro vs h q; cases vs with
          | nil => cases h
          | cons u vs => exact .cons (q 0 f u rfl rfl) (ih vs (by simpa using h) fun i f u e1 e2 => q (i + 1) f u (by simpa using e1) (by simpa using e2))
      refine key fs us hu.symm fun i f u e1 e2 => ?_
      have hm := List.mem_of_getElem? e1
      exact ⟨gl (i + 1) f u (by simpa using e1) (by simpa using e2), kn f (List.mem_cons_of_mem _ hm), hno f hm, hdb f hm⟩
    cases hB with
    | nil => exact absurd rfl hne
    | @cons f fs sts q1 q2 q3 q4 hB hs =>
      cases pr with
      | cons r1 r2 =>
        rename_i u us'
        obtain ⟨m1, m2, m3, m4⟩ := r1
        refine wpAny_execs_cons (plainObj_wpAny_Assign_Attribute ?_ (hs _))
        refine wpAny_Name (wpAny_loadName_local Sc.kind m2 hn m1 ?_) m4
        refine wpAny_Name (wpAny_loadName_local Sc.kind (kn "self" List.mem_cons_self) hn (gl 0 _ _ rfl rfl) ?_)
        refine set_ox0 T (X.keeps k) (k _ _ hx) m3 fun h' tk' dx k3 dn dne hx3 hn3 => ?_
        have zs : hp0.objs.size < h1.objs.size := hn.lt
        have dbig : hp0.objs.size ≤ dx := Nat.le_of_lt (Nat.lt_of_lt_of_le zs dn)
        have kx : ∀ b o, K.lookup b = some o → h'.get? b = some o := fun b o e => k3 b o (fun z => by rw [z, hnx] at e; cases e) (k b o (X b o e))
        have kd : K.lookup dx = none := by
          cases e : K.lookup dx with
          | none => rfl
          | some o => exact absurd (Heap.lt_size (X _ _ e)) (Nat.not_lt.mpr dbig)
        refine ini_rest (h0 := hp0) (t1 := t0) T Sc.kind (kn "self" List.mem_cons_self) (gl 0 _ _ rfl rfl) hxL hB r2 (prev := [(f, u)]) kx (hn.at fun o e => k3 _ _ hxL e) (Nat.ne_of_lt (Nat.lt_of_lt_of_le zs dn)) dbig kd ⟨fun b o hb' e => k3 b o hb' (k b o e), hx3, dbig, dne, hn3⟩ (by simp at hlen ⊢; omega) fun h2 tk2 I2 => ?_
        refine hq h2 tk2 dx ?_
        have e : ((f :: fs).zip (u :: us')).reverse = (fs.zip us').reverse ++ [(f, u)] := by simp
        rw [e]
        exact I2
/-- such an exception, made -/
theorem ox_made {us : List Value} (I : IniD K fI fs) (T : OxC K C) (iC : findIn K (.ref C) "__init__" = some (some (.ref fI))) (hno : ∀ f ∈ fs, findIn K (.ref C) f = some none) (X : K.In s.heap) (hlim : s.heap.NoLimit) (hroom : A.depth + 1 < recursionLimit) (hu : us.length = fs.length)
    (hq : ∀ h' tk e dx t0, s.heap.objs.size ≤ e → s.heap.objs.size ≤ dx → IniEnd s.heap h' e C dx t0 (fs.zip us).reverse → R (.ok (.ret (.ref e))) { s with heap := h', toks := tk }) :
    codeAny (model prog w) A (.call (.ref C) ⟨us, []⟩) R s := by
  obtain ⟨B, n, i, b, FB, _, q, _⟩ := T.ini
  obtain ⟨nm, N', qn, bs, bm, hdct, sn, sub, ab, col, dd, k0, k1, k2, k3, k5, hC, hT⟩ := excInit_of X q
  obtain ⟨nm', qual, params, body, scope, dvs, kws, fd, Fd, _, _, _, _, _, hlen, _⟩ := I.ex
  obtain ⟨oc, od, dV, kV, doc, pm, an, cdv, ct, osl, rfl, lk, hcd, _, _⟩ := Fd.ex
  have tC : typeIn K (.ref fI) = some (.type "function") := I.ty
  obtain ⟨hp, g, dr, tk, os⟩ := s
  have k : ∀ b o, hp.get? b = some o → ((hp.push (kdv_tup us)).push (HandSPX.excO C hp.objs.size)).get? b = some o := fun b o e => Heap.get?_push_of_some _ (Heap.get?_push_of_some _ e)
  have hget : ((hp.push (kdv_tup us)).push (HandSPX.excO C hp.objs.size)).get? (hp.objs.size + 1) = some (HandSPX.excO C hp.objs.size) := by heap_get
  have hnx : K.lookup (hp.objs.size + 1) = none := by
    cases e : K.lookup (hp.objs.size + 1) with
    | none => rfl
    | some o =>
      have z : hp.get? (hp.objs.size + 1) = some o := X _ _ e
      exact absurd (Nat.lt_of_succ_lt (Heap.lt_size z)) (Nat.lt_irrefl _)
  refine HandSPX.call_own FB hT hC (looks_findIn X iC) (fun self => bind_fn X self tC) (by rw [hu, sizeLine_eq]; omega) ?_
  refine ini_call (s := ⟨(hp.push (kdv_tup us)).push (HandSPX.excO C hp.objs.size), g, dr, tk, os⟩) I T hno (X.keeps k) (hlim.keeps k) hget hnx ?_ hu fun h' tk' dx J => ?_
  · show A.depth + 1 < recursionLimit
    exact hroom
  · have old : ∀ b o, hp.get? b = some o → h'.get? b = some o := fun b o e => J.keep b o (Nat.ne_of_lt (Nat.lt_succ_of_lt (Heap.lt_size e))) (k b o e)
    have z : hp.objs.size + 1 + 1 ≤ dx := by
      have q := J.dbig
      simpa only [Heap.size_push] using q
    exact ⟨rfl, hq h' tk' (hp.objs.size + 1) dx _ (Nat.le_succ _) (Nat.le_trans (Nat.le_trans (Nat.le_succ _) (Nat.le_succ _)) z) ⟨fun b o _ e => old b o e, J.obj, Nat.le_trans (Nat.le_trans (Nat.le_succ _) (Nat.le_succ _)) z, J.dne, J.ns⟩⟩
end
theorem pr_app {α β : Type} {r : α → β → Prop} : ∀ {a a' : List α} {b b' : List β}, Paired r a b → Paired r a' b' → Paired r (a ++ a') (b ++ b')
  | _, _, _, _, .nil, h => h
  | _, _, _, _, .cons h1 h2, h => .cons h1 (pr_app h2 h)
theorem pr_rev {α β : Type} {r : α → β → Prop} : ∀ {a : List α} {b : List β}, Paired r a b → Paired r a.reverse b.reverse
  | _, _, .nil => .nil
  | _, _, .cons h1 h2 => by
    rw [List.reverse_cons, List.reverse_cons]
    exact pr_app (pr_rev h2) (.cons h1 .nil)
theorem pr_zip {α β : Type} {r : α → β → Prop} : ∀ {fs : List Str} {a : List α} {b : List β}, Paired r a b → Paired (fun p q => p.1 = q.1 ∧ r p.2 q.2) (fs.zip a) (fs.zip b)
  | [], _, _, _ => .nil
  | _ :: _, _, _, .nil => .nil
  | _ :: _, _, _, .cons h1 h2 => .cons ⟨rfl, h1⟩ (pr_zip h2)
theorem pr_look {f : Str} : ∀ {a : List (Str × V)} {b : List (Str × Value)}, Paired (fun p q => p.1 = q.1 ∧ RelV p.2 q.2) a b → RelO (a.lookup f) (b.lookup f)
  | _, _, .nil => True.intro
  | _, _, .cons (a := p) (b := q) h1 h2 => by
    obtain ⟨x, v⟩ := p
    obtain ⟨y, u⟩ := q
    obtain ⟨rfl, r⟩ := h1
    rw [look_cons, look_cons]
    by_cases e : f = x
    · rw [if_pos e, if_pos e]; exact r
    · rw [if_neg e, if_neg e]; exact pr_look h2
theorem dpAll_pr {K : PySem.W.Frag} {F : Hp} : ∀ {vs : List V} {ds : List D}, DpAll K F vs ds → Paired (fun v d => Dp K F v d) vs ds
  | _, _, .nil => .nil
  | _, _, .cons h1 h2 => .cons h1 (dpAll_pr h2)
/-- the class x makes exceptions with the fields fs -/
structure ExK (K : PySem.W.Frag) (x : Str) (fs : List Str) : Prop where
  ox : OxC K (He.ga K x)
  ini : IniD K (He.ma K (He.ga K x) "__init__") fs
  iC : PySem.W.findIn K (.ref (He.ga K x)) "__init__" = some (some (.ref (He.ma K (He.ga K x) "__init__")))
  hno : ∀ f ∈ fs, PySem.W.findIn K (.ref (He.ga K x)) f = some none
section
variable {X : Cx} {W : WX} {x : Str} {fs : List Str} {e : Expr} {es : List Expr} {pos pos2 p : Pos} {ma : M (List Val)}
/-- x(e, ..), made -/
def tMkX (K : PySem.W.Frag) (x : Str) (fs : List Str) (ta : TA) : St → Hp → XK → Prop := fun σ H Q => ta σ H fun vs H1 => vs.length = fs.length ∧ ∀ d, H1 d = none → Q (.ref (He.ga K x)) (some d) (upd H1 d (.xd (fs.zip vs).reverse))
theorem pmk_x {ta : TA} {k : Nat} (T : ExK X.K x fs) (hr : Room k X.A) (hk : 1 ≤ k) (gC : X.mg x = some (.ref (He.ga X.K x))) (ha : PA X (e :: es) ta) (hg : Gl X x) (hdb : (x == ("__debug__" : Str)) = false := by decide)
    (he : starEach (e :: es) X.env = (false, eval e X.env) :: starEach es X.env := by rfl) (hpl : (backTo pos (starEach es X.env)).any (·.1) = false := by rfl) : PMk X (.Call (.Name x p) (e :: es) [] pos) (tMkX X.K x fs ta) := by
  intro pins s σ H Q I h
  refine wpAny_Call_Name_kw (ld_glob I hg gC ?_ hdb)
  refine PySem.W.callWith_K (h₀ := X.base) I.ok.mod.kin T.ox.kC (thn (ha.run pos pins s σ H _ I h) fun us s1 ⟨vs, H1, I1, r1, hl, q1⟩ => ⟨I1.kIn, ?_⟩) he hpl
  have hlim := I1.nolimit
  have hlu : us.length = fs.length := r1.length.symm.trans hl
  obtain ⟨hp, g, dr, tk, os⟩ := s1
  refine wpAny_call (ox_made T.ini T.ox T.iC T.hno I1.kIn hlim (by have := hr.dp; omega) hlu fun h' tk' e d t0 en dn M => ?_)
  show MkP X pins σ Q (.ref e) ⟨h', g, dr, tk', os⟩
  obtain ⟨G, g1, g2⟩ := restrict h' fun b => decide (b ≠ e)
  have gk : ∀ b, b ≠ e → G.get? b = h'.get? b := fun b hb => g1 b (decide_eq_true hb)
  have ge : G.get? e = none := g2 e (by simp)
  have old : ∀ b o, hp.get? b = some o → G.get? b = some o := fun b o q => by
    have ne : b ≠ e := Nat.ne_of_lt (Nat.lt_of_lt_of_le (Heap.lt_size q) en)
    exact (gk b ne).trans (M.keep b o ne q)
  have ob : ObjOk X.prog X.w (upd H1 d (.xd (fs.zip vs).reverse)) G d (.xd (fs.zip vs).reverse) :=
    ⟨_, M.ns.at (fun o q => (gk d M.dne).trans q), fun f => pr_look (pr_rev (pr_zip r1))⟩
  have J : Inv X pins σ (upd H1 d (.xd (fs.zip vs).reverse)) ⟨G, g, dr, tk', os⟩ := I1.laid (t' := tk') old dn ob
  refine ⟨e, _, _, ⟨G, g, dr, tk', os⟩, _, .ref (He.ga X.K x), some d, rfl, J, fun b o q => ?_, ge, M.obj, ⟨rfl, rfl⟩, rfl, rfl, ?_, rfl, I1.bare, raises_own T.ox.exC T.ox.tyC, q1 d (I1.hok.fresh dn)⟩
  · by_cases hb : b = e
    · have q' : G.get? b = some o := q
      rw [hb, ge] at q'; cases q'
    · exact (gk b hb).symm.trans q
  · rw [upd_ne (Ne.symm M.dne)]
    exact I1.hok.fresh en
def sRaise (x : Str) (fs : List Str) (ma : M (List Val)) : MStm := thenS ma fun vs ρ S => match datas vs with
  | some ds => if ds.length = fs.length then .exc x (fs.zip ds).reverse ρ S else .bad
  | none => .bad
/-- raise x(e, ..) -/
theorem ms_raise {k : Nat} (T : ExK X.K x fs) (hc : X.calm = true) (tk : Takes X W) (hr : Room k X.A) (hk : 1 ≤ k) (gC : X.mg x = some (.ref (He.ga X.K x))) (ha : MA X W (e :: es) ma) (hg : Gl X x) (hdb : (x == ("__debug__" : Str)) = false := by decide)
    (he : starEach (e :: es) X.env = (false, eval e X.env) :: starEach es X.env := by rfl) (hpl : (backTo pos (starEach es X.env)).any (·.1) = false := by rfl) : MS X W (.Raise (some (.Call (.Name x p) (e :: es) [] pos)) none pos2) (sRaise x fs ma) := by
  refine PS.weak (ps_raise hc tk (pmk_x T hr hk gC ha hg hdb he hpl)) fun pins σ H s E I q => ?_
  obtain ⟨F, A, ρ, S, as, q⟩ := q
  refine ⟨F, A, ρ, S, as, q.thenS Ev.refl fun a ρ1 S1 F1 A1 vs H1 _ _ ev as1 r1 q1 => ?_⟩
  cases e2 : datas a with
  | none => rw [e2] at q1; exact q1.elim
  | some ds =>
    rw [e2] at q1
    dsimp only at q1
    by_cases hl : ds.length = fs.length
    · rw [if_pos hl] at q1
      have hd := datas_rep r1 e2
      refine ⟨(DpAll.len hd).trans hl, fun d hd0 => ?_⟩
      have n := New.one (o := .xd (fs.zip vs).reverse) as1.sub hd0
      refine q1 (upd F1 d (.xd (fs.zip vs).reverse)) A1 σ _ (some d) _ (ev.trans n.ev) (as1.new n) ⟨rfl, .inr ⟨d, _, rfl, upd_same, ?_⟩⟩
      exact pr_rev (pr_zip (dpAll_pr (DpAll.up n.ff _ _ hd)))
    · rw [if_neg hl] at q1
      exact q1.elim
end
end ME
end

section
set_option maxHeartbeats 4000000
namespace ME
open PySem PySem.Spec L2
open PyProof.Rows hiding St

/-! ### try -/
section
variable {K : PySem.W.Frag} {F F0 : Hp} {A A0 : List Addr} {ρ ρ0 : Rho} {S : T} {σ σ0 σ2 : St} {H H0 : Hp} {i : Nat} {s : Sl}
theorem own_put (hs : ∀ l, s ≠ .own l) (hσ : ∀ j, j ≠ i → σ2[j]? = σ[j]?) {a : Addr} (h : OwnA (ρ.set i s) σ2 a) : OwnA ρ σ a := by
  obtain ⟨j, l, e1, e2⟩ := h
  rcases getSet e1 with ⟨rfl, e⟩ | ⟨n, e⟩
  · exact absurd e (hs l)
  · exact ⟨j, l, e, by rw [← hσ j (Ne.symm n)]; exact e2⟩
theorem put_sl (hs : ∀ l, s ≠ .own l) (ev : Ev F0 A0 ρ0 σ0 H0 F A ρ σ H) (as : ASF K F A ρ S σ H) (hσ : ∀ j, j ≠ i → σ2[j]? = σ[j]?) (hr : SlRep K F A H σ2[i]? s) : Ev F0 A0 ρ0 σ0 H0 F A (ρ.set i s) σ2 H ∧ ASF K F A (ρ.set i s) S σ2 H := by
  refine ⟨⟨ev.ff, ev.fn, ev.aa, ev.fr, ev.lv, fun a h => ev.ow a (own_put hs hσ h)⟩, ⟨as.sub, as.aw, as.nd, as.st, fun j s' e => ?_, fun j k l l' e1 e2 e3 => ?_⟩⟩
  · rcases getSet e with ⟨rfl, e'⟩ | ⟨n, e'⟩
    · subst e'; exact hr
    · rw [hσ j (Ne.symm n)]
      exact as.sl j s' e'
  · rcases getSet e1 with ⟨rfl, f1⟩ | ⟨n1, f1⟩
    · exact absurd f1 (hs l)
    · rcases getSet e2 with ⟨rfl, f2⟩ | ⟨n2, f2⟩
      · exact absurd f2 (hs l')
      · rw [hσ j (Ne.symm n1), hσ k (Ne.symm n2)] at e3
        exact as.ow j k l l' f1 f2 e3
theorem VRep.put (hs : ∀ l, s ≠ .own l) {Hs : Hp} {x : V} {v : Val} (hv : ∀ j, v ≠ .own j) (hσ : ∀ j, j ≠ i → σ2[j]? = σ[j]?) (h : VRep K Hs F A ρ σ H x v) : VRep K Hs F A (ρ.set i s) σ2 H x v := by
  cases v with
  | d y => exact h
  | w k => exact h
  | own j => exact absurd rfl (hv j)
  | fl l =>
    obtain ⟨p, vs, h1, h0, h2, h3, h4, h5, h6⟩ := h
    exact ⟨p, vs, h1, h0, h2, h3, h4, fun z => h5 (own_put hs hσ z), h6⟩
end
/-- behind the suite: the exception's name is gone -/
def unE (i : Nat) : SR → SR
  | .nx ρ S => .nx (ρ.set i .un) S
  | .bk ρ S => .bk (ρ.set i .un) S
  | .ct ρ S => .ct (ρ.set i .un) S
  | .rt (.own _) _ _ => .bad
  | .rt v ρ S => .rt v (ρ.set i .un) S
  | _ => .bad
/-- the same, wherever the exception stands -/
noncomputable def allAD (f : Addr → Option Addr → SR) : SR := @ite _ (∀ a d, f a d = f 0 none) (Classical.propDecidable _) (f 0 none) .bad
theorem allAD_eq {f : Addr → Option Addr → SR} {r : SR} (h : ∀ a d, f a d = r) : allAD f = r := by
  unfold allAD
  rw [if_pos (fun a d => (h a d).trans (h 0 none).symm)]
  exact h 0 none
/-- try: mb / except C as e: ms: t tells of each class whether C takes it -/
noncomputable def sTry (mb : MStm) (t : List (Str × Bool)) (i : Nat) (ms : Str → List (Str × D) → Addr → Option Addr → MStm) : MStm := fun ρ S => match mb ρ S with
  | .exc c p ρ1 S1 => (match t.lookup c with
    | none => .bad
    | some false => .exc c p ρ1 S1
    | some true => allAD fun a d => unE i (ms c p a d (ρ1.set i (.exc a d p)) S1))
  | r => r
def wNo : WX := fun _ _ _ _ => False
theorem PostS.un {K : PySem.W.Frag} {W : WX} {i : Nat} {r : SR} {F : Hp} {A : List Addr} {ρ : Rho} {σ : St} {H : Hp} {E : Ends} (q : PostS K W (unE i r) F A ρ σ H E) : PostS K wNo r F A ρ σ H { nx := fun σ' H' => E.nx (σ'.set i none) H', rt := E.rt, bk := fun σ' H' => E.bk (σ'.set i none) H', ct := fun σ' H' => E.ct (σ'.set i none) H' } := by
  have no : ∀ l, Sl.un ≠ .own l := fun _ h => nomatch h
  have hσ : ∀ (σ' : St) (j : Nat), j ≠ i → (σ'.set i none)[j]? = σ'[j]? := fun σ' j h => List.getElem?_set_ne (Ne.symm h)
  cases r with
  | nx ρ' S' =>
    intro F' A' σ' H' ev as
    obtain ⟨ev', as'⟩ := put_sl (s := .un) no ev as (hσ σ') trivial
    exact q F' A' _ H' ev' as'
  | bk ρ' S' =>
    intro F' A' σ' H' ev as
    obtain ⟨ev', as'⟩ := put_sl (s := .un) no ev as (hσ σ') trivial
    exact q F' A' _ H' ev' as'
  | ct ρ' S' =>
    intro F' A' σ' H' ev as
    obtain ⟨ev', as'⟩ := put_sl (s := .un) no ev as (hσ σ') trivial
    exact q F' A' _ H' ev' as'
  | rt v ρ' S' =>
    intro F' A' σ' x H' ev as rv
    obtain ⟨ev', as'⟩ := put_sl (i := i) (s := .un) no ev as (fun _ _ => rfl) trivial
    cases v with
    | own j => exact q.elim
    | d y => exact q F' A' _ x H' ev' as' (rv.put no (fun _ h => nomatch h) fun _ _ => rfl)
    | w k => exact q F' A' _ x H' ev' as' (rv.put no (fun _ h => nomatch h) fun _ _ => rfl)
    | fl l => exact q F' A' _ x H' ev' as' (rv.put no (fun _ h => nomatch h) fun _ _ => rfl)
  | exc c p ρ' S' => exact q.elim
  | bad => exact q.elim
section
variable {X : Cx} {W : WX} {x n : Str} {cv : Value} {i : Nat} {body suite : List Stmt} {b₀ : Stmt} {np pos pos' : Pos} {mb : MStm} {t : List (Str × Bool)} {ms : Str → List (Str × D) → Addr → Option Addr → MStm}
/-- the exception that a suite holds: at a, of the class c, its dict d -/
structure Held (K : PySem.W.Frag) (c : Str) (d : Option Addr) (oe : Obj) : Prop where
  z : Zc (.ref (He.ga K c)) d oe
  f : ∃ vs, oe.data = .fields vs
def tSuite (K : PySem.W.Frag) (t : List (Str × Bool)) (ms : Str → List (Str × D) → Addr → Option Addr → MStm) (a : Addr) (cls : Value) (d : Option Addr) : TS := fun E σ H => ∃ c p, cls = .ref (He.ga K c) ∧ t.lookup c = some true ∧ tS K wNo (ms c p a d) E σ H
theorem ms_try (hs : X.stack = X.env :: X.outer) (hf : X.env.frame = some X.env.locals) (hN : X.N.Nodup) (hi : X.N[i]? = some n) (hln : X.env.kindOf n = some .local) (hc : Names X x cv) (tk : Takes X W)
    (ht : ∀ c b, t.lookup c = some b → PySem.W.exmOne X.K (.ref (He.ga X.K c)) cv = some b)
    (hb : ∀ (W : WX) (pn : List (Addr × Obj)) (xe : Value → Shared → Prop), Takes (X.tr pn xe) W → PassesOwn (model X.prog X.w) X.A X.env xe → MSs (X.tr pn xe) W body mb)
    (hsu : ∀ (a : Addr) (oe : Obj) (c : Str) (p : List (Str × D)) (d : Option Addr) (pn : List (Addr × Obj)), Held X.K c d oe → t.lookup c = some true → MSs (X.suite a ((a, oe) :: pn)) wNo (b₀ :: suite) (ms c p a d)) :
    MS X W (.Try body [.ExceptHandler (some (.Name x np)) (some n) (b₀ :: suite) pos'] [] [] pos) (sTry mb t i ms) := by
  refine PS.weak (ps_try_as (tb := fun W => tS X.K W mb) (ts := tSuite X.K t ms) (Wout := W) hs hf hN hi hln hc tk hb ?_) fun pins σ H s E I q => ?_
  · intro a oe cls d pn hz hff
    refine ⟨fun pins s σ H E I q => ?_⟩
    obtain ⟨c, p, ec, e, q⟩ := q
    subst ec
    exact (hsu a oe c p d pn ⟨hz, hff⟩ e).run pins s σ H E I q
  · obtain ⟨F, A, ρ, S, as, q⟩ := q
    refine ⟨F, A, ρ, S, as, ?_⟩
    unfold sTry at q
    cases e : mb ρ S with
    | nx ρ' S' => rw [e] at q; exact q
    | bk ρ' S' => rw [e] at q; exact q
    | ct ρ' S' => rw [e] at q; exact q
    | rt v ρ' S' => rw [e] at q; exact q
    | bad => rw [e] at q; exact q
    | exc c p ρ1 S1 =>
      rw [e] at q
      dsimp only at q
      intro F' A' σ' cls d H' ev as' r
      obtain ⟨rfl, rx⟩ := r
      cases e2 : t.lookup c with
      | none => rw [e2] at q; exact q.elim
      | some b =>
        rw [e2] at q
        refine ⟨b, ht c b e2, fun hb' a ha => ?_, fun hb' => ?_⟩
        · subst hb'
          refine ⟨c, p, rfl, e2, ?_⟩
          have hli : i < X.N.length := (List.getElem?_eq_some_iff.mp hi).1
          dsimp only at q
          unfold allAD at q
          dsimp only at q
          by_cases al : ∀ a d, unE i (ms c p a d (ρ1.set i (.exc a d p)) S1) = unE i (ms c p 0 none (ρ1.set i (.exc 0 none p)) S1)
          · rw [if_pos al, ← al a d] at q
            have hr : (σ'.set i (some (.ref a)))[i]? = none ∨ (σ'.set i (some (V.ref a)))[i]? = some (some (.ref a)) := by
              by_cases hl : i < σ'.length
              · exact .inr (List.getElem?_set_self hl)
              · exact .inl (List.getElem?_eq_none (by simpa using hl))
            obtain ⟨ev2, as2⟩ := put_sl (i := i) (s := .exc a d p) (σ2 := σ'.set i (some (.ref a))) (fun _ h => nomatch h) ev as' (fun j hj => List.getElem?_set_ne (Ne.symm hj)) ⟨hr, rx⟩
            exact ⟨F', A', _, S1, as2, (q.un).re ev2⟩
          · rw [if_neg al] at q
            exact q.elim
        · subst hb'
          exact q F' A' σ' _ d H' ev as' ⟨rfl, rx⟩
end
/-! what a suite asks of its exception -/
def exAt (ρ : Rho) (i : Nat) (a : Addr) (d : Option Addr) : Option (List (Str × D)) := match ρ[i]? with
  | some (.exc a' d' p) => if a' = a ∧ d' = d then some p else none
  | _ => none
/-- e.f -/
def mExF (i : Nat) (a : Addr) (d : Option Addr) (f : Str) : M Val := fun ρ S => match exAt ρ i a d with
  | some p => (match p.lookup f with
    | some x => .ok (.d x) ρ S
    | none => .bad)
  | none => .bad
/-- isinstance(e, C): b -/
def mExI (i : Nat) (a : Addr) (d : Option Addr) (b : Option Bool) : M Val := fun ρ S => match exAt ρ i a d, b with
  | some _, some b => .ok (.d (.bool b)) ρ S
  | _, _ => .bad
theorem ex_at {ρ : Rho} {i : Nat} {a : Addr} {d : Option Addr} {p : List (Str × D)} (h : exAt ρ i a d = some p) : ρ[i]? = some (.exc a d p) := by
  unfold exAt at h
  split at h
  · rename_i a' d' p' e
    split at h
    · rename_i c
      obtain ⟨rfl, rfl⟩ := c
      cases h
      exact e
    · cases h
  · cases h
theorem pr_look' {K : PySem.W.Frag} {F : Hp} {f : Str} {x : D} : ∀ {a : List (Str × V)} {b : List (Str × D)}, Paired (fun q r => q.1 = r.1 ∧ Dp K F q.2 r.2) a b → b.lookup f = some x → ∃ v, a.lookup f = some v ∧ Dp K F v x
  | _, _, .nil, h => nomatch h
  | _, _, .cons (a := p) (b := q) h1 h2, h => by
    obtain ⟨y, v⟩ := p
    obtain ⟨z, u⟩ := q
    obtain ⟨rfl, r⟩ := h1
    rw [look_cons] at h ⊢
    by_cases e : f = y
    · rw [if_pos e] at h ⊢
      cases h
      exact ⟨v, rfl, r⟩
    · rw [if_neg e] at h ⊢
      exact pr_look' h2 h
section
variable {X : Cx} {W : WX} {a : Addr} {oe : Obj} {c n f : Str} {d : Option Addr} {pn : List (Addr × Obj)} {i : Nat} {np pos : Pos}
theorem me_exf (T : OxC X.K (He.ga X.K c)) (hno : PySem.W.findIn X.K (.ref (He.ga X.K c)) f = some none) (hd : Held X.K c d oe) (hi : X.N[i]? = some n) (hv : PE (X.suite a ((a, oe) :: pn)) (.Name n np) (tVar i))
    (hb : attributeBase (.Name n np) f X.env (eval (.Name n np) X.env) = eval (.Name n np) X.env := by rfl) : ME (X.suite a ((a, oe) :: pn)) W (.Attribute (.Name n np) f pos) (mExF i a d f) := by
  have hil : i < X.N.length := (List.getElem?_eq_some_iff.mp hi).1
  refine PE.weak (pe_xf ⟨T.ga, T.gg, T.exC, T.hd⟩ hno hd.z hd.f hv hb) fun pins σ H s Q I q => ?_
  obtain ⟨F, A, ρ, S, as, q⟩ := q
  unfold mExF at q
  cases e : exAt ρ i a d with
  | none => rw [e] at q; exact q.elim
  | some p =>
    rw [e] at q
    dsimp only at q
    cases e2 : p.lookup f with
    | none => rw [e2] at q; exact q.elim
    | some x =>
      rw [e2] at q
      obtain ⟨h1, h2⟩ := as.sl i _ (ex_at e)
      have hl : i < σ.length := by rw [I.len]; exact hil
      have h1 : σ[i]? = some (some (.ref a)) := by
        rcases h1 with z | z
        · rw [List.getElem?_eq_getElem hl] at z; cases z
        · exact z
      rcases h2 with ⟨_, rfl⟩ | ⟨dd, vs, rfl, hF, hp⟩
      · cases e2
      · obtain ⟨v, hv1, hv2⟩ := pr_look' hp e2
        exact ⟨_, h1, rfl, rfl, dd, vs, v, rfl, as.sub _ _ hF, hv1, q.now Ev.refl as hv2⟩
/-- isinstance(e, c'), e the exception that the suite holds -/
def rIsX (K : PySem.W.Frag) (D a : Addr) (d : Option Addr) : List V → Hp → VK → Prop := fun xs H Q => ∃ (c : V) (cv : Value) (b : Bool), xs = [.ref a, c] ∧ (∀ u, RelV c u → u = cv) ∧ PySem.W.kitOne K (.ref D) cv = some b ∧ (d = none ∨ ∃ dd vs, d = some dd ∧ H dd = some (.xd vs)) ∧ Q (.bl b) H
theorem call_isX {D : Addr} (C : OxC X.K D) (hz : Zc (.ref D) d oe) (hf : ∃ vs, oe.data = .fields vs) : CallR (X.suite a ((a, oe) :: pn)) (.builtin "isinstance") (rIsX X.K D a d) := by
  intro pins s σ H xs us Q I r h
  obtain ⟨c, cv, b, rfl, hcv, e, hd, q⟩ := h
  cases r with
  | cons rx rr =>
    cases rr with
    | cons rt rr =>
      cases rr
      cases rx
      have ec := hcv _ rt
      subst ec
      obtain ⟨hget, _⟩ := I.pin (a, oe) (List.mem_append.mpr (.inl List.mem_cons_self))
      obtain ⟨vs, hv⟩ := hf
      have J : ∃ od, PySem.W.InstAt s.heap a oe D od := by
        obtain ⟨oc, od, oda, osl⟩ := oe
        obtain ⟨h1, h2⟩ := hz
        dsimp only at h1 h2 hv
        subst h1 h2 hv
        rcases hd with rfl | ⟨dd, ws, rfl, hH⟩
        · exact ⟨none, hget, rfl, rfl, trivial⟩
        · have hx : ObjOk X.prog X.w H s.heap dd (.xd ws) := I.hok dd _ hH
          obtain ⟨mA, ⟨o2, _, _, ho2, _⟩, _⟩ := hx
          exact ⟨some o2, hget, rfl, rfl, ho2⟩
      obtain ⟨od, J⟩ := J
      have hcl : (PySem.W.clsIn X.K D).isSome = true := by
        obtain ⟨cd, hc, _⟩ := PySem.W.any_some C.hd
        rw [hc] <;> rfl
      exact PySem.W.kia_one (PySem.W.kitx_exc hcl C.ga C.gg C.exC C.ca C.cn C.ct C.cm) I.kIn J e (fun z => nomatch z) fun tk => ⟨.bl b, H, I.kept (t' := tk) fun _ _ z => z, rfl, q⟩
theorem me_exi {e0 eT : Expr} {C : Addr} {b : Option Bool} (hd : Held X.K c d oe) (hi : X.N[i]? = some n) (hk : ∀ b', b = some b' → PySem.W.kitOne X.K (.ref (He.ga X.K c)) (.ref C) = some b')
    (h : ∀ {t : TA}, PA (X.suite a ((a, oe) :: pn)) [.Name n np, eT] t → PE (X.suite a ((a, oe) :: pn)) e0 (tCB (rIsX X.K (He.ga X.K c) a d) t)) (hv : PE (X.suite a ((a, oe) :: pn)) (.Name n np) (tVar i)) (hT : PE (X.suite a ((a, oe) :: pn)) eT (tC (.ref C)))
    (hs : starEach [.Name n np, eT] X.env = (false, eval (.Name n np) X.env) :: starEach [eT] X.env := by rfl) (hs2 : starEach [eT] X.env = (false, eval eT X.env) :: starEach [] X.env := by rfl) : ME (X.suite a ((a, oe) :: pn)) W e0 (mExI i a d b) := by
  have hil : i < X.N.length := (List.getElem?_eq_some_iff.mp hi).1
  refine PE.weak (h (pa_cons hv (pa_cons hT pa_nil hs2) hs)) fun pins σ H s Q I q => ?_
  obtain ⟨F, A, ρ, S, as, q⟩ := q
  unfold mExI at q
  cases e : exAt ρ i a d with
  | none => rw [e] at q; exact q.elim
  | some p =>
    rw [e] at q
    cases b with
    | none => exact q.elim
    | some b =>
      obtain ⟨h1, h2⟩ := as.sl i _ (ex_at e)
      have hl : i < σ.length := by rw [I.len]; exact hil
      have h1 : σ[i]? = some (some (.ref a)) := by
        rcases h1 with z | z
        · rw [List.getElem?_eq_getElem hl] at z; cases z
        · exact z
      refine ⟨_, h1, .ref C, .ref C, b, rfl, fun u r => r, hk b rfl, ?_, q.now Ev.refl as (Dp.bl b)⟩
      rcases h2 with ⟨rfl, _⟩ | ⟨dd, vs, rfl, hF, _⟩
      · exact .inl rfl
      · exact .inr ⟨dd, vs, rfl, as.sub _ _ hF⟩
end
end ME
end

section
set_option maxHeartbeats 4000000
namespace ME
open PySem PySem.Spec L2
open PyProof.Rows hiding St

/-! ### texts -/
/-- a text's signs -/
def chD (z : Str) : List D := z.cps.toList.map fun c => .str ⟨#[c]⟩
section
variable {K : PySem.W.Frag} {F : Hp}
theorem yld_str {z : Str} : Yld K F (Its z) (chD z) := fun F' H f g i => by
  have l : (chD z).length = z.cps.size := by unfold chD; rw [List.length_map, Array.length_toList]
  rw [l]
  refine ⟨fun hi => ⟨hi, fun x H' hy => ?_⟩, fun hi => hi⟩
  obtain ⟨rfl, c, hc, rfl⟩ := hy
  refine ⟨F', New.refl g, .str ⟨#[c]⟩, ?_, .str _⟩
  unfold chD
  rw [List.getElem?_map, Array.getElem?_toList, hc] <;> rfl
end
def itS (v : Val) : M (List D) := fun ρ S => match v with
  | .d (.str z) => .ok (chD z) ρ S
  | _ => .bad
def iS (m : M Val) : M (List D) := bind (bind m fz) itS
section
variable {X : Cx} {W : WX} {tg e e1 e2 e3 : Expr} {es : List Expr} {pos : Pos} {ma mb mc : M Val} {ml : M (List Val)}
theorem mi_str (h : ME X W e ma) : MI X W tg e (iS ma) := by
  refine PI.weak (pi_str (me_fz h)) fun pins σ H s R I q => ?_
  obtain ⟨F, A, ρ, S, as, q⟩ := q
  refine ⟨F, A, ρ, S, as, q.bind Ev.refl fun a ρ1 S1 F1 A1 x H1 _ _ ev as1 r1 q1 => ?_⟩
  cases a with
  | own j => exact q1.elim
  | w k => exact q1.elim
  | fl l => exact q1.elim
  | d y =>
    cases y with
    | str z =>
      have r1 : Dp X.K F1 x (.str z) := r1
      cases r1
      exact ⟨z, rfl, Post.now (rel := rIt X.K) q1 ev as1 yld_str⟩
    | _ => exact q1.elim
/-! o.m(), o.m(e) of a text -/
def St0D (r : V → List V → Hp → VK → Prop) (K : PySem.W.Frag) (g : Str → Option Ro) : Prop := ∀ F H z o Q, (∀ a o, F a = some o → H a = some o) → Sized K H → g z = some o → (∀ F1 H1 v, RoR K F H F1 H1 v o → Q v H1) → r (.str z) [] H Q
def St1D (r : V → List V → Hp → VK → Prop) (K : PySem.W.Frag) (g : Str → D → Option Ro) : Prop := ∀ F H z y b o Q, (∀ a o, F a = some o → H a = some o) → Sized K H → DrR K F H y b → g z b = some o → (∀ F1 H1 v, RoR K F H F1 H1 v o → Q v H1) → r (.str z) [y] H Q
def asStr : Val → Option Str
  | .d (.str z) => some z
  | _ => none
theorem asStr_ok {v : Val} {z : Str} (h : asStr v = some z) : v = .d (.str z) := by
  unfold asStr at h
  split at h
  · cases h; rfl
  · cases h
def mS0 (g : Str → Option Ro) (ma : M Val) : M Val := bind ma fun a => match asStr a with
  | some z => roM (g z)
  | none => bad
def mS1 (g : Str → D → Option Ro) (ma mb : M Val) : M Val := bind ma fun a => match asStr a with
  | some z => bind mb fun b ρ S => (match dr ρ b with
    | some y => roM (g z y) ρ S
    | none => .bad)
  | none => bad
theorem me_s0 {r : V → List V → Hp → VK → Prop} {g : Str → Option Ro} (h : ∀ {to : TE}, PE X e1 to → PE X e (tM0 r to)) (hg : St0D r X.K g) (ha : ME X W e1 ma) : ME X W e (mS0 g ma) := by
  refine PE.weak (h (PE.sized ha)) fun pins σ H s Q I q => ?_
  obtain ⟨F, A, ρ, S, as, q⟩ := q
  refine ⟨F, A, ρ, S, as, q.bind Ev.refl fun a ρ1 S1 F1 A1 x H1 _ _ ev as1 r1 q1 sz => ?_⟩
  cases ea : asStr a with
  | none => rw [ea] at q1; exact q1.elim
  | some z =>
    rw [ea] at q1
    have e2 := asStr_ok ea
    subst e2
    have r1 : Dp X.K F1 x (.str z) := r1
    cases r1
    refine ⟨⟨z, rfl⟩, ?_⟩
    dsimp only at q1
    unfold roM at q1
    cases eo : g z with
    | none => rw [eo] at q1; exact q1.elim
    | some o =>
      rw [eo] at q1
      exact hg F1 H1 z o Q as1.sub sz eo fun F3 H3 v h3 => h3.fin q1 ev as1
theorem me_s1 {r : V → List V → Hp → VK → Prop} {g : Str → D → Option Ro} (h : ∀ {to te : TE}, PE X e1 to → PE X e2 te → PE X e (tM1 r to te)) (hg : St1D r X.K g) (ha : ME X W e1 ma) (hb : ME X W e2 mb) : ME X W e (mS1 g ma mb) := by
  refine PE.weak (h ha (PE.sized hb)) fun pins σ H s Q I q => ?_
  obtain ⟨F, A, ρ, S, as, q⟩ := q
  refine ⟨F, A, ρ, S, as, q.bind Ev.refl fun a ρ1 S1 F1 A1 x H1 _ _ ev as1 r1 q1 => ?_⟩
  cases ea : asStr a with
  | none => rw [ea] at q1; exact q1.elim
  | some z =>
    rw [ea] at q1
    have e2 := asStr_ok ea
    subst e2
    have r1 : Dp X.K F1 x (.str z) := r1
    cases r1
    refine ⟨⟨z, rfl⟩, ?_⟩
    refine ⟨F1, A1, ρ1, S1, as1, q1.bind ev fun b ρ2 S2 F2 A2 y H2 _ ev2 ev02 as2 r2 q2 sz => ?_⟩
    cases d2 : dr ρ2 b with
    | none => rw [d2] at q2; exact q2.elim
    | some v =>
      rw [d2] at q2
      dsimp only at q2
      unfold roM at q2
      cases eo : g z v with
      | none => rw [eo] at q2; exact q2.elim
      | some o =>
        rw [eo] at q2
        exact hg F2 H2 z y v o Q as2.sub sz (dr_rep as2 r2 d2) eo fun F3 H3 v h3 => h3.fin q2 ev02 as2
end
def strsD (l : List Str) : List D := l.map .str
def asStrs : List D → Option (List Str)
  | [] => some []
  | .str z :: l => (asStrs l).map (z :: ·)
  | _ :: _ => none
theorem asStrs_ok : ∀ {l : List D} {ys : List Str}, asStrs l = some ys → l = strsD ys
  | [], _, h => by cases h; rfl
  | .str z :: l, ys, h => by
    unfold asStrs at h
    cases e : asStrs l with
    | none => rw [e] at h; cases h
    | some zs =>
      rw [e] at h
      cases h
      rw [asStrs_ok e] <;> rfl
  | .none :: _, _, h => nomatch h
  | .bool _ :: _, _, h => nomatch h
  | .int _ :: _, _, h => nomatch h
  | .list _ :: _, _, h => nomatch h
  | .tuple _ :: _, _, h => nomatch h
  | .dict _ :: _, _, h => nomatch h
theorem asStrs_of : ∀ ys : List Str, asStrs (strsD ys) = some ys
  | [] => rfl
  | y :: ys => by
    show (asStrs (strsD ys)).map (y :: ·) = some (y :: ys)
    rw [asStrs_of ys] <;> rfl
section
variable {K : PySem.W.Frag} {F H : Hp}
theorem dp_strs : ∀ {ys : List Str} {vs : List V}, DpAll K F vs (strsD ys) → vs = ys.map V.str
  | [], _, h => by cases h; rfl
  | y :: ys, _, h => by
    cases h with
    | cons h1 h2 =>
      cases h1
      rw [dp_strs h2] <;> rfl
theorem strs_dp : ∀ ys : List Str, DpAll K F (ys.map V.str) (strsD ys)
  | [] => .nil
  | y :: ys => .cons (.str y) (strs_dp ys)
theorem ro_strs (s : ∀ a o, F a = some o → H a = some o) {ys : List Str} {Q : VK} (q : ∀ F1 H1 v, RoR K F H F1 H1 v (.fl (strsD ys)) → Q v H1) : rNewStrs ys H Q := fun p n =>
  have hF : F p = none := by
    cases e : F p with
    | none => rfl
    | some o => rw [s _ _ e] at n; cases n
  q F _ _ ⟨New.own s n, p, _, rfl, n, upd_same, hF, strs_dp ys⟩
def gSplit (z : Str) (y : D) : Option Ro := match y with
  | .str b => if (b.length == 0) = false ∧ z.length + 2 ≤ sizeLine then some (.fl (strsD (Txt.split z b))) else none
  | _ => none
theorem sd_split : St1D (fun x xs H Q => ∃ a b, x = .str a ∧ xs = [.str b] ∧ (b.length == 0) = false ∧ a.length + 2 ≤ sizeLine ∧ rNewStrs (Txt.split a b) H Q) K gSplit := fun F H z y b o Q s sz hy g q => by
  unfold gSplit at g
  split at g
  · rename_i b
    split at g
    · rename_i c
      cases g
      have h1 := hy.now s
      cases h1
      exact ⟨z, b, rfl, rfl, c.1, c.2, ro_strs s q⟩
    · cases g
  · cases g
def gWords (z : Str) : Option Ro := if z.length + 2 ≤ sizeLine then some (.fl (strsD (Txt.words z))) else none
theorem sd_words : St0D (fun x xs H Q => ∃ a, x = .str a ∧ xs = [] ∧ a.length + 2 ≤ sizeLine ∧ rNewStrs (Txt.words a) H Q) K gWords := fun F H z o Q s sz g q => by
  unfold gWords at g
  split at g
  · rename_i c
    cases g
    exact ⟨z, rfl, rfl, c, ro_strs s q⟩
  · cases g
def gJoin (z : Str) (y : D) : Option Ro := match (match y with | .list l => asStrs l | .tuple l => asStrs l | _ => none) with
  | some ys => if (ys.map (·.length)).sum + ys.length * z.length ≤ 16777216 then some (.d (.str (Txt.join z ys))) else none
  | none => none
theorem sd_join : St1D (fun x xs H Q => ∃ a p, ∃ ys : List Str, x = .str a ∧ xs = [.ref p] ∧ (SqL K H p (ys.map V.str) ∨ SqT K H p (ys.map V.str)) ∧
    (ys.map (·.length)).sum + ys.length * a.length ≤ 16777216 ∧ Q (.str (Txt.join a ys)) H) K gJoin := fun F H z y b o Q s sz hy g q => by
  unfold gJoin at g
  split at g
  · rename_i ys e
    split at g
    · rename_i c
      cases g
      have fin : Q (.str (Txt.join z ys)) H := q F H _ ⟨New.refl s, .str _⟩
      split at e
      · rename_i l
        have el := asStrs_ok e
        subst el
        obtain ⟨p, vs, rfl, h1, r1⟩ := hy.list s
        have ev := dp_strs r1
        subst ev
        exact ⟨z, p, ys, rfl, rfl, .inl (.inl (.inl h1)), c, fin⟩
      · rename_i l
        have el := asStrs_ok e
        subst el
        obtain ⟨p, vs, rfl, h1, r1, _⟩ := hy.tuple s
        have ev := dp_strs r1
        subst ev
        exact ⟨z, p, ys, rfl, rfl, .inr h1, c, fin⟩
      · cases e
    · cases g
  · cases g
def gStarts (z : Str) (y : D) : Option Ro := match y with
  | .str b => some (.d (.bool (Txt.startswith z b)))
  | _ => none
theorem sd_starts : St1D (fun x xs H Q => ∃ a b, x = .str a ∧ xs = [.str b] ∧ Q (.bl (Txt.startswith a b)) H) K gStarts := fun F H z y b o Q s sz hy g q => by
  unfold gStarts at g
  split at g
  · rename_i b
    cases g
    have h1 := hy.now s
    cases h1
    exact ⟨z, b, rfl, rfl, q F H _ ⟨New.refl s, .bl _⟩⟩
  · cases g
end
/-! ### a op b op' c -/
def mChain (g g' : D → D → Option Ro) (ma mb mc : M Val) : M Val := bind ma fun a => bind mb fun b ρ S => match dr ρ a, dr ρ b with
  | some x, some y => (match g x y with
    | some (.d (.bool true)) => bind mc (fun c ρ' S' => match dr ρ' b, dr ρ' c with
      | some y', some z => roM (g' y' z) ρ' S'
      | _, _ => .bad) ρ S
    | some (.d (.bool false)) => .ok (.d (.bool false)) ρ S
    | _ => .bad)
  | _, _ => .bad
section
variable {X : Cx} {W : WX} {e e1 e2 e3 : Expr} {pos : Pos} {ma mb mc : M Val}
theorem me_chain {r r' : R2} {g g' : D → D → Option Ro} (h : ∀ {ta tb tc : TE}, PE X e1 ta → PE X e2 tb → PE X e3 tc → PE X e (tChain r r' ta tb tc)) (hg : OpD X.K r g) (hg' : OpD X.K r' g') (ha : ME X W e1 ma) (hb : ME X W e2 mb) (hc : ME X W e3 mc) : ME X W e (mChain g g' ma mb mc) := by
  refine PE.weak (h ha (PE.sized hb) (PE.sized hc)) fun pins σ H s Q I q => ?_
  obtain ⟨F, A, ρ, S, as, q⟩ := q
  refine ⟨F, A, ρ, S, as, q.bind Ev.refl fun a ρ1 S1 F1 A1 x H1 _ _ ev as1 r1 q1 => ?_⟩
  refine ⟨F1, A1, ρ1, S1, as1, q1.bind ev fun b ρ2 S2 F2 A2 y H2 _ ev2 ev02 as2 r2 q2 sz => ?_⟩
  split at q2
  · rename_i u v d1 d2
    have go : ∀ {o}, g u v = some o → (∀ F3 H3 v, RoR X.K F2 H2 F3 H3 v o → ∃ k, v = .bl k ∧ (if k = true then tE X.K W mc σ H3 fun w' H4 => Sized X.K H4 → r' y w' H4 Q else Q (.bl false) H3)) → r x y H2 fun z H3 => ∃ k, z = .bl k ∧ (if k = true then tE X.K W mc σ H3 fun w' H4 => Sized X.K H4 → r' y w' H4 Q else Q (.bl false) H3) :=
      fun {o} eo f => hg F2 H2 x y u v o _ as2.sub sz (dr_rep as2 (r1.up ev2 rfl) d1) (dr_rep as2 r2 d2) eo f
    split at q2
    · rename_i eo
      refine go eo fun F3 H3 v h3 => ?_
      obtain ⟨n, h3⟩ := h3
      cases h3
      refine ⟨true, rfl, ?_⟩
      rw [if_pos rfl]
      have ev3 := ev02.trans (n.ev (A := A2) (ρ := ρ2) (σ := σ))
      refine ⟨F3, A2, ρ2, S2, as2.new n, q2.bind ev3 fun c ρ4 S4 F4 A4 z H4 _ ev4 ev04 as4 r4 q4 sz4 => ?_⟩
      split at q4
      · rename_i y' z' d3 d4
        unfold roM at q4
        cases eo' : g' y' z' with
        | none => rw [eo'] at q4; exact q4.elim
        | some o =>
          rw [eo'] at q4
          exact hg' F4 H4 y z y' z' o Q as4.sub sz4 (dr_rep as4 ((r2.up n.ev rfl).up ev4 rfl) d3) (dr_rep as4 r4 d4) eo' fun F5 H5 v h5 => h5.fin q4 ev04 as4
      · exact q4.elim
    · rename_i eo
      refine go eo fun F3 H3 v h3 => ?_
      obtain ⟨n, h3⟩ := h3
      cases h3
      refine ⟨false, rfl, ?_⟩
      rw [if_neg Bool.false_ne_true]
      exact q2.now (ev02.trans n.ev) (as2.new n) (Dp.bl false)
    · exact q2.elim
  · exact q2.elim
end
/-! ### is True, is False; powers -/
def gIsB (b : Bool) (x y : D) : Option Ro := match x, y with
  | .bool p, .bool q => some (.d (.bool (decide (p = q) == b)))
  | _, _ => none
section
variable {K : PySem.W.Frag}
theorem od_isB : OpD K (fun x y H Q => ∃ a b, x = .bl a ∧ y = .bl b ∧ Q (.bl (decide (a = b))) H) (gIsB true) := fun F H x y d e o Q s sz hx hy g q => by
  unfold gIsB at g
  split at g
  · cases g
    have h1 := hx.now s
    have h2 := hy.now s
    cases h1; cases h2
    refine ⟨_, _, rfl, rfl, q F H _ ⟨New.refl s, ?_⟩⟩
    simpa using Dp.bl _
  · cases g
theorem od_isnB : OpD K (fun x y H Q => ∃ a b, x = .bl a ∧ y = .bl b ∧ Q (.bl (!decide (a = b))) H) (gIsB false) := fun F H x y d e o Q s sz hx hy g q => by
  unfold gIsB at g
  split at g
  · rename_i p q'
    cases g
    have h1 := hx.now s
    have h2 := hy.now s
    cases h1; cases h2
    refine ⟨_, _, rfl, rfl, q F H _ ⟨New.refl s, ?_⟩⟩
    have e : (decide (p = q') == false) = !decide (p = q') := by cases decide (p = q') <;> rfl
    rw [e]
    exact Dp.bl _
  · cases g
def gPow (x y : D) : Option Ro := match x, y with
  | .int i, .int j => if 0 ≤ j ∧ j ≤ 1000000 ∧ i.natAbs < 2 ^ 64 then some (.d (.int (i ^ j.toNat))) else none
  | _, _ => none
theorem od_pow : OpD K (rI CPow fun i j => .int (i ^ j.toNat)) gPow := fun F H x y d e o Q s sz hx hy g q => by
  unfold gPow at g
  split at g
  · rename_i i j
    split at g
    · rename_i c
      cases g
      have h1 := hx.now s
      have h2 := hy.now s
      cases h1; cases h2
      exact ⟨i, j, rfl, rfl, c, q F H _ ⟨New.refl s, .int _⟩⟩
    · cases g
  · cases g
end
end ME
end

section
set_option maxHeartbeats 4000000
namespace ME
open PySem PySem.Spec L2
open PyProof.Rows hiding St

/-! ### lists of one's own are changed -/
section
variable {K : PySem.W.Frag} {W : WX} {F F0 : Hp} {A A0 : List Addr} {ρ ρ0 : Rho} {S : T} {σ σ0 : St} {H H0 : Hp} {i : Nat} {p : Addr} {l l' : List D} {vs vs' : List V}
theorem own_at (as : ASF K F A ρ S σ H) (h : ρ[i]? = some (.own l)) : ∃ p vs, σ[i]? = some (some (.ref p)) ∧ H p = some (.lst vs) ∧ F p = none ∧ p ∉ A ∧ DpAll K F vs l := as.sl i _ h
theorem own_write (as : ASF K F A ρ S σ H) (h : ρ[i]? = some (.own l)) (hp : σ[i]? = some (some (.ref p))) (hd : DpAll K F vs' l') : Ev F A ρ σ H F A (ρ.set i (.own l')) σ (upd H p (.lst vs')) ∧ ASF K F A (ρ.set i (.own l')) S σ (upd H p (.lst vs')) := by
  obtain ⟨p', vs, e1, e2, e3, e4, _⟩ := own_at as h
  rw [hp] at e1
  cases e1
  have hi : i < ρ.length := (List.getElem?_eq_some_iff.mp h).1
  have there : H p ≠ none := by rw [e2]; simp
  refine ⟨⟨fun _ _ z => z, fun _ z z' => absurd z z', ⟨[], by simp, by simp⟩, fun a o z no _ => ?_, fun a z => ?_, fun a z => ?_⟩, ⟨fun a o z => ?_, as.aw, as.nd, ?_, fun j s z => ?_, fun j k m m' z1 z2 z3 => ?_⟩⟩
  · rw [upd_ne (fun q => no (by rw [q]; exact ⟨i, l, h, hp⟩))]
    exact z
  · by_cases q : a = p
    · subst q; rw [upd_same]; simp
    · rw [upd_ne q]; exact z
  · obtain ⟨j, m, z1, z2⟩ := z
    rcases getSet z1 with ⟨rfl, _⟩ | ⟨_, z1⟩
    · exact .inl ⟨i, l, h, z2⟩
    · exact .inl ⟨j, m, z1, z2⟩
  · rw [upd_ne]
    · exact as.sub a o z
    · rintro rfl
      rw [e3] at z; cases z
  · have key : ∀ {B : List Addr} {T : List WO}, (∀ a ∈ B, a ∈ A) → Paired (WoRep K F A H) B T → Paired (WoRep K F A (upd H p (.lst vs'))) B T := by
      intro B T hb r
      induction r with
      | nil => exact .nil
      | cons r t ih =>
        refine .cons (r.up (fun _ _ z => z) ⟨[], by simp⟩ (upd_ne ?_)) (ih fun a ha => hb a (List.mem_cons_of_mem _ ha))
        rintro rfl
        exact e4 (hb _ List.mem_cons_self)
    exact key (fun _ z => z) as.st
  · rcases getSet z with ⟨rfl, e⟩ | ⟨n, z⟩
    · subst e
      exact ⟨p, vs', hp, upd_same, e3, e4, hd⟩
    · refine (as.sl j s z).up (fun _ _ z => z) ⟨[], by simp⟩ fun p2 vs2 l2 es f1 f2 f3 f4 => ⟨?_, f3, f4⟩
      subst es
      rw [upd_ne]
      · exact f2
      · rintro rfl
        exact n (as.ow i j _ _ h z (hp.trans f1.symm))
  · rcases getSet z1 with ⟨rfl, _⟩ | ⟨_, z1⟩
    · rcases getSet z2 with ⟨rfl, _⟩ | ⟨_, z2⟩
      · rfl
      · exact as.ow _ _ _ _ h z2 z3
    · rcases getSet z2 with ⟨rfl, _⟩ | ⟨_, z2⟩
      · exact as.ow _ _ _ _ z1 h z3
      · exact as.ow _ _ _ _ z1 z2 z3
end
/-- a method of the list that slot i owns, by what it does: the result, the list then -/
def mOwn (g : List D → List D → Option (D × List D)) (i : Nat) (ml : M (List Val)) : M Val := fun ρ S => match ρ[i]? with
  | some (.own _) => bind ml (fun vs ρ' S' => match ρ'[i]?, datas vs with
    | some (.own l), some xs => (match g l xs with
      | some (y, l') => .ok (.d y) (ρ'.set i (.own l')) S'
      | none => .bad)
    | _, _ => .bad) ρ S
  | _ => .bad
/-- by data: what such a method does -/
def OwnD (K : PySem.W.Frag) (r : V → List V → Hp → VK → Prop) (g : List D → List D → Option (D × List D)) : Prop := ∀ F H p vs l xs as y l' Q, (∀ a o, F a = some o → H a = some o) → H p = some (.lst vs) → DpAll K F vs l → DpAll K F xs as → vs.length ≤ sizeLine → g l as = some (y, l') →
  (∀ v vs', Dp K F v y → DpAll K F vs' l' → Q v (upd H p (.lst vs'))) → r (.ref p) xs H Q
section
variable {X : Cx} {W : WX} {e eo : Expr} {es : List Expr} {i : Nat} {ml : M (List Val)} {r : V → List V → Hp → VK → Prop} {g : List D → List D → Option (D × List D)}
theorem own_fin {F F0 : Hp} {A A0 : List Addr} {ρ ρ0 : Rho} {S : T} {σ : St} {H H0 : Hp} {x : V} {xs : List V} {vs : List Val} {Q : VK} (hg : OwnD X.K r g) (hx : σ[i]? = some (some x)) (as : ASF X.K F A ρ S σ H) (sz : Sized X.K H) (ev : Ev F0 A0 ρ0 σ H0 F A ρ σ H) (rv : Paired (VRep X.K H0 F A ρ σ H) xs vs)
    (q : Post X.K W (rVal X.K) (match ρ[i]?, datas vs with
    | some (.own l), some xs => (match g l xs with
      | some (y, l') => .ok (.d y) (ρ.set i (.own l')) S
      | none => .bad)
    | _, _ => .bad) F0 A0 ρ0 σ H0 Q) : r x xs H Q := by
  split at q
  · rename_i l ds e1 e2
    split at q
    · rename_i y l' eg
      obtain ⟨p, ws, f1, f2, f3, f4, f5⟩ := own_at as e1
      rw [hx] at f1
      cases f1
      refine hg F H p ws l xs ds y l' Q as.sub f2 f5 (datas_rep rv e2) (sz p ws (.inl (.inl (.inl f2)))) eg fun v vs' hv hd => ?_
      obtain ⟨ev2, as2⟩ := own_write as e1 hx hd
      exact q.now (ev.trans ev2) as2 hv
    · exact q.elim
  · exact q.elim
theorem me_own (h : ∀ {to : TE} {t : TA}, PE X eo to → PA X es t → PE X e (tBM X.K "list" r to t)) (hg : OwnD X.K r g) (hv : PE X eo (tVar i)) (ha : MA X W es ml) : ME X W e (mOwn g i ml) := by
  refine PE.weak (h hv (PA.sized ha)) fun pins σ H s Q I q => ?_
  obtain ⟨F, A, ρ, S, as, q⟩ := q
  unfold mOwn at q
  split at q
  · rename_i l e1
    obtain ⟨p, ws, f1, f2, f3, f4, f5⟩ := own_at as e1
    refine ⟨_, f1, .inl ⟨rfl, ws, .inl (.inl f2)⟩, F, A, ρ, S, as, q.bind Ev.refl fun a ρ1 S1 F1 A1 xs H1 _ _ ev as1 r1 q1 sz => ?_⟩
    exact own_fin hg f1 as1 sz ev r1 q1
  · exact q.elim
theorem me_own0 (h : ∀ {to : TE}, PE X eo to → PE X e (tBM0 X.K "list" r to)) (hg : OwnD X.K r g) (hv : PE X eo (tVar i)) : ME X W e (mOwn g i mNil) := by
  refine PE.weak (h (PE.sized hv)) fun pins σ H s Q I q => ?_
  obtain ⟨F, A, ρ, S, as, q⟩ := q
  unfold mOwn at q
  split at q
  · rename_i l e1
    obtain ⟨p, ws, f1, f2, f3, f4, f5⟩ := own_at as e1
    exact ⟨_, f1, fun sz => ⟨.inl ⟨rfl, ws, .inl (.inl f2)⟩, own_fin hg f1 as sz Ev.refl .nil q⟩⟩
  · exact q.elim
end
def gApp (l xs : List D) : Option (D × List D) := match xs with
  | [x] => if l.length < sizeLine then some (.none, l ++ [x]) else none
  | _ => none
def gExtL (l xs : List D) : Option (D × List D) := match xs with
  | [.list m] => if l.length + m.length ≤ sizeLine then some (.none, l ++ m) else none
  | [.tuple m] => if l.length + m.length ≤ sizeLine then some (.none, l ++ m) else none
  | _ => none
def gPopAt (l xs : List D) : Option (D × List D) := match xs with
  | [.int n] => if -(2 ^ 63) ≤ n ∧ n < 2 ^ 63 then (match seqIndex? n l.length with
    | some k => (l[k]?).map fun y => (y, l.eraseIdx k)
    | none => none) else none
  | _ => none
def gPop (l xs : List D) : Option (D × List D) := match xs with
  | [] => (l[l.length - 1]?).map fun y => (y, l.dropLast)
  | _ => none
section
variable {K : PySem.W.Frag} {X : Cx}
theorem DpAll.append {F : Hp} : ∀ {vs ws : List V} {l m : List D}, DpAll K F vs l → DpAll K F ws m → DpAll K F (vs ++ ws) (l ++ m)
  | _, _, _, _, .nil, h => h
  | _, _, _, _, .cons r t, h => .cons r (DpAll.append t h)
theorem DpAll.erase {F : Hp} : ∀ {vs : List V} {l : List D} (k : Nat), DpAll K F vs l → DpAll K F (vs.eraseIdx k) (l.eraseIdx k)
  | _, _, _, .nil => .nil
  | _, _, 0, .cons _ t => t
  | _, _, k + 1, .cons r t => .cons r (DpAll.erase k t)
theorem DpAll.dropLast {F : Hp} {vs : List V} {l : List D} (h : DpAll K F vs l) : DpAll K F vs.dropLast l.dropLast := by
  rw [List.dropLast_eq_take, List.dropLast_eq_take, DpAll.len h]
  exact DpAll.take _ h
theorem ow_app : OwnD K rAppend gApp := fun F H p vs l xs as y l' Q s hp hd ha sz g q => by
  unfold gApp at g
  split at g
  · rename_i x
    split at g
    · rename_i c
      cases g
      cases ha with
      | cons r t =>
        cases t
        exact ⟨p, vs, _, rfl, rfl, hp, by rw [DpAll.len hd]; exact c, q _ _ .non (DpAll.append hd (.cons r .nil))⟩
    · cases g
  · cases g
theorem ext_tup (l : Addr) (xs : Array Value) (n : Nat) (b : Addr) (ys : Array Value) (n2 : Nat) (dd : Option Addr) (sl : Array (Option Value)) (h0 : ¬(!xs.isEmpty && Builtin.List.listTooLong (xs.size + ys.size)) = true) (h1 : xs.size ≤ sizeLine) (h2 : xs.size + ys.size ≤ sizeLine + 1) :
    Meets (Builtin.«list.extend» ⟨[.ref l, .ref b], []⟩) (fun _ R s => s.heap.get? l = some { cls := .type "list", data := .seq xs n } ∧ s.heap.get? b = some ⟨.type "tuple", dd, .seq ys n2, sl⟩ ∧ R (.ok (.ret Value.none)) { s with heap := s.heap.update l (Obj.mapSeq fun x => x ++ ys), toks := s.toks }) :=
  .of_wp fun P w A R s q => by
    obtain ⟨hp, g, d, tk, os⟩ := s
    obtain ⟨ql, qb, q⟩ := q
    have k1 := AutoSeq1.idx_int
    have k2 := AutoSeq1.sub_tuple_tuple
    have k3 := AutoSeq1.sub_list_list
    have k4 := AutoSeq1.sub_tuple_list
    have k5 := AutoSeq1.sub_list_tuple
    have hz' : (xs ++ ys).size ≤ sizeLine + 1 := by
      rw [Array.size_append]
      exact h2
    wp_walk using (wpAny_updateSeq ql rfl (hz := h1) (_hz' := hz')), AutoSeq1.wpAny_loadPart' ql, AutoSeq1.wpAny_loadPart' qb
    exact ⟨_, rfl, q⟩
/-- l.extend(t), t a tuple -/
def rExtT (K : PySem.W.Frag) : V → List V → Hp → VK → Prop := fun x vs H Q => ∃ l b xs zs, x = .ref l ∧ vs = [.ref b] ∧ H l = some (.lst xs) ∧ SqT K H b zs ∧ xs.length + zs.length ≤ sizeLine ∧ Q .non (upd H l (.lst (xs ++ zs)))
theorem mt_extT : MtR X "list.extend" (rExtT X.K) := by
  intro pins s σ H x vs v us Q I rx rv h
  obtain ⟨l, b, xs, zs, rfl, rfl, hH, hB, hz, q⟩ := h
  cases rx
  obtain ⟨u, rfl, ru⟩ := rv.one
  cases ru
  obtain ⟨z, its, n, r, hl, e⟩ := I.lstM hH
  obtain ⟨its2, r2, ⟨⟨c2, d2, dt2, sl2⟩, ho2, hc2, n2, hd2⟩, hz2⟩ := I.tuple hB
  simp only at hc2 hd2
  subst hc2 hd2
  have hl2 := r2.length
  have hsz : its.toArray.size + its2.toArray.size ≤ sizeLine := by rw [List.size_toArray, List.size_toArray]; omega
  have hlong : ¬ (!its.toArray.isEmpty && Builtin.List.listTooLong (its.toArray.size + its2.toArray.size)) = true := by
    rw [notLongL hsz, Bool.and_false]
    exact Bool.false_ne_true
  refine call_meets F.slot_list_extend ⟨_, e, rfl⟩ F.entry_list_extend (F.args_list_extend_2 _ _) (ext_tup l its.toArray n b its2.toArray n2 d2 sl2 hlong (by rw [List.size_toArray]; omega) (by omega)) ⟨e, ho2, ?_⟩
  refine ⟨.non, _, I.lset (its' := its ++ its2) hH e (by simp) (r.append r2) ?_, rfl, q⟩
  rw [List.length_append]
  omega
def rExtA (K : PySem.W.Frag) : V → List V → Hp → VK → Prop := fun x xs H Q => rExtend x xs H Q ∨ rExtT K x xs H Q
theorem mt_extA : MtR X "list.extend" (rExtA X.K) := MtR.or mt_extend mt_extT
theorem ow_ext : OwnD K (rExtA K) gExtL := fun F H p vs l xs as y l' Q s hp hd ha sz g q => by
  unfold gExtL at g
  split at g
  · rename_i m
    split at g
    · rename_i c
      cases g
      cases ha with
      | cons r t =>
        cases t
        cases r with
        | lst h1 h2 => exact .inl ⟨p, _, vs, _, rfl, rfl, hp, s _ _ h1, by rw [DpAll.len hd, DpAll.len h2]; exact c, q _ _ .non (DpAll.append hd h2)⟩
    · cases g
  · rename_i m
    split at g
    · rename_i c
      cases g
      cases ha with
      | cons r t =>
        cases t
        cases r with
        | tup h1 h2 => exact .inr ⟨p, _, vs, _, rfl, rfl, hp, sqtUp s h1, by rw [DpAll.len hd, DpAll.len h2]; exact c, q _ _ .non (DpAll.append hd h2)⟩
    · cases g
  · cases g
theorem ow_popAt : OwnD K rPopAt gPopAt := fun F H p vs l xs as y l' Q s hp hd ha sz g q => by
  unfold gPopAt at g
  split at g
  · rename_i n
    split at g
    · rename_i c
      split at g
      · rename_i k e
        cases ey : l[k]? with
        | none => rw [ey] at g; cases g
        | some z =>
          rw [ey] at g
          cases g
          cases ha with
          | cons r t =>
            cases t
            cases r
            obtain ⟨v, h1, h2⟩ := DpAll.get hd ey
            exact ⟨p, vs, n, k, v, rfl, rfl, hp, c.1, c.2, by rw [DpAll.len hd]; exact e, h1, q _ _ h2 (DpAll.erase k hd)⟩
      · cases g
    · cases g
  · cases g
theorem ow_pop : OwnD K rPop gPop := fun F H p vs l xs as y l' Q s hp hd ha sz g q => by
  unfold gPop at g
  split at g
  · cases ey : l[l.length - 1]? with
    | none => rw [ey] at g; cases g
    | some z =>
      rw [ey] at g
      cases g
      cases ha
      obtain ⟨v, h1, h2⟩ := DpAll.get hd ey
      exact ⟨p, vs, v, rfl, rfl, hp, by rw [DpAll.len hd]; exact h1, q _ _ h2 (DpAll.dropLast hd)⟩
  · cases g
end
/-! ### x, y = a, b -/
def sPar (i j : Nat) (ma mb : M Val) : MStm := thenS (bind ma fzo) fun a => thenS (bind mb fzo) fun b ρ S => match pName i a ρ with
  | some ρ1 => (match pName j b ρ1 with
    | some ρ2 => .nx ρ2 S
    | none => .bad)
  | none => .bad
section
variable {X : Cx} {W : WX} {e1 e2 : Expr} {st : Stmt} {i j : Nat} {x y : Str} {ma mb : M Val}
theorem ms_par (h : ∀ {t : TA}, PA X [e1, e2] t → PS X st (tPar i j t)) (hi : X.N[i]? = some x) (hj : X.N[j]? = some y) (ha : ME X W e1 ma) (hb : ME X W e2 mb)
    (hs : starEach [e1, e2] X.env = (false, eval e1 X.env) :: starEach [e2] X.env := by rfl) (hs2 : starEach [e2] X.env = (false, eval e2 X.env) :: starEach [] X.env := by rfl) : MS X W st (sPar i j ma mb) := by
  refine PS.weak (h (pa_cons (me_fzo ha) (pa_cons (me_fzo hb) pa_nil hs2) hs)) fun pins σ H s E I q => ?_
  have hl : i < σ.length := by rw [I.len]; exact (List.getElem?_eq_some_iff.mp hi).1
  have hl2 : j < σ.length := by rw [I.len]; exact (List.getElem?_eq_some_iff.mp hj).1
  obtain ⟨F, A, ρ, S, as, q⟩ := q
  refine ⟨F, A, ρ, S, as, q.thenS Ev.refl fun a ρ1 S1 F1 A1 v H1 _ _ ev as1 r1 q1 => ?_⟩
  refine ⟨F1, A1, ρ1, S1, as1, q1.thenS ev fun b ρ2 S2 F2 A2 w H2 _ ev2 ev02 as2 r2 q2 => ?_⟩
  refine ⟨v, w, rfl, ?_⟩
  have r0 := r1
  have r1 := r1.up ev2 rfl
  cases e : pName i a ρ2 with
  | none => rw [e] at q2; exact q2.elim
  | some ρ3 =>
    rw [e] at q2
    dsimp only at q2
    cases e' : pName j b ρ3 with
    | none => rw [e'] at q2; exact q2.elim
    | some ρ4 =>
      rw [e'] at q2
      have h3 := pName_eq e
      have h4 := pName_eq e'
      obtain ⟨ev3, as3⟩ := set_ok ev02 as2 r1 hl
      rw [← h3] at ev3 as3
      have r2' : VRep X.K H F2 A2 ρ3 (σ.set i (some v)) H2 w b := by
        cases b with
        | d z => exact r2
        | w k => exact r2
        | own k => cases e'
        | fl l =>
          obtain ⟨p, vs, g1, g0, g2, g3, g4, g5, g6⟩ := r2
          refine ⟨p, vs, g1, ev.none g0, g2, g3, g4, fun z => ?_, g6⟩
          rw [h3] at z
          obtain ⟨k, m, z1, z2⟩ := z
          by_cases ek : i = k
          · subst ek
            rw [List.getElem?_set_self hl] at z2
            cases z2
            cases a with
            | fl l' =>
              obtain ⟨p', vs', f1, f0, f2, _⟩ := r0
              cases f1
              rw [g0] at f2
              cases f2
            | own k => cases e
            | d z => rcases getSet z1 with ⟨_, z⟩ | ⟨z, _⟩
                     · cases z
                     · exact z rfl
            | w z => rcases getSet z1 with ⟨_, z⟩ | ⟨z, _⟩
                     · cases z
                     · exact z rfl
          · rw [List.getElem?_set_ne ek] at z2
            refine g5 ⟨k, m, ?_, z2⟩
            cases a with
            | own k => cases e
            | d z => rcases getSet z1 with ⟨z, _⟩ | ⟨_, z⟩
                     · exact absurd z ek
                     · exact z
            | w z => rcases getSet z1 with ⟨z, _⟩ | ⟨_, z⟩
                     · exact absurd z ek
                     · exact z
            | fl z => rcases getSet z1 with ⟨z, _⟩ | ⟨_, z⟩
                      · exact absurd z ek
                      · exact z
      obtain ⟨ev4, as4⟩ := set_ok ev3 as3 r2' (by simpa using hl2)
      rw [← h4] at ev4 as4
      exact q2.nx ev4 as4
end
end ME
end

section
set_option maxHeartbeats 4000000
namespace ME
open PySem PySem.Spec L2
open PyProof.Rows hiding St

/-! ### lists of the store -/
def wls (S : T) (k : Nat) : Option (List WV) := match S[k]? with
  | some (.lst xs) => some xs
  | some (.frz ns) => some (ns.map fun n => .d (.int n))
  | _ => none
section
variable {K : PySem.W.Frag} {W : WX} {F F0 : Hp} {A A0 : List Addr} {ρ ρ0 : Rho} {S : T} {σ σ0 : St} {H H0 : Hp} {i k : Nat} {p : Addr}
theorem ints_wv : ∀ ns : List Int, Paired (WvRep K F A) (ns.map V.int) (ns.map fun n => WV.d (.int n))
  | [] => .nil
  | n :: ns => .cons (Dp.int n) (ints_wv ns)
theorem wls_at (as : ASF K F A ρ S σ H) {xs : List WV} (h : wls S k = some xs) (hp : A[k]? = some p) : ∃ vs, SqL K H p vs ∧ Paired (WvRep K F A) vs xs := by
  obtain ⟨o, e, r⟩ := Paired.get as.st hp
  unfold wls at h
  rw [e] at h
  cases o with
  | lst ys =>
    cases h
    obtain ⟨vs, h1, h2⟩ := r
    exact ⟨vs, .inl (.inl h1), h2⟩
  | frz ns =>
    cases h
    obtain ⟨o, h1⟩ := r
    exact ⟨_, .inl (.inr ⟨o, h1⟩), ints_wv ns⟩
  | ins c fs => cases h
/-- a list of the store is changed -/
theorem w_write {o o' : WO} {u : HO} (as : ASF K F A ρ S σ H) (hp : A[k]? = some p) (ho : S[k]? = some o) (hr : WoRep K F A (upd H p u) p o') : Ev F A ρ σ H F A ρ σ (upd H p u) ∧ ASF K F A ρ (S.set k o') σ (upd H p u) := by
  have hm : p ∈ A := List.mem_of_getElem? hp
  refine ⟨⟨fun _ _ z => z, fun _ z z' => absurd z z', ⟨[], by simp, by simp⟩, fun a o z _ na => ?_, fun a z => ?_, fun a z => .inl z⟩, ⟨fun a o z => ?_, as.aw, as.nd, ?_, fun j s z => ?_, as.ow⟩⟩
  · rw [upd_ne (fun q => na (by rw [q]; exact hm))]
    exact z
  · by_cases q : a = p
    · subst q; rw [upd_same]; simp
    · rw [upd_ne q]; exact z
  · rw [upd_ne]
    · exact as.sub a o z
    · rintro rfl
      rw [as.aw _ hm] at z; cases z
  · have key : ∀ {B : List Addr} {T : List WO} {j : Nat}, B.Nodup → Paired (WoRep K F A H) B T → B[j]? = some p → Paired (WoRep K F A (upd H p u)) B (T.set j o') := by
      intro B T j nd r
      induction r generalizing j with
      | nil => intro h; simp at h
      | @cons a w B T r t ih =>
        intro h
        rw [List.nodup_cons] at nd
        cases j with
        | zero =>
          rw [List.getElem?_cons_zero, Option.some.injEq] at h
          subst h
          refine .cons hr ?_
          have key2 : ∀ {B : List Addr} {T : List WO}, a ∉ B → Paired (WoRep K F A H) B T → Paired (WoRep K F A (upd H a u)) B T := by
            intro B T hb r
            induction r with
            | nil => exact .nil
            | cons r t ih =>
              rw [List.mem_cons, not_or] at hb
              exact .cons (r.up (fun _ _ z => z) ⟨[], by simp⟩ (upd_ne (Ne.symm hb.1))) (ih hb.2)
          exact key2 nd.1 t
        | succ j =>
          rw [List.getElem?_cons_succ] at h
          refine .cons (r.up (fun _ _ z => z) ⟨[], by simp⟩ (upd_ne ?_)) (ih nd.2 h)
          rintro rfl
          exact nd.1 (List.mem_of_getElem? h)
    exact key as.nd as.st hp
  · refine (as.sl j s z).up (fun _ _ z => z) ⟨[], by simp⟩ fun p2 vs2 l2 es f1 f2 f3 f4 => ⟨?_, f3, f4⟩
    rw [upd_ne]
    · exact f2
    · rintro rfl
      exact f4 hm
theorem pr_set {α β : Type} {f : α → β → Prop} : ∀ {l : List α} {m : List β} (i : Nat) {a : α} {b : β}, Paired f l m → f a b → Paired f (l.set i a) (m.set i b)
  | _, _, _, _, _, .nil, _ => .nil
  | _, _, 0, _, _, .cons _ t, h => .cons h t
  | _, _, i + 1, _, _, .cons r t, h => .cons r (pr_set i t h)
end
/-- x[i] of the store -/
def mWIx (ma mi : M Val) : M Val := bind ma fun a => bind mi fun b ρ S => match a, dr ρ b with
  | .w k, some (.int i) => (match wls S k with
    | some xs => (match atI xs i with
      | some (.d x) => .ok (.d x) ρ S
      | some (.w j) => .ok (.w j) ρ S
      | none => .bad)
    | none => .bad)
  | _, _ => .bad
def mWLen (ma : M Val) : M Val := bind ma fun a ρ S => match a with
  | .w k => (match wls S k with
    | some xs => .ok (.d (.int xs.length)) ρ S
    | none => .bad)
  | _ => .bad
section
variable {X : Cx} {W : WX} {e eo : Expr} {pos : Pos} {ma mb mi : M Val}
theorem atI_pr {α β : Type} {f : α → β → Prop} {l : List α} {m : List β} {i : Int} {b : β} (h : Paired f l m) (e : atI m i = some b) : ∃ a, atI l i = some a ∧ f a b := by
  unfold atI at e ⊢
  rw [Paired.length h]
  cases q : ixN m.length i with
  | none => rw [q] at e; cases e
  | some j =>
    rw [q] at e
    exact Paired.get' h e
theorem me_wix {e2 : Expr} (ho : IxR X (rIx X.K)) (ha : ME X W eo ma) (hb : ME X W e2 mi) (hs : PlainIx e2) : ME X W (.Subscript eo e2 pos) (mWIx ma mi) := by
  refine PE.weak (pe_ix ho ha hb hs) fun pins σ H s Q I q => ?_
  obtain ⟨F, A, ρ, S, as, q⟩ := q
  refine ⟨F, A, ρ, S, as, q.bind Ev.refl fun a ρ1 S1 F1 A1 x H1 _ _ ev as1 r1 q1 => ?_⟩
  refine ⟨F1, A1, ρ1, S1, as1, q1.bind ev fun b ρ2 S2 F2 A2 y H2 _ ev2 ev02 as2 r2 q2 => ?_⟩
  cases a with
  | d z => exact q2.elim
  | own z => exact q2.elim
  | fl z => exact q2.elim
  | w k =>
    split at q2
    · rename_i k' i ek ed
      cases ek
      have r1 := r1.up ev2 rfl
      obtain ⟨p, h1, rfl⟩ := r1
      cases ew : wls S2 k with
      | none => rw [ew] at q2; exact q2.elim
      | some xs =>
        rw [ew] at q2
        obtain ⟨vs, h2, h3⟩ := wls_at as2 ew h1
        have hy := (dr_rep as2 r2 ed).now as2.sub
        cases hy
        dsimp only at q2
        cases ex : atI xs i with
        | none => rw [ex] at q2; exact q2.elim
        | some u =>
          rw [ex] at q2
          obtain ⟨v, h4, h5⟩ := atI_pr h3 ex
          refine .inl ⟨p, vs, i, v, rfl, rfl, h2, h4, ?_⟩
          cases u with
          | d x => exact q2.now ev02 as2 h5
          | w j => exact q2.now ev02 as2 h5
    · exact q2.elim
theorem me_wlen (h : ∀ {t : TA}, PA X [eo] t → PE X e (tCB (fun xs H Q => ∃ x n, xs = [x] ∧ LenV X.K x H n ∧ Q (.int n) H) t)) (ha : ME X W eo ma) (hs : starEach [eo] X.env = (false, eval eo X.env) :: starEach [] X.env := by rfl) : ME X W e (mWLen ma) := by
  refine PE.weak (h (pa_cons ha pa_nil hs)) fun pins σ H s Q I q => ?_
  obtain ⟨F, A, ρ, S, as, q⟩ := q
  refine ⟨F, A, ρ, S, as, q.bind Ev.refl fun a ρ1 S1 F1 A1 x H1 _ _ ev as1 r1 q1 => ?_⟩
  cases a with
  | d z => exact q1.elim
  | own z => exact q1.elim
  | fl z => exact q1.elim
  | w k =>
    obtain ⟨p, h1, rfl⟩ := r1
    dsimp only at q1
    cases ew : wls S1 k with
    | none => rw [ew] at q1; exact q1.elim
    | some xs =>
      rw [ew] at q1
      obtain ⟨vs, h2, h3⟩ := wls_at as1 ew h1
      exact ⟨_, xs.length, rfl, .inl ⟨vs, h2, (Paired.length h3).symm⟩, q1.now ev as1 (Dp.int _)⟩
end
/-- x[n] = e, x of the store at slot i -/
def sWSet (i n : Nat) (mb : M Val) : MStm := thenS (bind mb fz) fun v ρ S => match v, ρ[i]? with
  | .d x, some (.w k) => (match S[k]? with
    | some (.lst xs) => if n < xs.length then .nx ρ (S.set k (.lst (xs.set n (.d x)))) else .bad
    | _ => .bad)
  | _, _ => .bad
/-- x[n], y = e -/
def sWSet2 (i n j : Nat) (mb : M Val) : MStm := thenS (bind mb fz) fun v ρ S => match v, ρ[i]? with
  | .d (.tuple [x, y]), some (.w k) => (match S[k]? with
    | some (.lst xs) => if n < xs.length then .nx (ρ.set j (.d y)) (S.set k (.lst (xs.set n (.d x)))) else .bad
    | _ => .bad)
  | _, _ => .bad
section
variable {X : Cx} {W : WX} {e eo : Expr} {st : Stmt} {i n j : Nat} {mb : M Val}
theorem ixN_nat {m n : Nat} (h : n < m) (hm : m ≤ sizeLine) : ixN m (n : Int) = some n := by
  unfold ixN
  have : sizeLine = 16777216 := rfl
  simp
  omega
theorem w_at {K : PySem.W.Frag} {F : Hp} {A : List Addr} {ρ : Rho} {S : T} {σ : St} {H : Hp} {k : Nat} {xs : List WV} (as : ASF K F A ρ S σ H) (h : ρ[i]? = some (.w k)) (hS : S[k]? = some (.lst xs)) : ∃ p vs, A[k]? = some p ∧ σ[i]? = some (some (.ref p)) ∧ H p = some (.lst vs) ∧ Paired (WvRep K F A) vs xs := by
  obtain ⟨p, h1, h2⟩ := as.sl i _ h
  obtain ⟨o, e, r⟩ := Paired.get as.st h1
  rw [hS] at e
  cases e
  obtain ⟨vs, h3, h4⟩ := r
  exact ⟨p, vs, h1, h2, h3, h4⟩
theorem ms_wset (h : ∀ {te : TE}, PE X e te → PS X st (tAsg te (L2.gSub (tVar i) (tC (.int n)) rSetL))) (ha : ME X W e mb) : MS X W st (sWSet i n mb) := by
  refine PS.weak (h (PE.sized (me_fz ha))) fun pins σ H s E I q => ?_
  obtain ⟨F, A, ρ, S, as, q⟩ := q
  refine ⟨F, A, ρ, S, as, q.thenS Ev.refl fun a ρ1 S1 F1 A1 v H1 _ _ ev as1 r1 q1 sz => ?_⟩
  cases a with
  | own z => exact q1.elim
  | fl z => exact q1.elim
  | w z => exact q1.elim
  | d x =>
    split at q1
    · rename_i x' k ex ek
      cases ex
      split at q1
      · rename_i xs eS
        by_cases hn : n < xs.length
        · rw [if_pos hn] at q1
          obtain ⟨p, vs, h1, h2, h3, h4⟩ := w_at as1 ek eS
          have hl := sz p vs (.inl (.inl (.inl h3)))
          have hlen := Paired.length h4
          refine ⟨_, h2, p, vs, n, n, rfl, rfl, h3, ixN_nat (by rw [hlen]; exact hn) hl, ?_⟩
          obtain ⟨ev2, as2⟩ := w_write (u := .lst (vs.set n v)) (o' := .lst (xs.set n (.d x))) as1 h1 eS ⟨_, upd_same, pr_set n h4 r1⟩
          exact q1.nx (ev.trans ev2) as2
        · rw [if_neg hn] at q1
          exact q1.elim
      · exact q1.elim
    · exact q1.elim
theorem ms_wset2 {y : Str} (hj : X.N[j]? = some y) (h : ∀ {te : TE}, PE X e te → PS X st (tAsg te (gTup X.K 2 (gCons (L2.gSub (tVar i) (tC (.int n)) rSetL) (gCons (gName j) gNil))))) (ha : ME X W e mb) : MS X W st (sWSet2 i n j mb) := by
  refine PS.weak (h (PE.sized (me_fz ha))) fun pins σ H s E I q => ?_
  have hl2 : j < σ.length := by rw [I.len]; exact (List.getElem?_eq_some_iff.mp hj).1
  obtain ⟨F, A, ρ, S, as, q⟩ := q
  refine ⟨F, A, ρ, S, as, q.thenS Ev.refl fun a ρ1 S1 F1 A1 v H1 _ _ ev as1 r1 q1 sz => ?_⟩
  cases a with
  | own z => exact q1.elim
  | fl z => exact q1.elim
  | w z => exact q1.elim
  | d z =>
    split at q1
    · rename_i x y' k ex ek
      cases ex
      have r1 : Dp X.K F1 v (.tuple [x, y']) := r1
      cases r1 with
      | tup hq ha =>
        rename_i t ws
        cases ha with
        | cons hx ha =>
          cases ha with
          | cons hy ha =>
            cases ha
            split at q1
            · rename_i xs eS
              by_cases hn : n < xs.length
              · rw [if_pos hn] at q1
                obtain ⟨p, vs, h1, h2, h3, h4⟩ := w_at as1 ek eS
                have hl := sz p vs (.inl (.inl (.inl h3)))
                have hlen := Paired.length h4
                refine ⟨t, _, rfl, sqtUp as1.sub hq, rfl, _, _, rfl, _, h2, p, vs, n, n, rfl, rfl, h3, ixN_nat (by rw [hlen]; exact hn) hl, ?_⟩
                obtain ⟨ev2, as2⟩ := w_write (o' := .lst (xs.set n (.d x))) as1 h1 eS ⟨_, upd_same, pr_set n h4 hx⟩
                obtain ⟨ev3, as3⟩ := set_ok (i := j) (v := .d y') (ev.trans ev2) as2 hy hl2
                exact ⟨_, _, rfl, rfl, q1.nx ev3 as3⟩
              · rw [if_neg hn] at q1
                exact q1.elim
            · exact q1.elim
    · exact q1.elim
end
/-- a new list, given out as an object of the store -/
def sRetW (ma : M Val) : MStm := thenS ma fun v ρ S => match v with
  | .fl l => .rt (.w S.length) ρ (S ++ [.lst (l.map .d)])
  | _ => .bad
section
variable {X : Cx} {W : WX} {e : Expr} {pos : Pos} {ma : M Val}
theorem data_wv {K : PySem.W.Frag} {F : Hp} {A : List Addr} : ∀ {vs : List V} {l : List D}, DpAll K F vs l → Paired (WvRep K F A) vs (l.map WV.d)
  | _, _, .nil => .nil
  | _, _, .cons r t => .cons r (data_wv t)
theorem ms_retW (h : ME X W e ma) : MS X W (.Return (some e) pos) (sRetW ma) := by
  refine PS.weak (ps_ret h) fun pins σ H s E I q => ?_
  obtain ⟨F, A, ρ, S, as, q⟩ := q
  refine ⟨F, A, ρ, S, as, q.thenS Ev.refl fun a ρ1 S1 F1 A1 x H1 _ _ ev as1 r1 q1 => ?_⟩
  cases a with
  | d z => exact q1.elim
  | own z => exact q1.elim
  | w z => exact q1.elim
  | fl l =>
    obtain ⟨p, vs, rfl, h0, h1, h2, h3, h4, h5⟩ := r1
    have up : ∃ B, A1 ++ [p] = A1 ++ B := ⟨[p], rfl⟩
    have lS := Paired.length as1.st
    refine q1 F1 (A1 ++ [p]) σ (.ref p) H1 ⟨ev.ff, ev.fn, ?_, ev.fr, ev.lv, ev.ow⟩ ⟨as1.sub, fun a ha => ?_, ?_, ?_, fun i s z => ?_, as1.ow⟩ ?_
    · obtain ⟨B, e1, n1⟩ := ev.aa
      refine ⟨B ++ [p], by rw [e1, List.append_assoc], fun a ha => ?_⟩
      rcases List.mem_append.mp ha with z | z
      · exact n1 a z
      · rw [List.mem_singleton] at z
        rw [z]; exact h0
    · rcases List.mem_append.mp ha with z | z
      · exact as1.aw a z
      · rw [List.mem_singleton] at z
        rw [z]; exact h2
    · rw [List.nodup_append]
      refine ⟨as1.nd, by simp, fun a ha b hb => ?_⟩
      rw [List.mem_singleton] at hb
      rintro rfl
      exact h3 (hb ▸ ha)
    · refine pr_app (L2.Paired.mapP as1.st fun a o z => z.up (fun _ _ z => z) up rfl) (.cons ⟨vs, h1, data_wv h5⟩ .nil)
    · refine (as1.sl i s z).up (fun _ _ z => z) up fun p2 vs2 l2 es f1 f2 f3 f4 => ⟨f2, f3, fun m => ?_⟩
      subst es
      rcases List.mem_append.mp m with m | m
      · exact f4 m
      · rw [List.mem_singleton] at m
        subst m
        exact h4 ⟨i, l2, z, f1⟩
    · exact ⟨p, by rw [← lS]; simp, rfl⟩
end
/-! ### divmod -/
def gDivmod (x y : D) : Option Ro := match x, y with
  | .int i, .int j => if 0 < j ∧ j < 1073741824 then some (.d (.tuple [.int (i / j), .int (i % j)])) else none
  | _, _ => none
section
variable {K : PySem.W.Frag}
theorem cd_divmod : CaD K (fun xs H Q => ∃ i j, xs = [.int i, .int j] ∧ CDiv i j ∧ ∀ p, H p = none → Q (.ref p) (upd H p (.tup [.int (i / j), .int (i % j)]))) (fun ds => match ds with | [x, y] => gDivmod x y | _ => none) := cd_two fun F H x y a b o Q s sz hx hy g q => by
  unfold gDivmod at g
  split at g
  · rename_i i j
    split at g
    · rename_i c
      cases g
      have h1 := hx.now s
      have h2 := hy.now s
      cases h1; cases h2
      refine ⟨i, j, rfl, c, fun p n => q _ _ _ ⟨New.one s n, .tup (.inl (.inl upd_same)) (.cons (.int _) (.cons (.int _) .nil))⟩⟩
    · cases g
  · cases g
end
end ME
end

section
set_option maxHeartbeats 4000000
set_option profiler true
set_option profiler.threshold 3000
namespace ME
open PySem PySem.Spec L2
open PyProof.Rows hiding St

/-! ### set(xs) of a list, a tuple -/
abbrev frSet (w : World) : Obj := { cls := .type "set", data := .set #[] 0 (.fresh 0 0 (!w.params.followText "set-order")) }
section
variable {P : Program} {w : World} {A : Around} {E : Value → Shared → Prop} {s : Shared}
/-- what holds of the set at S behind i items -/
structure SetGoes (P : Program) (w : World) (S : Addr) (n : Nat) (items : Array Value) (SR : Heap → Nat → Prop) : Prop where
  at_ : ∀ h h' i, SR h i → (∀ o, h.get? S = some o → h'.get? S = some o) → SR h' i
  new : ∀ h, h.get? S = some (frSet w) → SR h 0
  add : ∀ (A : Around) (E : Value → Shared → Prop) (Q : Bool → Shared → Prop) (i : Nat) (v : Value) (s : Shared), i < n → items[i]? = some v → SR s.heap i → (∀ h' tk b, Heap.SameBut S s.heap h' → s.toks ≤ tk → SR h' (i + 1) → Q b { s with heap := h', toks := tk }) → wpAny (model P w) A (setAdd S v) Q E s
theorem set_loop {I S : Addr} {fp wr : List Addr} {G : Array GenState → Array GenState → Prop} {n : Nat} {items : Array Value} {Ps : Nat → Shared → Prop} {R : Result → Shared → Prop} {SR : Heap → Nat → Prop}
    (Wk : WalksS P w A.in1 I fp wr G n (fun i v => items[i]? = some v) Ps) (hS : S ∉ fp) (go : SetGoes P w S n items SR) : ∀ (k i : Nat) (s : Shared), i + k = n → Ps i s → SR s.heap i →
      (∀ s', Moved (S :: wr) G s s' → SR s'.heap n → R (.ok (.ret .none)) s') → codeAny (model P w) A (.builtin "set.update.loop" ⟨[.ref S, .ref I], []⟩) R s := by
  have nw : S ∉ wr := fun z => hS (Wk.sub _ z)
  have up : ∀ b ∈ wr, b ∈ S :: wr := fun b => List.mem_cons_of_mem _
  intro k
  induction k with
  | zero =>
    intro i s ei st r fin
    obtain rfl : i = n := ei
    refine codeAny_builtin PyProof.Rows.F.entry_set_update_loop ?_
    rw [Around.under_plainId PyProof.Rows.F.plain_set_update_loop]
    show wpAny _ A.in1 (pyNext (.ref I) >>= _) _ _ _
    refine wpAny_bind (Wk.done s _ _ st fun s1 m => ?_)
    show wpAny _ A.in1 (PySem.ret Value.none) _ _ s1
    exact wpAny_pure (fin s1 (m.mono up) (go.at_ _ _ _ r fun o e => m.heap S o nw e))
  | succ k ih =>
    intro i s ei st r fin
    have hi : i < n := by omega
    refine codeAny_builtin PyProof.Rows.F.entry_set_update_loop ?_
    rw [Around.under_plainId PyProof.Rows.F.plain_set_update_loop]
    show wpAny _ A.in1 (pyNext (.ref I) >>= _) _ _ _
    refine wpAny_bind (Wk.item i s _ _ hi st fun v s1 hv st1 m => ?_)
    show wpAny _ A.in1 (holding [v] (setAdd S v) >>= _) _ _ s1
    refine wpAny_bind (wpAny_holding (go.add _ _ _ i v s1 hi hv (go.at_ _ _ _ r fun o e => m.heap S o nw e) fun h2 tk b sb ht r2 => ?_))
    refine wpAny_pure ⟨plainId_quiet PyProof.Rows.F.plain_set_update_loop _, ih (i + 1) _ (by omega) (Wk.frame _ s1 _ _ st1 ht fun b hb o e => ?_) r2 fun s3 m3 r3 => fin s3 (Moved.trans Wk.gtrans ((m.mono up).then_heap ht fun b o hb e => ?_) m3) r3⟩
    · rw [sb.2 b (fun z : b = S => hS (z ▸ hb))]
      exact e
    · rw [sb.2 b (fun z : b = S => hb (z ▸ List.mem_cons_self))]
      exact e
theorem call_set_l {l : Addr} {items : Array Value} {SR : Heap → Nat → Prop} {Q : Value → Shared → Prop} (hh : A.handled = none) (hl : s.heap.IsList l items) (go : SetGoes P w s.heap.objs.size items.size items SR)
    (h : ∀ (h' : Heap) (tk : Nat), SR h' items.size → (∀ b o, s.heap.get? b = some o → h'.get? b = some o) → Q (.ref s.heap.objs.size) { s with heap := h', toks := tk }) : wpAny (model P w) A (call (.type "set") [.ref l]) Q E s := by
  obtain ⟨c, tl, mro⟩ := F.called_set.mro
  have k1 := F.called_set.made
  have k2 := F.called_set.sub
  have k3 := F.called_set.notType
  have k4 := F.called_set.canCreate
  have k5 := F.typeCall_set_1 (.ref l)
  refine wpAny_call (codeAny_of_tree ?_)
  show wpAny _ _ (callAny (.type "set") _) _ _ _
  refine wpAny_pure ⟨Code.quiet_builtin _ (by decide +kernel), codeAny_builtin F.entry_type_call ?_⟩
  rw [Around.under_plain (weight_type_call_type "set" [.ref l] []) rfl]
  repeat (any_goals (first | assumption | wp_step))
  refine codeAny_mono (code_set_led1 (.ref l) (E := E) (Q₁ := fun u s1 => u = .ref s.heap.objs.size ∧ s1 = { s with heap := s.heap.push (frSet w) }) ⟨rfl, rfl⟩) fun r s1 hr => ?_
  match r, hr with
  | .error e, hr => exact hr
  | .ok (.ret u), hr =>
    obtain ⟨rfl, rfl⟩ := hr
    have oS : (s.heap.push (frSet w)).get? s.heap.objs.size = some (frSet w) := Heap.get?_push_size _ rfl
    have tS : Shared.TypeIs { s with heap := s.heap.push (frSet w) } (.ref s.heap.objs.size) "set" := ⟨_, oS, rfl⟩
    have k6 := F.called_set.init.lookup
    have k7 := F.called_set.init.bind (.ref s.heap.objs.size)
    repeat (any_goals (first | assumption | wp_step))
    refine codeAny_mono (codeAny_call_builtin (R := wants (fun r s2 => r = .none ∧ ∃ h' tk, s2 = { s with heap := h', toks := tk } ∧ SR h' items.size ∧ ∀ b o, s.heap.get? b = some o → h'.get? b = some o) E) F.called_set.init.plain F.entry_set_init (check_set_init_1 tS ?_)) fun r2 s2 hr2 => ?_
    · obtain ⟨⟨oc, od, dt, os⟩, ho, hc, nl, hd⟩ := hl
      simp only at hc hd
      subst hc hd
      have ho' : (s.heap.push (frSet w)).get? l = some ⟨.type "list", od, .seq items nl, os⟩ := Heap.get?_push_of_some _ ho
      have k8 := F.sub_list_set
      have k9 := F.sub_list_frozenset
      have k0 : (Value.type "list" == Value.type "dict") = false := by decide
      have hl1 : (s.heap.push (frSet w)).IsList l items := ⟨_, ho', rfl, nl, rfl⟩
      unfold Builtin.«set.__init__» noKeywords Builtin.Frozenset.updateFrom
      generalize hPI : pyIter = PI
      wp_walk
      subst hPI
      refine wpAny_pyIter_list hl1 (wpAny_bind (wpAny_runValue ?_))
      have lt : l < s.heap.objs.size := Heap.lt_size ho
      have z1 : (s.heap.push (frSet w)).objs.size = s.heap.objs.size + 1 := Heap.size_push ..
      have nI : l ≠ (s.heap.push (frSet w)).objs.size := by rw [z1]; exact Nat.ne_of_lt (Nat.lt_succ_of_lt lt)
      have nS : s.heap.objs.size ∉ [(s.heap.push (frSet w)).objs.size, l] := by
        rw [z1, List.mem_cons, List.mem_singleton, not_or]
        exact ⟨Nat.ne_of_lt (Nat.lt_succ_self _), Nat.ne_of_gt lt⟩
      refine set_loop ((Walks.list (by simp [hh]) _ l nI items).toS) nS go items.size 0 _ (Nat.zero_add _) ⟨⟨_, Heap.get?_push_size _ rfl, rfl, rfl⟩, hl1.push _⟩ (go.new _ (Heap.get?_push_of_some _ oS)) fun s3 m r3 => ?_
      obtain ⟨h3, g3, d3, t3, os3⟩ := s3
      obtain rfl : g3 = s.gens := m.gens
      obtain rfl : d3 = s.drawn := m.drawn
      obtain rfl : os3 = s.os := m.os
      show wpAny _ _ _ _ _ _
      refine wpAny_pure ?_
      show wpAny _ _ (PySem.ret Value.none) _ _ _
      refine wpAny_pure ⟨rfl, h3, t3, rfl, r3, fun b o e => m.heap b o ?_ (Heap.get?_push_of_some _ (Heap.get?_push_of_some _ e))⟩
      have lb : b < s.heap.objs.size := Heap.lt_size e
      rw [List.mem_cons, List.mem_singleton, not_or]
      exact ⟨Nat.ne_of_lt lb, by rw [z1]; exact Nat.ne_of_lt (Nat.lt_succ_of_lt lb)⟩
    · match r2, hr2 with
      | .error e, hr2 => exact hr2
      | .ok (.ret u), hr2 =>
        obtain ⟨rfl, h', tk, rfl, r3, k'⟩ := hr2
        repeat (any_goals (first | assumption | wp_step))
        exact h _ _ r3 k'
theorem call_set_t {l : Addr} {items : Array Value} {SR : Heap → Nat → Prop} {Q : Value → Shared → Prop} (hh : A.handled = none) (hl : s.heap.IsTuple l items) (go : SetGoes P w s.heap.objs.size items.size items SR)
    (h : ∀ (h' : Heap) (tk : Nat), SR h' items.size → (∀ b o, s.heap.get? b = some o → h'.get? b = some o) → Q (.ref s.heap.objs.size) { s with heap := h', toks := tk }) : wpAny (model P w) A (call (.type "set") [.ref l]) Q E s := by
  obtain ⟨c, tl, mro⟩ := F.called_set.mro
  have k1 := F.called_set.made
  have k2 := F.called_set.sub
  have k3 := F.called_set.notType
  have k4 := F.called_set.canCreate
  have k5 := F.typeCall_set_1 (.ref l)
  refine wpAny_call (codeAny_of_tree ?_)
  show wpAny _ _ (callAny (.type "set") _) _ _ _
  refine wpAny_pure ⟨Code.quiet_builtin _ (by decide +kernel), codeAny_builtin F.entry_type_call ?_⟩
  rw [Around.under_plain (weight_type_call_type "set" [.ref l] []) rfl]
  repeat (any_goals (first | assumption | wp_step))
  refine codeAny_mono (code_set_led1 (.ref l) (E := E) (Q₁ := fun u s1 => u = .ref s.heap.objs.size ∧ s1 = { s with heap := s.heap.push (frSet w) }) ⟨rfl, rfl⟩) fun r s1 hr => ?_
  match r, hr with
  | .error e, hr => exact hr
  | .ok (.ret u), hr =>
    obtain ⟨rfl, rfl⟩ := hr
    have oS : (s.heap.push (frSet w)).get? s.heap.objs.size = some (frSet w) := Heap.get?_push_size _ rfl
    have tS : Shared.TypeIs { s with heap := s.heap.push (frSet w) } (.ref s.heap.objs.size) "set" := ⟨_, oS, rfl⟩
    have k6 := F.called_set.init.lookup
    have k7 := F.called_set.init.bind (.ref s.heap.objs.size)
    repeat (any_goals (first | assumption | wp_step))
    refine codeAny_mono (codeAny_call_builtin (R := wants (fun r s2 => r = .none ∧ ∃ h' tk, s2 = { s with heap := h', toks := tk } ∧ SR h' items.size ∧ ∀ b o, s.heap.get? b = some o → h'.get? b = some o) E) F.called_set.init.plain F.entry_set_init (check_set_init_1 tS ?_)) fun r2 s2 hr2 => ?_
    · obtain ⟨⟨oc, od, dt, os⟩, ho, hc, nl, hd⟩ := hl
      simp only at hc hd
      subst hc hd
      have ho' : (s.heap.push (frSet w)).get? l = some ⟨.type "tuple", od, .seq items nl, os⟩ := Heap.get?_push_of_some _ ho
      have k8 := F.sub_tuple_set
      have k9 := F.sub_tuple_frozenset
      have k0 : (Value.type "tuple" == Value.type "dict") = false := by decide
      have hl1 : (s.heap.push (frSet w)).IsTuple l items := ⟨_, ho', rfl, nl, rfl⟩
      unfold Builtin.«set.__init__» noKeywords Builtin.Frozenset.updateFrom
      generalize hPI : pyIter = PI
      wp_walk
      subst hPI
      refine wpAny_pyIter_tuple hl1 (wpAny_bind (wpAny_runValue ?_))
      have lt : l < s.heap.objs.size := Heap.lt_size ho
      have z1 : (s.heap.push (frSet w)).objs.size = s.heap.objs.size + 1 := Heap.size_push ..
      have nI : l ≠ (s.heap.push (frSet w)).objs.size := by rw [z1]; exact Nat.ne_of_lt (Nat.lt_succ_of_lt lt)
      have nS : s.heap.objs.size ∉ [(s.heap.push (frSet w)).objs.size, l] := by
        rw [z1, List.mem_cons, List.mem_singleton, not_or]
        exact ⟨Nat.ne_of_lt (Nat.lt_succ_self _), Nat.ne_of_gt lt⟩
      refine set_loop ((Walks.tuple (by simp [hh]) _ l nI items).toS) nS go items.size 0 _ (Nat.zero_add _) ⟨⟨_, Heap.get?_push_size _ rfl, rfl, rfl⟩, hl1.push _⟩ (go.new _ (Heap.get?_push_of_some _ oS)) fun s3 m r3 => ?_
      obtain ⟨h3, g3, d3, t3, os3⟩ := s3
      obtain rfl : g3 = s.gens := m.gens
      obtain rfl : d3 = s.drawn := m.drawn
      obtain rfl : os3 = s.os := m.os
      show wpAny _ _ _ _ _ _
      refine wpAny_pure ?_
      show wpAny _ _ (PySem.ret Value.none) _ _ _
      refine wpAny_pure ⟨rfl, h3, t3, rfl, r3, fun b o e => m.heap b o ?_ (Heap.get?_push_of_some _ (Heap.get?_push_of_some _ e))⟩
      have lb : b < s.heap.objs.size := Heap.lt_size e
      rw [List.mem_cons, List.mem_singleton, not_or]
      exact ⟨Nat.ne_of_lt lb, by rw [z1]; exact Nat.ne_of_lt (Nat.lt_succ_of_lt lb)⟩
    · match r2, hr2 with
      | .error e, hr2 => exact hr2
      | .ok (.ret u), hr2 =>
        obtain ⟨rfl, h', tk, rfl, r3, k'⟩ := hr2
        repeat (any_goals (first | assumption | wp_step))
        exact h _ _ r3 k'
end
end ME
end

section
set_option maxHeartbeats 4000000
namespace ME
open PySem PySem.Spec L2
open PyProof.Rows hiding St

/-- how many unlike ones -/
def dn {α : Type} [DecidableEq α] : List α → Nat
  | [] => 0
  | x :: l => if x ∈ l then dn l else dn l + 1
theorem dn_le {α : Type} [DecidableEq α] : ∀ l : List α, dn l ≤ l.length
  | [] => Nat.le_refl _
  | x :: l => by
    unfold dn
    have := dn_le l
    split
    · exact Nat.le_succ_of_le this
    · exact Nat.succ_le_succ this
theorem dn_nodup {α : Type} [DecidableEq α] : ∀ l : List α, dn l = l.length ↔ l.Nodup
  | [] => by simp [dn]
  | x :: l => by
    have h := dn_le l
    have ih := dn_nodup l
    rw [List.nodup_cons]
    unfold dn
    split
    · rename_i c
      constructor
      · intro z
        rw [z] at h
        exact absurd h (by simp)
      · intro z
        exact absurd c z.1
    · rename_i c
      rw [List.length_cons, Nat.succ.injEq, ih]
      exact ⟨fun z => ⟨c, z⟩, fun z => z.2⟩
section
variable {P : Program} {w : World} {S : Addr}
theorem take_rev {α : Type} {l : List α} {i : Nat} {x : α} (h : l[i]? = some x) : (l.take (i + 1)).reverse = x :: (l.take i).reverse := by
  rw [List.take_add_one, h]
  simp
theorem goes_ints {items : Array Value} {ns : List Int} (hi : IntsAre items.toList ns) (hb : ns.length + 1 < scanBound) : SetGoes P w S items.size items (fun h i => SetR w h S (fun j => decide (j ∈ (ns.take i).reverse)) (dn (ns.take i).reverse)) where
  at_ h h' i r k := r.at k
  new h e := by
    have q := setR_new_at (ns := ns) e
    exact q.congr fun k => by simp
  add A E Q i v s hl hv r fin := by
    have sz : items.size = ns.length := by
      have z := IntsAre.length hi
      rwa [Array.length_toList] at z
    have hl' : i < ns.length := by omega
    obtain ⟨t, e⟩ := PyProof.Rows.IntsAre.int_at hi i v (by rw [Array.getElem?_toList]; exact hv)
    have e2 : ns.getD i 0 = ns[i] := by rw [List.getD_eq_getElem?_getD, List.getElem?_eq_getElem hl'] <;> rfl
    rw [e2] at e
    subst e
    have tr := take_rev (List.getElem?_eq_getElem hl')
    have hd := dn_le (ns.take i).reverse
    rw [List.length_reverse, List.length_take] at hd
    unfold setAdd
    refine wpAny_holding (wpAny_bind ((intKind P w).pyHash (k := ns[i]) (intKind_is _ _ _ _) ?_))
    refine setR_add_hashed (P := P) (s := { s with toks := s.toks + 1 }) r (by omega) fun h' sb r2 => ?_
    refine fin h' _ _ sb (Nat.le_succ _) ?_
    rw [tr]
    have en : dn (ns[i] :: (ns.take i).reverse) = if decide (ns[i] ∈ (ns.take i).reverse) = true then dn (ns.take i).reverse else dn (ns.take i).reverse + 1 := by
      unfold dn
      by_cases c : ns[i] ∈ (ns.take i).reverse
      · rw [if_pos c, if_pos (decide_eq_true c)]
        cases h : (ns.take i).reverse with
        | nil => rw [h] at c; cases c
        | cons a b => rfl
      · rw [if_neg c, if_neg (by simpa using c)]
        cases h : (ns.take i).reverse <;> rfl
    rw [en]
    exact r2.congr fun k => by
      by_cases c : k = ns[i]
      · subst c; simp
      · simp [c]
theorem goes_strs {items : Array Value} {xs : List Str} (hi : StrsAre items.toList xs) (hb : xs.length + 1 < scanBound) : SetGoes P w S items.size items (fun h i => h.SetOf (PySem.strKind P w) S (fun j => decide (j ∈ (xs.take i).reverse)) (dn (xs.take i).reverse)) where
  at_ h h' i r k := by
    obtain ⟨o, es, ep, tb, ho, rest⟩ := r
    exact ⟨o, es, ep, tb, k _ ho, rest⟩
  new h e := by
    have q := (PyProof.Rows.setObjOf_fresh (knd := PySem.strKind P w) (!w.params.followText "set-order")).setOf e (by unfold scanBound; omega)
    exact SetOf_congr q (fun k => by simp) rfl
  add A E Q i v s hl hv r fin := by
    have sz : items.size = xs.length := by
      have z := PyProof.Rows.StrsAre.len_eq hi
      rwa [Array.length_toList] at z
    have hl' : i < xs.length := by omega
    obtain ⟨t, e⟩ := SS.strs_at hi i v (by rw [Array.getElem?_toList]; exact hv)
    have e2 : xs.getD i Str.empty = xs[i] := by rw [List.getD_eq_getElem?_getD, List.getElem?_eq_getElem hl'] <;> rfl
    rw [e2] at e
    subst e
    have tr := take_rev (List.getElem?_eq_getElem hl')
    have hd := dn_le (xs.take i).reverse
    rw [List.length_reverse, List.length_take] at hd
    unfold setAdd
    refine wpAny_holding (wpAny_bind ((PySem.strKind P w).pyHash (k := xs[i]) (strKind_is _ _ _ _) ?_))
    refine wpAny_setAddHashed_of (knd := PySem.strKind P w) (s := { s with toks := s.toks + 1 }) (strKind_is _ _ _ _) rfl r (by omega) fun h' sb r2 => ?_
    refine fin h' _ _ sb (Nat.le_succ _) ?_
    rw [tr]
    refine SetOf_congr r2 (fun k => ?_) ?_
    · by_cases c : k = xs[i]
      · subst c; simp
      · simp [c]
    · show _ = if xs[i] ∈ (xs.take i).reverse then dn (xs.take i).reverse else dn (xs.take i).reverse + 1
      by_cases c : xs[i] ∈ (xs.take i).reverse
      · rw [if_pos c, if_pos (decide_eq_true c)]
      · rw [if_neg c, if_neg (by simpa using c)]
end
/-- a set of n -/
def SetN (p : Addr) (n : Nat) : HO := .ext fun h => ∃ o es ep t, h.get? p = some o ∧ o.ExactSet ∧ o.data = .set es ep t ∧ t.fits es.size = true ∧ es.size = n
def SetI (w : World) (p : Addr) (S : Int → Bool) (n : Nat) : HO := SetO w p S n
def asInts : List D → Option (List Int)
  | [] => some []
  | .int i :: l => (asInts l).map (i :: ·)
  | _ :: _ => none
theorem asInts_ok : ∀ {l : List D} {ns : List Int}, asInts l = some ns → l = ns.map .int
  | [], _, h => by cases h; rfl
  | .int i :: l, ns, h => by
    unfold asInts at h
    cases e : asInts l with
    | none => rw [e] at h; cases h
    | some zs =>
      rw [e] at h
      cases h
      rw [asInts_ok e] <;> rfl
  | .none :: _, _, h => nomatch h
  | .bool _ :: _, _, h => nomatch h
  | .str _ :: _, _, h => nomatch h
  | .list _ :: _, _, h => nomatch h
  | .tuple _ :: _, _, h => nomatch h
  | .dict _ :: _, _, h => nomatch h
theorem asInts_of : ∀ ns : List Int, asInts (ns.map .int) = some ns
  | [] => rfl
  | n :: ns => by
    show (asInts (ns.map .int)).map (n :: ·) = some (n :: ns)
    rw [asInts_of ns] <;> rfl
theorem dp_ints {K : PySem.W.Frag} {F : Hp} : ∀ {ns : List Int} {vs : List V}, DpAll K F vs (ns.map .int) → vs = ns.map V.int
  | [], _, h => by cases h; rfl
  | n :: ns, _, h => by
    cases h with
    | cons h1 h2 =>
      cases h1
      rw [dp_ints h2] <;> rfl
theorem ints_dp {K : PySem.W.Frag} {F : Hp} : ∀ ns : List Int, DpAll K F (ns.map V.int) (ns.map .int)
  | [] => .nil
  | n :: ns => .cons (.int n) (ints_dp ns)
/-- set(xs): how many -/
def rSetN (K : PySem.W.Frag) : List V → Hp → VK → Prop := fun xs H Q => ∃ (l : Addr) (vs : List V) (n : Nat), xs = [.ref l] ∧ (SqL K H l vs ∨ SqT K H l vs) ∧ vs.length + 1 < scanBound ∧ ((∃ ns : List Int, vs = ns.map V.int ∧ n = dn ns.reverse) ∨ ∃ zs : List Str, vs = zs.map V.str ∧ n = dn zs.reverse) ∧
  ∀ p, H p = none → Q (.ref p) (upd H p (SetN p n))
def rSetI (K : PySem.W.Frag) (w : World) : List V → Hp → VK → Prop := fun xs H Q => ∃ (l : Addr) (ns : List Int), xs = [.ref l] ∧ (SqL K H l (ns.map V.int) ∨ SqT K H l (ns.map V.int)) ∧ ns.length + 1 < scanBound ∧
  ∀ p, H p = none → Q (.ref p) (upd H p (SetO w p (fun j => decide (j ∈ ns.reverse)) (dn ns.reverse)))
def rLenN : List V → Hp → VK → Prop := fun xs H Q => ∃ p n, xs = [.ref p] ∧ H p = some (SetN p n) ∧ n < scanBound ∧ Q (.int (n : Nat)) H
section
variable {X : Cx}
theorem setN_ok {P : Program} {w : World} {H : Hp} {h : Heap} {p : Addr} {n : Nat} (r : ∃ o es ep t, h.get? p = some o ∧ o.ExactSet ∧ o.data = .set es ep t ∧ t.fits es.size = true ∧ es.size = n) : ObjOk P w H h p (SetN p n) :=
  ⟨r, (by obtain ⟨o, _, _, _, e, _⟩ := r; exact ⟨o, e⟩), fun h1 h2 z k => by
    obtain ⟨o, es, ep, t, e, q⟩ := z
    exact ⟨o, es, ep, t, k _ e, q⟩⟩
theorem call_setN (hc : X.calm = true) : CallR X (.type "set") (rSetN X.K) := by
  intro pins s σ H xs us Q I r h
  obtain ⟨l, vs, n, rfl, hq, hb, hk, q⟩ := h
  rw [Vals.ref1 r]
  have fin : ∀ (h' : Heap) (tk : Nat), (∃ o es ep t, h'.get? s.heap.objs.size = some o ∧ o.ExactSet ∧ o.data = .set es ep t ∧ t.fits es.size = true ∧ es.size = n) → (∀ b o, s.heap.get? b = some o → h'.get? b = some o) → EP X pins σ Q (.ref s.heap.objs.size) { s with heap := h', toks := tk } := fun h' tk r k =>
    ⟨.ref s.heap.objs.size, upd H s.heap.objs.size (SetN s.heap.objs.size n), I.laid (t' := tk) k (Nat.le_refl _) (setN_ok r), rfl, q _ (I.hok.fresh (Nat.le_refl _))⟩
  have some_ : ∃ items : List Value, Vals vs items ∧ (s.heap.IsList l items.toArray ∨ s.heap.IsTuple l items.toArray) := by
    rcases hq with hq | hq
    · obtain ⟨its, rv, pl, _⟩ := I.list hq
      exact ⟨its, rv, .inl pl.isList⟩
    · obtain ⟨its, rv, pl, _⟩ := I.tuple hq
      exact ⟨its, rv, .inr pl⟩
  obtain ⟨items, rv, hl⟩ := some_
  have lv := rv.length
  rcases hk with ⟨ns, rfl, rfl⟩ | ⟨zs, rfl, rfl⟩
  · rw [List.length_map] at lv hb
    have hi : IntsAre items.toArray.toList ns := by simpa using RZ.intsAre_vals rv
    have go := goes_ints (P := X.prog) (w := X.w) (S := s.heap.objs.size) hi hb
    have out : ∀ (h' : Heap) (tk : Nat), SetR X.w h' s.heap.objs.size (fun j => decide (j ∈ (ns.take items.toArray.size).reverse)) (dn (ns.take items.toArray.size).reverse) → (∀ b o, s.heap.get? b = some o → h'.get? b = some o) → EP X pins σ Q (.ref s.heap.objs.size) { s with heap := h', toks := tk } := fun h' tk r k => by
      rw [List.size_toArray (as := items), ← lv, List.take_length] at r
      obtain ⟨o, es, ep, t, ho, hx, hd, _, _, _, _, hf, hn, _⟩ := r
      exact fin h' tk ⟨o, es, ep, t, ho, hx, hd, hf, hn⟩ k
    rcases hl with hl | hl
    · exact call_set_l (I.ok.hd hc) hl go out
    · exact call_set_t (I.ok.hd hc) hl go out
  · rw [List.length_map] at lv hb
    have hi : StrsAre items.toArray.toList zs := by simpa using L2.strs_of_vals rv
    have go := goes_strs (P := X.prog) (w := X.w) (S := s.heap.objs.size) hi hb
    have out : ∀ (h' : Heap) (tk : Nat), h'.SetOf (PySem.strKind X.prog X.w) s.heap.objs.size (fun j => decide (j ∈ (zs.take items.toArray.size).reverse)) (dn (zs.take items.toArray.size).reverse) → (∀ b o, s.heap.get? b = some o → h'.get? b = some o) → EP X pins σ Q (.ref s.heap.objs.size) { s with heap := h', toks := tk } := fun h' tk r k => by
      rw [List.size_toArray (as := items), ← lv, List.take_length] at r
      obtain ⟨o, es, ep, t, ho, hx, hd, _, _, _, hf, hn⟩ := r
      exact fin h' tk ⟨o, es, ep, t, ho, hx, hd, hf, hn⟩ k
    rcases hl with hl | hl
    · exact call_set_l (I.ok.hd hc) hl go out
    · exact call_set_t (I.ok.hd hc) hl go out
theorem call_setI (hc : X.calm = true) : CallR X (.type "set") (rSetI X.K X.w) := by
  intro pins s σ H xs us Q I r h
  obtain ⟨l, ns, rfl, hq, hb, q⟩ := h
  rw [Vals.ref1 r]
  have some_ : ∃ items : List Value, Vals (ns.map V.int) items ∧ (s.heap.IsList l items.toArray ∨ s.heap.IsTuple l items.toArray) := by
    rcases hq with hq | hq
    · obtain ⟨its, rv, pl, _⟩ := I.list hq
      exact ⟨its, rv, .inl pl.isList⟩
    · obtain ⟨its, rv, pl, _⟩ := I.tuple hq
      exact ⟨its, rv, .inr pl⟩
  obtain ⟨items, rv, hl⟩ := some_
  have lv := rv.length
  rw [List.length_map] at lv
  have hi : IntsAre items.toArray.toList ns := by simpa using RZ.intsAre_vals rv
  have go := goes_ints (P := X.prog) (w := X.w) (S := s.heap.objs.size) hi hb
  have out : ∀ (h' : Heap) (tk : Nat), SetR X.w h' s.heap.objs.size (fun j => decide (j ∈ (ns.take items.toArray.size).reverse)) (dn (ns.take items.toArray.size).reverse) → (∀ b o, s.heap.get? b = some o → h'.get? b = some o) → EP X pins σ Q (.ref s.heap.objs.size) { s with heap := h', toks := tk } := fun h' tk r k => by
    rw [List.size_toArray (as := items), ← lv, List.take_length] at r
    exact ⟨.ref s.heap.objs.size, upd H s.heap.objs.size (SetO X.w s.heap.objs.size _ _), I.laid (t' := tk) k (Nat.le_refl _) (setO_new r), rfl, q _ (I.hok.fresh (Nat.le_refl _))⟩
  rcases hl with hl | hl
  · exact call_set_l (I.ok.hd hc) hl go out
  · exact call_set_t (I.ok.hd hc) hl go out
theorem call_lenN : CallR X (.builtin "len") rLenN := by
  intro pins s σ H xs us Q I r h
  obtain ⟨p, n, rfl, hp, hn, q⟩ := h
  rw [Vals.ref1 r]
  have x : ObjOk X.prog X.w H s.heap p (.ext fun h => ∃ o es ep t, h.get? p = some o ∧ o.ExactSet ∧ o.data = .set es ep t ∧ t.fits es.size = true ∧ es.size = n) := I.hok p _ hp
  obtain ⟨o, es, ep, t, ho, hx, hd, hf, hs⟩ := x.1
  have : scanBound = 4096 := rfl
  exact call_len_set ho hx hd hf (by omega) ⟨.int n, H, I.tok _, ⟨_, by rw [hs]⟩, q⟩
end
/-- the unlike ones, in their order -/
def insU (x : Int) : List Int → List Int
  | [] => [x]
  | y :: l => if x < y then x :: y :: l else if x = y then y :: l else y :: insU x l
def sortU : List Int → List Int
  | [] => []
  | x :: l => insU x (sortU l)
theorem insU_mem {x z : Int} : ∀ {l : List Int}, z ∈ insU x l ↔ z = x ∨ z ∈ l
  | [] => by simp [insU]
  | y :: l => by
    unfold insU
    split
    · simp
    · split
      · rename_i h; subst h; simp
      · rw [List.mem_cons, List.mem_cons, insU_mem (l := l)]
        constructor
        · rintro (h | h | h)
          · exact .inr (.inl h)
          · exact .inl h
          · exact .inr (.inr h)
        · rintro (h | h | h)
          · exact .inr (.inl h)
          · exact .inl h
          · exact .inr (.inr h)
theorem insU_lt {x : Int} : ∀ {l : List Int}, l.Pairwise (· < ·) → (insU x l).Pairwise (· < ·)
  | [], _ => by simp [insU]
  | y :: l, h => by
    rw [List.pairwise_cons] at h
    unfold insU
    split
    · rename_i c
      rw [List.pairwise_cons]
      refine ⟨fun z hz => ?_, by rw [List.pairwise_cons]; exact h⟩
      rcases List.mem_cons.mp hz with e | e
      · rw [e]; exact c
      · exact Int.lt_trans c (h.1 z e)
    · split
      · rw [List.pairwise_cons]; exact h
      · rename_i c1 c2
        rw [List.pairwise_cons]
        refine ⟨fun z hz => ?_, insU_lt h.2⟩
        rcases insU_mem.mp hz with e | e
        · rw [e]; omega
        · exact h.1 z e
theorem sortU_mem {z : Int} : ∀ {l : List Int}, z ∈ sortU l ↔ z ∈ l
  | [] => Iff.rfl
  | x :: l => by
    show z ∈ insU x (sortU l) ↔ _
    rw [insU_mem, sortU_mem, List.mem_cons]
theorem sortU_lt : ∀ l : List Int, (sortU l).Pairwise (· < ·)
  | [] => .nil
  | x :: l => insU_lt (sortU_lt l)
theorem lt_ext : ∀ {l m : List Int}, l.Pairwise (· < ·) → m.Pairwise (· < ·) → (∀ z, z ∈ l ↔ z ∈ m) → l = m
  | [], [], _, _, _ => rfl
  | [], y :: m, _, _, h => absurd ((h y).mpr List.mem_cons_self) (by simp)
  | x :: l, [], _, _, h => absurd ((h x).mp List.mem_cons_self) (by simp)
  | x :: l, y :: m, hl, hm, h => by
    rw [List.pairwise_cons] at hl hm
    have e : x = y := by
      have h1 := (h x).mp List.mem_cons_self
      have h2 := (h y).mpr List.mem_cons_self
      rcases List.mem_cons.mp h1 with e | e
      · exact e
      · rcases List.mem_cons.mp h2 with e2 | e2
        · exact e2.symm
        · have := hl.1 y e2
          have := hm.1 x e
          omega
    subst e
    rw [lt_ext hl.2 hm.2 fun z => ?_]
    constructor
    · intro hz
      rcases List.mem_cons.mp ((h z).mp (List.mem_cons_of_mem _ hz)) with e | e
      · have := hl.1 z hz
        omega
      · exact e
    · intro hz
      rcases List.mem_cons.mp ((h z).mpr (List.mem_cons_of_mem _ hz)) with e | e
      · have := hm.1 z hz
        omega
      · exact e
/-! len(set(xs)), sorted(set(xs)) -/
def seqOf (x : D) : Option (List D) := match x with
  | .list l => some l
  | .tuple l => some l
  | _ => none
def gLenSet (x : D) : Option Ro := match seqOf x with
  | some l => if l.length + 1 < scanBound then (match asInts l, asStrs l with
    | some ns, _ => some (.d (.int (dn ns.reverse : Nat)))
    | none, some zs => some (.d (.int (dn zs.reverse : Nat)))
    | none, none => none) else none
  | none => none
def gSortedSet (x : D) : Option Ro := match (match x with | .list l => asInts l | .tuple l => asInts l | _ => none) with
  | some ns => if ns.length < 64 then some (.fl ((sortU ns).map .int)) else none
  | none => none
section
variable {K : PySem.W.Frag} {F H : Hp}
theorem seq_rep {v : V} {x : D} {l : List D} (s : ∀ a o, F a = some o → H a = some o) (h : DrR K F H v x) (e : seqOf x = some l) : ∃ p vs, v = .ref p ∧ (SqL K H p vs ∨ SqT K H p vs) ∧ DpAll K F vs l := by
  cases x with
  | list l' =>
    cases e
    obtain ⟨p, vs, rfl, h1, r1⟩ := h.list s
    exact ⟨p, vs, rfl, .inl (.inl (.inl h1)), r1⟩
  | tuple l' =>
    cases e
    obtain ⟨p, vs, rfl, h1, r1, _⟩ := h.tuple s
    exact ⟨p, vs, rfl, .inr h1, r1⟩
  | _ => cases e
theorem ud_lenSet : UnD K (fun x H Q => rSetN K [x] H fun y H1 => rLenN [y] H1 Q) gLenSet := fun F H x d o Q s sz hx g q => by
  unfold gLenSet at g
  split at g
  · rename_i l e
    obtain ⟨p, vs, rfl, hs, ha⟩ := seq_rep s hx e
    split at g
    · rename_i c
      rw [← DpAll.len ha] at c
      have fin : ∀ n : Nat, n < scanBound → (∀ F1 H1 v, RoR K F H F1 H1 v (.d (.int (n : Nat))) → Q v H1) → ∀ p, H p = none → rLenN [.ref p] (upd H p (SetN p n)) Q := fun n hn q p hp => ⟨p, n, rfl, upd_same, hn, q F _ _ ⟨New.own s hp, .int _⟩⟩
      split at g
      · rename_i ns e1
        cases g
        have el := asInts_ok e1
        subst el
        have ev := dp_ints ha
        subst ev
        have hd := dn_le ns.reverse
        rw [List.length_reverse] at hd
        rw [List.length_map] at c
        exact ⟨p, _, _, rfl, hs, by rw [List.length_map]; exact c, .inl ⟨ns, rfl, rfl⟩, fin _ (by omega) q⟩
      · rename_i zs e1 e2
        cases g
        have el := asStrs_ok e2
        subst el
        have ev := dp_strs ha
        subst ev
        have hd := dn_le zs.reverse
        rw [List.length_reverse] at hd
        rw [List.length_map] at c
        exact ⟨p, _, _, rfl, hs, by rw [List.length_map]; exact c, .inr ⟨zs, rfl, rfl⟩, fin _ (by omega) q⟩
      · cases g
    · cases g
  · cases g
theorem ud_sortedSet {w : World} : UnD K (fun x H Q => rSetI K w [x] H fun y H1 => rSortedSet w [y] H1 Q) gSortedSet := fun F H x d o Q s sz hx g q => by
  unfold gSortedSet at g
  split at g
  · rename_i ns e
    split at g
    · rename_i c
      cases g
      have hk : ∃ p, x = .ref p ∧ (SqL K H p (ns.map V.int) ∨ SqT K H p (ns.map V.int)) := by
        split at e
        · have el := asInts_ok e
          subst el
          obtain ⟨p, vs, rfl, h1, r1⟩ := hx.list s
          have ev := dp_ints r1
          subst ev
          exact ⟨p, rfl, .inl (.inl (.inl h1))⟩
        · have el := asInts_ok e
          subst el
          obtain ⟨p, vs, rfl, h1, r1, _⟩ := hx.tuple s
          have ev := dp_ints r1
          subst ev
          exact ⟨p, rfl, .inr h1⟩
        · cases e
      obtain ⟨p, rfl, hs⟩ := hk
      have hd := dn_le ns.reverse
      rw [List.length_reverse] at hd
      have sb : scanBound = 4096 := rfl
      refine ⟨p, ns, rfl, hs, by omega, fun a ha => ⟨a, _, _, rfl, upd_same, by omega, fun ms b hm hmem _ hb => ?_⟩⟩
      have em : ms = sortU ns := lt_ext hm (sortU_lt ns) fun z => by rw [hmem, sortU_mem]; simp
      subst em
      have n1 := New.own (F := F) (o := SetO w a (fun j => decide (j ∈ ns.reverse)) (dn ns.reverse)) s ha
      have n2 := New.own (F := F) (o := .lst ((sortU ns).map V.int)) n1.sub hb
      refine q F _ _ ⟨n1.trans n2, b, _, rfl, ?_, upd_same, ?_, ints_dp _⟩
      · by_cases z : b = a
        · rw [z]; exact ha
        · rwa [upd_ne z] at hb
      · cases z : F b with
        | none => rfl
        | some o => rw [n1.sub _ _ z] at hb; cases hb
    · cases g
  · cases g
end
end ME
end

section
set_option maxHeartbeats 4000000
namespace ME
open PySem PySem.Spec L2
open PyProof.Rows hiding St

/-! ### the law's call -/
theorem law_callG {P : Program} {w : World} {K : PySem.W.Frag} {mg mb : Str → Option Value} {k : Nat} {fa a : Addr} {fd : FuncData} {x : Str} {f : Fn} {s1 : Shared} {vs : List Value} {ns : List Int} {S' : T}
    (kx : K.In s1.heap) (hm : s1.heap.Ns mainGlobals mg) (hb : s1.heap.Ns builtinsNs mb) (hbb : ∀ x : Str, x ≠ "__name__" → mb x = bootBuiltins x) (hl : s1.heap.NoLimit) (hg : s1.gens = #[])
    (ha : s1.heap.get? a = some { cls := .type "list", data := .seq vs.toArray }) (hi : IntsAre vs ns) (hz : ns.length ≤ sizeLine) (hka : K.lookup a = none) (hr : Room k callerA)
    (F : ∀ base : Heap, K.In base → base.Ns mainGlobals mg → FnG P w K mg base k fa fd [x] (spM K 1 f)) (bt : ∀ (s : Shared) (u : Value), BindsTo s fd ⟨[u], []⟩ [(x, u)]) (hf : f [.w 0] [.frz ns] = .ok (.d (.bool true)) S') :
    codeAny (model P w) callerA (.call (.ref fa) ⟨[.ref a], []⟩) (fun r s' => r = .ok (.ret (.bool true)) ∧ OldK s1.heap s'.heap ∧ s'.os = s1.os ∧ AllBare s'.gens) s1 := by
  have rv := L2.vals_ints hi
  obtain ⟨H, eH⟩ : ∃ H : Hp, H = upd (fun _ => none) a (.frz { cls := .type "list", data := .seq vs.toArray } (.lst (ns.map V.int))) := ⟨_, rfl⟩
  have Ha : H a = some (.frz { cls := .type "list", data := .seq vs.toArray } (.lst (ns.map V.int))) := by rw [eH, upd_same]
  have Hn : ∀ b, b ≠ a → H b = none := fun b h => by rw [eH, upd_ne h]
  have ob : ∀ {b : Addr} {o : Obj}, s1.heap.get? b = some o → b ≠ a → (hidT s1.heap H).get? b = some o := fun e n => hidT_get e (Hn _ n)
  have nsb : ∀ {b : Addr} {m : Str → Option Value}, s1.heap.Ns b m → (hidT s1.heap H).Ns b m := fun {b m} ⟨o, es, ep, e, d, r⟩ => by
    refine ⟨o, es, ep, ob e ?_, d, r⟩
    rintro rfl
    rw [ha] at e
    cases e
    cases d
  have kb : K.In (hidT s1.heap H) := fun b o e => ob (kx b o e) (by rintro rfl; rw [hka] at e; cases e)
  have md : Mod K mg (hidT s1.heap H) := ⟨kb, nsb hm, ⟨mb, nsb hb, hbb⟩, by obtain ⟨mc, h1, h2⟩ := hl; exact ⟨mc, nsb h1, h2⟩⟩
  have hok : HOk P w H s1.heap := fun b u e => by
    by_cases q : b = a
    · subst q
      rw [Ha] at e
      cases e
      exact ⟨ha, by rw [List.length_map]; exact hz, vs, _, rv, ha⟩
    · rw [Hn b q] at e
      cases e
  have e0 : Env0 P w K mg (hidT s1.heap H) callerA [] s1 H := ⟨rfl, md, fun b o e => of_hidT e, Nat.le_of_eq (hidT_size _ _), trivial, fun b h => absurd (show b ∈ ([] : List Addr) from h) (by simp), hok, .of_eq hg⟩
  have sp : spM K 1 f [.ref a] H (fun v _ => v = .bl true) (fun _ _ _ => False) := by
    refine ⟨fun _ => none, [a], [.frz ns], [.w 0], rfl, ⟨fun _ _ z => (nomatch z), fun _ _ => rfl, by simp, .cons ⟨_, Ha⟩ .nil, fun i s z => by simp at z, fun i j l l' z => by simp at z⟩, .cons ⟨a, rfl, rfl⟩ .nil, ?_⟩
    rw [hf]
    intro F' A' x H' _ _ r
    have r : Dp K F' x (.bool true) := r
    cases r
    rfl
  refine codeAny_mono ((F _ kb (nsb hm)).go callerA [] s1 H ⟨[.ref a], []⟩ [.ref a] [.ref a] _ _ rfl hr e0 (bt s1 (.ref a)) (.cons rfl .nil) sp) fun r s' q => ?_
  match r, q with
  | .error e, q =>
    obtain ⟨_, _, _, _, _, _, _, _, _, _, _, _, z⟩ := q
    exact z.elim
  | .ok (.ret u), q =>
    obtain ⟨v, H2, os, bare, un, hok2, r', q⟩ := q
    obtain rfl : v = .bl true := q
    obtain rfl : u = Value.bool true := r'
    refine ⟨rfl, OldK.of_keep fun b o e => ?_, os, bare⟩
    by_cases q : b = a
    · subst q
      obtain ⟨e1, _⟩ := hok b _ Ha
      obtain ⟨e2, _⟩ := hok2 b _ (un.frzs b _ _ Ha)
      rw [e1] at e
      cases e
      exact e2
    · exact un.keep b o e (Hn b q) (fun z => absurd (show b ∈ ([] : List Addr) from z) (by simp)) (by simp)
end ME
end

section
set_option maxHeartbeats 4000000
namespace ME
open PySem PySem.Spec L2
open PyProof.Rows hiding St

/-! ### the head's facts, with some of one's own; no list among them -/
abbrev Fx := PySem.W.Frag → Bool
def noLst (K : PySem.W.Frag) : Bool := K.all fun p => match p.2.cls with
  | .type c => !(c == "list")
  | _ => true
abbrev AlM : Type := Bool × He.AlD
def obsM (fa : List He.Fa) (xs : List Fx) (fn : List He.DefD) (K : PySem.W.Frag) : AlM := (noLst K && xs.all fun x => x K, He.obsD fa fn K)
def valM (fn : List He.DefD) : AlM := (true, He.valD fn)
def SaysM (fa : List He.Fa) (xs : List Fx) (fn : List He.DefD) (K : PySem.W.Frag) : Prop := obsM fa xs fn K = valM fn
def obsMG (n : Nat) (fa : List He.Fa) (xs : List Fx) (fn : List He.DefD) (g : Addr → Option Obj) : AlM := obsM fa xs fn (He.frG g (He.asD g n))
def hookM (n : Nat) (fa : List He.Fa) (xs : List Fx) (fn : List He.DefD) : PySem.W.Hook where
  α := AlM
  obs := fun s => obsMG n fa xs fn s.heap.get?
  val := fun _ => valM fn
  says := fun _ h => ∃ K : PySem.W.Frag, K.In h ∧ SaysM fa xs fn K
  of := fun _ _ e => ⟨_, He.frG_in, e⟩
  keeps := fun _ _ _ ⟨K, hK, c⟩ k => ⟨K, PySem.W.Frag.In.keeps hK k, c⟩
theorem obsMG_eq {n : Nat} {fa : List He.Fa} {xs : List Fx} {fn : List He.DefD} {g : Addr → Option Obj} {s : Shared} (h : ∀ a, g a = s.heap.get? a) : obsMG n fa xs fn g = (hookM n fa xs fn).obs s := by
  have e : g = s.heap.get? := funext h
  rw [e] <;> rfl
section
variable {fa : List He.Fa} {xs : List Fx} {fn : List He.DefD} {K : PySem.W.Frag}
theorem SaysM.d (c : SaysM fa xs fn K) : He.SaysD fa fn K := congrArg (fun z : AlM => z.2) c
theorem SaysM.b (c : SaysM fa xs fn K) : (noLst K && xs.all fun x => x K) = true := congrArg (fun z : AlM => z.1) c
theorem SaysM.x (c : SaysM fa xs fn K) (i : Nat) {f : Fx} (h : xs[i]? = some f := by rfl) : f K = true := List.all_eq_true.mp (Bool.and_eq_true_iff.mp c.b).2 f (List.mem_of_getElem? h)
theorem look_mem {a : Addr} {o : Obj} : ∀ {K : PySem.W.Frag}, K.lookup a = some o → (a, o) ∈ K
  | [], h => nomatch (show (none : Option Obj) = some o from h)
  | (b, u) :: K, h => by
    have h : (match a == b with | true => some u | false => K.lookup a) = some o := h
    cases e : (a == b) with
    | true =>
      rw [e] at h
      cases h
      rw [beq_iff_eq.mp e]
      exact List.mem_cons_self
    | false =>
      rw [e] at h
      exact List.mem_cons_of_mem _ (look_mem h)
theorem SaysM.noList (c : SaysM fa xs fn K) {a : Addr} {o : Obj} (h : K.lookup a = some o) : o.cls ≠ .type "list" := fun e => by
  have z := List.all_eq_true.mp (Bool.and_eq_true_iff.mp c.b).1 _ (look_mem h)
  dsimp only at z
  rw [e] at z
  cases z
end
/-- a law, from its def as a function -/
theorem walk_ofG {l : PySem.W.OpenLaw} {n k : Nat} {q : Program} {loose : List Str} {XP : (Str → Option Value) → Heap → Prop} {YP : World → Heap → Prop} {d : DefRec} {x : Str}
    (hn : l.most = some n) (hn2 : n ≤ sizeLine) (hdf : d.params.defaults = []) (hr : Room k callerA)
    (F : ∀ (w : World) (mg : Str → Option Value) (fa : Addr) (h : Heap), YP w h → h.Ns mainGlobals mg → mg d.name = some (.ref fa) →
      ∃ (K : PySem.W.Frag) (fd : FuncData) (f : Fn), K.In h ∧ (∀ a o, K.lookup a = some o → o.cls ≠ .type "list") ∧ (∀ (s : Shared) (u : Value), BindsTo s fd ⟨[u], []⟩ [(x, u)]) ∧
        (∀ ns : List Int, ns.length ≤ n → ∃ S', f [.w 0] [.frz ns] = .ok (.d (.bool true)) S') ∧ ∀ base : Heap, K.In base → base.Ns mainGlobals mg → FnG l.prog w K mg base k fa fd [x] (spM K 1 f)) :
    PySem.W.WalkO q loose XP YP l.row.toRowW d [] (fun f vs => PySem.call f vs) := by
  refine Att.attach_call hn hdf fun w s0 s1 mg mb fa o pm cd doc a vs ns G Y ho hd hcd hmg hobj hints hlen hg => ?_
  obtain ⟨K, fd, f, kx, nl, bt, hf, go⟩ := F w mg fa _ Y G.T.g hmg
  obtain ⟨S', e⟩ := hf ns hlen
  have hka : K.lookup a = none := by
    cases q : K.lookup a with
    | none => rfl
    | some o =>
      have z := kx a o q
      rw [hobj] at z
      cases z
      exact absurd rfl (nl a _ q)
  exact law_callG kx G.T.g G.T.b G.T.builtins G.T.nolimit hg hobj hints (Nat.le_trans hlen hn2) hka hr go bt e
end ME
end

section
set_option maxHeartbeats 4000000
namespace ME
open PySem PySem.Spec L2
open PyProof.Rows hiding St

/-! ### the rules in short -/
abbrev k1 (g : D → Option Ro) : List D → Option Ro := fun ds => match ds with
  | [d] => g d
  | _ => none
abbrev k2 (g : D → D → Option Ro) : List D → Option Ro := fun ds => match ds with
  | [d, e] => g d e
  | _ => none
/-- a test by a value that is a bool -/
def mB (m : M Val) : M Bool := bind m fun v ρ S => match v with
  | .d (.bool b) => .ok b ρ S
  | _ => .bad
section
variable {X : Cx} {W : WX} {a b c e : Expr} {ma mb mc : M Val} {pos p p2 q : Pos}
theorem mB_read {t : TE} (h : PE X e t) : True := trivial
theorem tB_read {K : PySem.W.Frag} {m : M Val} {σ : St} {H : Hp} {Q : Bool → Hp → Prop} (q : tT K W (mB m) σ H Q) : tE K W m σ H fun x H' => ∃ k, x = .bl k ∧ Q k H' := by
  obtain ⟨F, A, ρ, S, as, q⟩ := q
  refine ⟨F, A, ρ, S, as, q.bind Ev.refl fun v ρ1 S1 F1 A1 x H1 _ _ ev as1 r1 q1 => ?_⟩
  cases v with
  | own j => exact q1.elim
  | w k => exact q1.elim
  | fl l => exact q1.elim
  | d y =>
    cases y with
    | bool b =>
      have r1 : Dp K F1 x (.bool b) := r1
      cases r1
      exact ⟨b, rfl, Post.now (rel := rBool) q1 ev as1 rfl⟩
    | _ => exact q1.elim
/-- the reading of an operation -/
theorem op_read {r : R2} {g : D → D → Option Ro} (hg : OpD X.K r g) {σ : St} {H : Hp} {Q : VK} (q : tE X.K W (mOp g ma mb) σ H Q) : tOp r (tE X.K W ma) (fun σ H Q => tE X.K W mb σ H fun v H' => Sized X.K H' → Q v H') σ H Q := by
  obtain ⟨F, A, ρ, S, as, q⟩ := q
  refine ⟨F, A, ρ, S, as, q.bind Ev.refl fun a ρ1 S1 F1 A1 x H1 _ _ ev as1 r1 q1 => ?_⟩
  refine ⟨F1, A1, ρ1, S1, as1, q1.bind ev fun b ρ2 S2 F2 A2 y H2 _ ev2 ev02 as2 r2 q2 sz => ?_⟩
  cases d1 : dr ρ2 a with
  | none => rw [d1] at q2; exact q2.elim
  | some u =>
    rw [d1] at q2
    cases d2 : dr ρ2 b with
    | none => rw [d2] at q2; exact q2.elim
    | some v =>
      rw [d2] at q2
      dsimp only at q2
      unfold roM at q2
      cases eo : g u v with
      | none => rw [eo] at q2; exact q2.elim
      | some o =>
        rw [eo] at q2
        exact hg F2 H2 x y u v o Q as2.sub sz (dr_rep as2 (r1.up ev2 rfl) d1) (dr_rep as2 r2 d2) eo fun F3 H3 v h3 => h3.fin q2 ev02 as2
theorem mt_cmp {op : CmpOp} {r : R2} {g : D → D → Option Ro} (ho : OpR X (compareOp op) r) (hg : OpD X.K r g) (ha : ME X W a ma) (hb : ME X W b mb) (hm : behindInMarks op b = false := by first | exact nomark _ | with_unfolding_all rfl) : MT X W (.Compare a [op] [b] pos) (mB (mOp g ma mb)) :=
  PT.weak (pt_cmpR ho ha (PE.sized hb) hm) fun pins σ H s Q I q => op_read hg (tB_read q)
theorem chain_read {r r' : R2} {g g' : D → D → Option Ro} (hg : OpD X.K r g) (hg' : OpD X.K r' g') {σ : St} {H : Hp} {Q : VK} (q : tE X.K W (mChain g g' ma mb mc) σ H Q) : tChain r r' (tE X.K W ma) (fun σ H Q => tE X.K W mb σ H fun v H' => Sized X.K H' → Q v H') (fun σ H Q => tE X.K W mc σ H fun v H' => Sized X.K H' → Q v H') σ H Q := by
  obtain ⟨F, A, ρ, S, as, q⟩ := q
  refine ⟨F, A, ρ, S, as, q.bind Ev.refl fun a ρ1 S1 F1 A1 x H1 _ _ ev as1 r1 q1 => ?_⟩
  refine ⟨F1, A1, ρ1, S1, as1, q1.bind ev fun b ρ2 S2 F2 A2 y H2 _ ev2 ev02 as2 r2 q2 sz => ?_⟩
  split at q2
  · rename_i u v d1 d2
    have go : ∀ {o}, g u v = some o → (∀ F3 H3 v, RoR X.K F2 H2 F3 H3 v o → ∃ k, v = .bl k ∧ (if k = true then tE X.K W mc σ H3 fun w' H4 => Sized X.K H4 → r' y w' H4 Q else Q (.bl false) H3)) → r x y H2 fun z H3 => ∃ k, z = .bl k ∧ (if k = true then tE X.K W mc σ H3 fun w' H4 => Sized X.K H4 → r' y w' H4 Q else Q (.bl false) H3) :=
      fun {o} eo f => hg F2 H2 x y u v o _ as2.sub sz (dr_rep as2 (r1.up ev2 rfl) d1) (dr_rep as2 r2 d2) eo f
    split at q2
    · rename_i eo
      refine go eo fun F3 H3 v h3 => ?_
      obtain ⟨n, h3⟩ := h3
      cases h3
      refine ⟨true, rfl, ?_⟩
      rw [if_pos rfl]
      have ev3 := ev02.trans (n.ev (A := A2) (ρ := ρ2) (σ := σ))
      refine ⟨F3, A2, ρ2, S2, as2.new n, q2.bind ev3 fun c ρ4 S4 F4 A4 z H4 _ ev4 ev04 as4 r4 q4 sz4 => ?_⟩
      split at q4
      · rename_i y' z' d3 d4
        unfold roM at q4
        cases eo' : g' y' z' with
        | none => rw [eo'] at q4; exact q4.elim
        | some o =>
          rw [eo'] at q4
          exact hg' F4 H4 y z y' z' o Q as4.sub sz4 (dr_rep as4 ((r2.up n.ev rfl).up ev4 rfl) d3) (dr_rep as4 r4 d4) eo' fun F5 H5 v h5 => h5.fin q4 ev04 as4
      · exact q4.elim
    · rename_i eo
      refine go eo fun F3 H3 v h3 => ?_
      obtain ⟨n, h3⟩ := h3
      cases h3
      refine ⟨false, rfl, ?_⟩
      rw [if_neg Bool.false_ne_true]
      exact q2.now (ev02.trans n.ev) (as2.new n) (Dp.bl false)
    · exact q2.elim
  · exact q2.elim
theorem mt_chain {op op' : CmpOp} {r r' : R2} {g g' : D → D → Option Ro} (ho : OpR X (compareOp op) r) (hg : OpD X.K r g) (ho' : OpR X (compareOp op') r') (hg' : OpD X.K r' g') (ha : ME X W a ma) (hb : ME X W b mb) (hc : ME X W c mc)
    (hm : lastMarks [op, op'] [b, c] = false := by with_unfolding_all rfl) : MT X W (.Compare a [op, op'] [b, c] pos) (mB (mChain g g' ma mb mc)) :=
  PT.weak (pt_chain ho ho' ha (PE.sized hb) (PE.sized hc) hm) fun pins σ H s Q I q => chain_read hg hg' (tB_read q)
theorem me_chn {op op' : CmpOp} {r r' : R2} {g g' : D → D → Option Ro} (ho : OpR X (compareOp op) r) (hg : OpD X.K r g) (ho' : OpR X (compareOp op') r') (hg' : OpD X.K r' g') (ha : ME X W a ma) (hb : ME X W b mb) (hc : ME X W c mc)
    (hm : lastMarks [op, op'] [b, c] = false := by with_unfolding_all rfl) : ME X W (.Compare a [op, op'] [b, c] pos) (mChain g g' ma mb mc) :=
  PE.weak (pe_chain ho ho' ha (PE.sized hb) (PE.sized hc) hm) fun pins σ H s Q I q => chain_read hg hg' q
theorem me_cm {op : CmpOp} {r : R2} {g : D → D → Option Ro} (ho : OpR X (compareOp op) r) (hg : OpD X.K r g) (ha : ME X W a ma) (hb : ME X W b mb) (hm : behindInMarks op b = false := by first | exact nomark _ | with_unfolding_all rfl) : ME X W (.Compare a [op] [b] pos) (mOp g ma mb) := me_cmp ho hg ha hb hm
/-! constants, names -/
theorem me_int {i : Int} {j : Nat} : ME X W (.Constant (.int i) j pos) (mC (.int i)) := me_con pe_int fun _ => .int i
theorem me_str {x : Str} {j : Nat} : ME X W (.Constant (.str x) j pos) (mC (.str x)) := me_con pe_str fun _ => .str x
theorem me_bool {x : Bool} {j : Nat} : ME X W (.Constant (.bool x) j pos) (mC (.bool x)) := me_con pe_bl fun _ => .bl x
theorem me_non {j : Nat} : ME X W (.Constant .none j pos) (mC .none) := me_con pe_non fun _ => .non
theorem me_gint {x : Str} {i : Int} (hm : ∃ t, X.mg x = some (.int i t)) (hg : Gl X x := by rfl) (hd : (x == ("__debug__" : Str)) = false := by decide) : ME X W (.Name x pos) (mC (.int i)) := by
  obtain ⟨t, hm⟩ := hm
  exact me_con (pe_glob (v := .int i) hg hm ⟨t, rfl⟩ hd) fun _ => .int i
theorem me_gstr {x z : Str} (hm : ∃ t, X.mg x = some (.str z t)) (hg : Gl X x := by rfl) (hd : (x == ("__debug__" : Str)) = false := by decide) : ME X W (.Name x pos) (mC (.str z)) := by
  obtain ⟨t, hm⟩ := hm
  exact me_con (pe_glob (v := .str z) hg hm ⟨t, rfl⟩ hd) fun _ => .str z
theorem me_v (i : Nat) {x : Str} (hN : X.N[i]? = some x := by rfl) (hv : Vis X.env.scope x := by first | exact Or.inl rfl | exact Or.inr (Or.inl rfl) | exact Or.inr (Or.inr rfl)) (hd : (x == ("__debug__" : Str)) = false := by decide)
    (hcd : (x == ("__classdict__" : Str)) = false := by decide) : ME X W (.Name x pos) (mVar i) := me_var (pv i hN hv hd hcd)
/-! built-ins -/
section
variable (hm : X.mg "len" = none)
theorem me_len (hm : X.mg "len" = none) (h : ME X W a ma) (hg : Gl X "len" := by rfl) (hs : starEach [a] X.env = (false, eval a X.env) :: starEach [] X.env := by rfl) : ME X W (.Call (.Name "len" p) [a] [] pos) (mCa (k1 gLen) (aCons ma aNil)) := me_ca (fun t => pe_callB call_len hg hm PySem.boot_len t (he := hs) (hpl := rfl)) cd_len (aa_cons h aa_nil hs)
theorem me_abs (hm : X.mg "abs" = none) (h : ME X W a ma) (hg : Gl X "abs" := by rfl) (hs : starEach [a] X.env = (false, eval a X.env) :: starEach [] X.env := by rfl) : ME X W (.Call (.Name "abs" p) [a] [] pos) (mCa (k1 gAbs) (aCons ma aNil)) := me_ca (fun t => pe_callB call_abs hg hm boot_abs t (he := hs) (hpl := rfl)) cd_abs (aa_cons h aa_nil hs)
theorem me_all (hm : X.mg "all" = none) (h : ME X W a ma) (hc : X.calm = true := by rfl) (hg : Gl X "all" := by rfl) (hs : starEach [a] X.env = (false, eval a X.env) :: starEach [] X.env := by rfl) : ME X W (.Call (.Name "all" p) [a] [] pos) (mCa (k1 gAll) (aCons ma aNil)) := me_ca (fun t => pe_callB (cr_all hc) hg hm boot_all t (he := hs) (hpl := rfl)) cd_all (aa_cons h aa_nil hs)
theorem me_any (hm : X.mg "any" = none) (h : ME X W a ma) (hc : X.calm = true := by rfl) (hg : Gl X "any" := by rfl) (hs : starEach [a] X.env = (false, eval a X.env) :: starEach [] X.env := by rfl) : ME X W (.Call (.Name "any" p) [a] [] pos) (mCa (k1 gAny) (aCons ma aNil)) := me_ca (fun t => pe_callB (cr_any hc) hg hm boot_any t (he := hs) (hpl := rfl)) cd_any (aa_cons h aa_nil hs)
theorem me_tuple (hm : X.mg "tuple" = none) (h : ME X W a ma) (hg : Gl X "tuple" := by rfl) (hs : starEach [a] X.env = (false, eval a X.env) :: starEach [] X.env := by rfl) : ME X W (.Call (.Name "tuple" p) [a] [] pos) (mCa (k1 gTuple) (aCons ma aNil)) := me_ca (fun t => pe_callTy call_tuple_of hg hm boot_tuple t (he := hs) (hpl := rfl)) cd_tuple (aa_cons h aa_nil hs)
theorem me_list (hm : X.mg "list" = none) (h : ME X W a ma) (hg : Gl X "list" := by rfl) (hs : starEach [a] X.env = (false, eval a X.env) :: starEach [] X.env := by rfl) : ME X W (.Call (.Name "list" p) [a] [] pos) (mCa (k1 gList) (aCons ma aNil)) := me_ca (fun t => pe_callTy call_list_of hg hm boot_list t (he := hs) (hpl := rfl)) cd_list (aa_cons h aa_nil hs)
theorem me_strc (hm : X.mg "str" = none) (h : ME X W a ma) (hg : Gl X "str" := by rfl) (hs : starEach [a] X.env = (false, eval a X.env) :: starEach [] X.env := by rfl) : ME X W (.Call (.Name "str" p) [a] [] pos) (mCa (k1 gStr) (aCons ma aNil)) := me_ca (fun t => pe_callTy call_str_int hg hm boot_str t (he := hs) (hpl := rfl)) cd_str (aa_cons h aa_nil hs)
theorem me_intc (hm : X.mg "int" = none) (h : ME X W a ma) (hg : Gl X "int" := by rfl) (hs : starEach [a] X.env = (false, eval a X.env) :: starEach [] X.env := by rfl) : ME X W (.Call (.Name "int" p) [a] [] pos) (mCa (k1 gInt) (aCons ma aNil)) := me_ca (fun t => pe_callTy call_intD hg hm boot_int t (he := hs) (hpl := rfl)) cd_int (aa_cons h aa_nil hs)
theorem me_sorted (hm : X.mg "sorted" = none) (hu : X.A.units + 64 < cLine) (h : ME X W a ma) (hg : Gl X "sorted" := by rfl) (hs : starEach [a] X.env = (false, eval a X.env) :: starEach [] X.env := by rfl) : ME X W (.Call (.Name "sorted" p) [a] [] pos) (mCa (k1 gSorted) (aCons ma aNil)) := me_ca (fun t => pe_callB (call_sorted' hu) hg hm boot_sorted t (he := hs) (hpl := rfl)) cd_sorted (aa_cons h aa_nil hs)
theorem me_repr (hm : X.mg "repr" = none) (hgd : X.A.guards = some []) (hu : X.A.units + 64 < cLine) (h : ME X W a ma) (hg : Gl X "repr" := by rfl) (hs : starEach [a] X.env = (false, eval a X.env) :: starEach [] X.env := by rfl) : ME X W (.Call (.Name "repr" p) [a] [] pos) (mCa (k1 gRepr) (aCons ma aNil)) := me_ca (fun t => pe_callB (call_repr hgd hu) hg hm boot_repr t (he := hs) (hpl := rfl)) cd_repr (aa_cons h aa_nil hs)
theorem me_max2 (hm : X.mg "max" = none) (h : ME X W a ma) (h2 : ME X W b mb) (hc : X.calm = true := by rfl) (hg : Gl X "max" := by rfl) (hs : starEach [a, b] X.env = (false, eval a X.env) :: starEach [b] X.env := by rfl) (hs2 : starEach [b] X.env = (false, eval b X.env) :: starEach [] X.env := by rfl) (hpl : (backTo pos (starEach [b] X.env)).any (·.1) = false := by rfl) : ME X W (.Call (.Name "max" p) [a, b] [] pos) (mCa (k2 gMax2) (aCons ma (aCons mb aNil))) := me_ca (fun t => pe_callB (call_max2 hc) hg hm boot_max t (he := hs) (hpl := hpl)) cd_max2 (aa_cons h (aa_cons h2 aa_nil hs2) hs)
theorem me_min2 (hm : X.mg "min" = none) (h : ME X W a ma) (h2 : ME X W b mb) (hc : X.calm = true := by rfl) (hg : Gl X "min" := by rfl) (hs : starEach [a, b] X.env = (false, eval a X.env) :: starEach [b] X.env := by rfl) (hs2 : starEach [b] X.env = (false, eval b X.env) :: starEach [] X.env := by rfl) (hpl : (backTo pos (starEach [b] X.env)).any (·.1) = false := by rfl) : ME X W (.Call (.Name "min" p) [a, b] [] pos) (mCa (k2 gMin2) (aCons ma (aCons mb aNil))) := me_ca (fun t => pe_callB (call_min2 hc) hg hm boot_min t (he := hs) (hpl := hpl)) cd_min2 (aa_cons h (aa_cons h2 aa_nil hs2) hs)
theorem me_divmod (hm : X.mg "divmod" = none) (h : ME X W a ma) (h2 : ME X W b mb) (hg : Gl X "divmod" := by rfl) (hs : starEach [a, b] X.env = (false, eval a X.env) :: starEach [b] X.env := by rfl) (hs2 : starEach [b] X.env = (false, eval b X.env) :: starEach [] X.env := by rfl) (hpl : (backTo pos (starEach [b] X.env)).any (·.1) = false := by rfl) : ME X W (.Call (.Name "divmod" p) [a, b] [] pos) (mCa (k2 gDivmod) (aCons ma (aCons mb aNil))) := me_ca (fun t => pe_callB call_divmod hg hm boot_divmod t (he := hs) (hpl := hpl)) cd_divmod (aa_cons h (aa_cons h2 aa_nil hs2) hs)
theorem me_lenset (hm : X.mg "len" = none) (hm2 : X.mg "set" = none) (h : ME X W a ma) (hc : X.calm = true := by rfl) (hg : Gl X "len" := by rfl) (hg2 : Gl X "set" := by rfl) (hs : starEach [a] X.env = (false, eval a X.env) :: starEach [] X.env := by rfl)
    (hs2 : starEach [.Call (.Name "set" p2) [a] [] q] X.env = (false, eval (.Call (.Name "set" p2) [a] [] q) X.env) :: starEach [] X.env := by rfl) : ME X W (.Call (.Name "len" p) [.Call (.Name "set" p2) [a] [] q] [] pos) (mUn gLenSet ma) :=
  me_un1 (fun t => pe_callB call_lenN hg hm PySem.boot_len (pa_cons (pe_callTy (call_setN hc) hg2 hm2 PyProof.Rows.boot_set (pa_cons t pa_nil hs) (he := hs) (hpl := rfl)) pa_nil hs2) (he := hs2) (hpl := rfl)) ud_lenSet h
theorem me_sortedset (hm : X.mg "sorted" = none) (hm2 : X.mg "set" = none) (h : ME X W a ma) (hc : X.calm = true := by rfl) (hg : Gl X "sorted" := by rfl) (hg2 : Gl X "set" := by rfl) (hs : starEach [a] X.env = (false, eval a X.env) :: starEach [] X.env := by rfl)
    (hs2 : starEach [.Call (.Name "set" p2) [a] [] q] X.env = (false, eval (.Call (.Name "set" p2) [a] [] q) X.env) :: starEach [] X.env := by rfl) : ME X W (.Call (.Name "sorted" p) [.Call (.Name "set" p2) [a] [] q] [] pos) (mUn gSortedSet ma) :=
  me_un1 (fun t => pe_callB (cr_sortedSet hc) hg hm boot_sorted (pa_cons (pe_callTy (call_setI hc) hg2 hm2 PyProof.Rows.boot_set (pa_cons t pa_nil hs) (he := hs) (hpl := rfl)) pa_nil hs2) (he := hs2) (hpl := rfl)) ud_sortedSet h
end
end
end ME
end

section
set_option maxHeartbeats 4000000
namespace ME
open PySem PySem.Spec L2
open PyProof.Rows hiding St

section
variable {X : Cx} {W : WX} {a b c e o : Expr} {ma mb mc : M Val} {pos p p2 q apos : Pos} {ml : M (List Val)}
/-! operations -/
abbrev gLt := gCmp fun d e => PySem.W.dataLt d e
abbrev gGt := gCmp fun d e => PySem.W.dataLt e d
abbrev gLe := gCmp fun d e => !PySem.W.dataLt e d
abbrev gGe := gCmp fun d e => !PySem.W.dataLt d e
theorem me_add (ha : ME X W a ma) (hb : ME X W b mb) : ME X W (.BinOp a .Add b pos) (mOp gAdd ma mb) := me_bin op_addD od_add ha hb
theorem me_sub (ha : ME X W a ma) (hb : ME X W b mb) : ME X W (.BinOp a .Sub b pos) (mOp ME.gSub ma mb) := me_bin op_sub od_sub ha hb
theorem me_mul (ha : ME X W a ma) (hb : ME X W b mb) : ME X W (.BinOp a .Mult b pos) (mOp gMul ma mb) := me_bin op_mulD od_mul ha hb
theorem me_mod (ha : ME X W a ma) (hb : ME X W b mb) : ME X W (.BinOp a .Mod b pos) (mOp gMod ma mb) := me_bin op_modN od_mod ha hb
theorem me_div (ha : ME X W a ma) (hb : ME X W b mb) : ME X W (.BinOp a .FloorDiv b pos) (mOp gDiv ma mb) := me_bin op_fdivN od_div ha hb
theorem me_pow (ha : ME X W a ma) (hb : ME X W b mb) : ME X W (.BinOp a .Pow b pos) (mOp gPow ma mb) := me_bin op_pow od_pow ha hb
theorem me_neg (ha : ME X W a ma) : ME X W (.UnaryOp .USub a pos) (mUn gNeg ma) := me_un1 (fun h => pe_un un_neg h) ud_neg ha
theorem me_sub1 (ha : ME X W a ma) (hb : ME X W b mb) (hs : PlainIx b := by intro _ _; rfl) : ME X W (.Subscript a b pos) (mOp gIx ma mb) := me_ix ix_seq od_ix ha hb hs
theorem me_wsub (ha : ME X W a ma) (hb : ME X W b mb) (hs : PlainIx b := by intro _ _; rfl) : ME X W (.Subscript a b pos) (mWIx ma mb) := me_wix ix_seq ha hb hs
theorem me_wlen1 (hm : X.mg "len" = none) (h : ME X W a ma) (hg : Gl X "len" := by rfl) (hs : starEach [a] X.env = (false, eval a X.env) :: starEach [] X.env := by rfl) : ME X W (.Call (.Name "len" p) [a] [] pos) (mWLen ma) := me_wlen (fun t => pe_callB call_len hg hm PySem.boot_len t (he := hs) (hpl := rfl)) h hs
/-! isinstance -/
theorem me_isa1 {T : String} {f : D → Bool} {x : Str} (hi : CallR X (.builtin "isinstance") (rIsa X.K T f)) (hm : X.mg "isinstance" = none) (hmT : X.mg x = none) (hT : bootBuiltins x = some (.type T)) (h : ME X W a ma) (hg : Gl X "isinstance" := by rfl) (hgT : Gl X x := by rfl) (hn : x ≠ "__name__" := by decide) (hd : (x == ("__debug__" : Str)) = false := by decide)
    (hs : starEach [a, .Name x p2] X.env = (false, eval a X.env) :: starEach [.Name x p2] X.env := by rfl) (hs2 : starEach [.Name x p2] X.env = (false, eval (.Name x p2) X.env) :: starEach [] X.env := by rfl) (hpl : (backTo pos (starEach [.Name x p2] X.env)).any (·.1) = false := by rfl) : ME X W (.Call (.Name "isinstance" p) [a, .Name x p2] [] pos) (mIsa f ma) :=
  me_isa (fun t => pe_callB hi hg hm boot_isinstance t (he := hs) (hpl := hpl)) h (pe_bltn (v := .ty T) hgT hmT hT rfl hn hd) hs hs2
/-! methods of texts -/
theorem me_join (ha : ME X W o ma) (hb : ME X W a mb) (hs : starEach [a] X.env = [(false, eval a X.env)] := by rfl) (hbase : attributeBase o "join" X.env (eval o X.env) = eval o X.env := by rfl) (hline : (apos.endLine == pos.line) = true := by rfl) : ME X W (.Call (.Attribute o "join" apos) [a] [] pos) (mS1 gJoin ma mb) :=
  me_s1 (fun t u => pe_m1 F.slot_str_join F.type_str_join mt_join t u hs hbase hline) sd_join ha hb
theorem me_split (ha : ME X W o ma) (hb : ME X W a mb) (hs : starEach [a] X.env = [(false, eval a X.env)] := by rfl) (hbase : attributeBase o "split" X.env (eval o X.env) = eval o X.env := by rfl) (hline : (apos.endLine == pos.line) = true := by rfl) : ME X W (.Call (.Attribute o "split" apos) [a] [] pos) (mS1 gSplit ma mb) :=
  me_s1 (fun t u => pe_m1 F.slot_str_split F.type_str_split mt_split t u hs hbase hline) sd_split ha hb
theorem me_words (ha : ME X W o ma) (hbase : attributeBase o "split" X.env (eval o X.env) = eval o X.env := by rfl) (hline : (apos.endLine == pos.line) = true := by rfl) : ME X W (.Call (.Attribute o "split" apos) [] [] pos) (mS0 gWords ma) :=
  me_s0 (fun t => pe_m0 F.slot_str_split F.type_str_split mt_words t hbase hline) sd_words ha
theorem me_starts (ha : ME X W o ma) (hb : ME X W a mb) (hs : starEach [a] X.env = [(false, eval a X.env)] := by rfl) (hbase : attributeBase o "startswith" X.env (eval o X.env) = eval o X.env := by rfl) (hline : (apos.endLine == pos.line) = true := by rfl) : ME X W (.Call (.Attribute o "startswith" apos) [a] [] pos) (mS1 gStarts ma mb) :=
  me_s1 (fun t u => pe_m1 F.slot_str_startswith F.type_str_startswith mt_startswith t u hs hbase hline) sd_starts ha hb
/-! methods of lists of one's own -/
theorem me_app {i : Nat} (hv : PE X o (tVar i)) (ha : ME X W a ma) (hbase : attributeBase o "append" X.env (eval o X.env) = eval o X.env := by rfl)
    (hfew : ((backTo pos (starEach [a] X.env)).all (fun x => !x.1) && (backToKw pos (keywordEach [] X.env)).all (fun x => x.1.isSome) && decide ([a].length + ([] : List Keyword).length + (if ([] : List Keyword).isEmpty then 0 else 1) < 30)) = true := by rfl)
    (hline : (apos.endLine == pos.line) = true := by rfl) (hs : starEach [a] X.env = (false, eval a X.env) :: starEach [] X.env := by rfl) : ME X W (.Call (.Attribute o "append" apos) [a] [] pos) (mOwn gApp i (mCons ma mNil)) :=
  me_own (fun t u => pe_bm F.plainAttrs_list F.slot_list_append F.type_list_append mt_append t u hbase hfew hline hs rfl) ow_app hv (ma_cons ha ma_nil hs)
theorem me_ext {i : Nat} (hv : PE X o (tVar i)) (ha : ME X W a ma) (hbase : attributeBase o "extend" X.env (eval o X.env) = eval o X.env := by rfl)
    (hfew : ((backTo pos (starEach [a] X.env)).all (fun x => !x.1) && (backToKw pos (keywordEach [] X.env)).all (fun x => x.1.isSome) && decide ([a].length + ([] : List Keyword).length + (if ([] : List Keyword).isEmpty then 0 else 1) < 30)) = true := by rfl)
    (hline : (apos.endLine == pos.line) = true := by rfl) (hs : starEach [a] X.env = (false, eval a X.env) :: starEach [] X.env := by rfl) : ME X W (.Call (.Attribute o "extend" apos) [a] [] pos) (mOwn gExtL i (mCons ma mNil)) :=
  me_own (fun t u => pe_bm F.plainAttrs_list F.slot_list_extend F.type_list_extend mt_extA t u hbase hfew hline hs rfl) ow_ext hv (ma_cons ha ma_nil hs)
theorem me_popat {i : Nat} (hv : PE X o (tVar i)) (ha : ME X W a ma) (hbase : attributeBase o "pop" X.env (eval o X.env) = eval o X.env := by rfl)
    (hfew : ((backTo pos (starEach [a] X.env)).all (fun x => !x.1) && (backToKw pos (keywordEach [] X.env)).all (fun x => x.1.isSome) && decide ([a].length + ([] : List Keyword).length + (if ([] : List Keyword).isEmpty then 0 else 1) < 30)) = true := by rfl)
    (hline : (apos.endLine == pos.line) = true := by rfl) (hs : starEach [a] X.env = (false, eval a X.env) :: starEach [] X.env := by rfl) : ME X W (.Call (.Attribute o "pop" apos) [a] [] pos) (mOwn gPopAt i (mCons ma mNil)) :=
  me_own (fun t u => pe_bm F.plainAttrs_list F.slot_list_pop F.type_list_pop mt_popAt t u hbase hfew hline hs rfl) ow_popAt hv (ma_cons ha ma_nil hs)
/-! what a loop walks -/
variable {tg : Expr}
theorem mi_r1 (hm : X.mg "range" = none) (ha : ME X W a ma) (hg : Gl X "range" := by rfl) (hs : starEach [a] X.env = [(false, eval a X.env)] := by rfl) : MI X W tg (.Call (.Name "range" p) [a] [] pos) (iR1 (mCons ma mNil)) := mi_range1 (fun t => pi_range1 hg hm t hs) (ma_cons ha ma_nil hs)
theorem mi_r2 (hm : X.mg "range" = none) (ha : ME X W a ma) (hb : ME X W b mb) (hg : Gl X "range" := by rfl) (hs : starEach [a, b] X.env = [(false, eval a X.env), (false, eval b X.env)] := by rfl) (hs2 : starEach [b] X.env = [(false, eval b X.env)] := by rfl) (hs3 : starEach [a, b] X.env = (false, eval a X.env) :: starEach [b] X.env := by rfl) : MI X W tg (.Call (.Name "range" p) [a, b] [] pos) (iR2 (mCons ma (mCons mb mNil))) := mi_range2 (fun t => pi_range2 hg hm t hs hs2) (ma_cons ha (ma_cons hb ma_nil hs2) hs3)
theorem mi_zp {elts : List Expr} {kk : Nat} {tpos : Pos} (hm : X.mg "zip" = none) (ha : ME X W a ma) (hb : ME X W b mb) (hg : Gl X "zip" := by rfl) (hs : starEach [a, b] X.env = (false, eval a X.env) :: starEach [b] X.env := by rfl) (hs2 : starEach [b] X.env = (false, eval b X.env) :: starEach [] X.env := by rfl) (hpl : (backTo pos (starEach [b] X.env)).any (·.1) = false := by rfl) : MI X W (.Tuple elts kk tpos) (.Call (.Name "zip" p) [a, b] [] pos) (iZ (mCons ma (mCons mb mNil))) := mi_zip (fun t => RZ.pi_zipA hg hm t hs hpl) (ma_cons ha (ma_cons hb ma_nil hs2) hs)
theorem mi_en {elts : List Expr} {kk : Nat} {tpos : Pos} (hm : X.mg "enumerate" = none) (ha : ME X W a ma) (hg : Gl X "enumerate" := by rfl) (hs : starEach [a] X.env = [(false, eval a X.env)] := by rfl) : MI X W (.Tuple elts kk tpos) (.Call (.Name "enumerate" p) [a] [] pos) (iE (mCons ma mNil)) := mi_enum (fun t => pi_enum hg hm t hs) (ma_cons ha ma_nil hs)
/-! targets -/
theorem mg_nm {i : Nat} {x : Str} (hN : X.N.Nodup) (hi : X.N[i]? = some x := by rfl) (hx : Loc X.env.scope x := by first | exact .inl rfl | exact .inr rfl) (hf : X.fn x = true ∨ X.env.scope.names.lookup x = some .local := by first | exact .inl rfl | exact .inr rfl) : MG X W (.Name x pos) (pName i) [i] := mg_name (pg_name hN hi hx hf) hi
theorem mg_tp {es : List Expr} {k n : Nat} {ps : List D → Rho → Option Rho} {sl : List Nat} (g : MGs X W es ps sl) (hc : X.calm = true := by rfl) (hn : (assignEach es X.env).length = n := by rfl) (hst : (assignEach es X.env).findIdx? (·.1) = none := by rfl) : MG X W (.Tuple es k pos) (pTup n ps) sl := mg_tup (fun t => pg_tup hc t hn hst) g
/-! assignments -/
variable {st : Stmt}
theorem ms_asg {tg : Expr} {pt : Pat} {sl : List Nat} (h : ME X W e ma) (g : MG X W tg pt sl) (hs : swapsWithSole [tg] e pos.line X.env = pure false := by rfl) (hw : swappedStores [tg] e X.env = pure none := by rfl) (h1 : (assignEach [tg] X.env).map (·.2) = [assign tg X.env] := by rfl) : MS X W (.Assign [tg] e pos) (sAsg ma pt) := ms_asg0 (fun t u => ps_asg t u hs hw h1) h g
theorem ms_wset1 {i n j : Nat} {x : Str} {p1 p2 p3 : Pos} (h : ME X W e ma) (hi : X.N[i]? = some x := by rfl) (hv : Vis X.env.scope x := by first | exact Or.inl rfl | exact Or.inr (Or.inl rfl) | exact Or.inr (Or.inr rfl)) (hd : (x == ("__debug__" : Str)) = false := by decide)
    (hcd : (x == ("__classdict__" : Str)) = false := by decide)
    (ha : ∀ v, assign (.Subscript (.Name x p1) (.Constant (.int n) j p2) p3) X.env v = (do
      let ov ← holding [v] (eval (.Name x p1) X.env)
      let iv ← holding [v, ov] (eval (.Constant (.int n) j p2) X.env)
      standAt p3
      holding [v, ov, iv] (setItem ov iv v)
      release [v, ov, iv] []) := by intro _; rfl)
    (hs : swapsWithSole [.Subscript (.Name x p1) (.Constant (.int n) j p2) p3] e pos.line X.env = pure false := by rfl) (hw : swappedStores [.Subscript (.Name x p1) (.Constant (.int n) j p2) p3] e X.env = pure none := by rfl) : MS X W (.Assign [.Subscript (.Name x p1) (.Constant (.int n) j p2) p3] e pos) (sWSet i n ma) :=
  ms_wset (fun t => ps_asg t (pg_sub (pv i hi hv hd hcd) pe_int set_list ha) hs hw) h
theorem ms_wset2' {i n j k kt : Nat} {x y : Str} {p1 p2 p3 p4 p5 : Pos} (h : ME X W e ma) (hN : X.N.Nodup) (hi : X.N[i]? = some x := by rfl) (hj : X.N[j]? = some y := by rfl) (hv : Vis X.env.scope x := by first | exact Or.inl rfl | exact Or.inr (Or.inl rfl) | exact Or.inr (Or.inr rfl)) (hd : (x == ("__debug__" : Str)) = false := by decide)
    (hcd : (x == ("__classdict__" : Str)) = false := by decide) (hy : Loc X.env.scope y := by first | exact .inl rfl | exact .inr rfl) (hf : X.fn y = true ∨ X.env.scope.names.lookup y = some .local := by first | exact .inl rfl | exact .inr rfl) (hc : X.calm = true := by rfl)
    (ha : ∀ v, assign (.Subscript (.Name x p1) (.Constant (.int n) k p2) p3) X.env v = (do
      let ov ← holding [v] (eval (.Name x p1) X.env)
      let iv ← holding [v, ov] (eval (.Constant (.int n) k p2) X.env)
      standAt p3
      holding [v, ov, iv] (setItem ov iv v)
      release [v, ov, iv] []) := by intro _; rfl)
    (hn : (assignEach [.Subscript (.Name x p1) (.Constant (.int n) k p2) p3, .Name y p4] X.env).length = 2 := by rfl) (hst : (assignEach [.Subscript (.Name x p1) (.Constant (.int n) k p2) p3, .Name y p4] X.env).findIdx? (·.1) = none := by rfl)
    (h1 : (assignEach [.Subscript (.Name x p1) (.Constant (.int n) k p2) p3, .Name y p4] X.env).map (·.2) = assign (.Subscript (.Name x p1) (.Constant (.int n) k p2) p3) X.env :: (assignEach [.Name y p4] X.env).map (·.2) := by rfl) (h2 : (assignEach [.Name y p4] X.env).map (·.2) = assign (.Name y p4) X.env :: (assignEach [] X.env).map (·.2) := by rfl)
    (hs : swapsWithSole [.Tuple [.Subscript (.Name x p1) (.Constant (.int n) k p2) p3, .Name y p4] kt p5] e pos.line X.env = pure false := by rfl) (hw : swappedStores [.Tuple [.Subscript (.Name x p1) (.Constant (.int n) k p2) p3, .Name y p4] kt p5] e X.env = pure none := by rfl) :
    MS X W (.Assign [.Tuple [.Subscript (.Name x p1) (.Constant (.int n) k p2) p3, .Name y p4] kt p5] e pos) (sWSet2 i n j ma) :=
  ms_wset2 hj (fun t => ps_asg t (pg_tup hc (pgs_cons (pg_sub (pv i hi hv hd hcd) pe_int set_list ha) (pgs_cons (pg_name hN hj hy hf) pgs_nil h2) h1) hn hst) hs hw) h
theorem ms_set1 {i : Nat} {x : Str} {pos' : Pos} (hN : X.N.Nodup) (h : ME X W e ma) (hi : X.N[i]? = some x := by rfl) (hx : Loc X.env.scope x := by first | exact .inl rfl | exact .inr rfl) (hs : swapsWith e (some (.Name x pos')) pos.line X.env = pure false := by rfl) (hf : X.fn x = true ∨ X.env.scope.names.lookup x = some .local := by first | exact .inl rfl | exact .inr rfl) :
    MS X W (.Assign [.Name x pos'] e pos) (sAsg ma (pName i)) := ms_set hN hi hx h hs hf
theorem ms_par2 {i j : Nat} {x y : Str} {px py pt pt2 : Pos} {kt k2} (hN : X.N.Nodup) (ha : ME X W a ma) (hb : ME X W b mb) (hij : i ≠ j := by decide) (hi : X.N[i]? = some x := by rfl) (hj : X.N[j]? = some y := by rfl) (hc : X.calm = true := by rfl)
    (hx : X.env.scope.names.lookup x = some .local := by rfl) (hy : X.env.scope.names.lookup y = some .local := by rfl) (hw : swappedStores [.Tuple [.Name x px, .Name y py] kt pt] (.Tuple [a, b] k2 pt2) X.env = pure (some [x, y]) := by rfl)
    (hs : swapsWithSole [.Tuple [.Name x px, .Name y py] kt pt] (.Tuple [a, b] k2 pt2) pos.line X.env = pure false := by rfl)
    (hsa : starEach [a, b] X.env = (false, eval a X.env) :: starEach [b] X.env := by rfl) (hsb : starEach [b] X.env = (false, eval b X.env) :: starEach [] X.env := by rfl) : MS X W (.Assign [.Tuple [.Name x px, .Name y py] kt pt] (.Tuple [a, b] k2 pt2) pos) (sPar i j ma mb) :=
  ms_par (fun t => ps_par hc hN hi hj hij hx hy t hw hs) hi hj ha hb hsa hsb
end
/-! ### defs -/
structure DefG (P : Program) (w : World) (K : PySem.W.Frag) (mg : Str → Option Value) (base : Heap) (x : Str) (k : Nat) (ps : List Str) (f : Fn) : Prop where
  ex : ∃ fd, mg x = some (.ref (He.ga K x)) ∧ PySem.W.keepIn K (.ref (He.ga K x)) = true ∧ Binds K fd ps [] ∧ FnG P w K mg base k (He.ga K x) fd ps (spM K ps.length f)
section
variable {X : Cx} {W : WX} {e : Expr} {es : List Expr} {x : Str} {pos p : Pos} {ml mk : M (List Val)} {k j : Nat} {ps ks : List Str} {f : Fn} {kws : List Keyword} {g : {α : Type} → List α → List α → List α}
theorem me_cD (D : DefG X.prog X.w X.K X.mg X.base x k ps f) (tk : Takes X W) (hgd : X.A.guards = some []) (hr : Room j X.A) (ha : MA X W (e :: es) ml) (hk : k ≤ j := by decide) (hg : Gl X x := by rfl) (hdb : (x == ("__debug__" : Str)) = false := by decide)
    (he : starEach (e :: es) X.env = (false, eval e X.env) :: starEach es X.env := by rfl) (hpl : (backTo pos (starEach es X.env)).any (·.1) = false := by rfl) : ME X W (.Call (.Name x p) (e :: es) [] pos) (mCall ps.length f ml) := by
  obtain ⟨fd, h1, h2, h3, h4⟩ := D.ex
  exact me_call h4 tk hgd (hr.mono hk) hg h1 h2 h3 ha hdb he hpl
theorem me_cK0 {fd : FuncData} (F : FnG X.prog X.w X.K X.mg X.base k (He.ga X.K x) fd ps (spM X.K ps.length f)) (hm : X.mg x = some (.ref (He.ga X.K x))) (hkp : PySem.W.keepIn X.K (.ref (He.ga X.K x)) = true) (hb : KB X.K fd ps ks g) (tk : Takes X W) (hgd : X.A.guards = some []) (hr : Room j X.A) (hkw : MK X W kws mk) (hk : k ≤ j := by decide) (hg : Gl X x := by rfl)
    (hall : (backToKw pos (keywordEach kws X.env)).all (·.1.isSome) = true := by rfl) (hks : (backToKw pos (keywordEach kws X.env)).filterMap (·.1) = ks := by rfl) (hdb : (x == ("__debug__" : Str)) = false := by decide)
    (hpl : ((backTo pos (starEach [] X.env)).any (·.1) || (backToKw pos (keywordEach kws X.env)).any (·.1.isNone)) = false := by rfl) : ME X W (.Call (.Name x p) [] kws pos) (mCallK ps.length f g mNil mk) := me_callK0 F tk hgd (hr.mono hk) hg hm hkp hb hkw hall hks hdb hpl
end
end ME
end

section
set_option maxHeartbeats 4000000
namespace ME
open PySem PySem.Spec L2
open PyProof.Rows hiding St

/-! ### what a generated text uses -/
def blkB (N : List Str) (sc scope : Scope) (own : List (Str × Nat)) : Bool :=
  decide (scope.kind = .function) && ((scope.names.all fun y => decide (scope.names.lookup y.1 = some y.2)) && ((own.all fun p => decide (N[p.2]? = some p.1)) &&
  ((scope.names.all fun y => !decide (y.2 = .free) || (decide (sc.names.lookup y.1 = some .cell) || decide (sc.names.lookup y.1 = some .free))) && (scope.names.all fun y => !(decide (y.2 = .local) || decide (y.2 = .cell)) || (decide (y.1 ∈ own.map (·.1)) || !decide (y.1 ∈ N))))))
theorem blkOf {N : List Str} {sc scope : Scope} {own : List (Str × Nat)} (h : blkB N sc scope own = true) : BlkOk N sc scope own := by
  unfold blkB at h
  simp only [Bool.and_eq_true, List.all_eq_true, decide_eq_true_eq] at h
  obtain ⟨h1, h2, h3, h4, h5⟩ := h
  refine ⟨h1, h2, h3, fun y hy e => ?_, fun y hy e => ?_⟩
  · have z := h4 y hy
    simpa [e] using z
  · have z := h5 y hy
    rcases e with e | e <;> simpa [e] using z
/-- a table of classes -/
theorem look_all {β : Type} {P : Str → β → Prop} : ∀ {t : List (Str × β)}, (∀ q ∈ t, P q.1 q.2) → ∀ c b, t.lookup c = some b → P c b
  | [], _, c, b, h => nomatch h
  | (x, y) :: t, hp, c, b, h => by
    rw [look_cons] at h
    by_cases e : c = x
    · rw [if_pos e] at h
      cases h
      rw [e]
      exact hp _ List.mem_cons_self
    · rw [if_neg e] at h
      exact look_all (fun q hq => hp q (List.mem_cons_of_mem _ hq)) c b h
def exmB (t : List (Str × Bool)) (C : Str) : Fx := fun K => t.all fun q => decide (PySem.W.exmOne K (.ref (He.ga K q.1)) (.ref (He.ga K C)) = some q.2)
def kitB (t : List (Str × Bool)) (C : Str) : Fx := fun K => t.all fun q => decide (PySem.W.kitOne K (.ref (He.ga K q.1)) (.ref (He.ga K C)) = some q.2)
theorem exmB_ok {t : List (Str × Bool)} {C : Str} {K : PySem.W.Frag} (h : exmB t C K = true) : ∀ c b, t.lookup c = some b → PySem.W.exmOne K (.ref (He.ga K c)) (.ref (He.ga K C)) = some b :=
  look_all (P := fun c b => PySem.W.exmOne K (.ref (He.ga K c)) (.ref (He.ga K C)) = some b) fun q hq => of_decide_eq_true (List.all_eq_true.mp h q hq)
theorem kitB_ok {t : List (Str × Bool)} {C : Str} {K : PySem.W.Frag} (h : kitB t C K = true) : ∀ c b, t.lookup c = some b → PySem.W.kitOne K (.ref (He.ga K c)) (.ref (He.ga K C)) = some b :=
  look_all (P := fun c b => PySem.W.kitOne K (.ref (He.ga K c)) (.ref (He.ga K C)) = some b) fun q hq => of_decide_eq_true (List.all_eq_true.mp h q hq)
/-- all exception classes: their built-in base; no field's name is a class's -/
def oxAllB (t : List (Str × Bas)) (fs : List Str) : Fx := fun K => t.all fun q => oxB K (He.ga K q.1) q.2 && fs.all fun f => decide (PySem.W.findIn K (.ref (He.ga K q.1)) f = some none)
structure OxAll (K : PySem.W.Frag) (fs : List Str) (c : Str) : Prop where
  ox : OxC K (He.ga K c)
  no : ∀ f ∈ fs, PySem.W.findIn K (.ref (He.ga K c)) f = some none
theorem oxAllB_ok {t : List (Str × Bas)} {fs : List Str} {K : PySem.W.Frag} (h : oxAllB t fs K = true) : ∀ c b, t.lookup c = some b → OxAll K fs c :=
  look_all (P := fun c _ => OxAll K fs c) fun q hq => by
    have z := List.all_eq_true.mp h q hq
    rw [Bool.and_eq_true] at z
    exact ⟨oxB_ok z.1, fun f hf => of_decide_eq_true (List.all_eq_true.mp z.2 f hf)⟩
theorem lookB {β γ : Type} : ∀ {t : List (Str × β)} {u : List (Str × γ)}, t.map (·.1) = u.map (·.1) → ∀ {c : Str} {b : β}, t.lookup c = some b → ∃ d, u.lookup c = some d
  | [], _, _, c, b, h => nomatch h
  | (x, y) :: t, [], e, c, b, h => nomatch e
  | (x, y) :: t, (x', y') :: u, e, c, b, h => by
    rw [List.map_cons, List.map_cons] at e
    injection e with e1 e2
    have e1 : x = x' := e1
    subst e1
    rw [look_cons] at h ⊢
    by_cases ec : c = x
    · rw [if_pos ec]; exact ⟨y', rfl⟩
    · rw [if_neg ec] at h ⊢
      exact lookB e2 h
/-- a maker: class x's __init__ -/
def iniB (x : Str) : Fx := fun K => decide (PySem.W.findIn K (.ref (He.ga K x)) "__init__" = some (some (.ref (He.ma K (He.ga K x) "__init__")))) && decide (PySem.W.typeIn K (.ref (He.ma K (He.ga K x) "__init__")) = some (.type "function"))
/-- x's __init__ is y's -/
def sameB (x y : Str) : Fx := fun K => decide (He.ma K (He.ga K x) "__init__" = He.ma K (He.ga K y) "__init__")
theorem ini_of {K : PySem.W.Frag} {f : Addr} {fs : List Str} {x qual : Str} {params : Arguments} {body : List Stmt} {scope : Scope} {dvs : List V} {kws : List (Str × V)} {fd : FuncData} (Fd : FunD K x qual params body scope dvs kws f fd) (ty : PySem.W.typeIn K (.ref f) = some (.type "function"))
    (Sc : FnScope ("self" :: fs) ("self" :: fs) scope) (hl : (("self" :: fs : List Str).all fun f => decide (scope.names.lookup f = some .local)) = true) (hB : IniB fs body)
    (hb : L2.Binds K fd (("self" : Str) :: fs) []) (hd : (fs.all fun f => !(f == ("__debug__" : Str))) = true) (hn : fs.length ≤ 700) (hne : fs ≠ []) : IniD K f fs :=
  ⟨ty, x, qual, params, body, scope, dvs, kws, fd, Fd, Sc, fun f hf => of_decide_eq_true (List.all_eq_true.mp hl f hf), hB, hb, fun f hf => by simpa using List.all_eq_true.mp hd f hf, hn, hne⟩
/-- f(e, .., k = ..) where the keywords stand in the parameters' order -/
theorem fnd_to {K : PySem.W.Frag} {x qual : Str} {params : Arguments} {body : List Stmt} {scope : Scope} {kws : List (Str × V)} {f : Addr} {fd : FuncData} (F : FunD K x qual params body scope [] kws f fd) {us ws vs : List Value} {ps ks : List Str} (s : Shared)
    (h : ∀ (kV doc pm : Value) (an : Option Addr) (cdv ct : Value), bindArgs (PySem.W.fnOf x qual params body scope .none kV doc pm an cdv ct) ⟨us, ks.zip ws⟩ = pure (ps.zip vs)) : BindsTo s fd ⟨us, ks.zip ws⟩ (ps.zip vs) := by
  obtain ⟨oc, od, dV, kV, doc, pm, an, cdv, ct, osl, rfl, lk, hcd, hD, hK⟩ := F.ex
  rcases hD with ⟨_, rfl⟩ | ⟨e, _⟩
  · exact .of_eq (h kV doc pm an cdv ct)
  · exact absurd rfl e
abbrev takes0 {X : Cx} : Takes X W0 := takes_none5
end ME
end

section
set_option maxHeartbeats 400000
namespace ME
open PySem PySem.Spec L2
open PyProof.Rows hiding St

/-! ### for the plain laws: comprehensions, loops -/
theorem restR_at {ρ : Rho} {j : Nat} : ∀ {vs : List Nat} {ρ' : Rho}, (restR ρ vs ρ')[j]? = if j ∈ vs then (if j < ρ'.length then some (ρ.getD j .un) else none) else ρ'[j]?
  | [], ρ' => by simp [restR]
  | v :: vs, ρ' => by
    have len : ∀ {ws : List Nat}, (restR ρ ws ρ').length = ρ'.length := by
      intro ws
      induction ws with
      | nil => rfl
      | cons w ws ih => unfold restR; rw [List.length_set, ih]
    unfold restR
    by_cases e : v = j
    · subst e
      rw [if_pos List.mem_cons_self]
      by_cases h : v < ρ'.length
      · rw [if_pos h, List.getElem?_set_self (by rw [len]; exact h)]
      · rw [if_neg h, List.getElem?_eq_none (by rw [List.length_set, len]; omega)]
    · rw [List.getElem?_set_ne e, restR_at]
      by_cases h : j ∈ vs
      · rw [if_pos h, if_pos (List.mem_cons_of_mem _ h)]
      · rw [if_neg h, if_neg (fun z => by rcases List.mem_cons.mp z with z | z; exact e z.symm; exact h z)]
theorem unR_len {ρ : Rho} : ∀ {vs : List Nat}, (unR vs ρ).length = ρ.length
  | [] => rfl
  | v :: vs => by unfold unR; rw [List.length_set, unR_len]
theorem unR_out {ρ : Rho} {j : Nat} : ∀ {vs : List Nat}, j ∉ vs → (unR vs ρ)[j]? = ρ[j]?
  | [], _ => rfl
  | v :: vs, h => by
    rw [List.mem_cons, not_or] at h
    unfold unR
    rw [List.getElem?_set_ne (Ne.symm h.1), unR_out h.2]
theorem restR_same {vs : List Nat} {ρ : Rho} : restR ρ vs (unR vs ρ) = ρ := by
  apply List.ext_getElem?
  intro j
  rw [restR_at]
  by_cases h : j ∈ vs
  · rw [if_pos h, unR_len]
    by_cases l : j < ρ.length
    · rw [if_pos l, List.getElem?_eq_getElem l, List.getD_eq_getElem?_getD, List.getElem?_eq_getElem l] <;> rfl
    · rw [if_neg l, List.getElem?_eq_none (by omega)]
  · rw [if_neg h, unR_out h]
/-- one turn of a comprehension: it adds o -/
def LcStep (vs : List Nat) (p : Pat) (c : M Bool) (m : M Val) (ρ : Rho) (S : T) (x : D) (o : Option D) (S' : T) : Prop := ∃ ρ1, p (.d x) ρ = some ρ1 ∧
  ((∃ ρ2 S2 ρ3 y, c ρ1 S = .ok true ρ2 S2 ∧ ME.bind m fz ρ2 S2 = .ok (.d y) ρ3 S' ∧ o = some y ∧ unR vs ρ3 = ρ) ∨ ∃ ρ2, c ρ1 S = .ok false ρ2 S' ∧ o = none ∧ unR vs ρ2 = ρ)
theorem lc_pure {vs : List Nat} {p : Pat} {c : M Bool} {m : M Val} {ρ ρ1 : Rho} {S S' : T} {x y : D} (h1 : p (.d x) ρ = some ρ1) (h2 : c ρ1 S = .ok true ρ1 S) (h3 : m ρ1 S = .ok (.d y) ρ1 S') (h4 : unR vs ρ1 = ρ) : LcStep vs p c m ρ S x (some y) S' :=
  ⟨ρ1, h1, .inl ⟨ρ1, S, ρ1, y, h2, by unfold ME.bind; rw [h3]; rfl, rfl, h4⟩⟩
theorem lc_step {vs : List Nat} {p : Pat} {c : M Bool} {m : M Val} {ρ : Rho} {S S' : T} {x : D} {o : Option D} (h : LcStep vs p c m ρ S x o S') (xs acc : List D) : compM vs p c m (x :: xs) acc ρ S = compM vs p c m xs (acc ++ o.toList) ρ S' := by
  obtain ⟨ρ1, h1, h⟩ := h
  rcases h with ⟨ρ2, S2, ρ3, y, h2, h3, rfl, h4⟩ | ⟨ρ2, h2, rfl, h4⟩
  · show (match p (.d x) ρ with | none => _ | some ρ1 => _) = _
    rw [h1]
    dsimp only
    rw [h2]
    dsimp only
    rw [h3]
    dsimp only
    rw [h4]
    rfl
  · show (match p (.d x) ρ with | none => _ | some ρ1 => _) = _
    rw [h1]
    dsimp only
    rw [h2]
    dsimp only
    rw [h4]
    simp
/-- a comprehension whose turns keep I and give what G says -/
theorem lc_run {vs : List Nat} {p : Pat} {c : M Bool} {m : M Val} {ρ : Rho} {I : T → Prop} {G : D → Option D → Prop} : ∀ (xs acc : List D) (S : T), I S → (∀ x ∈ xs, ∀ S, I S → ∃ o S', LcStep vs p c m ρ S x o S' ∧ I S' ∧ G x o) →
    ∃ os S', Paired G xs os ∧ I S' ∧ compM vs p c m xs acc ρ S = .ok (acc ++ os.filterMap id) ρ S'
  | [], acc, S, i, _ => ⟨[], S, .nil, i, by simp [compM, ME.ret]⟩
  | x :: xs, acc, S, i, h => by
    obtain ⟨o, S1, h1, i1, g⟩ := h x List.mem_cons_self S i
    obtain ⟨os, S2, r, i2, e⟩ := lc_run xs (acc ++ o.toList) S1 i1 fun y hy => h y (List.mem_cons_of_mem _ hy)
    refine ⟨o :: os, S2, .cons g r, i2, ?_⟩
    rw [lc_step h1, e]
    cases o <;> simp
/-- .. whose turns change nothing -/
theorem lc_map {vs : List Nat} {mi : M (List D)} {p : Pat} {c : M Bool} {m : M Val} {ρ : Rho} {S : T} {xs : List D} {g : D → D} (hi : mi ρ S = .ok xs ρ S) (hz : xs.length ≤ sizeLine) (no : vs.all (notOwn ρ) = true)
    (h : ∀ x ∈ xs, LcStep vs p c m (unR vs ρ) S x (some (g x)) S) : mLc vs mi p c m ρ S = .ok (.fl (xs.map g)) ρ S := by
  have key : ∀ (ys acc : List D), (∀ x ∈ ys, LcStep vs p c m (unR vs ρ) S x (some (g x)) S) → compM vs p c m ys acc (unR vs ρ) S = .ok (acc ++ ys.map g) (unR vs ρ) S := by
    intro ys
    induction ys with
    | nil => intro acc _; simp [compM, ME.ret]
    | cons y ys ih =>
      intro acc hy
      rw [lc_step (hy y List.mem_cons_self), ih _ fun x hx => hy x (List.mem_cons_of_mem _ hx)]
      simp
  unfold mLc ME.bind
  rw [hi]
  dsimp only
  rw [if_pos ⟨hz, no⟩, key xs [] h]
  dsimp only
  rw [restR_same, List.nil_append]
theorem lc_ok {vs : List Nat} {mi : M (List D)} {p : Pat} {c : M Bool} {m : M Val} {ρ : Rho} {S : T} {I : T → Prop} {G : D → Option D → Prop} {xs : List D} {S1 : T} (hi : mi ρ S = .ok xs ρ S1) (i : I S1) (hz : xs.length ≤ sizeLine) (no : vs.all (notOwn ρ) = true)
    (h : ∀ x ∈ xs, ∀ S, I S → ∃ o S', LcStep vs p c m (unR vs ρ) S x o S' ∧ I S' ∧ G x o) : ∃ os S', Paired G xs os ∧ I S' ∧ mLc vs mi p c m ρ S = .ok (.fl (os.filterMap id)) ρ S' := by
  obtain ⟨os, S', r, i', e⟩ := lc_run xs [] S1 i h
  refine ⟨os, S', r, i', ?_⟩
  unfold mLc ME.bind
  rw [hi]
  dsimp only
  rw [if_pos ⟨hz, no⟩, e]
  dsimp only
  rw [restR_same, List.nil_append]
/-- a loop by an invariant of slots and store -/
theorem for_inv {p : Pat} {body : MStm} {I : Nat → Rho → T → Prop} : ∀ (xs : List D) (k : Nat) (ρ : Rho) (S : T), I k ρ S → (∀ (i : Nat) (x : D) ρ S, xs[i]? = some x → I (k + i) ρ S → ∃ ρ1, p (.d x) ρ = some ρ1 ∧ ∃ ρ2 S2, (body ρ1 S = .nx ρ2 S2 ∨ body ρ1 S = .ct ρ2 S2) ∧ I (k + i + 1) ρ2 S2) →
    ∃ ρ' S', forM p body xs ρ S = .nx ρ' S' ∧ I (k + xs.length) ρ' S'
  | [], k, ρ, S, i, _ => ⟨ρ, S, rfl, i⟩
  | x :: xs, k, ρ, S, i, h => by
    obtain ⟨ρ1, h1, ρ2, S2, h2, i2⟩ := h 0 x ρ S rfl i
    obtain ⟨ρ', S', e, i'⟩ := for_inv xs (k + 1) ρ2 S2 i2 fun j y ρ S hy hI => by
      have e1 : k + 1 + j = k + (j + 1) := by omega
      rw [e1] at hI ⊢
      exact h (j + 1) y ρ S (by simpa using hy) hI
    refine ⟨ρ', S', ?_, by rw [List.length_cons]; have e2 : k + (xs.length + 1) = k + 1 + xs.length := by omega
                           rw [e2]; exact i'⟩
    unfold forM
    rw [h1]
    dsimp only
    rcases h2 with h2 | h2
    · rw [h2]; exact e
    · rw [h2]; exact e
end ME
end

section
set_option maxHeartbeats 400000
namespace ME
open PySem PySem.Spec L2
open PyProof.Rows hiding St

/-! ### a mirror's steps, each as an equation of the applied form -/
section
variable {α β : Type} {m : M α} {f : α → M β} {ρ : Rho} {S : T} {ma mb mc : M Val} {ml mr : M (List Val)} {tc td : M Bool} {sm sn : MStm} {g g' : D → D → Option Ro} {u : D → Option Ro} {fn : Fn} {n i j : Nat} {x : D}
@[simp] theorem ap_bind : ME.bind m f ρ S = (match m ρ S with
  | .ok a ρ' S' => f a ρ' S'
  | .exc c p ρ' S' => .exc c p ρ' S'
  | .bad => .bad) := rfl
@[simp] theorem ap_ret {a : α} : ME.ret a ρ S = .ok a ρ S := rfl
@[simp] theorem ap_var : mVar i ρ S = (match ρ[i]? with
  | some (.d x) => .ok (.d x) ρ S
  | some (.own _) => .ok (.own i) ρ S
  | some (.w k) => .ok (.w k) ρ S
  | _ => .bad) := rfl
@[simp] theorem ap_con : mC x ρ S = .ok (.d x) ρ S := rfl
@[simp] theorem ap_fzd : fz (.d x) ρ S = .ok (.d x) ρ S := rfl
@[simp] theorem ap_fzw {k : Nat} : fz (.w k) ρ S = .ok (.w k) ρ S := rfl
@[simp] theorem ap_fzf {l : List D} : fz (.fl l) ρ S = .ok (.d (.list l)) ρ S := rfl
@[simp] theorem ap_fzo : fz (.own i) ρ S = (match ρ[i]? with
  | some (.own l) => .ok (.d (.list l)) (ρ.set i (.d (.list l))) S
  | some (.d x) => .ok (.d x) ρ S
  | _ => .bad) := by
  unfold fz fzv
  dsimp only
  cases ρ[i]? with
  | none => rfl
  | some s => cases s <;> rfl
@[simp] theorem ap_fzod : fzo (.d x) ρ S = .ok (.d x) ρ S := rfl
@[simp] theorem ap_fzow {k : Nat} : fzo (.w k) ρ S = .ok (.w k) ρ S := rfl
@[simp] theorem ap_fzof {l : List D} : fzo (.fl l) ρ S = .ok (.fl l) ρ S := rfl
@[simp] theorem ap_fzoo : fzo (.own i) ρ S = fz (.own i) ρ S := rfl
@[simp] theorem ap_nil : mNil ρ S = .ok [] ρ S := rfl
@[simp] theorem ap_anil : aNil ρ S = .ok [] ρ S := rfl
@[simp] theorem ap_cons : mCons ma mr ρ S = ME.bind (ME.bind ma fz) (fun v => ME.bind mr fun vs => ME.ret (v :: vs)) ρ S := rfl
@[simp] theorem ap_acons : aCons ma mr ρ S = ME.bind ma (fun v => ME.bind mr fun vs => ME.ret (v :: vs)) ρ S := rfl
@[simp] theorem ap_call : mCall n fn ml ρ S = ME.bind ml (fun vs ρ S => if (plainA vs && vs.length == n) = true then apF fn vs ρ S else .bad) ρ S := by
  unfold mCall ME.bind
  cases ml ρ S with
  | ok vs ρ' S' => dsimp only; split <;> rfl
  | _ => rfl
@[simp] theorem ap_callK {gg : List Val → List Val → List Val} : mCallK n fn gg ml mr ρ S = ME.bind ml (fun vs => ME.bind mr fun zs ρ S => if (plainA (gg vs zs) && (gg vs zs).length == n) = true then apF fn (gg vs zs) ρ S else .bad) ρ S := by
  unfold mCallK ME.bind
  cases ml ρ S with
  | ok vs ρ' S' =>
    dsimp only
    cases mr ρ' S' with
    | ok zs ρ2 S2 => dsimp only; split <;> rfl
    | _ => rfl
  | _ => rfl
@[simp] theorem ap_apF {vs : List Val} : apF fn vs ρ S = (match fn vs S with
  | .ok v S' => .ok v ρ S'
  | .exc c p S' => .exc c p ρ S'
  | .bad => .bad) := rfl
@[simp] theorem ap_ro {o : Ro} : roM (some o) ρ S = .ok o.val ρ S := rfl
@[simp] theorem ap_op : mOp g ma mb ρ S = ME.bind ma (fun a => ME.bind mb fun b ρ S => (match dr ρ a, dr ρ b with
  | some x, some y => roM (g x y) ρ S
  | _, _ => .bad)) ρ S := rfl
@[simp] theorem ap_un : mUn u ma ρ S = ME.bind ma (fun a ρ S => (match dr ρ a with
  | some x => roM (u x) ρ S
  | _ => .bad)) ρ S := rfl
@[simp] theorem ap_ca {w : List D → Option Ro} : mCa w ml ρ S = ME.bind ml (fun vs ρ S => (match drs ρ vs with
  | some xs => roM (w xs) ρ S
  | none => .bad)) ρ S := rfl
@[simp] theorem ap_tup : mTup ml ρ S = ME.bind ml (fun vs ρ S => (match datas vs with
  | some xs => if xs.length ≤ sizeLine then .ok (.d (.tuple xs)) ρ S else .bad
  | none => .bad)) ρ S := rfl
@[simp] theorem ap_lst : mLst ml ρ S = ME.bind ml (fun vs ρ S => (match datas vs with
  | some xs => if xs.length ≤ sizeLine then .ok (.fl xs) ρ S else .bad
  | none => .bad)) ρ S := rfl
@[simp] theorem ap_if : mIf tc ma mb ρ S = ME.bind tc (fun b ρ S => if b = true then ma ρ S else mb ρ S) ρ S := by
  unfold mIf ME.bind
  cases tc ρ S with
  | ok b ρ' S' => cases b <;> rfl
  | _ => rfl
@[simp] theorem ap_B : mB ma ρ S = ME.bind ma (fun v ρ S => (match v with
  | .d (.bool b) => .ok b ρ S
  | _ => .bad)) ρ S := rfl
@[simp] theorem ap_test : mTest ma ρ S = ME.bind ma (fun v => mTru v) ρ S := rfl
@[simp] theorem ap_andV : mAndV ma mb ρ S = ME.bind ma (fun a => ME.bind (mTru a) fun b ρ S => if b = true then mb ρ S else .ok a ρ S) ρ S := by
  unfold mAndV ME.bind
  cases ma ρ S with
  | ok a ρ' S' =>
    dsimp only
    cases mTru a ρ' S' with
    | ok b ρ2 S2 => cases b <;> rfl
    | _ => rfl
  | _ => rfl
@[simp] theorem ap_orV : mOrV ma mb ρ S = ME.bind ma (fun a => ME.bind (mTru a) fun b ρ S => if b = true then .ok a ρ S else mb ρ S) ρ S := by
  unfold mOrV ME.bind
  cases ma ρ S with
  | ok a ρ' S' =>
    dsimp only
    cases mTru a ρ' S' with
    | ok b ρ2 S2 => cases b <;> rfl
    | _ => rfl
  | _ => rfl
@[simp] theorem ap_notV : mNotV ma ρ S = ME.bind (mTest ma) (fun b => ME.ret (.d (.bool (!b)))) ρ S := rfl
@[simp] theorem ap_isa {h : D → Bool} : mIsa h ma ρ S = ME.bind ma (fun a ρ S => (match dr ρ a with
  | some x => .ok (.d (.bool (h x))) ρ S
  | _ => .bad)) ρ S := by
  unfold mIsa mUn ME.bind
  cases ma ρ S with
  | ok a ρ' S' =>
    dsimp only
    cases dr ρ' a <;> rfl
  | _ => rfl
@[simp] theorem ap_and : tAndM tc td ρ S = ME.bind tc (fun b ρ S => if b = true then td ρ S else .ok false ρ S) ρ S := by
  unfold tAndM ME.bind
  cases tc ρ S with
  | ok b ρ' S' => cases b <;> rfl
  | _ => rfl
@[simp] theorem ap_or : tOrM tc td ρ S = ME.bind tc (fun b ρ S => if b = true then .ok true ρ S else td ρ S) ρ S := by
  unfold tOrM ME.bind
  cases tc ρ S with
  | ok b ρ' S' => cases b <;> rfl
  | _ => rfl
@[simp] theorem ap_not : tNotM tc ρ S = ME.bind tc (fun b => ME.ret (!b)) ρ S := rfl
def chO (o : Option Ro) (m : M Val) : M Val := fun ρ S => match o with
  | some (.d (.bool true)) => m ρ S
  | some (.d (.bool false)) => .ok (.d (.bool false)) ρ S
  | _ => .bad
@[simp] theorem ap_chO {b : Bool} : chO (some (.d (.bool b))) ma ρ S = if b = true then ma ρ S else .ok (.d (.bool false)) ρ S := by
  cases b <;> rfl
@[simp] theorem ap_chain : mChain g g' ma mb mc ρ S = ME.bind ma (fun a => ME.bind mb fun b ρ S => (match dr ρ a, dr ρ b with
  | some x, some y => chO (g x y) (ME.bind mc (fun c ρ' S' => match dr ρ' b, dr ρ' c with
      | some y', some z => roM (g' y' z) ρ' S'
      | _, _ => .bad)) ρ S
  | _, _ => .bad)) ρ S := rfl
@[simp] theorem ap_sl {lo hi : M (Option Int)} : mSl ma lo hi ρ S = ME.bind ma (fun a => ME.bind lo fun l => ME.bind hi fun h ρ S => (match dr ρ a with
  | some x => roM (gSl x l h) ρ S
  | none => .bad)) ρ S := rfl
@[simp] theorem ap_oi {k : Int} : oInt (.d (.int k)) ρ S = .ok (some k) ρ S := rfl
@[simp] theorem ap_s0 {w : Str → Option Ro} : mS0 w ma ρ S = ME.bind ma (fun a ρ S => (match asStr a with
  | some z => roM (w z) ρ S
  | none => .bad)) ρ S := by
  unfold mS0 ME.bind
  cases ma ρ S with
  | ok a ρ' S' =>
    dsimp only
    cases asStr a <;> rfl
  | _ => rfl
@[simp] theorem ap_s1 {w : Str → D → Option Ro} : mS1 w ma mb ρ S = ME.bind ma (fun a ρ S => (match asStr a with
  | some z => ME.bind mb (fun b ρ S => (match dr ρ b with
    | some y => roM (w z y) ρ S
    | none => .bad)) ρ S
  | none => .bad)) ρ S := by
  unfold mS1
  rw [ap_bind, ap_bind]
  cases ma ρ S with
  | ok a ρ' S' =>
    dsimp only
    cases asStr a <;> rfl
  | _ => rfl
@[simp] theorem ap_own {w : List D → List D → Option (D × List D)} : mOwn w i ml ρ S = (match ρ[i]? with
  | some (.own _) => ME.bind ml (fun vs ρ' S' => match ρ'[i]?, datas vs with
    | some (.own l), some xs => (match w l xs with
      | some (y, l') => .ok (.d y) (ρ'.set i (.own l')) S'
      | none => .bad)
    | _, _ => .bad) ρ S
  | _ => .bad) := rfl
@[simp] theorem ap_wix {mi : M Val} : mWIx ma mi ρ S = ME.bind ma (fun a => ME.bind mi fun b ρ S => (match a, dr ρ b with
  | .w k, some (.int i) => (match wls S k with
    | some xs => (match atI xs i with
      | some (.d x) => .ok (.d x) ρ S
      | some (.w j) => .ok (.w j) ρ S
      | none => .bad)
    | none => .bad)
  | _, _ => .bad)) ρ S := rfl
@[simp] theorem ap_wlen : mWLen ma ρ S = ME.bind ma (fun a ρ S => (match a with
  | .w k => (match wls S k with
    | some xs => .ok (.d (.int xs.length)) ρ S
    | none => .bad)
  | _ => .bad)) ρ S := rfl
/-! what loops walk -/
@[simp] theorem ap_iL : iL ma ρ S = ME.bind (ME.bind ma fz) itL ρ S := rfl
@[simp] theorem ap_iT : iT ma ρ S = ME.bind (ME.bind ma fz) itT ρ S := rfl
@[simp] theorem ap_iS : iS ma ρ S = ME.bind (ME.bind ma fz) itS ρ S := rfl
@[simp] theorem ap_itL {l : List D} : itL (.d (.list l)) ρ S = .ok l ρ S := rfl
@[simp] theorem ap_itT {l : List D} : itT (.d (.tuple l)) ρ S = .ok l ρ S := rfl
@[simp] theorem ap_itS {z : Str} : itS (.d (.str z)) ρ S = .ok (chD z) ρ S := rfl
@[simp] theorem ap_iZ : iZ ml ρ S = ME.bind ml (fun vs ρ S => (match vs with
  | [.d (.list xs), .d (.list ys)] => .ok (pairD xs ys) ρ S
  | [.d (.tuple xs), .d (.tuple ys)] => .ok (pairD xs ys) ρ S
  | _ => .bad)) ρ S := rfl
@[simp] theorem ap_iE : iE ml ρ S = ME.bind ml (fun vs ρ S => (match vs with
  | [.d (.list xs)] => .ok (pairD (rangeD 0 xs.length) xs) ρ S
  | _ => .bad)) ρ S := rfl
/-! statements -/
@[simp] theorem as_then {f : α → MStm} : thenS m f ρ S = (match m ρ S with
  | .ok a ρ' S' => f a ρ' S'
  | .exc c p ρ' S' => .exc c p ρ' S'
  | .bad => .bad) := rfl
@[simp] theorem as_seq : sSeq sm sn ρ S = (match sm ρ S with
  | .nx ρ' S' => sn ρ' S'
  | r => r) := rfl
@[simp] theorem as_next : sNext ρ S = .nx ρ S := rfl
@[simp] theorem as_ret : sRet ma ρ S = thenS (ME.bind ma fz) (fun v ρ S => .rt v ρ S) ρ S := rfl
@[simp] theorem as_if : sIf tc sm sn ρ S = thenS tc (fun b ρ S => if b = true then sm ρ S else sn ρ S) ρ S := by
  unfold sIf thenS
  cases tc ρ S with
  | ok b ρ' S' => cases b <;> rfl
  | _ => rfl
@[simp] theorem as_asg {p : Pat} : sAsg ma p ρ S = thenS (ME.bind ma fzo) (fun v ρ S => (match p v ρ with
  | some ρ' => .nx ρ' S
  | none => .bad)) ρ S := rfl
@[simp] theorem as_expr : sExpr ma ρ S = thenS ma (fun _ ρ S => .nx ρ S) ρ S := rfl
@[simp] theorem as_par : sPar i j ma mb ρ S = thenS (ME.bind ma fzo) (fun a => thenS (ME.bind mb fzo) fun b ρ S => (match pName i a ρ with
  | some ρ1 => (match pName j b ρ1 with
    | some ρ2 => .nx ρ2 S
    | none => .bad)
  | none => .bad)) ρ S := rfl
@[simp] theorem as_raise {x : Str} {fs : List Str} : sRaise x fs ml ρ S = thenS ml (fun vs ρ S => (match datas vs with
  | some ds => if ds.length = fs.length then .exc x (fs.zip ds).reverse ρ S else .bad
  | none => .bad)) ρ S := rfl
@[simp] theorem as_for {mi : M (List D)} {p : Pat} : sFor mi p sm ρ S = thenS mi (fun xs ρ S => forM p sm xs ρ S) ρ S := rfl
end
end ME
end

section
set_option maxHeartbeats 400000
namespace ME
open PySem PySem.Spec L2
open PyProof.Rows hiding St

/-! ### plain facts about data -/
theorem sIx_one {n : Nat} : HT.sIx n 0 (some 1) = min 1 n := rfl
theorem all_bools {l : List D} {g : D → Bool} : gAll (.list (l.map fun x => .bool (g x))) = some (.d (.bool (l.all g))) := by
  have e : boolsOf (l.map fun x => .bool (g x)) = some (l.map g) := by
    induction l with
    | nil => rfl
    | cons x l ih => simp [boolsOf, ih]
  simp [gAll, e, List.all_map]
theorem drop_min {α : Type} {l : List α} {k : Nat} : l.drop (min k l.length) = l.drop k := by
  by_cases h : k ≤ l.length
  · rw [Nat.min_eq_left h]
  · rw [Nat.min_eq_right (by omega), List.drop_eq_nil_of_le (Nat.le_refl _), List.drop_eq_nil_of_le (by omega)]
theorem tail_sl {α : Type} {l : List α} {k : Nat} : (l.drop (min k l.length)).take (l.length - min k l.length) = l.drop k := by
  rw [List.take_of_length_le (by rw [List.length_drop]; exact Nat.le_refl _), drop_min]
theorem gSl_tl1 {l : List D} : gSl (.tuple l) (some 1) none = some (.d (.tuple (l.drop 1))) := congrArg (fun z => some (Ro.d (.tuple z))) tail_sl
theorem gSl_ll1 {l : List D} : gSl (.list l) (some 1) none = some (.fl (l.drop 1)) := congrArg (fun z => some (Ro.fl z)) tail_sl
theorem depth_ints : ∀ {ns : List Int}, PyData.depthAll (ns.map .int) ≤ 1
  | [] => by simp [PyData.depthAll]
  | n :: ns => by
    have := depth_ints (ns := ns)
    simp [PyData.depthAll, PyData.depth] at this ⊢
    try omega
theorem alike_ints : ∀ {ns ms : List Int}, PySem.W.alikeAll (ns.map .int) (ms.map .int) = true
  | [], _ => by simp [PySem.W.alikeAll]
  | n :: ns, [] => by simp [PySem.W.alikeAll]
  | n :: ns, m :: ms => by simp [PySem.W.alikeAll, PySem.W.alike]; exact alike_ints
theorem cmp_ints {f : D → D → Bool} {ns ms : List Int} : gCmp f (.tuple (ns.map .int)) (.tuple (ms.map .int)) = some (.d (.bool (f (.tuple (ns.map .int)) (.tuple (ms.map .int))))) := by
  have h1 := depth_ints (ns := ns)
  have h2 := depth_ints (ns := ms)
  have h3 : min (PyData.depth (.tuple (ns.map .int))) (PyData.depth (.tuple (ms.map .int))) ≤ 60 := by
    simp only [PyData.depth]
    omega
  simp [gCmp, PySem.W.alike, alike_ints, notNone, h3]
/-- the order of rows of numbers -/
def ltI : List Int → List Int → Bool
  | [], [] => false
  | [], _ :: _ => true
  | _ :: _, [] => false
  | x :: xs, y :: ys => if x = y then ltI xs ys else decide (x < y)
theorem lt_all_ints : ∀ {ns ms : List Int}, PyProof.Rows.lexLt PyProof.Rows.itemOrd (PySem.W.keyToksAll (ns.map .int)) (PySem.W.keyToksAll (ms.map .int)) = ltI ns ms
  | [], [] => by simp [PySem.W.keyToksAll, ltI]; rfl
  | [], m :: ms => by
    simp only [List.map_nil, List.map_cons, PySem.W.keyToksAll, ltI]
    rw [PyProof.Rows.lex_diff (by simp)]
    rfl
  | n :: ns, [] => by
    simp only [List.map_nil, List.map_cons, PySem.W.keyToksAll, ltI]
    rw [PyProof.Rows.lex_diff (by simp)]
    rfl
  | n :: ns, m :: ms => by
    by_cases h : n = m
    · subst h
      rw [List.map_cons, List.map_cons, PySem.W.dataLt_all_yes (by simp [PySem.W.alike]) (by simp [PyData.eqv]), lt_all_ints]
      simp [ltI]
    · rw [List.map_cons, List.map_cons, PySem.W.dataLt_all_no (by simp [PySem.W.alike]) (by simp [PyData.eqv, h]), PySem.W.dataLt_int]
      simp [ltI, h]
theorem lt_ints {ns ms : List Int} : PySem.W.dataLt (.tuple (ns.map .int)) (.tuple (ms.map .int)) = ltI ns ms := by
  rw [PySem.W.dataLt_tuple, lt_all_ints]
end ME
end

section
set_option maxHeartbeats 400000
namespace ME
open PySem PySem.Spec L2
open PyProof.Rows hiding St

/-! ### the mirror's small words, for simp -/
section
variable {ρ : Rho} {S : T} {x y : D} {v : Val} {vs : List Val}
@[simp] theorem u_body {n : Nat} {m : MStm} : bodyFn n m vs S = toF (m (startR n vs) S) := rfl
@[simp] theorem u_start {n : Nat} : startR n vs = vs.map slOf ++ List.replicate (n - vs.length) .un := rfl
@[simp] theorem u_sld : slOf (.d x) = .d x := rfl
@[simp] theorem u_slw {k : Nat} : slOf (.w k) = .w k := rfl
@[simp] theorem u_tnx : toF (.nx ρ S) = .ok (.d .none) S := rfl
@[simp] theorem u_trt : toF (.rt v ρ S) = if plainV v = true then .ok v S else .bad := rfl
@[simp] theorem u_tex {c : Str} {p : List (Str × D)} : toF (.exc c p ρ S) = .exc c p S := rfl
@[simp] theorem u_pA : plainA vs = vs.all plainV := rfl
@[simp] theorem u_pVd : plainV (.d x) = true := rfl
@[simp] theorem u_pVw {k : Nat} : plainV (.w k) = true := rfl
@[simp] theorem u_pVf {l : List D} : plainV (.fl l) = false := rfl
@[simp] theorem u_drs0 : drs ρ [] = some [] := rfl
@[simp] theorem u_drs : drs ρ (v :: vs) = (match dr ρ v, drs ρ vs with
    | some x, some xs => some (x :: xs)
    | _, _ => none) := rfl
@[simp] theorem u_drd : dr ρ (.d x) = some x := rfl
@[simp] theorem u_drf {l : List D} : dr ρ (.fl l) = some (.list l) := rfl
@[simp] theorem u_drw {k : Nat} : dr ρ (.w k) = none := rfl
@[simp] theorem u_dro {i : Nat} : dr ρ (.own i) = (match ρ[i]? with
    | some (.own l) => some (.list l)
    | some (.d x) => some x
    | _ => none) := rfl
@[simp] theorem u_dat0 : datas [] = some [] := rfl
@[simp] theorem u_dat : datas (.d x :: vs) = (match datas vs with
    | some xs => some (x :: xs)
    | none => none) := rfl
@[simp] theorem u_k1 {g : D → Option Ro} {l : List D} : k1 g l = (match l with
  | [d] => g d
  | _ => none) := rfl
@[simp] theorem u_k2 {g : D → D → Option Ro} {l : List D} : k2 g l = (match l with
  | [d, e] => g d e
  | _ => none) := rfl
@[simp] theorem u_tru : mTru v ρ S = (match dr ρ v with
  | some x => (match truD x with
    | some b => .ok b ρ S
    | none => .bad)
  | none => .bad) := rfl
@[simp] theorem u_tN : truD .none = some false := rfl
@[simp] theorem u_tB {b : Bool} : truD (.bool b) = some b := rfl
@[simp] theorem u_tI {i : Int} : truD (.int i) = some (i != 0) := rfl
@[simp] theorem u_tL {l : List D} : truD (.list l) = some (!l.isEmpty) := rfl
@[simp] theorem u_tT {l : List D} : truD (.tuple l) = some (!l.isEmpty) := rfl
@[simp] theorem u_vd : Ro.val (.d x) = .d x := rfl
@[simp] theorem u_vf {l : List D} : Ro.val (.fl l) = .fl l := rfl
@[simp] theorem u_cmpI {f : D → D → Bool} {i j : Int} : gCmp f (.int i) (.int j) = some (.d (.bool (f (.int i) (.int j)))) := rfl
@[simp] theorem u_ltI {i j : Int} : PySem.W.dataLt (.int i) (.int j) = decide (i < j) := PySem.W.dataLt_int _ _
end
section
variable {ρ ρ1 : Rho} {S : T} {x y : D} {v : Val} {vs : List Val} {i n j : Nat} {xs : List D} {mb sm : MStm} {ma : M Val} {ml : M (List Val)}
@[simp] theorem u_pnd : pName i (.d x) ρ = some (ρ.set i (.d x)) := rfl
@[simp] theorem u_pnf : pName i (.fl xs) ρ = some (ρ.set i (.own xs)) := rfl
@[simp] theorem u_pnw {k : Nat} : pName i (.w k) ρ = some (ρ.set i (.w k)) := rfl
@[simp] theorem u_ssd : setSl i (.d x) ρ = ρ.set i (.d x) := rfl
@[simp] theorem u_ssf : setSl i (.fl xs) ρ = ρ.set i (.own xs) := rfl
@[simp] theorem u_ssw {k : Nat} : setSl i (.w k) ρ = ρ.set i (.w k) := rfl
@[simp] theorem u_sso : setSl i (.own j) ρ = ρ.set i .un := rfl
@[simp] theorem u_unR0 : unR [] ρ = ρ := rfl
@[simp] theorem u_unR {k : Nat} {l : List Nat} : unR (k :: l) ρ = (unR l ρ).set k .un := rfl
@[simp] theorem u_ptup {ps : List D → Rho → Option Rho} : pTup n ps (.d (.tuple xs)) ρ = if xs.length = n then ps xs ρ else none := rfl
@[simp] theorem u_psn : psNil [] ρ = some ρ := rfl
@[simp] theorem u_psc {p : Pat} {ps : List D → Rho → Option Rho} : psCons p ps (x :: xs) ρ = (match p (.d x) ρ with
  | some ρ' => ps xs ρ'
  | none => none) := rfl
@[simp] theorem as_try {t : List (Str × Bool)} {ms : Str → List (Str × D) → Addr → Option Addr → MStm} : sTry mb t i ms ρ S = (match mb ρ S with
  | .exc c p ρ1 S1 => (match t.lookup c with
    | none => .bad
    | some false => .exc c p ρ1 S1
    | some true => allAD fun a d => unE i (ms c p a d (ρ1.set i (.exc a d p)) S1))
  | r => r) := rfl
@[simp] theorem u_all {r : SR} : (allAD fun _ _ => r) = r := allAD_eq fun _ _ => rfl
@[simp] theorem u_unn : unE i (.nx ρ S) = .nx (ρ.set i .un) S := rfl
@[simp] theorem u_unb : unE i (.bk ρ S) = .bk (ρ.set i .un) S := rfl
@[simp] theorem u_unc : unE i (.ct ρ S) = .ct (ρ.set i .un) S := rfl
@[simp] theorem u_und : unE i (.rt (.d x) ρ S) = .rt (.d x) (ρ.set i .un) S := rfl
@[simp] theorem u_unf : unE i (.rt (.fl xs) ρ S) = .rt (.fl xs) (ρ.set i .un) S := rfl
@[simp] theorem ap_exf {a : Addr} {d : Option Addr} {f : Str} : mExF i a d f ρ S = (match exAt ρ i a d with
  | some p => (match p.lookup f with
    | some x => .ok (.d x) ρ S
    | none => .bad)
  | none => .bad) := rfl
@[simp] theorem ap_exi {a : Addr} {d : Option Addr} {b : Option Bool} : mExI i a d b ρ S = (match exAt ρ i a d, b with
  | some _, some b => .ok (.d (.bool b)) ρ S
  | _, _ => .bad) := rfl
@[simp] theorem u_exAt {a : Addr} {d : Option Addr} : exAt ρ i a d = (match ρ[i]? with
  | some (.exc a' d' p) => if a' = a ∧ d' = d then some p else none
  | _ => none) := rfl
@[simp] theorem as_retw : sRetW ma ρ S = thenS ma (fun v ρ S => (match v with
  | .fl l => .rt (.w S.length) ρ (S ++ [.lst (l.map .d)])
  | _ => .bad)) ρ S := rfl
@[simp] theorem as_wset : sWSet i n ma ρ S = thenS (ME.bind ma fz) (fun v ρ S => (match v, ρ[i]? with
  | .d x, some (.w k) => (match S[k]? with
    | some (.lst xs) => if n < xs.length then .nx ρ (S.set k (.lst (xs.set n (.d x)))) else .bad
    | _ => .bad)
  | _, _ => .bad)) ρ S := rfl
@[simp] theorem as_wset2 : sWSet2 i n j ma ρ S = thenS (ME.bind ma fz) (fun v ρ S => (match v, ρ[i]? with
  | .d (.tuple [x, y]), some (.w k) => (match S[k]? with
    | some (.lst xs) => if n < xs.length then .nx (ρ.set j (.d y)) (S.set k (.lst (xs.set n (.d x)))) else .bad
    | _ => .bad)
  | _, _ => .bad)) ρ S := rfl
@[simp] theorem ap_iR1 : iR1 ml ρ S = ME.bind ml (fun vs ρ S => (match vs with
  | [.d (.int j)] => if -(2 ^ 62) ≤ j ∧ j < 2 ^ 62 then .ok (rangeD 0 j.toNat) ρ S else .bad
  | _ => .bad)) ρ S := rfl
@[simp] theorem u_for0 {p : Pat} : ME.forM p sm [] ρ S = .nx ρ S := rfl
@[simp] theorem u_rng0 {k : Int} : rangeD k 0 = [] := rfl
@[simp] theorem ap_iR2 : iR2 ml ρ S = ME.bind ml (fun vs ρ S => (match vs with
  | [.d (.int i), .d (.int j)] => if -(2 ^ 62) ≤ i ∧ i < 2 ^ 62 ∧ -(2 ^ 62) ≤ j ∧ j < 2 ^ 62 then .ok (rangeD i (j - i).toNat) ρ S else .bad
  | _ => .bad)) ρ S := rfl
end
theorem chars_inj : ∀ {l m : List Char}, l.map Char.toNat = m.map Char.toNat → l = m
  | [], [], _ => rfl
  | [], _ :: _, h => by simp at h
  | _ :: _, [], h => by simp at h
  | a :: l, b :: m, h => by
    rw [List.map_cons, List.map_cons] at h
    injection h with h1 h2
    rw [chars_inj h2]
    congr 1
    exact Char.ext (UInt32.toNat_inj.mp h1)
@[simp] theorem ofS_inj {a b : String} : (Str.ofString a = Str.ofString b) ↔ a = b := by
  constructor
  · intro h
    have h := congrArg TL.tl h
    rw [TL.tl_ofString, TL.tl_ofString] at h
    exact String.toList_inj.mp (chars_inj h)
  · intro h; rw [h]
@[simp] theorem ofS_beq {a b : String} : (Str.ofString a == Str.ofString b) = (a == b) := by
  rw [Bool.eq_iff_iff, beq_iff_eq, beq_iff_eq, ofS_inj]
@[simp] theorem u_eqS {b : Bool} {x y : Str} : gEq b (.str x) (.str y) = some (.d (.bool (b ^^ decide (x = y)))) := by
  simp [gEq, PyData.depth, PyData.eqv]
  rw [Bool.eq_iff_iff]
  simp
@[simp] theorem u_eqI {b : Bool} {x y : Int} : gEq b (.int x) (.int y) = some (.d (.bool (b ^^ decide (x = y)))) := by
  simp [gEq, PyData.depth, PyData.eqv]
  try (rw [Bool.eq_iff_iff]; simp)
@[simp] theorem sz_1 : 1 ≤ sizeLine := by decide
@[simp] theorem sz_2 : 2 ≤ sizeLine := by decide
@[simp] theorem sz_3 : 3 ≤ sizeLine := by decide
@[simp] theorem sz_4 : 4 ≤ sizeLine := by decide
@[simp] theorem sz_5 : 5 ≤ sizeLine := by decide
@[simp] theorem sz_6 : 6 ≤ sizeLine := by decide
@[simp] theorem sz_7 : 7 ≤ sizeLine := by decide
@[simp] theorem sz_8 : 8 ≤ sizeLine := by decide
@[simp] theorem sz_9 : 9 ≤ sizeLine := by decide
@[simp] theorem sz_10 : 10 ≤ sizeLine := by decide
@[simp] theorem sz_11 : 11 ≤ sizeLine := by decide
@[simp] theorem sz_12 : 12 ≤ sizeLine := by decide
@[simp] theorem sz_13 : 13 ≤ sizeLine := by decide
@[simp] theorem sz_14 : 14 ≤ sizeLine := by decide
@[simp] theorem sz_15 : 15 ≤ sizeLine := by decide
@[simp] theorem sz_16 : 16 ≤ sizeLine := by decide
@[simp] theorem sz_17 : 17 ≤ sizeLine := by decide
@[simp] theorem sz_18 : 18 ≤ sizeLine := by decide
@[simp] theorem sz_19 : 19 ≤ sizeLine := by decide
@[simp] theorem sz_20 : 20 ≤ sizeLine := by decide
@[simp] theorem sz_21 : 21 ≤ sizeLine := by decide
@[simp] theorem sz_22 : 22 ≤ sizeLine := by decide
@[simp] theorem sz_23 : 23 ≤ sizeLine := by decide
@[simp] theorem sz_24 : 24 ≤ sizeLine := by decide
@[simp] theorem sz_25 : 25 ≤ sizeLine := by decide
@[simp] theorem sz_26 : 26 ≤ sizeLine := by decide
@[simp] theorem sz_27 : 27 ≤ sizeLine := by decide
@[simp] theorem sz_28 : 28 ≤ sizeLine := by decide
@[simp] theorem sz_29 : 29 ≤ sizeLine := by decide
@[simp] theorem sz_30 : 30 ≤ sizeLine := by decide
@[simp] theorem sz_31 : 31 ≤ sizeLine := by decide
@[simp] theorem sz_32 : 32 ≤ sizeLine := by decide
@[simp] theorem sz_33 : 33 ≤ sizeLine := by decide
@[simp] theorem sz_34 : 34 ≤ sizeLine := by decide
@[simp] theorem sz_35 : 35 ≤ sizeLine := by decide
@[simp] theorem sz_36 : 36 ≤ sizeLine := by decide
@[simp] theorem sz_37 : 37 ≤ sizeLine := by decide
@[simp] theorem sz_38 : 38 ≤ sizeLine := by decide
@[simp] theorem sz_39 : 39 ≤ sizeLine := by decide
@[simp] theorem sz_40 : 40 ≤ sizeLine := by decide
@[simp] theorem sz_41 : 41 ≤ sizeLine := by decide
@[simp] theorem sz_42 : 42 ≤ sizeLine := by decide
@[simp] theorem sz_43 : 43 ≤ sizeLine := by decide
@[simp] theorem sz_44 : 44 ≤ sizeLine := by decide
@[simp] theorem sz_45 : 45 ≤ sizeLine := by decide
@[simp] theorem sz_46 : 46 ≤ sizeLine := by decide
@[simp] theorem sz_47 : 47 ≤ sizeLine := by decide
@[simp] theorem sz_48 : 48 ≤ sizeLine := by decide
@[simp] theorem sz_49 : 49 ≤ sizeLine := by decide
@[simp] theorem sz_50 : 50 ≤ sizeLine := by decide
@[simp] theorem sz_51 : 51 ≤ sizeLine := by decide
@[simp] theorem sz_52 : 52 ≤ sizeLine := by decide
@[simp] theorem sz_53 : 53 ≤ sizeLine := by decide
@[simp] theorem sz_54 : 54 ≤ sizeLine := by decide
@[simp] theorem sz_55 : 55 ≤ sizeLine := by decide
@[simp] theorem sz_56 : 56 ≤ sizeLine := by decide
@[simp] theorem sz_57 : 57 ≤ sizeLine := by decide
@[simp] theorem sz_58 : 58 ≤ sizeLine := by decide
@[simp] theorem sz_59 : 59 ≤ sizeLine := by decide
@[simp] theorem sz_60 : 60 ≤ sizeLine := by decide
@[simp] theorem sz_61 : 61 ≤ sizeLine := by decide
@[simp] theorem sz_62 : 62 ≤ sizeLine := by decide
@[simp] theorem sz_63 : 63 ≤ sizeLine := by decide
@[simp] theorem sz_64 : 64 ≤ sizeLine := by decide
end ME
end

section
set_option maxHeartbeats 400000
namespace ME
open PySem PySem.Spec L2
open PyProof.Rows hiding St pairD

/-! ### sorted: numbers, rows of numbers -/
abbrev rowD (ns : List Int) : D := .tuple (ns.map .int)
def sortN (ns : List Int) : List Int := ns.mergeSort fun x y => decide (x ≤ y)
def sortI (ls : List (List Int)) : List (List Int) := ls.mergeSort fun x y => !ltI y x
theorem leD_int {i j : Int} : leD (.int i) (.int j) = decide (i ≤ j) := by
  unfold leD
  rw [u_ltI, Bool.eq_iff_iff, Bool.not_eq_true', decide_eq_false_iff_not, decide_eq_true_eq]
  omega
theorem leD_row {x y : List Int} : leD (rowD x) (rowD y) = !ltI y x := by
  unfold leD
  rw [lt_ints]
theorem sortD_ints {ns : List Int} : sortD (ns.map .int) = (sortN ns).map .int := by
  unfold sortD sortN
  exact (List.map_mergeSort (f := PyData.int) (r := fun x y => decide (x ≤ y)) (s := leD) fun a _ b _ => leD_int.symm).symm
theorem sortD_rows {ls : List (List Int)} : sortD (ls.map rowD) = (sortI ls).map rowD := by
  unfold sortD sortI
  exact (List.map_mergeSort (f := rowD) (r := fun x y => !ltI y x) (s := leD) fun a _ b _ => leD_row.symm).symm
theorem ltI_irr : ∀ x : List Int, ltI x x = false
  | [] => rfl
  | a :: x => by simp [ltI, ltI_irr x]
theorem ltI_trans : ∀ {x y z : List Int}, ltI x y = true → ltI y z = true → ltI x z = true
  | [], [], _, h, _ => by cases h
  | [], _ :: _, [], _, h => by cases h
  | [], _ :: _, _ :: _, _, _ => rfl
  | _ :: _, [], _, h, _ => by cases h
  | _ :: _, _ :: _, [], _, h => by cases h
  | a :: x, b :: y, c :: z, h1, h2 => by
    simp only [ltI] at h1 h2 ⊢
    split at h1 <;> split at h2
    · rename_i e1 e2
      rw [if_pos (e1.trans e2)]
      exact ltI_trans h1 h2
    · rename_i e1 e2
      rw [decide_eq_true_eq] at h2
      rw [if_neg (by omega), decide_eq_true_eq]
      omega
    · rename_i e1 e2
      rw [decide_eq_true_eq] at h1
      rw [if_neg (by omega), decide_eq_true_eq]
      omega
    · rw [decide_eq_true_eq] at h1 h2
      rw [if_neg (by omega), decide_eq_true_eq]
      omega
theorem ltI_tri : ∀ x y : List Int, ltI x y = true ∨ x = y ∨ ltI y x = true
  | [], [] => .inr (.inl rfl)
  | [], _ :: _ => .inl rfl
  | _ :: _, [] => .inr (.inr rfl)
  | a :: x, b :: y => by
    simp only [ltI]
    by_cases e : a = b
    · subst e
      rw [if_pos rfl, if_pos rfl]
      rcases ltI_tri x y with h | h | h
      · exact .inl h
      · exact .inr (.inl (by rw [h]))
      · exact .inr (.inr h)
    · rw [if_neg e, if_neg (Ne.symm e), decide_eq_true_eq, decide_eq_true_eq]
      omega
theorem ltI_asym {x y : List Int} (h : ltI x y = true) : ltI y x = false := by
  cases e : ltI y x with
  | false => rfl
  | true =>
    have := ltI_trans h e
    rw [ltI_irr] at this
    cases this
theorem leI_trans (a b c : List Int) (h1 : (!ltI b a) = true) (h2 : (!ltI c b) = true) : (!ltI c a) = true := by
  rw [Bool.not_eq_true'] at h1 h2 ⊢
  cases e : ltI c a with
  | false => rfl
  | true =>
    rcases ltI_tri a b with h | h | h
    · have := ltI_trans e h
      rw [h2] at this
      cases this
    · subst h
      rw [e] at h2
      cases h2
    · rw [h1] at h
      cases h
theorem leI_total (a b : List Int) : (!ltI b a || !ltI a b) = true := by
  cases e : ltI b a with
  | false => rfl
  | true => rw [ltI_asym e] <;> rfl
theorem sortI_perm (ls : List (List Int)) : (sortI ls).Perm ls := List.mergeSort_perm ls _
theorem sortI_sorted (ls : List (List Int)) : (sortI ls).Pairwise fun a b => ltI b a = false := by
  have := List.pairwise_mergeSort leI_trans leI_total ls
  exact this.imp fun h => by simpa using h
theorem sortN_perm (ns : List Int) : (sortN ns).Perm ns := List.mergeSort_perm ns _
theorem sortN_sorted (ns : List Int) : (sortN ns).Pairwise fun a b => a ≤ b := by
  have := List.pairwise_mergeSort (le := fun x y : Int => decide (x ≤ y)) (fun a b c h1 h2 => by simp at *; omega) (fun a b => by simp; omega) ns
  exact this.imp fun h => by simpa using h
theorem sortN_two (a b : Int) : sortN [a, b] = if a ≤ b then [a, b] else [b, a] := by
  have p := sortN_perm [a, b]
  have s := sortN_sorted [a, b]
  have l := p.length_eq
  match q : sortN [a, b], l with
  | [x, y], _ =>
    rw [q] at p s
    have hs : x ≤ y := by
      rw [List.pairwise_cons] at s
      exact s.1 y List.mem_cons_self
    have hx := p.mem_iff (a := x)
    have hy := p.mem_iff (a := y)
    have ha := p.mem_iff (a := a)
    have hb := p.mem_iff (a := b)
    simp at hx hy ha hb
    split
    · rcases hx with rfl | rfl
      · rcases hb with e | e
        · rcases hy with rfl | rfl
          · rw [e]
          · rfl
        · rw [e]
      · rcases ha with rfl | rfl
        · rcases hy with rfl | rfl <;> rfl
        · have : x = a := by omega
          rw [this]
    · rcases hx with rfl | rfl
      · rcases hb with e | e
        · omega
        · omega
      · rcases ha with e | e
        · omega
        · rw [e]
theorem alike_rows {ns ms : List Int} : PySem.W.alike (rowD ns) (rowD ms) = true := by
  simp [PySem.W.alike, alike_ints]
theorem depth_rows : ∀ {ls : List (List Int)}, PyData.depthAll (ls.map rowD) ≤ 2
  | [] => by simp [PyData.depthAll]
  | l :: ls => by
    have h1 := depth_rows (ls := ls)
    have h2 := depth_ints (ns := l)
    simp [PyData.depthAll, PyData.depth] at *
    omega
theorem gSorted_ints {ns : List Int} : gSorted (.list (ns.map .int)) = some (.fl ((sortN ns).map .int)) := by
  have h1 : allAlikeB (ns.map .int) = true := by
    unfold allAlikeB
    simp [PySem.W.alike]
  have h2 : sortableB (ns.map .int) = true := by
    unfold sortableB
    simp
  have h3 := depth_ints (ns := ns)
  show (if (allAlikeB (ns.map .int) && sortableB (ns.map .int) && decide (PyData.depthAll (ns.map .int) ≤ 50)) = true then some (Ro.fl (sortD (ns.map .int))) else none) = _
  rw [h1, h2, decide_eq_true (by omega), sortD_ints]
  rfl
theorem gSorted_tints {ns : List Int} : gSorted (.tuple (ns.map .int)) = some (.fl ((sortN ns).map .int)) := gSorted_ints
theorem gSorted_rows {ls : List (List Int)} (h : ∀ l ∈ ls, l ≠ []) : gSorted (.list (ls.map rowD)) = some (.fl ((sortI ls).map rowD)) := by
  have h1 : allAlikeB (ls.map rowD) = true := by
    unfold allAlikeB
    simp only [List.all_eq_true, List.mem_map]
    rintro _ ⟨a, _, rfl⟩ _ ⟨b, _, rfl⟩
    exact alike_rows
  have h2 : sortableB (ls.map rowD) = true := by
    unfold sortableB
    rw [Bool.or_eq_true]
    refine .inl (List.all_eq_true.mpr fun x hx => ?_)
    obtain ⟨a, ha, rfl⟩ := List.mem_map.mp hx
    cases a with
    | nil => exact absurd rfl (h _ ha)
    | cons _ _ => rfl
  have h3 := depth_rows (ls := ls)
  show (if (allAlikeB (ls.map rowD) && sortableB (ls.map rowD) && decide (PyData.depthAll (ls.map rowD) ≤ 50)) = true then some (Ro.fl (sortD (ls.map rowD))) else none) = _
  rw [h1, h2, decide_eq_true (by omega), sortD_rows]
  rfl
/-! ### operations, where they go -/
theorem gMod_ok {i j : Int} (h : j ≠ 0) : gMod (.int i) (.int j) = some (.d (.int (i.fmod j))) := if_pos h
theorem gDiv_ok {i j : Int} (h : j ≠ 0) (h2 : j.natAbs < 1073741824) : gDiv (.int i) (.int j) = some (.d (.int (i.fdiv j))) := if_pos ⟨h, h2⟩
theorem gMulL {i j : Int} (h : -(2 ^ 64) < i ∧ i < 2 ^ 64) : gMul (.int i) (.int j) = some (.d (.int (i * j))) := if_pos (.inl h)
theorem gMulR {i j : Int} (h : -(2 ^ 64) < j ∧ j < 2 ^ 64) : gMul (.int i) (.int j) = some (.d (.int (i * j))) := if_pos (.inr h)
theorem gDivmod_ok {i j : Int} (h : 0 < j) (h2 : j < 1073741824) : gDivmod (.int i) (.int j) = some (.d (.tuple [.int (i / j), .int (i % j)])) := if_pos ⟨h, h2⟩
@[simp] theorem u_add {i j : Int} : gAdd (.int i) (.int j) = some (.d (.int (i + j))) := rfl
@[simp] theorem u_sub {i j : Int} : ME.gSub (.int i) (.int j) = some (.d (.int (i - j))) := rfl
@[simp] theorem u_neg {i : Int} : gNeg (.int i) = some (.d (.int (-i))) := rfl
@[simp] theorem u_int {i : Int} : gInt (.int i) = some (.d (.int i)) := rfl
@[simp] theorem u_abs {i : Int} : gAbs (.int i) = some (.d (.int (if i < 0 then -i else i))) := rfl
@[simp] theorem u_max {i j : Int} : gMax2 (.int i) (.int j) = some (.d (.int (if j > i then j else i))) := rfl
@[simp] theorem u_min {i j : Int} : gMin2 (.int i) (.int j) = some (.d (.int (if j < i then j else i))) := rfl
@[simp] theorem u_lenL {l : List D} : gLen (.list l) = some (.d (.int l.length)) := rfl
@[simp] theorem u_lenT {l : List D} : gLen (.tuple l) = some (.d (.int l.length)) := rfl
@[simp] theorem u_tupL {l : List D} : gTuple (.list l) = some (.d (.tuple l)) := rfl
@[simp] theorem u_tupT {l : List D} : gTuple (.tuple l) = some (.d (.tuple l)) := rfl
@[simp] theorem u_lstL {l : List D} : gList (.list l) = some (.fl l) := rfl
@[simp] theorem u_lstT {l : List D} : gList (.tuple l) = some (.fl l) := rfl
theorem fmod_lt {i m : Int} (h : 0 < m) : 0 ≤ i.fmod m ∧ i.fmod m < m := by
  rw [Int.fmod_eq_emod_of_nonneg _ (by omega)]
  exact ⟨Int.emod_nonneg _ (by omega), Int.emod_lt_of_pos _ h⟩
theorem gIxL {l : List D} {k : Nat} (h : k < l.length) (hz : l.length ≤ sizeLine) : gIx (.list l) (.int (k : Int)) = some (.d l[k]) := by
  show ((ixN l.length (k : Int)).bind fun j => l[j]?).map Ro.d = _
  rw [ixN_nat h hz]
  simp [h]
theorem gIxT {l : List D} {k : Nat} (h : k < l.length) (hz : l.length ≤ sizeLine) : gIx (.tuple l) (.int (k : Int)) = some (.d l[k]) := gIxL h hz
/-! ### comprehensions whose turns change the store -/
theorem lc_all {α : Type} {enc : α → D} {P : D → α → Prop} {vs : List Nat} {mi : M (List D)} {p : Pat} {c : M Bool} {m : M Val} {ρ : Rho} {S : T} {I : T → Prop} {xs : List D} {S1 : T} (hi : mi ρ S = .ok xs ρ S1) (i : I S1) (hz : xs.length ≤ sizeLine) (no : vs.all (notOwn ρ) = true)
    (h : ∀ x ∈ xs, ∀ S, I S → ∃ a S', LcStep vs p c m (unR vs ρ) S x (some (enc a)) S' ∧ I S' ∧ P x a) : ∃ as S', Paired P xs as ∧ I S' ∧ mLc vs mi p c m ρ S = .ok (.fl (as.map enc)) ρ S' := by
  obtain ⟨os, S', r, i', e⟩ := lc_ok (G := fun x o => ∃ a, o = some (enc a) ∧ P x a) hi i hz no fun x hx S i => by
    obtain ⟨a, S', h1, h2, h3⟩ := h x hx S i
    exact ⟨_, S', h1, h2, a, rfl, h3⟩
  have k : ∀ {xs : List D} {os : List (Option D)}, Paired (fun x o => ∃ a, o = some (enc a) ∧ P x a) xs os → ∃ as, os.filterMap id = as.map enc ∧ Paired P xs as := by
    intro xs os r
    induction r with
    | nil => exact ⟨[], rfl, .nil⟩
    | cons r t ih =>
      obtain ⟨as, e1, e2⟩ := ih
      obtain ⟨a, rfl, e4⟩ := r
      exact ⟨a :: as, by simp [e1], .cons e4 e2⟩
  obtain ⟨as, e1, e2⟩ := k r
  exact ⟨as, S', e2, i', by rw [e, e1]⟩
theorem Paired.all {α β : Type} {P : β → Prop} {xs : List α} {as : List β} (h : Paired (fun _ a => P a) xs as) : as.length = xs.length ∧ ∀ a ∈ as, P a := by
  induction h with
  | nil => exact ⟨rfl, by simp⟩
  | cons r t ih => exact ⟨by simp [ih.1], fun a ha => (List.mem_cons.mp ha).elim (fun e => e ▸ r) (ih.2 a)⟩
/-- .. some of the items -/
theorem lc_sub {vs : List Nat} {mi : M (List D)} {p : Pat} {c : M Bool} {m : M Val} {ρ : Rho} {S : T} {I : T → Prop} {xs : List D} {S1 : T} (hi : mi ρ S = .ok xs ρ S1) (i : I S1) (hz : xs.length ≤ sizeLine) (no : vs.all (notOwn ρ) = true)
    (h : ∀ x ∈ xs, ∀ S, I S → ∃ o S', LcStep vs p c m (unR vs ρ) S x o S' ∧ I S' ∧ (o = none ∨ o = some x)) : ∃ ys S', ys.Sublist xs ∧ I S' ∧ mLc vs mi p c m ρ S = .ok (.fl ys) ρ S' := by
  obtain ⟨os, S', r, i', e⟩ := lc_ok (G := fun x o => o = none ∨ o = some x) hi i hz no h
  refine ⟨_, S', ?_, i', e⟩
  clear e hi hz h
  induction r with
  | nil => exact .slnil
  | cons r t ih =>
    rcases r with rfl | rfl
    · rw [List.filterMap_cons]
      exact ih.cons _
    · rw [List.filterMap_cons]
      exact ih.cons₂ _
/-- .. by a plain test -/
theorem lc_fmap {vs : List Nat} {mi : M (List D)} {p : Pat} {c : M Bool} {m : M Val} {ρ ρ0 : Rho} {S S0 : T} {xs : List D} {g : D → Option D} (hi : mi ρ0 S0 = .ok xs ρ S) (hz : xs.length ≤ sizeLine) (no : vs.all (notOwn ρ) = true)
    (h : ∀ x ∈ xs, LcStep vs p c m (unR vs ρ) S x (g x) S) : mLc vs mi p c m ρ0 S0 = .ok (.fl (xs.filterMap g)) ρ S := by
  have key : ∀ (ys acc : List D), (∀ x ∈ ys, LcStep vs p c m (unR vs ρ) S x (g x) S) → compM vs p c m ys acc (unR vs ρ) S = .ok (acc ++ ys.filterMap g) (unR vs ρ) S := by
    intro ys
    induction ys with
    | nil => intro acc _; simp [compM, ME.ret]
    | cons y ys ih =>
      intro acc hy
      rw [lc_step (hy y List.mem_cons_self), ih _ fun x hx => hy x (List.mem_cons_of_mem _ hx), List.filterMap_cons]
      cases g y <;> simp
  unfold mLc ME.bind
  rw [hi]
  dsimp only
  rw [if_pos ⟨hz, no⟩, key xs [] h]
  dsimp only
  rw [restR_same, List.nil_append]
theorem lc_no {vs : List Nat} {p : Pat} {c : M Bool} {m : M Val} {ρ ρ1 : Rho} {S S' : T} {x : D} (h1 : p (.d x) ρ = some ρ1) (h2 : c ρ1 S = .ok false ρ1 S') (h4 : unR vs ρ1 = ρ) : LcStep vs p c m ρ S x none S' := ⟨ρ1, h1, .inr ⟨ρ1, h2, rfl, h4⟩⟩
theorem lc_yes {vs : List Nat} {p : Pat} {c : M Bool} {m : M Val} {ρ ρ1 : Rho} {S S1 S' : T} {x y : D} (h1 : p (.d x) ρ = some ρ1) (h2 : c ρ1 S = .ok true ρ1 S1) (h3 : m ρ1 S1 = .ok (.d y) ρ1 S') (h4 : unR vs ρ1 = ρ) : LcStep vs p c m ρ S x (some y) S' :=
  ⟨ρ1, h1, .inl ⟨ρ1, S1, ρ1, y, h2, by unfold ME.bind; rw [h3]; rfl, rfl, h4⟩⟩
/-- the places of p -/
def idxs (p : Int) : Int → List Int → List Int
  | _, [] => []
  | lo, x :: l => if x = p then lo :: idxs p (lo + 1) l else idxs p (lo + 1) l
theorem idxs_mem {p i : Int} : ∀ {l : List Int} {lo : Int}, i ∈ idxs p lo l → lo ≤ i ∧ i < lo + l.length ∧ l[(i - lo).toNat]? = some p
  | [], lo, h => by cases h
  | x :: l, lo, h => by
    unfold idxs at h
    have go : i ∈ idxs p (lo + 1) l → lo ≤ i ∧ i < lo + (x :: l).length ∧ (x :: l)[(i - lo).toNat]? = some p := fun h => by
      obtain ⟨h1, h2, h3⟩ := idxs_mem h
      refine ⟨by omega, by simp; omega, ?_⟩
      have : (i - lo).toNat = (i - (lo + 1)).toNat + 1 := by omega
      rw [this, List.getElem?_cons_succ]
      exact h3
    split at h
    · rename_i c
      rcases List.mem_cons.mp h with e | h
      · subst e
        refine ⟨Int.le_refl _, by simp; omega, ?_⟩
        simp [c]
      · exact go h
    · exact go h
theorem idxs_up {p : Int} : ∀ {l : List Int} {lo : Int}, (idxs p lo l).Pairwise (· < ·)
  | [], _ => .nil
  | x :: l, lo => by
    unfold idxs
    split
    · refine List.pairwise_cons.mpr ⟨fun y hy => ?_, idxs_up⟩
      have := (idxs_mem hy).1
      omega
    · exact idxs_up
theorem idxs_ne {p : Int} : ∀ {l : List Int} {lo : Int}, p ∈ l → idxs p lo l ≠ []
  | x :: l, lo, h => by
    unfold idxs
    split
    · simp
    · rename_i c
      rcases List.mem_cons.mp h with e | h
      · exact absurd e.symm c
      · exact idxs_ne h
theorem idxs_filt {p : Int} {g : D → Option D} (hg : ∀ i x : Int, g (.tuple [.int i, .int x]) = if x = p then some (.int i) else none) : ∀ {l : List Int} {lo : Int}, (pairD (rangeD lo l.length) (l.map .int)).filterMap g = (idxs p lo l).map .int
  | [], _ => rfl
  | x :: l, lo => by
    show List.filterMap g (.tuple [.int lo, .int x] :: pairD (rangeD (lo + 1) l.length) (l.map .int)) = _
    rw [List.filterMap_cons, hg, idxs_filt hg]
    by_cases c : x = p
    · rw [if_pos c, idxs, if_pos c]
      rfl
    · rw [if_neg c, idxs, if_neg c]
/-! ### draws: a range of turns -/
theorem rangeD_map : ∀ (n : Nat) (lo : Int), rangeD lo n = (List.range n).map fun (k : Nat) => .int (lo + k)
  | 0, _ => rfl
  | n + 1, lo => by
    rw [List.range_succ_eq_map, List.map_cons, List.map_map]
    show PyData.int lo :: rangeD (lo + 1) n = _
    rw [rangeD_map n (lo + 1)]
    congr 1
    · simp
    · refine List.map_congr_left fun k _ => ?_
      simp only [Function.comp]
      congr 1
      omega
end ME
end

section
set_option maxHeartbeats 400000
namespace ME
open PySem PySem.Spec L2
open PyProof.Rows hiding St pairD

/-! ### repr: data that can be shown -/
structure Gd (w k : Nat) (d : D) : Prop where
  s : d.showable = true
  l : d.leavesShort 13 = true
  w : d.weight ≤ w
  k : d.depth ≤ k
theorem Gd.up {w k w' k' : Nat} {d : D} (h : Gd w k d) (hw : w ≤ w') (hk : k ≤ k') : Gd w' k' d := ⟨h.s, h.l, Nat.le_trans h.w hw, Nat.le_trans h.k hk⟩
theorem gRepr_ok {w k : Nat} {d : D} (h : Gd w k d) (hw : w ≤ 1048576) (hk : k ≤ 60) : gRepr d = some (.d (.str d.shown)) := by
  have e := PyData.shown_fits (B := 13) (by decide) (by decide) h.l (Nat.le_trans (Nat.le_trans h.w hw) (by decide))
  unfold gRepr
  rw [h.s, decide_eq_true e, decide_eq_true (Nat.le_trans h.k hk)]
  rfl
theorem gd_none : Gd 0 0 .none := ⟨rfl, rfl, by simp [PyData.weight], by simp [PyData.depth]⟩
theorem gd_bool {b : Bool} : Gd 0 0 (.bool b) := ⟨rfl, rfl, by simp [PyData.weight], by simp [PyData.depth]⟩
theorem gd_int {i : Int} (h : -1000000 < i ∧ i < 1000000) : Gd 20 0 (.int i) := by
  have hl : i.natAbs.log2 ≤ 19 := by
    by_cases z : i.natAbs = 0
    · rw [z]; decide
    · have := (Nat.log2_lt z).mpr (by omega : i.natAbs < 2 ^ 20)
      omega
  refine ⟨?_, ?_, ?_, by simp [PyData.depth]⟩
  · simp only [PyData.showable, decide_eq_true_eq]
    omega
  · show decide ((PyData.shown (.int i)).length ≤ 13) = true
    refine decide_eq_true ?_
    show (Str.ofString (toString i)).length ≤ 13
    by_cases c : 0 ≤ i
    · have := PyProof.Rows.toString_length_le (v := i) (k := 6) c (by decide) (by omega)
      omega
    · obtain ⟨n, rfl⟩ : ∃ n : Nat, i = Int.negSucc n := by
        cases i with
        | ofNat n => exact absurd (Int.natCast_nonneg n) c
        | negSucc n => exact ⟨n, rfl⟩
      have e : (toString (Int.negSucc n) : String) = "-" ++ toString ((n + 1 : Nat) : Int) := rfl
      have e2 : (Str.ofString (toString (Int.negSucc n))) = Str.ofString "-" ++ Str.ofString (toString ((n + 1 : Nat) : Int)) := by
        rw [e]
        refine TL.ext_tl ?_
        rw [TL.tl_append, TL.tl_ofString, TL.tl_ofString, TL.tl_ofString, String.toList_append, List.map_append]
      rw [e2, TL.len_tl, TL.tl_append, List.length_append, ← TL.len_tl, ← TL.len_tl]
      have h1 : (Str.ofString "-").length = 1 := by decide
      have h2 := PyProof.Rows.toString_length_le (v := ((n + 1 : Nat) : Int)) (k := 6) (by omega) (by decide) (by omega)
      rw [h1]
      omega
  · simp only [PyData.weight]
    split <;> omega
/-- plain signs -/
def ch (z : Str) : Prop := ∀ c ∈ TL.tl z, c < 256
theorem ch_lit {z : Str} (h : (TL.tl z).all (fun c => decide (c < 256)) = true) : ch z := fun c hc => of_decide_eq_true (List.all_eq_true.mp h c hc)
theorem ch_app {x y : Str} (hx : ch x) (hy : ch y) : ch (x ++ y) := fun c hc => by
  rw [TL.tl_append] at hc
  exact (List.mem_append.mp hc).elim (hx c) (hy c)
theorem ch_join {y : Str} (hy : ch y) {l : List Str} (h : ∀ z ∈ l, ch z) : ch (Txt.join y l) := by
  have k : ∀ (l : List (List Nat)), (∀ p ∈ l, ∀ c ∈ p, c < 256) → ∀ c ∈ TL.joinL (TL.tl y) l, c < 256 := by
    intro l
    induction l with
    | nil => intro _ c hc; simp [TL.joinL] at hc
    | cons p l ih =>
      intro h c hc
      cases l with
      | nil => exact h p List.mem_cons_self c hc
      | cons q l =>
        have hc : c ∈ p ++ (TL.tl y ++ TL.joinL (TL.tl y) (q :: l)) := hc
        rcases List.mem_append.mp hc with z | z
        · exact h p List.mem_cons_self c z
        · rcases List.mem_append.mp z with z | z
          · exact hy c z
          · exact ih (fun r hr => h r (List.mem_cons_of_mem _ hr)) c z
  intro c hc
  rw [TL.join_eq, TL.tl_join] at hc
  refine k _ (fun p hp => ?_) c hc
  obtain ⟨z, hz, rfl⟩ := List.mem_map.mp hp
  exact h z hz
theorem ch_num {i : Int} (h : 0 ≤ i) : ch (toString i : String) := by
  obtain ⟨n, rfl⟩ := Int.eq_ofNat_of_zero_le h
  intro c hc
  have e : TL.tl (Str.ofString (toString ((n : Nat) : Int))) = TL.numL n := TL.tl_num n
  have hc : c ∈ TL.tl (Str.ofString (toString ((n : Nat) : Int))) := hc
  rw [e] at hc
  have := TL.numL_digits n c hc
  omega
theorem gd_str {z : Str} {n : Nat} (h : ch z) (hl : z.length ≤ n) : Gd n 0 (.str z) := by
  refine ⟨rfl, ?_, ?_, by simp [PyData.depth]⟩
  · simp only [PyData.leavesShort, List.all_eq_true, decide_eq_true_eq]
    intro c hc
    have := h c hc
    omega
  · simp only [PyData.weight]
    exact hl
theorem gd_all {w k : Nat} : ∀ {l : List D}, (∀ d ∈ l, Gd w k d) → PyData.showableAll l = true ∧ PyData.leavesShortAll 13 l = true ∧ PyData.weightAll l ≤ l.length * (w + 1) ∧ PyData.depthAll l ≤ k
  | [], _ => ⟨rfl, rfl, by simp [PyData.weightAll], by simp [PyData.depthAll]⟩
  | x :: l, h => by
    obtain ⟨h1, h2, h3, h4⟩ := gd_all (l := l) fun d hd => h d (List.mem_cons_of_mem _ hd)
    have hx := h x List.mem_cons_self
    refine ⟨?_, ?_, ?_, ?_⟩
    · simp only [PyData.showableAll, hx.s, h1, Bool.and_self]
    · simp only [PyData.leavesShortAll, hx.l, h2, Bool.and_self]
    · simp only [PyData.weightAll, List.length_cons, Nat.succ_mul]
      have := hx.w
      omega
    · simp only [PyData.depthAll]
      exact Nat.max_le.mpr ⟨hx.k, h4⟩
theorem gd_tup {w k n : Nat} {l : List D} (h : ∀ d ∈ l, Gd w k d) (hl : l.length ≤ n) : Gd (n * (w + 1)) (k + 1) (.tuple l) := by
  obtain ⟨h1, h2, h3, h4⟩ := gd_all h
  refine ⟨by simp only [PyData.showable]; exact h1, by simp only [PyData.leavesShort]; exact h2, ?_, by simp only [PyData.depth]; omega⟩
  simp only [PyData.weight]
  exact Nat.le_trans h3 (Nat.mul_le_mul_right _ hl)
theorem gd_lst {w k n : Nat} {l : List D} (h : ∀ d ∈ l, Gd w k d) (hl : l.length ≤ n) : Gd (n * (w + 1)) (k + 1) (.list l) := by
  obtain ⟨h1, h2, h3, h4⟩ := gd_all h
  refine ⟨by simp only [PyData.showable]; exact h1, by simp only [PyData.leavesShort]; exact h2, ?_, by simp only [PyData.depth]; omega⟩
  simp only [PyData.weight]
  exact Nat.le_trans h3 (Nat.mul_le_mul_right _ hl)
theorem gd_ints {ns : List Int} {n : Nat} (h : ∀ i ∈ ns, -1000000 < i ∧ i < 1000000) (hl : ns.length ≤ n) : Gd (n * 21) 1 (rowD ns) := gd_tup (w := 20) (k := 0) (fun d hd => by
  obtain ⟨i, hi, rfl⟩ := List.mem_map.mp hd
  exact gd_int (h i hi)) (by rw [List.length_map]; exact hl)
end ME
end

section
set_option maxHeartbeats 0
namespace LW
open PySem PySem.Spec L2 ME
open PyProof.Rows hiding St
def top (i : Nat) : Stmt := PySem.Challenge.pw_grovesapart_k85_records_and_their_texts.main.body.getD i (.Pass ⟨0, 0, 0, 0⟩)
def cbody (st : Stmt) (i : Nat) : Stmt := match st with
  | .ClassDef _ _ _ body _ _ _ _ _ _ _ => body.getD i (.Pass ⟨0, 0, 0, 0⟩)
  | s => s
def t_InvalidRecord : List (Str × Bool) := [("WebError", false), ("StateError", false), ("InvalidRecord", true), ("InvalidText", false), ("Unread", false)]
def t_InvalidText : List (Str × Bool) := [("WebError", false), ("StateError", false), ("InvalidRecord", false), ("InvalidText", true), ("Unread", false)]
def t_StateError : List (Str × Bool) := [("WebError", false), ("StateError", true), ("InvalidRecord", false), ("InvalidText", false), ("Unread", true)]
def t_Unread : List (Str × Bool) := [("WebError", false), ("StateError", false), ("InvalidRecord", false), ("InvalidText", false), ("Unread", true)]
def t_WebError : List (Str × Bool) := [("WebError", true), ("StateError", false), ("InvalidRecord", true), ("InvalidText", true), ("Unread", false)]
def tb : List (Str × Bas) := [("WebError", .ve), ("StateError", .re), ("InvalidRecord", .ve), ("InvalidText", .ve), ("Unread", .re)]
def tx : List (Str × Bool) := [("WebError", true), ("StateError", true), ("InvalidRecord", true), ("InvalidText", true), ("Unread", true)]
abbrev FD (K : PySem.W.Frag) (x : Str) (i : Nat) (fd : FuncData) : Prop := FunD K x x (defArgs (top i)) (defBody (top i)) (defScope (top i)) [] [] (He.ga K x) fd
/-- what the text says -/
structure Txt (K : PySem.W.Frag) (mg : Str → Option Value) : Prop where
  n_abs : mg "abs" = none
  n_all : mg "all" = none
  n_bool : mg "bool" = none
  n_divmod : mg "divmod" = none
  n_enumerate : mg "enumerate" = none
  n_int : mg "int" = none
  n_isinstance : mg "isinstance" = none
  n_len : mg "len" = none
  n_list : mg "list" = none
  n_max : mg "max" = none
  n_range : mg "range" = none
  n_repr : mg "repr" = none
  n_set : mg "set" = none
  n_sorted : mg "sorted" = none
  n_str : mg "str" = none
  n_tuple : mg "tuple" = none
  n_zip : mg "zip" = none
  c_BETWEEN : ∃ t, mg "BETWEEN" = some (.str "," t)
  c_DIGITS : ∃ t, mg "DIGITS" = some (.str "0123456789" t)
  c_LOTS : ∃ t, mg "LOTS" = some (.str "lots" t)
  c_MOST_LOTS : ∃ t, mg "MOST_LOTS" = some (.int 6 t)
  c_MOST_PLACES_records : ∃ t, mg "MOST_PLACES_records" = some (.int 16 t)
  c_MOST_PLACES_webs : ∃ t, mg "MOST_PLACES_webs" = some (.int 16 t)
  c_MOST_TIES_records : ∃ t, mg "MOST_TIES_records" = some (.int 40 t)
  c_MOST_TIES_webs : ∃ t, mg "MOST_TIES_webs" = some (.int 40 t)
  c_NONE : ∃ t, mg "NONE" = some (.str "-" t)
  c_PARTING : ∃ t, mg "PARTING" = some (.str "parting" t)
  c_PLACES : ∃ t, mg "PLACES" = some (.str "places" t)
  c_TIED : ∃ t, mg "TIED" = some (.str "-" t)
  c_WEB_records : ∃ t, mg "WEB_records" = some (.str "web" t)
  c_WEB_webs : ∃ t, mg "WEB_webs" = some (.str "web" t)
  g__law_pot : mg "_law_pot" = some (.ref (He.ga K "_law_pot"))
  u__law_pot : ∃ fd, FD K "_law_pot" 45 fd
  g__law_draw : mg "_law_draw" = some (.ref (He.ga K "_law_draw"))
  u__law_draw : ∃ fd, FD K "_law_draw" 46 fd
  g__law_pick : mg "_law_pick" = some (.ref (He.ga K "_law_pick"))
  u__law_pick : ∃ fd, FD K "_law_pick" 47 fd
  g__law_web_by : mg "_law_web_by" = some (.ref (He.ga K "_law_web_by"))
  u__law_web_by : ∃ fd, FD K "_law_web_by" 49 fd
  g__law_web : mg "_law_web" = some (.ref (He.ga K "_law_web"))
  u__law_web : ∃ fd, FD K "_law_web" 50 fd
  g__law_record : mg "_law_record" = some (.ref (He.ga K "_law_record"))
  u__law_record : ∃ fd, FD K "_law_record" 51 fd
  g__law_odd : mg "_law_odd" = some (.ref (He.ga K "_law_odd"))
  u__law_odd : ∃ fd, FD K "_law_odd" 55 fd
  g_count_read : mg "count_read" = some (.ref (He.ga K "count_read"))
  u_count_read : ∃ fd, FD K "count_read" 38 fd
  g_numbers_read : mg "numbers_read" = some (.ref (He.ga K "numbers_read"))
  u_numbers_read : ∃ fd, FD K "numbers_read" 39 fd
  g_rest_read : mg "rest_read" = some (.ref (He.ga K "rest_read"))
  u_rest_read : ∃ fd, FD K "rest_read" 40 fd
  g_is_row : mg "is_row" = some (.ref (He.ga K "is_row"))
  u_is_row : ∃ fd, FD K "is_row" 10 fd
  g_is_integer : mg "is_integer" = some (.ref (He.ga K "is_integer"))
  u_is_integer : ∃ fd, FD K "is_integer" 7 fd
  g_is_count : mg "is_count" = some (.ref (He.ga K "is_count"))
  u_is_count : ∃ fd, FD K "is_count" 8 fd
  g_is_below : mg "is_below" = some (.ref (He.ga K "is_below"))
  u_is_below : ∃ fd, FD K "is_below" 9 fd
  g_are_ties : mg "are_ties" = some (.ref (He.ga K "are_ties"))
  u_are_ties : ∃ fd, FD K "are_ties" 15 fd
  g_is_many : mg "is_many" = some (.ref (He.ga K "is_many"))
  u_is_many : ∃ fd, FD K "is_many" 16 fd
  g_is_web_of : mg "is_web_of" = some (.ref (He.ga K "is_web_of"))
  u_is_web_of : ∃ fd, FD K "is_web_of" 17 fd
  g_are_counts : mg "are_counts" = some (.ref (He.ga K "are_counts"))
  u_are_counts : ∃ fd, FD K "are_counts" 30 fd
  g_is_climbing : mg "is_climbing" = some (.ref (He.ga K "is_climbing"))
  u_is_climbing : ∃ fd, FD K "is_climbing" 31 fd
  g_are_lots : mg "are_lots" = some (.ref (He.ga K "are_lots"))
  u_are_lots : ∃ fd, FD K "are_lots" 32 fd
  g_is_parting : mg "is_parting" = some (.ref (He.ga K "is_parting"))
  u_is_parting : ∃ fd, FD K "is_parting" 33 fd
  g_is_record_of : mg "is_record_of" = some (.ref (He.ga K "is_record_of"))
  u_is_record_of : ∃ fd, FD K "is_record_of" 34 fd
  g_lot_text : mg "lot_text" = some (.ref (He.ga K "lot_text"))
  u_lot_text : ∃ fd, FD K "lot_text" 35 fd
  g_tokens_of : mg "tokens_of" = some (.ref (He.ga K "tokens_of"))
  u_tokens_of : ∃ fd, FD K "tokens_of" 36 fd
  g_text_of_record : mg "text_of_record" = some (.ref (He.ga K "text_of_record"))
  u_text_of_record : ∃ fd, FD K "text_of_record" 37 fd
  g_read_record : mg "read_record" = some (.ref (He.ga K "read_record"))
  u_read_record : ∃ fd, FD K "read_record" 43 fd
  g__law_text : mg "_law_text" = some (.ref (He.ga K "_law_text"))
  u__law_text : ∃ fd, FD K "_law_text" 52 fd
  g__law_bent_text : mg "_law_bent_text" = some (.ref (He.ga K "_law_bent_text"))
  u__law_bent_text : ∃ fd, FD K "_law_bent_text" 53 fd
  g__law_read : mg "_law_read" = some (.ref (He.ga K "_law_read"))
  u__law_read : ∃ fd, FD K "_law_read" 54 fd
  g_record_text : mg "record_text" = some (.ref (He.ga K "record_text"))
  u_record_text : ∃ fd, FD K "record_text" 42 fd
  g_is_record : mg "is_record" = some (.ref (He.ga K "is_record"))
  u_is_record : ∃ fd, FD K "is_record" 41 fd
  g_law : mg "law" = some (.ref (He.ga K "law"))
  u_law : ∃ fd, FD K "law" 56 fd
  g_InvalidRecord : mg "InvalidRecord" = some (.ref (He.ga K "InvalidRecord"))
  g_InvalidText : mg "InvalidText" = some (.ref (He.ga K "InvalidText"))
  g_StateError : mg "StateError" = some (.ref (He.ga K "StateError"))
  g_Unread : mg "Unread" = some (.ref (He.ga K "Unread"))
  g_WebError : mg "WebError" = some (.ref (He.ga K "WebError"))
  e_InvalidRecord : ExK K "InvalidRecord" ["value"]
  e_InvalidText : ExK K "InvalidText" ["value"]
  e_Unread : ExK K "Unread" ["text"]
  h_InvalidRecord : ∀ c b, List.lookup c t_InvalidRecord = some b → PySem.W.exmOne K (.ref (He.ga K c)) (.ref (He.ga K "InvalidRecord")) = some b
  w_InvalidRecord : ∀ c, List.lookup c t_InvalidRecord = some true → List.lookup c tx = some true
  h_InvalidText : ∀ c b, List.lookup c t_InvalidText = some b → PySem.W.exmOne K (.ref (He.ga K c)) (.ref (He.ga K "InvalidText")) = some b
  w_InvalidText : ∀ c, List.lookup c t_InvalidText = some true → List.lookup c tx = some true
  h_Unread : ∀ c b, List.lookup c t_Unread = some b → PySem.W.exmOne K (.ref (He.ga K c)) (.ref (He.ga K "Unread")) = some b
  w_Unread : ∀ c, List.lookup c t_Unread = some true → List.lookup c tx = some true
  k_StateError : ∀ c b, List.lookup c t_StateError = some b → PySem.W.kitOne K (.ref (He.ga K c)) (.ref (He.ga K "StateError")) = some b
  k_WebError : ∀ c b, List.lookup c t_WebError = some b → PySem.W.kitOne K (.ref (He.ga K c)) (.ref (He.ga K "WebError")) = some b
  x : ∀ c b, List.lookup c tx = some b → OxAll K ["text", "value"] c
def kw_is_record {α : Type} (us ws : List α) : List α := match us, ws with
  | [], [v0] => [v0]
  | _, _ => []
theorem b_kw_is_record {K : PySem.W.Frag} {fd : FuncData} (Fd : FD K "is_record" 41 fd) : KB K fd ["value"] ["value"] kw_is_record where
  to s us ws _ hl := by
    unfold kw_is_record at hl ⊢
    split at hl
    · exact fnd_to Fd s fun _ _ _ _ _ _ => rfl
    · cases hl
  rel h h2 := by
    cases h with
    | cons _ _ => exact .nil
    | nil =>
      cases h2 with
      | nil => exact .nil
      | cons r0 h2 =>
        cases h2 with
        | nil => exact (.cons r0 .nil)
        | cons _ _ => exact .nil
def kw_record_text {α : Type} (us ws : List α) : List α := match us, ws with
  | [], [v0] => [v0]
  | _, _ => []
theorem b_kw_record_text {K : PySem.W.Frag} {fd : FuncData} (Fd : FD K "record_text" 42 fd) : KB K fd ["record"] ["record"] kw_record_text where
  to s us ws _ hl := by
    unfold kw_record_text at hl ⊢
    split at hl
    · exact fnd_to Fd s fun _ _ _ _ _ _ => rfl
    · cases hl
  rel h h2 := by
    cases h with
    | cons _ _ => exact .nil
    | nil =>
      cases h2 with
      | nil => exact .nil
      | cons r0 h2 =>
        cases h2 with
        | nil => exact (.cons r0 .nil)
        | cons _ _ => exact .nil
def kw_read_record {α : Type} (us ws : List α) : List α := match us, ws with
  | [], [v0] => [v0]
  | _, _ => []
theorem b_kw_read_record {K : PySem.W.Frag} {fd : FuncData} (Fd : FD K "read_record" 43 fd) : KB K fd ["text"] ["text"] kw_read_record where
  to s us ws _ hl := by
    unfold kw_read_record at hl ⊢
    split at hl
    · exact fnd_to Fd s fun _ _ _ _ _ _ => rfl
    · cases hl
  rel h h2 := by
    cases h with
    | cons _ _ => exact .nil
    | nil =>
      cases h2 with
      | nil => exact .nil
      | cons r0 h2 =>
        cases h2 with
        | nil => exact (.cons r0 .nil)
        | cons _ _ => exact .nil
abbrev N__law_pot : List Str := ["script", "k", "cell"]
abbrev P__law_pot : List Str := ["script", "k"]
theorem sc__law_pot : FnScope N__law_pot P__law_pot (defScope (top 45)) := ⟨rfl, rfl, rfl, by decide +kernel, rfl, by decide +kernel, by decide +kernel⟩
noncomputable def m__law_pot : MStm := (sSeq (sAsg (mIf (mB (mOp gLt (mVar 1) (mWLen (mVar 0)))) (mCa (k1 gAbs) (aCons (mWIx (mVar 0) (mVar 1)) aNil)) (mOp gAdd (mOp gMul (mC (.int 3331)) (mVar 1)) (mC (.int 2851)))) (pName 2))
    (sRetW (mLst (mCons (mCa (k2 gMax2) (aCons (mC (.int 0)) (aCons (mOp ME.gSub (mVar 2) (mOp gPow (mC (.int 10)) (mC (.int 18)))) aNil))) (mCons (mOp gMod (mCa (k1 gInt) (aCons (mOp gAdd (mOp gAdd (mOp gMul (mOp gMod (mCa (k1 gInt) (aCons (mVar 2) aNil)) (mC (.int 2147483587))) (mC (.int 48271))) (mOp gMul (mC (.int 60271)) (mVar 1))) (mC (.int 97))) aNil)) (mC (.int 2147483629))) mNil)))))
noncomputable def f__law_pot : Fn := bodyFn N__law_pot.length m__law_pot
section
variable {P : Program} {w : World} {K : PySem.W.Frag} {mg : Str → Option Value} {base : Heap}
theorem g__law_pot (T : Txt K mg) {fd : FuncData} (Fd : FD K "_law_pot" 45 fd) : FnG P w K mg base 1 (He.ga K "_law_pot") fd P__law_pot (spM K P__law_pot.length f__law_pot) :=
  fn_body (N := N__law_pot) (ps := P__law_pot) (m := m__law_pot) Fd sc__law_pot fun cdv A outer s H E hgd hr tk pw => (mss_cons (ms_set1 (i := 2) sc__law_pot.nd (me_if (mt_cmp (op_ltD hr.units) (od_cmp _) (me_v 1) (me_wlen1 T.n_len (me_v 0))) (me_abs T.n_abs (me_wsub (me_v 0) (me_v 1))) (me_add (me_mul me_int (me_v 1)) me_int)))
    (mss_one (ms_retW (me_lst (ma_cons (me_max2 T.n_max me_int (me_sub (me_v 2) (me_pow me_int me_int))) (ma_cons (me_mod (me_intc T.n_int (me_add (me_add (me_mul (me_mod (me_intc T.n_int (me_v 2)) me_int) me_int) (me_mul me_int (me_v 1))) me_int)) me_int) ma_nil))))))
theorem d__law_pot (T : Txt K mg) : DefG P w K mg base "_law_pot" 1 P__law_pot f__law_pot := by
  obtain ⟨fd, Fd⟩ := T.u__law_pot
  exact ⟨fd, T.g__law_pot, Fd.kp, Fd.bindsN fun _ _ _ _ _ _ us hl => match us, hl with | [_, _], _ => rfl, g__law_pot T Fd⟩
end
abbrev N__law_draw : List Str := ["pot", "many", "digit"]
abbrev P__law_draw : List Str := ["pot", "many"]
theorem sc__law_draw : FnScope N__law_draw P__law_draw (defScope (top 46)) := ⟨rfl, rfl, rfl, by decide +kernel, rfl, by decide +kernel, by decide +kernel⟩
noncomputable def m__law_draw : MStm := (sSeq (sIf (mB (mOp gGt (mWIx (mVar 0) (mC (.int 0))) (mC (.int 0)))) (sSeq (sWSet2 0 0 2 (mCa (k2 gDivmod) (aCons (mWIx (mVar 0) (mC (.int 0))) (aCons (mVar 1) aNil))))
    (sRet (mVar 2))) sNext)
    (sSeq (sWSet 0 1 (mOp gMod (mCa (k1 gInt) (aCons (mOp gAdd (mOp gMul (mWIx (mVar 0) (mC (.int 1))) (mC (.int 69621))) (mC (.int 2927))) aNil)) (mC (.int 2147483629))))
    (sRet (mOp gMod (mCa (k1 gInt) (aCons (mOp gDiv (mOp gMod (mCa (k1 gInt) (aCons (mOp gMul (mWIx (mVar 0) (mC (.int 1))) (mWIx (mVar 0) (mC (.int 1)))) aNil)) (mC (.int 2147483587))) (mC (.int 31))) aNil)) (mVar 1)))))
noncomputable def f__law_draw : Fn := bodyFn N__law_draw.length m__law_draw
section
variable {P : Program} {w : World} {K : PySem.W.Frag} {mg : Str → Option Value} {base : Heap}
theorem g__law_draw (T : Txt K mg) {fd : FuncData} (Fd : FD K "_law_draw" 46 fd) : FnG P w K mg base 1 (He.ga K "_law_draw") fd P__law_draw (spM K P__law_draw.length f__law_draw) :=
  fn_body (N := N__law_draw) (ps := P__law_draw) (m := m__law_draw) Fd sc__law_draw fun cdv A outer s H E hgd hr tk pw => (mss_cons (ms_if (mt_cmp (op_gtD hr.units) (od_cmp _) (me_wsub (me_v 0) me_int) me_int) (mss_cons (ms_wset2' (i := 0) (n := 0) (j := 2) (me_divmod T.n_divmod (me_wsub (me_v 0) me_int) (me_v 1)) sc__law_draw.nd)
    (mss_one (ms_ret (me_v 2)))) mss_nil)
    (mss_cons (ms_wset1 (i := 0) (n := 1) (me_mod (me_intc T.n_int (me_add (me_mul (me_wsub (me_v 0) me_int) me_int) me_int)) me_int))
    (mss_one (ms_ret (me_mod (me_intc T.n_int (me_div (me_mod (me_intc T.n_int (me_mul (me_wsub (me_v 0) me_int) (me_wsub (me_v 0) me_int))) me_int) me_int)) (me_v 1))))))
theorem d__law_draw (T : Txt K mg) : DefG P w K mg base "_law_draw" 1 P__law_draw f__law_draw := by
  obtain ⟨fd, Fd⟩ := T.u__law_draw
  exact ⟨fd, T.g__law_draw, Fd.kp, Fd.bindsN fun _ _ _ _ _ _ us hl => match us, hl with | [_, _], _ => rfl, g__law_draw T Fd⟩
end
abbrev N__law_pick : List Str := ["pot", "some"]
abbrev P__law_pick : List Str := ["pot", "some"]
theorem sc__law_pick : FnScope N__law_pick P__law_pick (defScope (top 47)) := ⟨rfl, rfl, rfl, by decide +kernel, rfl, by decide +kernel, by decide +kernel⟩
noncomputable def m__law_pick : MStm := (sRet (mOp gIx (mVar 1) (mCall P__law_draw.length f__law_draw (mCons (mVar 0) (mCons (mCa (k1 gLen) (aCons (mVar 1) aNil)) mNil)))))
noncomputable def f__law_pick : Fn := bodyFn N__law_pick.length m__law_pick
section
variable {P : Program} {w : World} {K : PySem.W.Frag} {mg : Str → Option Value} {base : Heap}
theorem g__law_pick (T : Txt K mg) {fd : FuncData} (Fd : FD K "_law_pick" 47 fd) : FnG P w K mg base 2 (He.ga K "_law_pick") fd P__law_pick (spM K P__law_pick.length f__law_pick) :=
  fn_body (N := N__law_pick) (ps := P__law_pick) (m := m__law_pick) Fd sc__law_pick fun cdv A outer s H E hgd hr tk pw => (mss_one (ms_ret (me_sub1 (me_v 1) (me_cD (d__law_draw T) tk hgd hr (ma_cons (me_v 0) (ma_cons (me_len T.n_len (me_v 1)) ma_nil))))))
theorem d__law_pick (T : Txt K mg) : DefG P w K mg base "_law_pick" 2 P__law_pick f__law_pick := by
  obtain ⟨fd, Fd⟩ := T.u__law_pick
  exact ⟨fd, T.g__law_pick, Fd.kp, Fd.bindsN fun _ _ _ _ _ _ us hl => match us, hl with | [_, _], _ => rfl, g__law_pick T Fd⟩
end
abbrev N__law_web_by : List Str := ["many", "ties", "tie"]
abbrev P__law_web_by : List Str := ["many", "ties"]
theorem sc__law_web_by : FnScope N__law_web_by P__law_web_by (defScope (top 49)) := ⟨rfl, rfl, rfl, by decide +kernel, rfl, by decide +kernel, by decide +kernel⟩
noncomputable def c0__law_web_by : M Val := mLc [2] (iL (mVar 1)) (pName 2) (ret true) (mCa (k1 gTuple) (aCons (mCa (k1 gSorted) (aCons (mVar 2) aNil)) aNil))
noncomputable def m__law_web_by : MStm := (sRet (mTup (mCons (mC (.str "web")) (mCons (mVar 0) (mCons (mCa (k1 gTuple) (aCons (mCa (k1 gSorted) (aCons c0__law_web_by aNil)) aNil)) mNil)))))
noncomputable def f__law_web_by : Fn := bodyFn N__law_web_by.length m__law_web_by
section
variable {P : Program} {w : World} {K : PySem.W.Frag} {mg : Str → Option Value} {base : Heap}
theorem g__law_web_by (T : Txt K mg) {fd : FuncData} (Fd : FD K "_law_web_by" 49 fd) : FnG P w K mg base 1 (He.ga K "_law_web_by") fd P__law_web_by (spM K P__law_web_by.length f__law_web_by) :=
  fn_body (N := N__law_web_by) (ps := P__law_web_by) (m := m__law_web_by) Fd sc__law_web_by fun cdv A outer s H E hgd hr tk pw => (mss_one (ms_ret (me_tup (ma_cons me_str (ma_cons (me_v 0) (ma_cons (me_tuple T.n_tuple (me_sorted T.n_sorted hr.units (me_lc (own := [("tie", 2)]) rfl sc__law_web_by.nd (mi_list (me_v 1)) (show BlkOk N__law_web_by (defScope (top 49)) _ [("tie", 2)] from blkOf (by decide +kernel)) (fun s H C cl fp => (mg_nm (i := 2) sc__law_web_by.nd)) (fun s H C cl fp => mts_nil) (fun s H C cl fp => (me_tuple T.n_tuple (me_sorted T.n_sorted hr.units (me_v 2)))) (by decide)))) ma_nil))))))
theorem d__law_web_by (T : Txt K mg) : DefG P w K mg base "_law_web_by" 1 P__law_web_by f__law_web_by := by
  obtain ⟨fd, Fd⟩ := T.u__law_web_by
  exact ⟨fd, T.g__law_web_by, Fd.kp, Fd.bindsN fun _ _ _ _ _ _ us hl => match us, hl with | [_, _], _ => rfl, g__law_web_by T Fd⟩
end
abbrev N__law_web : List Str := ["pot", "places", "most", "many", "ties", "crowd", "turn", "near", "far"]
abbrev P__law_web : List Str := ["pot", "places", "most"]
theorem sc__law_web : FnScope N__law_web P__law_web (defScope (top 50)) := ⟨rfl, rfl, rfl, by decide +kernel, rfl, by decide +kernel, by decide +kernel⟩
noncomputable def b0__law_web : MStm := (sSeq (sAsg (mCall P__law_draw.length f__law_draw (mCons (mVar 0) (mCons (mVar 3) mNil))) (pName 7))
    (sSeq (sAsg (mOp gMod (mCa (k1 gInt) (aCons (mOp gAdd (mOp gAdd (mVar 7) (mC (.int 1))) (mCall P__law_draw.length f__law_draw (mCons (mVar 0) (mCons (mOp ME.gSub (mVar 3) (mC (.int 1))) mNil)))) aNil)) (mVar 3)) (pName 8))
    (sSeq (sIf (tAndM (mB (mOp (gEq false) (mCall P__law_draw.length f__law_draw (mCons (mVar 0) (mCons (mC (.int 2)) mNil))) (mC (.int 0)))) (mB (mOp gGe (mVar 3) (mVar 5)))) (sSeq (sAsg (mCall P__law_draw.length f__law_draw (mCons (mVar 0) (mCons (mVar 5) mNil))) (pName 7))
    (sAsg (mOp gMod (mCa (k1 gInt) (aCons (mOp gAdd (mOp gAdd (mVar 7) (mC (.int 1))) (mCall P__law_draw.length f__law_draw (mCons (mVar 0) (mCons (mOp ME.gSub (mVar 5) (mC (.int 1))) mNil)))) aNil)) (mVar 5)) (pName 8))) sNext)
    (sExpr (mOwn gApp 4 (mCons (mTup (mCons (mVar 7) (mCons (mVar 8) mNil))) mNil))))))
noncomputable def l0__law_web : MStm := sFor (iR1 (mCons (mIf (mB (mOp gGt (mVar 3) (mC (.int 1)))) (mCall P__law_draw.length f__law_draw (mCons (mVar 0) (mCons (mOp gAdd (mVar 2) (mC (.int 1))) mNil))) (mC (.int 0))) mNil)) (pName 6) b0__law_web
noncomputable def m__law_web : MStm := (sSeq (sPar 3 4 (mOp gAdd (mC (.int 1)) (mCall P__law_draw.length f__law_draw (mCons (mVar 0) (mCons (mVar 1) mNil)))) (mLst mNil))
    (sSeq (sAsg (mOp gAdd (mC (.int 2)) (mCall P__law_draw.length f__law_draw (mCons (mVar 0) (mCons (mC (.int 3)) mNil)))) (pName 5))
    (sSeq l0__law_web
    (sRet (mCall P__law_web_by.length f__law_web_by (mCons (mVar 3) (mCons (mVar 4) mNil)))))))
noncomputable def f__law_web : Fn := bodyFn N__law_web.length m__law_web
section
variable {P : Program} {w : World} {K : PySem.W.Frag} {mg : Str → Option Value} {base : Heap}
theorem g__law_web (T : Txt K mg) {fd : FuncData} (Fd : FD K "_law_web" 50 fd) : FnG P w K mg base 2 (He.ga K "_law_web") fd P__law_web (spM K P__law_web.length f__law_web) :=
  fn_body (N := N__law_web) (ps := P__law_web) (m := m__law_web) Fd sc__law_web fun cdv A outer s H E hgd hr tk pw => (mss_cons (ms_par2 (i := 3) (j := 4) sc__law_web.nd (me_add me_int (me_cD (d__law_draw T) tk hgd hr (ma_cons (me_v 0) (ma_cons (me_v 1) ma_nil)))) (me_lst ma_nil))
    (mss_cons (ms_set1 (i := 5) sc__law_web.nd (me_add me_int (me_cD (d__law_draw T) tk hgd hr (ma_cons (me_v 0) (ma_cons me_int ma_nil)))))
    (mss_cons (ms_for pw rfl (mi_r1 T.n_range (me_if (mt_cmp (op_gtD hr.units) (od_cmp _) (me_v 3) me_int) (me_cD (d__law_draw T) tk hgd hr (ma_cons (me_v 0) (ma_cons (me_add (me_v 2) me_int) ma_nil))) me_int)) (mg_nm (i := 6) sc__law_web.nd) (mss_cons (ms_set1 (i := 7) sc__law_web.nd (me_cD (d__law_draw T) tk hgd hr (ma_cons (me_v 0) (ma_cons (me_v 3) ma_nil))))
    (mss_cons (ms_set1 (i := 8) sc__law_web.nd (me_mod (me_intc T.n_int (me_add (me_add (me_v 7) me_int) (me_cD (d__law_draw T) tk hgd hr (ma_cons (me_v 0) (ma_cons (me_sub (me_v 3) me_int) ma_nil))))) (me_v 3)))
    (mss_cons (ms_if (MTW.mt (mw_and (mt_cmp (op_eqP hr.units) (od_eq false) (me_cD (d__law_draw T) tk hgd hr (ma_cons (me_v 0) (ma_cons me_int ma_nil))) me_int) (mw_and1 (mt_cmp (op_geD hr.units) (od_cmp _) (me_v 3) (me_v 5))))) (mss_cons (ms_set1 (i := 7) sc__law_web.nd (me_cD (d__law_draw T) tk hgd hr (ma_cons (me_v 0) (ma_cons (me_v 5) ma_nil))))
    (mss_one (ms_set1 (i := 8) sc__law_web.nd (me_mod (me_intc T.n_int (me_add (me_add (me_v 7) me_int) (me_cD (d__law_draw T) tk hgd hr (ma_cons (me_v 0) (ma_cons (me_sub (me_v 5) me_int) ma_nil))))) (me_v 5))))) mss_nil)
    (mss_one (ms_expr (me_app (i := 4) (pv 4) (me_tup (ma_cons (me_v 7) (ma_cons (me_v 8) ma_nil))))))))))
    (mss_one (ms_ret (me_cD (d__law_web_by T) tk hgd hr (ma_cons (me_v 3) (ma_cons (me_v 4) ma_nil))))))))
theorem d__law_web (T : Txt K mg) : DefG P w K mg base "_law_web" 2 P__law_web f__law_web := by
  obtain ⟨fd, Fd⟩ := T.u__law_web
  exact ⟨fd, T.g__law_web, Fd.kp, Fd.bindsN fun _ _ _ _ _ _ us hl => match us, hl with | [_, _, _], _ => rfl, g__law_web T Fd⟩
end
abbrev N__law_record : List Str := ["pot", "kind", "names", "parts", "part", "turn", "at", "place", "name"]
abbrev P__law_record : List Str := ["pot"]
theorem sc__law_record : FnScope N__law_record P__law_record (defScope (top 51)) := ⟨rfl, rfl, rfl, by decide +kernel, rfl, by decide +kernel, by decide +kernel⟩
noncomputable def c0__law_record : M Val := mLc [5] (iR1 (mCons (mCall P__law_draw.length f__law_draw (mCons (mVar 0) (mCons (mC (.int 17)) mNil))) mNil)) (pName 5) (ret true) (mCall P__law_draw.length f__law_draw (mCons (mVar 0) (mCons (mC (.int 16)) mNil)))
noncomputable def c1__law_record : M Val := mLc [6] (iR1 (mCons (mC (.int 40)) mNil)) (pName 6) (mB (mOp (gEq false) (mCall P__law_draw.length f__law_draw (mCons (mVar 0) (mCons (mC (.int 9)) mNil))) (mC (.int 0)))) (mVar 6)
noncomputable def c2__law_record : M Val := mLc [5] (iR1 (mCons (mOp gAdd (mC (.int 1)) (mCall P__law_draw.length f__law_draw (mCons (mVar 0) (mCons (mC (.int 6)) mNil)))) mNil)) (pName 5) (ret true) (mCa (k1 gTuple) (aCons c1__law_record aNil))
noncomputable def c3__law_record : M Val := mLc [7] (iR1 (mCons (mOp gAdd (mC (.int 1)) (mCall P__law_draw.length f__law_draw (mCons (mVar 0) (mCons (mC (.int 16)) mNil)))) mNil)) (pName 7) (ret true) (mCall P__law_draw.length f__law_draw (mCons (mVar 0) (mCons (mC (.int 6)) mNil)))
noncomputable def c4__law_record : M Val := mLc [7, 8] (iE (mCons (mVar 2) mNil)) (pTup 2 (psCons (pName 7) (psCons (pName 8) psNil))) (mB (mOp (gEq false) (mVar 8) (mVar 4))) (mVar 7)
noncomputable def c5__law_record : M Val := mLc [7, 8] (iE (mCons (mVar 2) mNil)) (pTup 2 (psCons (pName 7) (psCons (pName 8) psNil))) (mB (mOp (gEq false) (mVar 8) (mVar 4))) (mVar 7)
noncomputable def b0__law_record : MStm := (sExpr (mOwn gApp 3 (mCons (mCa (k1 gTuple) (aCons c4__law_record aNil)) mNil)))
noncomputable def l0__law_record : MStm := sFor (iL (mUn gSortedSet (mVar 2))) (pName 4) b0__law_record
noncomputable def m__law_record : MStm := (sSeq (sAsg (mCall P__law_pick.length f__law_pick (mCons (mVar 0) (mCons (mLst (mCons (mC (.str "web")) (mCons (mC (.str "places")) (mCons (mC (.str "lots")) (mCons (mC (.str "parting")) mNil))))) mNil))) (pName 1))
    (sSeq (sIf (mB (mOp (gEq false) (mVar 1) (mC (.str "web")))) (sRet (mTup (mCons (mVar 1) (mCons (mCall P__law_web.length f__law_web (mCons (mVar 0) (mCons (mC (.int 16)) (mCons (mC (.int 20)) mNil)))) mNil)))) sNext)
    (sSeq (sIf (mB (mOp (gEq false) (mVar 1) (mC (.str "places")))) (sRet (mTup (mCons (mVar 1) (mCons (mCa (k1 gTuple) (aCons c0__law_record aNil)) mNil)))) sNext)
    (sSeq (sIf (mB (mOp (gEq false) (mVar 1) (mC (.str "lots")))) (sRet (mTup (mCons (mVar 1) (mCons (mCa (k1 gTuple) (aCons c2__law_record aNil)) mNil)))) sNext)
    (sSeq (sPar 2 3 c3__law_record (mLst mNil))
    (sSeq l0__law_record
    (sRet (mTup (mCons (mVar 1) (mCons (mCa (k1 gTuple) (aCons (mSl (mCa (k1 gSorted) (aCons (mVar 3) aNil)) (ret none) (bind (mOp gAdd (mC (.int 1)) (mCall P__law_draw.length f__law_draw (mCons (mVar 0) (mCons (mC (.int 6)) mNil)))) oInt)) aNil)) mNil))))))))))
noncomputable def f__law_record : Fn := bodyFn N__law_record.length m__law_record
section
variable {P : Program} {w : World} {K : PySem.W.Frag} {mg : Str → Option Value} {base : Heap}
theorem g__law_record (T : Txt K mg) {fd : FuncData} (Fd : FD K "_law_record" 51 fd) : FnG P w K mg base 3 (He.ga K "_law_record") fd P__law_record (spM K P__law_record.length f__law_record) :=
  fn_body (N := N__law_record) (ps := P__law_record) (m := m__law_record) Fd sc__law_record fun cdv A outer s H E hgd hr tk pw => (mss_cons (ms_set1 (i := 1) sc__law_record.nd (me_cD (d__law_pick T) tk hgd hr (ma_cons (me_v 0) (ma_cons (me_lst (ma_cons me_str (ma_cons me_str (ma_cons me_str (ma_cons me_str ma_nil))))) ma_nil))))
    (mss_cons (ms_if (mt_cmp (op_eqP hr.units) (od_eq false) (me_v 1) me_str) (mss_one (ms_ret (me_tup (ma_cons (me_v 1) (ma_cons (me_cD (d__law_web T) tk hgd hr (ma_cons (me_v 0) (ma_cons me_int (ma_cons me_int ma_nil)))) ma_nil))))) mss_nil)
    (mss_cons (ms_if (mt_cmp (op_eqP hr.units) (od_eq false) (me_v 1) me_str) (mss_one (ms_ret (me_tup (ma_cons (me_v 1) (ma_cons (me_tuple T.n_tuple (me_lc (own := [("turn", 5)]) rfl sc__law_record.nd (mi_r1 T.n_range (me_cD (d__law_draw T) tk hgd hr (ma_cons (me_v 0) (ma_cons me_int ma_nil)))) (show BlkOk N__law_record (defScope (top 51)) _ [("turn", 5)] from blkOf (by decide +kernel)) (fun s H C cl fp => (mg_nm (i := 5) sc__law_record.nd)) (fun s H C cl fp => mts_nil) (fun s H C cl fp => (me_cD (d__law_draw T) ME.takes0 hgd hr (ma_cons (me_v 0) (ma_cons me_int ma_nil)))) (by decide))) ma_nil))))) mss_nil)
    (mss_cons (ms_if (mt_cmp (op_eqP hr.units) (od_eq false) (me_v 1) me_str) (mss_one (ms_ret (me_tup (ma_cons (me_v 1) (ma_cons (me_tuple T.n_tuple (me_lc (own := [("turn", 5)]) rfl sc__law_record.nd (mi_r1 T.n_range (me_add me_int (me_cD (d__law_draw T) tk hgd hr (ma_cons (me_v 0) (ma_cons me_int ma_nil))))) (show BlkOk N__law_record (defScope (top 51)) _ [("turn", 5)] from blkOf (by decide +kernel)) (fun s H C cl fp => (mg_nm (i := 5) sc__law_record.nd)) (fun s H C cl fp => mts_nil) (fun s H C cl fp => (me_tuple T.n_tuple (me_lc (own := [("at", 6)]) rfl sc__law_record.nd (mi_r1 T.n_range me_int) (blkOf (by rfl)) (fun s H C cl fp => (mg_nm (i := 6) sc__law_record.nd)) (fun s H C cl fp => (mts_one (mt_cmp (op_eqP hr.units) (od_eq false) (me_cD (d__law_draw T) ME.takes0 hgd hr (ma_cons (me_v 0) (ma_cons me_int ma_nil))) me_int))) (fun s H C cl fp => (me_v 6)) (by decide)))) (by decide))) ma_nil))))) mss_nil)
    (mss_cons (ms_par2 (i := 2) (j := 3) sc__law_record.nd (me_lc (own := [("place", 7)]) rfl sc__law_record.nd (mi_r1 T.n_range (me_add me_int (me_cD (d__law_draw T) tk hgd hr (ma_cons (me_v 0) (ma_cons me_int ma_nil))))) (show BlkOk N__law_record (defScope (top 51)) _ [("place", 7)] from blkOf (by decide +kernel)) (fun s H C cl fp => (mg_nm (i := 7) sc__law_record.nd)) (fun s H C cl fp => mts_nil) (fun s H C cl fp => (me_cD (d__law_draw T) ME.takes0 hgd hr (ma_cons (me_v 0) (ma_cons me_int ma_nil)))) (by decide)) (me_lst ma_nil))
    (mss_cons (ms_for pw rfl (mi_list (me_sortedset T.n_sorted T.n_set (me_v 2))) (mg_nm (i := 4) sc__law_record.nd) (mss_one (ms_expr (me_app (i := 3) (pv 3) (me_tuple T.n_tuple (me_lc (own := [("place", 7), ("name", 8)]) rfl sc__law_record.nd (mi_en T.n_enumerate (me_v 2)) (show BlkOk N__law_record (defScope (top 51)) _ [("place", 7), ("name", 8)] from blkOf (by decide +kernel)) (fun s H C cl fp => (mg_tp (mgs_cons (mg_nm (i := 7) sc__law_record.nd) (mgs_cons (mg_nm (i := 8) sc__law_record.nd) mgs_nil)))) (fun s H C cl fp => (mts_one (mt_cmp (op_eqP hr.units) (od_eq false) (me_v 8) (me_v 4)))) (fun s H C cl fp => (me_v 7)) (by decide)))))))
    (mss_one (ms_ret (me_tup (ma_cons (me_v 1) (ma_cons (me_tuple T.n_tuple (me_sl (me_sorted T.n_sorted hr.units (me_v 3)) mo_none (mo_some (me_add me_int (me_cD (d__law_draw T) tk hgd hr (ma_cons (me_v 0) (ma_cons me_int ma_nil))))))) ma_nil)))))))))))
theorem d__law_record (T : Txt K mg) : DefG P w K mg base "_law_record" 3 P__law_record f__law_record := by
  obtain ⟨fd, Fd⟩ := T.u__law_record
  exact ⟨fd, T.g__law_record, Fd.kp, Fd.bindsN fun _ _ _ _ _ _ us hl => match us, hl with | [_], _ => rfl, g__law_record T Fd⟩
end
abbrev N__law_odd : List Str := ["record", "some"]
abbrev P__law_odd : List Str := ["record"]
theorem sc__law_odd : FnScope N__law_odd P__law_odd (defScope (top 55)) := ⟨rfl, rfl, rfl, by decide +kernel, rfl, by decide +kernel, by decide +kernel⟩
noncomputable def m__law_odd : MStm := (sSeq (sAsg (mLst (mCons (mC .none) (mCons (mC (.int 0)) (mCons (mTup mNil) (mCons (mOp gIx (mVar 0) (mC (.int 0))) (mCons (mCa (k1 gList) (aCons (mVar 0) aNil)) (mCons (mOp gAdd (mVar 0) (mTup (mCons (mC (.int 0)) mNil))) (mCons (mSl (mVar 0) (ret none) (bind (mC (.int 1)) oInt)) (mCons (mTup (mCons (mC (.str "none")) (mCons (mOp gIx (mVar 0) (mC (.int 1))) mNil))) (mCons (mTup (mCons (mOp gIx (mVar 0) (mC (.int 0))) (mCons (mC .none) mNil))) (mCons (mTup (mCons (mC (.bool true)) (mCons (mOp gIx (mVar 0) (mC (.int 1))) mNil))) (mCons (mTup (mCons (mOp gIx (mVar 0) (mC (.int 0))) (mCons (mCa (k1 gList) (aCons (mOp gIx (mVar 0) (mC (.int 1))) aNil)) mNil))) mNil)))))))))))) (pName 1))
    (sSeq (sAsg (mOp gAdd (mVar 1) (mLst (mCons (mTup (mCons (mC (.str "web")) (mCons (mTup (mCons (mC (.str "web")) (mCons (mC (.int 0)) (mCons (mTup mNil) mNil)))) mNil))) (mCons (mTup (mCons (mC (.str "web")) (mCons (mTup (mCons (mC (.str "web")) (mCons (mC (.int 2)) (mCons (mTup (mCons (mTup (mCons (mC (.int 1)) (mCons (mC (.int 0)) mNil))) mNil)) mNil)))) mNil))) (mCons (mTup (mCons (mC (.str "web")) (mCons (mTup (mCons (mC (.str "web")) (mCons (mC (.int 2)) (mCons (mTup (mCons (mTup (mCons (mC (.int 0)) (mCons (mC (.int 0)) mNil))) mNil)) mNil)))) mNil))) (mCons (mTup (mCons (mC (.str "places")) (mCons (mTup (mCons (mC (.int 16)) mNil)) mNil))) (mCons (mTup (mCons (mC (.str "places")) (mCons (mTup (mCons (mUn gNeg (mC (.int 1))) mNil)) mNil))) (mCons (mTup (mCons (mC (.str "places")) (mCons (mTup (mCons (mC (.bool true)) mNil)) mNil))) (mCons (mTup (mCons (mC (.str "places")) (mCons (mOp gMul (mTup (mCons (mC (.int 0)) mNil)) (mC (.int 17))) mNil))) mNil))))))))) (pName 1))
    (sSeq (sAsg (mOp gAdd (mVar 1) (mLst (mCons (mTup (mCons (mC (.str "lots")) (mCons (mTup mNil) mNil))) (mCons (mTup (mCons (mC (.str "lots")) (mCons (mOp gMul (mTup (mCons (mTup mNil) mNil)) (mC (.int 7))) mNil))) (mCons (mTup (mCons (mC (.str "lots")) (mCons (mTup (mCons (mTup (mCons (mC (.int 1)) (mCons (mC (.int 0)) mNil))) mNil)) mNil))) (mCons (mTup (mCons (mC (.str "lots")) (mCons (mTup (mCons (mTup (mCons (mC (.int 0)) (mCons (mC (.int 0)) mNil))) mNil)) mNil))) (mCons (mTup (mCons (mC (.str "lots")) (mCons (mTup (mCons (mTup (mCons (mC (.int 40)) mNil)) mNil)) mNil))) (mCons (mTup (mCons (mC (.str "lots")) (mCons (mTup (mCons (mC (.int 0)) mNil)) mNil))) (mCons (mTup (mCons (mC (.str "lots")) (mCons (mTup (mCons (mTup (mCons (mC (.bool true)) mNil)) mNil)) mNil))) (mCons (mTup (mCons (mC (.str "parting")) (mCons (mTup mNil) mNil))) (mCons (mTup (mCons (mC (.str "parting")) (mCons (mTup (mCons (mTup mNil) mNil)) mNil))) mNil))))))))))) (pName 1))
    (sRet (mOp gAdd (mVar 1) (mLst (mCons (mTup (mCons (mC (.str "parting")) (mCons (mTup (mCons (mTup (mCons (mC (.int 1)) mNil)) (mCons (mTup (mCons (mC (.int 0)) mNil)) mNil))) mNil))) (mCons (mTup (mCons (mC (.str "parting")) (mCons (mTup (mCons (mTup (mCons (mC (.int 0)) mNil)) (mCons (mTup (mCons (mC (.int 0)) (mCons (mC (.int 1)) mNil))) mNil))) mNil))) (mCons (mTup (mCons (mC (.str "parting")) (mCons (mTup (mCons (mTup (mCons (mC (.int 16)) mNil)) mNil)) mNil))) (mCons (mTup (mCons (mC (.str "parting")) (mCons (mTup (mCons (mTup (mCons (mC (.int 0)) (mCons (mC (.int 1)) mNil))) (mCons (mLst (mCons (mC (.int 2)) mNil)) mNil))) mNil))) mNil))))))))))
noncomputable def f__law_odd : Fn := bodyFn N__law_odd.length m__law_odd
section
variable {P : Program} {w : World} {K : PySem.W.Frag} {mg : Str → Option Value} {base : Heap}
theorem g__law_odd (T : Txt K mg) {fd : FuncData} (Fd : FD K "_law_odd" 55 fd) : FnG P w K mg base 1 (He.ga K "_law_odd") fd P__law_odd (spM K P__law_odd.length f__law_odd) :=
  fn_body (N := N__law_odd) (ps := P__law_odd) (m := m__law_odd) Fd sc__law_odd fun cdv A outer s H E hgd hr tk pw => (mss_cons (ms_set1 (i := 1) sc__law_odd.nd (me_lst (ma_cons me_non (ma_cons me_int (ma_cons (me_tup ma_nil) (ma_cons (me_sub1 (me_v 0) me_int) (ma_cons (me_list T.n_list (me_v 0)) (ma_cons (me_add (me_v 0) (me_tup (ma_cons me_int ma_nil))) (ma_cons (me_sl (me_v 0) mo_none (mo_some me_int)) (ma_cons (me_tup (ma_cons me_str (ma_cons (me_sub1 (me_v 0) me_int) ma_nil))) (ma_cons (me_tup (ma_cons (me_sub1 (me_v 0) me_int) (ma_cons me_non ma_nil))) (ma_cons (me_tup (ma_cons me_bool (ma_cons (me_sub1 (me_v 0) me_int) ma_nil))) (ma_cons (me_tup (ma_cons (me_sub1 (me_v 0) me_int) (ma_cons (me_list T.n_list (me_sub1 (me_v 0) me_int)) ma_nil))) ma_nil)))))))))))))
    (mss_cons (ms_set1 (i := 1) sc__law_odd.nd (me_add (me_v 1) (me_lst (ma_cons (me_tup (ma_cons me_str (ma_cons (me_tup (ma_cons me_str (ma_cons me_int (ma_cons (me_tup ma_nil) ma_nil)))) ma_nil))) (ma_cons (me_tup (ma_cons me_str (ma_cons (me_tup (ma_cons me_str (ma_cons me_int (ma_cons (me_tup (ma_cons (me_tup (ma_cons me_int (ma_cons me_int ma_nil))) ma_nil)) ma_nil)))) ma_nil))) (ma_cons (me_tup (ma_cons me_str (ma_cons (me_tup (ma_cons me_str (ma_cons me_int (ma_cons (me_tup (ma_cons (me_tup (ma_cons me_int (ma_cons me_int ma_nil))) ma_nil)) ma_nil)))) ma_nil))) (ma_cons (me_tup (ma_cons me_str (ma_cons (me_tup (ma_cons me_int ma_nil)) ma_nil))) (ma_cons (me_tup (ma_cons me_str (ma_cons (me_tup (ma_cons (me_neg me_int) ma_nil)) ma_nil))) (ma_cons (me_tup (ma_cons me_str (ma_cons (me_tup (ma_cons me_bool ma_nil)) ma_nil))) (ma_cons (me_tup (ma_cons me_str (ma_cons (me_mul (me_tup (ma_cons me_int ma_nil)) me_int) ma_nil))) ma_nil))))))))))
    (mss_cons (ms_set1 (i := 1) sc__law_odd.nd (me_add (me_v 1) (me_lst (ma_cons (me_tup (ma_cons me_str (ma_cons (me_tup ma_nil) ma_nil))) (ma_cons (me_tup (ma_cons me_str (ma_cons (me_mul (me_tup (ma_cons (me_tup ma_nil) ma_nil)) me_int) ma_nil))) (ma_cons (me_tup (ma_cons me_str (ma_cons (me_tup (ma_cons (me_tup (ma_cons me_int (ma_cons me_int ma_nil))) ma_nil)) ma_nil))) (ma_cons (me_tup (ma_cons me_str (ma_cons (me_tup (ma_cons (me_tup (ma_cons me_int (ma_cons me_int ma_nil))) ma_nil)) ma_nil))) (ma_cons (me_tup (ma_cons me_str (ma_cons (me_tup (ma_cons (me_tup (ma_cons me_int ma_nil)) ma_nil)) ma_nil))) (ma_cons (me_tup (ma_cons me_str (ma_cons (me_tup (ma_cons me_int ma_nil)) ma_nil))) (ma_cons (me_tup (ma_cons me_str (ma_cons (me_tup (ma_cons (me_tup (ma_cons me_bool ma_nil)) ma_nil)) ma_nil))) (ma_cons (me_tup (ma_cons me_str (ma_cons (me_tup ma_nil) ma_nil))) (ma_cons (me_tup (ma_cons me_str (ma_cons (me_tup (ma_cons (me_tup ma_nil) ma_nil)) ma_nil))) ma_nil))))))))))))
    (mss_one (ms_ret (me_add (me_v 1) (me_lst (ma_cons (me_tup (ma_cons me_str (ma_cons (me_tup (ma_cons (me_tup (ma_cons me_int ma_nil)) (ma_cons (me_tup (ma_cons me_int ma_nil)) ma_nil))) ma_nil))) (ma_cons (me_tup (ma_cons me_str (ma_cons (me_tup (ma_cons (me_tup (ma_cons me_int ma_nil)) (ma_cons (me_tup (ma_cons me_int (ma_cons me_int ma_nil))) ma_nil))) ma_nil))) (ma_cons (me_tup (ma_cons me_str (ma_cons (me_tup (ma_cons (me_tup (ma_cons me_int ma_nil)) ma_nil)) ma_nil))) (ma_cons (me_tup (ma_cons me_str (ma_cons (me_tup (ma_cons (me_tup (ma_cons me_int (ma_cons me_int ma_nil))) (ma_cons (me_lst (ma_cons me_int ma_nil)) ma_nil))) ma_nil))) ma_nil)))))))))))
theorem d__law_odd (T : Txt K mg) : DefG P w K mg base "_law_odd" 1 P__law_odd f__law_odd := by
  obtain ⟨fd, Fd⟩ := T.u__law_odd
  exact ⟨fd, T.g__law_odd, Fd.kp, Fd.bindsN fun _ _ _ _ _ _ us hl => match us, hl with | [_], _ => rfl, g__law_odd T Fd⟩
end
abbrev N_count_read : List Str := ["text", "sign"]
abbrev P_count_read : List Str := ["text"]
theorem sc_count_read : FnScope N_count_read P_count_read (defScope (top 38)) := ⟨rfl, rfl, rfl, by decide +kernel, rfl, by decide +kernel, by decide +kernel⟩
noncomputable def c0_count_read : M Val := mLc [1] (iS (mVar 0)) (pName 1) (ret true) (mOp (gIn false) (mVar 1) (mC (.str "0123456789")))
noncomputable def m_count_read : MStm := (sRet (mIf (tAndM (mB (mOp (gIn false) (mCa (k1 gLen) (aCons (mVar 0) aNil)) (mTup (mCons (mC (.int 1)) (mCons (mC (.int 2)) mNil))))) (mTest (mCa (k1 gAll) (aCons c0_count_read aNil)))) (mCa (k1 gInt) (aCons (mVar 0) aNil)) (mC .none)))
noncomputable def f_count_read : Fn := bodyFn N_count_read.length m_count_read
section
variable {P : Program} {w : World} {K : PySem.W.Frag} {mg : Str → Option Value} {base : Heap}
theorem g_count_read (T : Txt K mg) {fd : FuncData} (Fd : FD K "count_read" 38 fd) : FnG P w K mg base 1 (He.ga K "count_read") fd P_count_read (spM K P_count_read.length f_count_read) :=
  fn_body (N := N_count_read) (ps := P_count_read) (m := m_count_read) Fd sc_count_read fun cdv A outer s H E hgd hr tk pw => (mss_one (ms_ret (me_if (MTW.mt (mw_and (mt_cmp (op_inD hr.units) (od_in false) (me_len T.n_len (me_v 0)) (me_tup (ma_cons me_int (ma_cons me_int ma_nil)))) (mw_and1 (mt_of (me_all T.n_all (me_lc (own := [("sign", 1)]) rfl sc_count_read.nd (mi_str (me_v 0)) (show BlkOk N_count_read (defScope (top 38)) _ [("sign", 1)] from blkOf (by decide +kernel)) (fun s H C cl fp => (mg_nm (i := 1) sc_count_read.nd)) (fun s H C cl fp => mts_nil) (fun s H C cl fp => (me_cm (op_inD hr.units) (od_in false) (me_v 1) (me_gstr T.c_DIGITS))) (by decide))))))) (me_intc T.n_int (me_v 0)) me_non)))
theorem d_count_read (T : Txt K mg) : DefG P w K mg base "count_read" 1 P_count_read f_count_read := by
  obtain ⟨fd, Fd⟩ := T.u_count_read
  exact ⟨fd, T.g_count_read, Fd.kp, Fd.bindsN fun _ _ _ _ _ _ us hl => match us, hl with | [_], _ => rfl, g_count_read T Fd⟩
end
abbrev N_numbers_read : List Str := ["text", "sign", "part"]
abbrev P_numbers_read : List Str := ["text", "sign"]
theorem sc_numbers_read : FnScope N_numbers_read P_numbers_read (defScope (top 39)) := ⟨rfl, rfl, rfl, by decide +kernel, rfl, by decide +kernel, by decide +kernel⟩
noncomputable def c0_numbers_read : M Val := mLc [2] (iL (mS1 gSplit (mVar 0) (mVar 1))) (pName 2) (ret true) (mCall P_count_read.length f_count_read (mCons (mVar 2) mNil))
noncomputable def m_numbers_read : MStm := (sRet (mCa (k1 gTuple) (aCons c0_numbers_read aNil)))
noncomputable def f_numbers_read : Fn := bodyFn N_numbers_read.length m_numbers_read
section
variable {P : Program} {w : World} {K : PySem.W.Frag} {mg : Str → Option Value} {base : Heap}
theorem g_numbers_read (T : Txt K mg) {fd : FuncData} (Fd : FD K "numbers_read" 39 fd) : FnG P w K mg base 2 (He.ga K "numbers_read") fd P_numbers_read (spM K P_numbers_read.length f_numbers_read) :=
  fn_body (N := N_numbers_read) (ps := P_numbers_read) (m := m_numbers_read) Fd sc_numbers_read fun cdv A outer s H E hgd hr tk pw => (mss_one (ms_ret (me_tuple T.n_tuple (me_lc (own := [("part", 2)]) rfl sc_numbers_read.nd (mi_list (me_split (me_v 0) (me_v 1))) (show BlkOk N_numbers_read (defScope (top 39)) _ [("part", 2)] from blkOf (by decide +kernel)) (fun s H C cl fp => (mg_nm (i := 2) sc_numbers_read.nd)) (fun s H C cl fp => mts_nil) (fun s H C cl fp => (me_cD (d_count_read T) ME.takes0 hgd hr (ma_cons (me_v 2) ma_nil))) (by decide)))))
theorem d_numbers_read (T : Txt K mg) : DefG P w K mg base "numbers_read" 2 P_numbers_read f_numbers_read := by
  obtain ⟨fd, Fd⟩ := T.u_numbers_read
  exact ⟨fd, T.g_numbers_read, Fd.kp, Fd.bindsN fun _ _ _ _ _ _ us hl => match us, hl with | [_, _], _ => rfl, g_numbers_read T Fd⟩
end
abbrev N_rest_read : List Str := ["word", "tokens", "ties", "token"]
abbrev P_rest_read : List Str := ["word", "tokens"]
theorem sc_rest_read : FnScope N_rest_read P_rest_read (defScope (top 40)) := ⟨rfl, rfl, rfl, by decide +kernel, rfl, by decide +kernel, by decide +kernel⟩
noncomputable def c0_rest_read : M Val := mLc [3] (iL (mSl (mVar 1) (bind (mC (.int 1)) oInt) (ret none))) (pName 3) (ret true) (mCall P_numbers_read.length f_numbers_read (mCons (mVar 3) (mCons (mC (.str "-")) mNil)))
noncomputable def c1_rest_read : M Val := mLc [3] (iL (mVar 1)) (pName 3) (ret true) (mCall P_count_read.length f_count_read (mCons (mVar 3) mNil))
noncomputable def c2_rest_read : M Val := mLc [3] (iL (mVar 1)) (pName 3) (ret true) (mIf (mB (mOp (gEq false) (mVar 3) (mC (.str "-")))) (mTup mNil) (mCall P_numbers_read.length f_numbers_read (mCons (mVar 3) (mCons (mC (.str ",")) mNil))))
noncomputable def m_rest_read : MStm := (sSeq (sIf (mB (mOp (gEq false) (mVar 0) (mC (.str "web")))) (sSeq (sAsg (mCa (k1 gTuple) (aCons c0_rest_read aNil)) (pName 2))
    (sRet (mIf (mB (mOp (gEq true) (mVar 1) (mLst mNil))) (mTup (mCons (mC (.str "web")) (mCons (mCall P_count_read.length f_count_read (mCons (mOp gIx (mVar 1) (mC (.int 0))) mNil)) (mCons (mVar 2) mNil)))) (mC .none)))) sNext)
    (sSeq (sIf (mB (mOp (gEq false) (mVar 0) (mC (.str "places")))) (sRet (mCa (k1 gTuple) (aCons c1_rest_read aNil))) sNext)
    (sRet (mCa (k1 gTuple) (aCons c2_rest_read aNil)))))
noncomputable def f_rest_read : Fn := bodyFn N_rest_read.length m_rest_read
section
variable {P : Program} {w : World} {K : PySem.W.Frag} {mg : Str → Option Value} {base : Heap}
theorem g_rest_read (T : Txt K mg) {fd : FuncData} (Fd : FD K "rest_read" 40 fd) : FnG P w K mg base 3 (He.ga K "rest_read") fd P_rest_read (spM K P_rest_read.length f_rest_read) :=
  fn_body (N := N_rest_read) (ps := P_rest_read) (m := m_rest_read) Fd sc_rest_read fun cdv A outer s H E hgd hr tk pw => (mss_cons (ms_if (mt_cmp (op_eqP hr.units) (od_eq false) (me_v 0) (me_gstr T.c_WEB_records)) (mss_cons (ms_set1 (i := 2) sc_rest_read.nd (me_tuple T.n_tuple (me_lc (own := [("token", 3)]) rfl sc_rest_read.nd (mi_list (me_sl (me_v 1) (mo_some me_int) mo_none)) (show BlkOk N_rest_read (defScope (top 40)) _ [("token", 3)] from blkOf (by decide +kernel)) (fun s H C cl fp => (mg_nm (i := 3) sc_rest_read.nd)) (fun s H C cl fp => mts_nil) (fun s H C cl fp => (me_cD (d_numbers_read T) ME.takes0 hgd hr (ma_cons (me_v 3) (ma_cons (me_gstr T.c_TIED) ma_nil)))) (by decide))))
    (mss_one (ms_ret (me_if (mt_cmp (op_neP hr.units) (od_eq true) (me_v 1) (me_lst ma_nil)) (me_tup (ma_cons (me_gstr T.c_WEB_records) (ma_cons (me_cD (d_count_read T) tk hgd hr (ma_cons (me_sub1 (me_v 1) me_int) ma_nil)) (ma_cons (me_v 2) ma_nil)))) me_non)))) mss_nil)
    (mss_cons (ms_if (mt_cmp (op_eqP hr.units) (od_eq false) (me_v 0) (me_gstr T.c_PLACES)) (mss_one (ms_ret (me_tuple T.n_tuple (me_lc (own := [("token", 3)]) rfl sc_rest_read.nd (mi_list (me_v 1)) (show BlkOk N_rest_read (defScope (top 40)) _ [("token", 3)] from blkOf (by decide +kernel)) (fun s H C cl fp => (mg_nm (i := 3) sc_rest_read.nd)) (fun s H C cl fp => mts_nil) (fun s H C cl fp => (me_cD (d_count_read T) ME.takes0 hgd hr (ma_cons (me_v 3) ma_nil))) (by decide))))) mss_nil)
    (mss_one (ms_ret (me_tuple T.n_tuple (me_lc (own := [("token", 3)]) rfl sc_rest_read.nd (mi_list (me_v 1)) (show BlkOk N_rest_read (defScope (top 40)) _ [("token", 3)] from blkOf (by decide +kernel)) (fun s H C cl fp => (mg_nm (i := 3) sc_rest_read.nd)) (fun s H C cl fp => mts_nil) (fun s H C cl fp => (me_if (mt_cmp (op_eqP hr.units) (od_eq false) (me_v 3) (me_gstr T.c_NONE)) (me_tup ma_nil) (me_cD (d_numbers_read T) ME.takes0 hgd hr (ma_cons (me_v 3) (ma_cons (me_gstr T.c_BETWEEN) ma_nil))))) (by decide)))))))
theorem d_rest_read (T : Txt K mg) : DefG P w K mg base "rest_read" 3 P_rest_read f_rest_read := by
  obtain ⟨fd, Fd⟩ := T.u_rest_read
  exact ⟨fd, T.g_rest_read, Fd.kp, Fd.bindsN fun _ _ _ _ _ _ us hl => match us, hl with | [_, _], _ => rfl, g_rest_read T Fd⟩
end
abbrev N_is_row : List Str := ["value", "many"]
abbrev P_is_row : List Str := ["value", "many"]
theorem sc_is_row : FnScope N_is_row P_is_row (defScope (top 10)) := ⟨rfl, rfl, rfl, by decide +kernel, rfl, by decide +kernel, by decide +kernel⟩
noncomputable def m_is_row : MStm := (sRet (mAndV (mIsa PyData.isTuple (mVar 0)) (mOp (gEq false) (mCa (k1 gLen) (aCons (mVar 0) aNil)) (mVar 1))))
noncomputable def f_is_row : Fn := bodyFn N_is_row.length m_is_row
section
variable {P : Program} {w : World} {K : PySem.W.Frag} {mg : Str → Option Value} {base : Heap}
theorem g_is_row (T : Txt K mg) {fd : FuncData} (Fd : FD K "is_row" 10 fd) : FnG P w K mg base 1 (He.ga K "is_row") fd P_is_row (spM K P_is_row.length f_is_row) :=
  fn_body (N := N_is_row) (ps := P_is_row) (m := m_is_row) Fd sc_is_row fun cdv A outer s H E hgd hr tk pw => (mss_one (ms_ret (me_and (me_isa1 isa_tuple T.n_isinstance T.n_tuple boot_tuple (me_v 0)) (me_one (me_cm (op_eqP hr.units) (od_eq false) (me_len T.n_len (me_v 0)) (me_v 1))))))
theorem d_is_row (T : Txt K mg) : DefG P w K mg base "is_row" 1 P_is_row f_is_row := by
  obtain ⟨fd, Fd⟩ := T.u_is_row
  exact ⟨fd, T.g_is_row, Fd.kp, Fd.bindsN fun _ _ _ _ _ _ us hl => match us, hl with | [_, _], _ => rfl, g_is_row T Fd⟩
end
abbrev N_is_integer : List Str := ["value"]
abbrev P_is_integer : List Str := ["value"]
theorem sc_is_integer : FnScope N_is_integer P_is_integer (defScope (top 7)) := ⟨rfl, rfl, rfl, by decide +kernel, rfl, by decide +kernel, by decide +kernel⟩
noncomputable def m_is_integer : MStm := (sRet (mAndV (mIsa PyData.isInt (mVar 0)) (mNotV (mIsa PyData.isBool (mVar 0)))))
noncomputable def f_is_integer : Fn := bodyFn N_is_integer.length m_is_integer
section
variable {P : Program} {w : World} {K : PySem.W.Frag} {mg : Str → Option Value} {base : Heap}
theorem g_is_integer (T : Txt K mg) {fd : FuncData} (Fd : FD K "is_integer" 7 fd) : FnG P w K mg base 1 (He.ga K "is_integer") fd P_is_integer (spM K P_is_integer.length f_is_integer) :=
  fn_body (N := N_is_integer) (ps := P_is_integer) (m := m_is_integer) Fd sc_is_integer fun cdv A outer s H E hgd hr tk pw => (mss_one (ms_ret (me_and (me_isa1 isa_int T.n_isinstance T.n_int boot_int (me_v 0)) (me_one (me_not (me_isa1 isa_bool T.n_isinstance T.n_bool (by first | exact boot_bool | exact PySem.Pv.boot_bool | exact PyProof.Rows.boot_bool | exact PySem.W.boot_bool) (me_v 0)))))))
theorem d_is_integer (T : Txt K mg) : DefG P w K mg base "is_integer" 1 P_is_integer f_is_integer := by
  obtain ⟨fd, Fd⟩ := T.u_is_integer
  exact ⟨fd, T.g_is_integer, Fd.kp, Fd.bindsN fun _ _ _ _ _ _ us hl => match us, hl with | [_], _ => rfl, g_is_integer T Fd⟩
end
abbrev N_is_count : List Str := ["value"]
abbrev P_is_count : List Str := ["value"]
theorem sc_is_count : FnScope N_is_count P_is_count (defScope (top 8)) := ⟨rfl, rfl, rfl, by decide +kernel, rfl, by decide +kernel, by decide +kernel⟩
noncomputable def m_is_count : MStm := (sRet (mAndV (mCall P_is_integer.length f_is_integer (mCons (mVar 0) mNil)) (mOp gGe (mVar 0) (mC (.int 0)))))
noncomputable def f_is_count : Fn := bodyFn N_is_count.length m_is_count
section
variable {P : Program} {w : World} {K : PySem.W.Frag} {mg : Str → Option Value} {base : Heap}
theorem g_is_count (T : Txt K mg) {fd : FuncData} (Fd : FD K "is_count" 8 fd) : FnG P w K mg base 2 (He.ga K "is_count") fd P_is_count (spM K P_is_count.length f_is_count) :=
  fn_body (N := N_is_count) (ps := P_is_count) (m := m_is_count) Fd sc_is_count fun cdv A outer s H E hgd hr tk pw => (mss_one (ms_ret (me_and (me_cD (d_is_integer T) tk hgd hr (ma_cons (me_v 0) ma_nil)) (me_one (me_cm (op_geD hr.units) (od_cmp _) (me_v 0) me_int)))))
theorem d_is_count (T : Txt K mg) : DefG P w K mg base "is_count" 2 P_is_count f_is_count := by
  obtain ⟨fd, Fd⟩ := T.u_is_count
  exact ⟨fd, T.g_is_count, Fd.kp, Fd.bindsN fun _ _ _ _ _ _ us hl => match us, hl with | [_], _ => rfl, g_is_count T Fd⟩
end
abbrev N_is_below : List Str := ["value", "many"]
abbrev P_is_below : List Str := ["value", "many"]
theorem sc_is_below : FnScope N_is_below P_is_below (defScope (top 9)) := ⟨rfl, rfl, rfl, by decide +kernel, rfl, by decide +kernel, by decide +kernel⟩
noncomputable def m_is_below : MStm := (sRet (mAndV (mCall P_is_count.length f_is_count (mCons (mVar 0) mNil)) (mOp gLt (mVar 0) (mVar 1))))
noncomputable def f_is_below : Fn := bodyFn N_is_below.length m_is_below
section
variable {P : Program} {w : World} {K : PySem.W.Frag} {mg : Str → Option Value} {base : Heap}
theorem g_is_below (T : Txt K mg) {fd : FuncData} (Fd : FD K "is_below" 9 fd) : FnG P w K mg base 3 (He.ga K "is_below") fd P_is_below (spM K P_is_below.length f_is_below) :=
  fn_body (N := N_is_below) (ps := P_is_below) (m := m_is_below) Fd sc_is_below fun cdv A outer s H E hgd hr tk pw => (mss_one (ms_ret (me_and (me_cD (d_is_count T) tk hgd hr (ma_cons (me_v 0) ma_nil)) (me_one (me_cm (op_ltD hr.units) (od_cmp _) (me_v 0) (me_v 1))))))
theorem d_is_below (T : Txt K mg) : DefG P w K mg base "is_below" 3 P_is_below f_is_below := by
  obtain ⟨fd, Fd⟩ := T.u_is_below
  exact ⟨fd, T.g_is_below, Fd.kp, Fd.bindsN fun _ _ _ _ _ _ us hl => match us, hl with | [_, _], _ => rfl, g_is_below T Fd⟩
end
abbrev N_are_ties : List Str := ["many", "value", "tie", "one", "other", "near", "far"]
abbrev P_are_ties : List Str := ["many", "value"]
theorem sc_are_ties : FnScope N_are_ties P_are_ties (defScope (top 15)) := ⟨rfl, rfl, rfl, by decide +kernel, rfl, by decide +kernel, by decide +kernel⟩
noncomputable def c0_are_ties : M Val := mLc [2] (iT (mVar 1)) (pName 2) (ret true) (mCall P_is_row.length f_is_row (mCons (mVar 2) (mCons (mC (.int 2)) mNil)))
noncomputable def c1_are_ties : M Val := mLc [3, 4] (iT (mVar 1)) (pTup 2 (psCons (pName 3) (psCons (pName 4) psNil))) (ret true) (mAndV (mCall P_is_below.length f_is_below (mCons (mVar 3) (mCons (mVar 0) mNil))) (mAndV (mCall P_is_below.length f_is_below (mCons (mVar 4) (mCons (mVar 0) mNil))) (mOp gLt (mVar 3) (mVar 4))))
noncomputable def c2_are_ties : M Val := mLc [5, 6] (iZ (mCons (mVar 1) (mCons (mSl (mVar 1) (bind (mC (.int 1)) oInt) (ret none)) mNil))) (pTup 2 (psCons (pName 5) (psCons (pName 6) psNil))) (ret true) (mOp gLe (mVar 5) (mVar 6))
noncomputable def m_are_ties : MStm := (sSeq (sIf (tOrM (tNotM (mTest (mIsa PyData.isTuple (mVar 1)))) (tOrM (mB (mOp gGt (mCa (k1 gLen) (aCons (mVar 1) aNil)) (mC (.int 40)))) (tNotM (mTest (mCa (k1 gAll) (aCons c0_are_ties aNil)))))) (sRet (mC (.bool false))) sNext)
    (sSeq (sIf (tNotM (mTest (mCa (k1 gAll) (aCons c1_are_ties aNil)))) (sRet (mC (.bool false))) sNext)
    (sRet (mCa (k1 gAll) (aCons c2_are_ties aNil)))))
noncomputable def f_are_ties : Fn := bodyFn N_are_ties.length m_are_ties
section
variable {P : Program} {w : World} {K : PySem.W.Frag} {mg : Str → Option Value} {base : Heap}
theorem g_are_ties (T : Txt K mg) {fd : FuncData} (Fd : FD K "are_ties" 15 fd) : FnG P w K mg base 4 (He.ga K "are_ties") fd P_are_ties (spM K P_are_ties.length f_are_ties) :=
  fn_body (N := N_are_ties) (ps := P_are_ties) (m := m_are_ties) Fd sc_are_ties fun cdv A outer s H E hgd hr tk pw => (mss_cons (ms_if (MTW.mt (mw_or (mt_not (mt_of (me_isa1 isa_tuple T.n_isinstance T.n_tuple boot_tuple (me_v 1)))) (mw_or (mt_cmp (op_gtD hr.units) (od_cmp _) (me_len T.n_len (me_v 1)) (me_gint T.c_MOST_TIES_webs)) (mw_or1 (mt_not (mt_of (me_all T.n_all (me_lc (own := [("tie", 2)]) rfl sc_are_ties.nd (mi_tup (me_v 1)) (show BlkOk N_are_ties (defScope (top 15)) _ [("tie", 2)] from blkOf (by decide +kernel)) (fun s H C cl fp => (mg_nm (i := 2) sc_are_ties.nd)) (fun s H C cl fp => mts_nil) (fun s H C cl fp => (me_cD (d_is_row T) ME.takes0 hgd hr (ma_cons (me_v 2) (ma_cons me_int ma_nil)))) (by decide))))))))) (mss_one (ms_ret me_bool)) mss_nil)
    (mss_cons (ms_if (mt_not (mt_of (me_all T.n_all (me_lc (own := [("one", 3), ("other", 4)]) rfl sc_are_ties.nd (mi_tup (me_v 1)) (show BlkOk N_are_ties (defScope (top 15)) _ [("one", 3), ("other", 4)] from blkOf (by decide +kernel)) (fun s H C cl fp => (mg_tp (mgs_cons (mg_nm (i := 3) sc_are_ties.nd) (mgs_cons (mg_nm (i := 4) sc_are_ties.nd) mgs_nil)))) (fun s H C cl fp => mts_nil) (fun s H C cl fp => (me_and (me_cD (d_is_below T) ME.takes0 hgd hr (ma_cons (me_v 3) (ma_cons (me_v 0) ma_nil))) (me_and (me_cD (d_is_below T) ME.takes0 hgd hr (ma_cons (me_v 4) (ma_cons (me_v 0) ma_nil))) (me_one (me_cm (op_ltD hr.units) (od_cmp _) (me_v 3) (me_v 4)))))) (by decide))))) (mss_one (ms_ret me_bool)) mss_nil)
    (mss_one (ms_ret (me_all T.n_all (me_lc (own := [("near", 5), ("far", 6)]) rfl sc_are_ties.nd (mi_zp T.n_zip (me_v 1) (me_sl (me_v 1) (mo_some me_int) mo_none)) (show BlkOk N_are_ties (defScope (top 15)) _ [("near", 5), ("far", 6)] from blkOf (by decide +kernel)) (fun s H C cl fp => (mg_tp (mgs_cons (mg_nm (i := 5) sc_are_ties.nd) (mgs_cons (mg_nm (i := 6) sc_are_ties.nd) mgs_nil)))) (fun s H C cl fp => mts_nil) (fun s H C cl fp => (me_cm (op_leD hr.units) (od_cmp _) (me_v 5) (me_v 6))) (by decide)))))))
theorem d_are_ties (T : Txt K mg) : DefG P w K mg base "are_ties" 4 P_are_ties f_are_ties := by
  obtain ⟨fd, Fd⟩ := T.u_are_ties
  exact ⟨fd, T.g_are_ties, Fd.kp, Fd.bindsN fun _ _ _ _ _ _ us hl => match us, hl with | [_, _], _ => rfl, g_are_ties T Fd⟩
end
abbrev N_is_many : List Str := ["value"]
abbrev P_is_many : List Str := ["value"]
theorem sc_is_many : FnScope N_is_many P_is_many (defScope (top 16)) := ⟨rfl, rfl, rfl, by decide +kernel, rfl, by decide +kernel, by decide +kernel⟩
noncomputable def m_is_many : MStm := (sRet (mAndV (mCall P_is_integer.length f_is_integer (mCons (mVar 0) mNil)) (mChain gLe gLe (mC (.int 1)) (mVar 0) (mC (.int 16)))))
noncomputable def f_is_many : Fn := bodyFn N_is_many.length m_is_many
section
variable {P : Program} {w : World} {K : PySem.W.Frag} {mg : Str → Option Value} {base : Heap}
theorem g_is_many (T : Txt K mg) {fd : FuncData} (Fd : FD K "is_many" 16 fd) : FnG P w K mg base 2 (He.ga K "is_many") fd P_is_many (spM K P_is_many.length f_is_many) :=
  fn_body (N := N_is_many) (ps := P_is_many) (m := m_is_many) Fd sc_is_many fun cdv A outer s H E hgd hr tk pw => (mss_one (ms_ret (me_and (me_cD (d_is_integer T) tk hgd hr (ma_cons (me_v 0) ma_nil)) (me_one (me_chn (op_leD hr.units) (od_cmp _) (op_leD hr.units) (od_cmp _) me_int (me_v 0) (me_gint T.c_MOST_PLACES_webs))))))
theorem d_is_many (T : Txt K mg) : DefG P w K mg base "is_many" 2 P_is_many f_is_many := by
  obtain ⟨fd, Fd⟩ := T.u_is_many
  exact ⟨fd, T.g_is_many, Fd.kp, Fd.bindsN fun _ _ _ _ _ _ us hl => match us, hl with | [_], _ => rfl, g_is_many T Fd⟩
end
abbrev N_is_web_of : List Str := ["value"]
abbrev P_is_web_of : List Str := ["value"]
theorem sc_is_web_of : FnScope N_is_web_of P_is_web_of (defScope (top 17)) := ⟨rfl, rfl, rfl, by decide +kernel, rfl, by decide +kernel, by decide +kernel⟩
noncomputable def m_is_web_of : MStm := (sSeq (sIf (tOrM (tNotM (mTest (mCall P_is_row.length f_is_row (mCons (mVar 0) (mCons (mC (.int 3)) mNil))))) (tOrM (tNotM (mTest (mIsa PyData.isStr (mOp gIx (mVar 0) (mC (.int 0)))))) (tOrM (mB (mOp (gEq true) (mOp gIx (mVar 0) (mC (.int 0))) (mC (.str "web")))) (tNotM (mTest (mCall P_is_many.length f_is_many (mCons (mOp gIx (mVar 0) (mC (.int 1))) mNil))))))) (sRet (mC (.bool false))) sNext)
    (sRet (mCall P_are_ties.length f_are_ties (mCons (mOp gIx (mVar 0) (mC (.int 1))) (mCons (mOp gIx (mVar 0) (mC (.int 2))) mNil)))))
noncomputable def f_is_web_of : Fn := bodyFn N_is_web_of.length m_is_web_of
section
variable {P : Program} {w : World} {K : PySem.W.Frag} {mg : Str → Option Value} {base : Heap}
theorem g_is_web_of (T : Txt K mg) {fd : FuncData} (Fd : FD K "is_web_of" 17 fd) : FnG P w K mg base 5 (He.ga K "is_web_of") fd P_is_web_of (spM K P_is_web_of.length f_is_web_of) :=
  fn_body (N := N_is_web_of) (ps := P_is_web_of) (m := m_is_web_of) Fd sc_is_web_of fun cdv A outer s H E hgd hr tk pw => (mss_cons (ms_if (MTW.mt (mw_or (mt_not (mt_of (me_cD (d_is_row T) tk hgd hr (ma_cons (me_v 0) (ma_cons me_int ma_nil))))) (mw_or (mt_not (mt_of (me_isa1 isa_str T.n_isinstance T.n_str boot_str (me_sub1 (me_v 0) me_int)))) (mw_or (mt_cmp (op_neP hr.units) (od_eq true) (me_sub1 (me_v 0) me_int) (me_gstr T.c_WEB_webs)) (mw_or1 (mt_not (mt_of (me_cD (d_is_many T) tk hgd hr (ma_cons (me_sub1 (me_v 0) me_int) ma_nil))))))))) (mss_one (ms_ret me_bool)) mss_nil)
    (mss_one (ms_ret (me_cD (d_are_ties T) tk hgd hr (ma_cons (me_sub1 (me_v 0) me_int) (ma_cons (me_sub1 (me_v 0) me_int) ma_nil))))))
theorem d_is_web_of (T : Txt K mg) : DefG P w K mg base "is_web_of" 5 P_is_web_of f_is_web_of := by
  obtain ⟨fd, Fd⟩ := T.u_is_web_of
  exact ⟨fd, T.g_is_web_of, Fd.kp, Fd.bindsN fun _ _ _ _ _ _ us hl => match us, hl with | [_], _ => rfl, g_is_web_of T Fd⟩
end
abbrev N_are_counts : List Str := ["value", "most", "one"]
abbrev P_are_counts : List Str := ["value", "most"]
theorem sc_are_counts : FnScope N_are_counts P_are_counts (defScope (top 30)) := ⟨rfl, rfl, rfl, by decide +kernel, rfl, by decide +kernel, by decide +kernel⟩
noncomputable def c0_are_counts : M Val := mLc [2] (iT (mVar 0)) (pName 2) (ret true) (mCall P_is_below.length f_is_below (mCons (mVar 2) (mCons (mVar 1) mNil)))
noncomputable def m_are_counts : MStm := (sRet (mAndV (mIsa PyData.isTuple (mVar 0)) (mCa (k1 gAll) (aCons c0_are_counts aNil))))
noncomputable def f_are_counts : Fn := bodyFn N_are_counts.length m_are_counts
section
variable {P : Program} {w : World} {K : PySem.W.Frag} {mg : Str → Option Value} {base : Heap}
theorem g_are_counts (T : Txt K mg) {fd : FuncData} (Fd : FD K "are_counts" 30 fd) : FnG P w K mg base 4 (He.ga K "are_counts") fd P_are_counts (spM K P_are_counts.length f_are_counts) :=
  fn_body (N := N_are_counts) (ps := P_are_counts) (m := m_are_counts) Fd sc_are_counts fun cdv A outer s H E hgd hr tk pw => (mss_one (ms_ret (me_and (me_isa1 isa_tuple T.n_isinstance T.n_tuple boot_tuple (me_v 0)) (me_one (me_all T.n_all (me_lc (own := [("one", 2)]) rfl sc_are_counts.nd (mi_tup (me_v 0)) (show BlkOk N_are_counts (defScope (top 30)) _ [("one", 2)] from blkOf (by decide +kernel)) (fun s H C cl fp => (mg_nm (i := 2) sc_are_counts.nd)) (fun s H C cl fp => mts_nil) (fun s H C cl fp => (me_cD (d_is_below T) ME.takes0 hgd hr (ma_cons (me_v 2) (ma_cons (me_v 1) ma_nil)))) (by decide)))))))
theorem d_are_counts (T : Txt K mg) : DefG P w K mg base "are_counts" 4 P_are_counts f_are_counts := by
  obtain ⟨fd, Fd⟩ := T.u_are_counts
  exact ⟨fd, T.g_are_counts, Fd.kp, Fd.bindsN fun _ _ _ _ _ _ us hl => match us, hl with | [_, _], _ => rfl, g_are_counts T Fd⟩
end
abbrev N_is_climbing : List Str := ["items", "near", "far"]
abbrev P_is_climbing : List Str := ["items"]
theorem sc_is_climbing : FnScope N_is_climbing P_is_climbing (defScope (top 31)) := ⟨rfl, rfl, rfl, by decide +kernel, rfl, by decide +kernel, by decide +kernel⟩
noncomputable def c0_is_climbing : M Val := mLc [1, 2] (iZ (mCons (mVar 0) (mCons (mSl (mVar 0) (bind (mC (.int 1)) oInt) (ret none)) mNil))) (pTup 2 (psCons (pName 1) (psCons (pName 2) psNil))) (ret true) (mOp gLt (mVar 1) (mVar 2))
noncomputable def m_is_climbing : MStm := (sRet (mCa (k1 gAll) (aCons c0_is_climbing aNil)))
noncomputable def f_is_climbing : Fn := bodyFn N_is_climbing.length m_is_climbing
section
variable {P : Program} {w : World} {K : PySem.W.Frag} {mg : Str → Option Value} {base : Heap}
theorem g_is_climbing (T : Txt K mg) {fd : FuncData} (Fd : FD K "is_climbing" 31 fd) : FnG P w K mg base 1 (He.ga K "is_climbing") fd P_is_climbing (spM K P_is_climbing.length f_is_climbing) :=
  fn_body (N := N_is_climbing) (ps := P_is_climbing) (m := m_is_climbing) Fd sc_is_climbing fun cdv A outer s H E hgd hr tk pw => (mss_one (ms_ret (me_all T.n_all (me_lc (own := [("near", 1), ("far", 2)]) rfl sc_is_climbing.nd (mi_zp T.n_zip (me_v 0) (me_sl (me_v 0) (mo_some me_int) mo_none)) (show BlkOk N_is_climbing (defScope (top 31)) _ [("near", 1), ("far", 2)] from blkOf (by decide +kernel)) (fun s H C cl fp => (mg_tp (mgs_cons (mg_nm (i := 1) sc_is_climbing.nd) (mgs_cons (mg_nm (i := 2) sc_is_climbing.nd) mgs_nil)))) (fun s H C cl fp => mts_nil) (fun s H C cl fp => (me_cm (op_ltD hr.units) (od_cmp _) (me_v 1) (me_v 2))) (by decide)))))
theorem d_is_climbing (T : Txt K mg) : DefG P w K mg base "is_climbing" 1 P_is_climbing f_is_climbing := by
  obtain ⟨fd, Fd⟩ := T.u_is_climbing
  exact ⟨fd, T.g_is_climbing, Fd.kp, Fd.bindsN fun _ _ _ _ _ _ us hl => match us, hl with | [_], _ => rfl, g_is_climbing T Fd⟩
end
abbrev N_are_lots : List Str := ["value", "most", "below", "one"]
abbrev P_are_lots : List Str := ["value", "most", "below"]
theorem sc_are_lots : FnScope N_are_lots P_are_lots (defScope (top 32)) := ⟨rfl, rfl, rfl, by decide +kernel, rfl, by decide +kernel, by decide +kernel⟩
noncomputable def c0_are_lots : M Val := mLc [3] (iT (mVar 0)) (pName 3) (ret true) (mAndV (mCall P_are_counts.length f_are_counts (mCons (mVar 3) (mCons (mVar 2) mNil))) (mCall P_is_climbing.length f_is_climbing (mCons (mVar 3) mNil)))
noncomputable def m_are_lots : MStm := (sSeq (sIf (tOrM (tNotM (mTest (mIsa PyData.isTuple (mVar 0)))) (tNotM (mB (mChain gLe gLe (mC (.int 1)) (mCa (k1 gLen) (aCons (mVar 0) aNil)) (mVar 1))))) (sRet (mC (.bool false))) sNext)
    (sRet (mCa (k1 gAll) (aCons c0_are_lots aNil))))
noncomputable def f_are_lots : Fn := bodyFn N_are_lots.length m_are_lots
section
variable {P : Program} {w : World} {K : PySem.W.Frag} {mg : Str → Option Value} {base : Heap}
theorem g_are_lots (T : Txt K mg) {fd : FuncData} (Fd : FD K "are_lots" 32 fd) : FnG P w K mg base 5 (He.ga K "are_lots") fd P_are_lots (spM K P_are_lots.length f_are_lots) :=
  fn_body (N := N_are_lots) (ps := P_are_lots) (m := m_are_lots) Fd sc_are_lots fun cdv A outer s H E hgd hr tk pw => (mss_cons (ms_if (MTW.mt (mw_or (mt_not (mt_of (me_isa1 isa_tuple T.n_isinstance T.n_tuple boot_tuple (me_v 0)))) (mw_or1 (mt_not (mt_chain (op_leD hr.units) (od_cmp _) (op_leD hr.units) (od_cmp _) me_int (me_len T.n_len (me_v 0)) (me_v 1)))))) (mss_one (ms_ret me_bool)) mss_nil)
    (mss_one (ms_ret (me_all T.n_all (me_lc (own := [("one", 3)]) rfl sc_are_lots.nd (mi_tup (me_v 0)) (show BlkOk N_are_lots (defScope (top 32)) _ [("one", 3)] from blkOf (by decide +kernel)) (fun s H C cl fp => (mg_nm (i := 3) sc_are_lots.nd)) (fun s H C cl fp => mts_nil) (fun s H C cl fp => (me_and (me_cD (d_are_counts T) ME.takes0 hgd hr (ma_cons (me_v 3) (ma_cons (me_v 2) ma_nil))) (me_one (me_cD (d_is_climbing T) ME.takes0 hgd hr (ma_cons (me_v 3) ma_nil))))) (by decide))))))
theorem d_are_lots (T : Txt K mg) : DefG P w K mg base "are_lots" 5 P_are_lots f_are_lots := by
  obtain ⟨fd, Fd⟩ := T.u_are_lots
  exact ⟨fd, T.g_are_lots, Fd.kp, Fd.bindsN fun _ _ _ _ _ _ us hl => match us, hl with | [_, _, _], _ => rfl, g_are_lots T Fd⟩
end
abbrev N_is_parting : List Str := ["value", "found", "part"]
abbrev P_is_parting : List Str := ["value"]
theorem sc_is_parting : FnScope N_is_parting P_is_parting (defScope (top 33)) := ⟨rfl, rfl, rfl, by decide +kernel, rfl, by decide +kernel, by decide +kernel⟩
noncomputable def b0_is_parting : MStm := (sExpr (mOwn gExtL 1 (mCons (mVar 2) mNil)))
noncomputable def l0_is_parting : MStm := sFor (iT (mVar 0)) (pName 2) b0_is_parting
noncomputable def m_is_parting : MStm := (sSeq (sIf (tOrM (tNotM (mTest (mCall P_are_lots.length f_are_lots (mCons (mVar 0) (mCons (mC (.int 16)) (mCons (mC (.int 16)) mNil)))))) (tOrM (mB (mOp (gIn false) (mTup mNil) (mVar 0))) (tNotM (mTest (mCall P_is_climbing.length f_is_climbing (mCons (mVar 0) mNil)))))) (sRet (mC (.bool false))) sNext)
    (sSeq (sAsg (mLst mNil) (pName 1))
    (sSeq l0_is_parting
    (sRet (mOp (gEq false) (mUn gLenSet (mVar 1)) (mCa (k1 gLen) (aCons (mVar 1) aNil)))))))
noncomputable def f_is_parting : Fn := bodyFn N_is_parting.length m_is_parting
section
variable {P : Program} {w : World} {K : PySem.W.Frag} {mg : Str → Option Value} {base : Heap}
theorem g_is_parting (T : Txt K mg) {fd : FuncData} (Fd : FD K "is_parting" 33 fd) : FnG P w K mg base 6 (He.ga K "is_parting") fd P_is_parting (spM K P_is_parting.length f_is_parting) :=
  fn_body (N := N_is_parting) (ps := P_is_parting) (m := m_is_parting) Fd sc_is_parting fun cdv A outer s H E hgd hr tk pw => (mss_cons (ms_if (MTW.mt (mw_or (mt_not (mt_of (me_cD (d_are_lots T) tk hgd hr (ma_cons (me_v 0) (ma_cons (me_gint T.c_MOST_PLACES_records) (ma_cons (me_gint T.c_MOST_PLACES_records) ma_nil)))))) (mw_or (mt_cmp (op_inD hr.units) (od_in false) (me_tup ma_nil) (me_v 0)) (mw_or1 (mt_not (mt_of (me_cD (d_is_climbing T) tk hgd hr (ma_cons (me_v 0) ma_nil)))))))) (mss_one (ms_ret me_bool)) mss_nil)
    (mss_cons (ms_set1 (i := 1) sc_is_parting.nd (me_lst ma_nil))
    (mss_cons (ms_for pw rfl (mi_tup (me_v 0)) (mg_nm (i := 2) sc_is_parting.nd) (mss_one (ms_expr (me_ext (i := 1) (pv 1) (me_v 2)))))
    (mss_one (ms_ret (me_cm (op_eqP hr.units) (od_eq false) (me_lenset T.n_len T.n_set (me_v 1)) (me_len T.n_len (me_v 1))))))))
theorem d_is_parting (T : Txt K mg) : DefG P w K mg base "is_parting" 6 P_is_parting f_is_parting := by
  obtain ⟨fd, Fd⟩ := T.u_is_parting
  exact ⟨fd, T.g_is_parting, Fd.kp, Fd.bindsN fun _ _ _ _ _ _ us hl => match us, hl with | [_], _ => rfl, g_is_parting T Fd⟩
end
abbrev N_is_record_of : List Str := ["value", "word", "told"]
abbrev P_is_record_of : List Str := ["value"]
theorem sc_is_record_of : FnScope N_is_record_of P_is_record_of (defScope (top 34)) := ⟨rfl, rfl, rfl, by decide +kernel, rfl, by decide +kernel, by decide +kernel⟩
noncomputable def m_is_record_of : MStm := (sSeq (sIf (tOrM (tNotM (mTest (mCall P_is_row.length f_is_row (mCons (mVar 0) (mCons (mC (.int 2)) mNil))))) (tNotM (mTest (mIsa PyData.isStr (mOp gIx (mVar 0) (mC (.int 0))))))) (sRet (mC (.bool false))) sNext)
    (sSeq (sAsg (mVar 0) (pTup 2 (psCons (pName 1) (psCons (pName 2) psNil))))
    (sSeq (sIf (mB (mOp (gEq false) (mVar 1) (mC (.str "web")))) (sRet (mCall P_is_web_of.length f_is_web_of (mCons (mVar 2) mNil))) sNext)
    (sSeq (sIf (mB (mOp (gEq false) (mVar 1) (mC (.str "places")))) (sRet (mAndV (mCall P_are_counts.length f_are_counts (mCons (mVar 2) (mCons (mC (.int 16)) mNil))) (mOp gLe (mCa (k1 gLen) (aCons (mVar 2) aNil)) (mC (.int 16))))) sNext)
    (sSeq (sIf (mB (mOp (gEq false) (mVar 1) (mC (.str "lots")))) (sRet (mCall P_are_lots.length f_are_lots (mCons (mVar 2) (mCons (mC (.int 6)) (mCons (mC (.int 40)) mNil))))) sNext)
    (sRet (mAndV (mOp (gEq false) (mVar 1) (mC (.str "parting"))) (mCall P_is_parting.length f_is_parting (mCons (mVar 2) mNil)))))))))
noncomputable def f_is_record_of : Fn := bodyFn N_is_record_of.length m_is_record_of
section
variable {P : Program} {w : World} {K : PySem.W.Frag} {mg : Str → Option Value} {base : Heap}
theorem g_is_record_of (T : Txt K mg) {fd : FuncData} (Fd : FD K "is_record_of" 34 fd) : FnG P w K mg base 7 (He.ga K "is_record_of") fd P_is_record_of (spM K P_is_record_of.length f_is_record_of) :=
  fn_body (N := N_is_record_of) (ps := P_is_record_of) (m := m_is_record_of) Fd sc_is_record_of fun cdv A outer s H E hgd hr tk pw => (mss_cons (ms_if (MTW.mt (mw_or (mt_not (mt_of (me_cD (d_is_row T) tk hgd hr (ma_cons (me_v 0) (ma_cons me_int ma_nil))))) (mw_or1 (mt_not (mt_of (me_isa1 isa_str T.n_isinstance T.n_str boot_str (me_sub1 (me_v 0) me_int))))))) (mss_one (ms_ret me_bool)) mss_nil)
    (mss_cons (ms_asg (me_v 0) (mg_tp (mgs_cons (mg_nm (i := 1) sc_is_record_of.nd) (mgs_cons (mg_nm (i := 2) sc_is_record_of.nd) mgs_nil))))
    (mss_cons (ms_if (mt_cmp (op_eqP hr.units) (od_eq false) (me_v 1) (me_gstr T.c_WEB_records)) (mss_one (ms_ret (me_cD (d_is_web_of T) tk hgd hr (ma_cons (me_v 2) ma_nil)))) mss_nil)
    (mss_cons (ms_if (mt_cmp (op_eqP hr.units) (od_eq false) (me_v 1) (me_gstr T.c_PLACES)) (mss_one (ms_ret (me_and (me_cD (d_are_counts T) tk hgd hr (ma_cons (me_v 2) (ma_cons (me_gint T.c_MOST_PLACES_records) ma_nil))) (me_one (me_cm (op_leD hr.units) (od_cmp _) (me_len T.n_len (me_v 2)) (me_gint T.c_MOST_PLACES_records)))))) mss_nil)
    (mss_cons (ms_if (mt_cmp (op_eqP hr.units) (od_eq false) (me_v 1) (me_gstr T.c_LOTS)) (mss_one (ms_ret (me_cD (d_are_lots T) tk hgd hr (ma_cons (me_v 2) (ma_cons (me_gint T.c_MOST_LOTS) (ma_cons (me_gint T.c_MOST_TIES_records) ma_nil)))))) mss_nil)
    (mss_one (ms_ret (me_and (me_cm (op_eqP hr.units) (od_eq false) (me_v 1) (me_gstr T.c_PARTING)) (me_one (me_cD (d_is_parting T) tk hgd hr (ma_cons (me_v 2) ma_nil)))))))))))
theorem d_is_record_of (T : Txt K mg) : DefG P w K mg base "is_record_of" 7 P_is_record_of f_is_record_of := by
  obtain ⟨fd, Fd⟩ := T.u_is_record_of
  exact ⟨fd, T.g_is_record_of, Fd.kp, Fd.bindsN fun _ _ _ _ _ _ us hl => match us, hl with | [_], _ => rfl, g_is_record_of T Fd⟩
end
abbrev N_lot_text : List Str := ["lot", "one"]
abbrev P_lot_text : List Str := ["lot"]
theorem sc_lot_text : FnScope N_lot_text P_lot_text (defScope (top 35)) := ⟨rfl, rfl, rfl, by decide +kernel, rfl, by decide +kernel, by decide +kernel⟩
noncomputable def c0_lot_text : M Val := mLc [1] (iT (mVar 0)) (pName 1) (ret true) (mCa (k1 gStr) (aCons (mVar 1) aNil))
noncomputable def m_lot_text : MStm := (sRet (mIf (mB (mOp (gEq true) (mVar 0) (mTup mNil))) (mS1 gJoin (mC (.str ",")) c0_lot_text) (mC (.str "-"))))
noncomputable def f_lot_text : Fn := bodyFn N_lot_text.length m_lot_text
section
variable {P : Program} {w : World} {K : PySem.W.Frag} {mg : Str → Option Value} {base : Heap}
theorem g_lot_text (T : Txt K mg) {fd : FuncData} (Fd : FD K "lot_text" 35 fd) : FnG P w K mg base 1 (He.ga K "lot_text") fd P_lot_text (spM K P_lot_text.length f_lot_text) :=
  fn_body (N := N_lot_text) (ps := P_lot_text) (m := m_lot_text) Fd sc_lot_text fun cdv A outer s H E hgd hr tk pw => (mss_one (ms_ret (me_if (mt_cmp (op_neP hr.units) (od_eq true) (me_v 0) (me_tup ma_nil)) (me_join (me_gstr T.c_BETWEEN) (me_lc (own := [("one", 1)]) rfl sc_lot_text.nd (mi_tup (me_v 0)) (show BlkOk N_lot_text (defScope (top 35)) _ [("one", 1)] from blkOf (by decide +kernel)) (fun s H C cl fp => (mg_nm (i := 1) sc_lot_text.nd)) (fun s H C cl fp => mts_nil) (fun s H C cl fp => (me_strc T.n_str (me_v 1))) (by decide))) (me_gstr T.c_NONE))))
theorem d_lot_text (T : Txt K mg) : DefG P w K mg base "lot_text" 1 P_lot_text f_lot_text := by
  obtain ⟨fd, Fd⟩ := T.u_lot_text
  exact ⟨fd, T.g_lot_text, Fd.kp, Fd.bindsN fun _ _ _ _ _ _ us hl => match us, hl with | [_], _ => rfl, g_lot_text T Fd⟩
end
abbrev N_tokens_of : List Str := ["record", "word", "told", "near", "far", "one", "lot"]
abbrev P_tokens_of : List Str := ["record"]
theorem sc_tokens_of : FnScope N_tokens_of P_tokens_of (defScope (top 36)) := ⟨rfl, rfl, rfl, by decide +kernel, rfl, by decide +kernel, by decide +kernel⟩
noncomputable def c0_tokens_of : M Val := mLc [3, 4] (iT (mOp gIx (mVar 2) (mC (.int 2)))) (pTup 2 (psCons (pName 3) (psCons (pName 4) psNil))) (ret true) (mOp gAdd (mOp gAdd (mCa (k1 gStr) (aCons (mVar 3) aNil)) (mC (.str "-"))) (mCa (k1 gStr) (aCons (mVar 4) aNil)))
noncomputable def c1_tokens_of : M Val := mLc [5] (iT (mVar 2)) (pName 5) (ret true) (mCa (k1 gStr) (aCons (mVar 5) aNil))
noncomputable def c2_tokens_of : M Val := mLc [6] (iT (mVar 2)) (pName 6) (ret true) (mCall P_lot_text.length f_lot_text (mCons (mVar 6) mNil))
noncomputable def m_tokens_of : MStm := (sSeq (sAsg (mVar 0) (pTup 2 (psCons (pName 1) (psCons (pName 2) psNil))))
    (sSeq (sIf (mB (mOp (gEq false) (mVar 1) (mC (.str "web")))) (sRet (mOp gAdd (mLst (mCons (mCa (k1 gStr) (aCons (mOp gIx (mVar 2) (mC (.int 1))) aNil)) mNil)) c0_tokens_of)) sNext)
    (sRet (mIf (mB (mOp (gEq false) (mVar 1) (mC (.str "places")))) c1_tokens_of c2_tokens_of))))
noncomputable def f_tokens_of : Fn := bodyFn N_tokens_of.length m_tokens_of
section
variable {P : Program} {w : World} {K : PySem.W.Frag} {mg : Str → Option Value} {base : Heap}
theorem g_tokens_of (T : Txt K mg) {fd : FuncData} (Fd : FD K "tokens_of" 36 fd) : FnG P w K mg base 2 (He.ga K "tokens_of") fd P_tokens_of (spM K P_tokens_of.length f_tokens_of) :=
  fn_body (N := N_tokens_of) (ps := P_tokens_of) (m := m_tokens_of) Fd sc_tokens_of fun cdv A outer s H E hgd hr tk pw => (mss_cons (ms_asg (me_v 0) (mg_tp (mgs_cons (mg_nm (i := 1) sc_tokens_of.nd) (mgs_cons (mg_nm (i := 2) sc_tokens_of.nd) mgs_nil))))
    (mss_cons (ms_if (mt_cmp (op_eqP hr.units) (od_eq false) (me_v 1) (me_gstr T.c_WEB_records)) (mss_one (ms_ret (me_add (me_lst (ma_cons (me_strc T.n_str (me_sub1 (me_v 2) me_int)) ma_nil)) (me_lc (own := [("near", 3), ("far", 4)]) rfl sc_tokens_of.nd (mi_tup (me_sub1 (me_v 2) me_int)) (show BlkOk N_tokens_of (defScope (top 36)) _ [("near", 3), ("far", 4)] from blkOf (by decide +kernel)) (fun s H C cl fp => (mg_tp (mgs_cons (mg_nm (i := 3) sc_tokens_of.nd) (mgs_cons (mg_nm (i := 4) sc_tokens_of.nd) mgs_nil)))) (fun s H C cl fp => mts_nil) (fun s H C cl fp => (me_add (me_add (me_strc T.n_str (me_v 3)) (me_gstr T.c_TIED)) (me_strc T.n_str (me_v 4)))) (by decide))))) mss_nil)
    (mss_one (ms_ret (me_if (mt_cmp (op_eqP hr.units) (od_eq false) (me_v 1) (me_gstr T.c_PLACES)) (me_lc (own := [("one", 5)]) rfl sc_tokens_of.nd (mi_tup (me_v 2)) (show BlkOk N_tokens_of (defScope (top 36)) _ [("one", 5)] from blkOf (by decide +kernel)) (fun s H C cl fp => (mg_nm (i := 5) sc_tokens_of.nd)) (fun s H C cl fp => mts_nil) (fun s H C cl fp => (me_strc T.n_str (me_v 5))) (by decide)) (me_lc (own := [("lot", 6)]) rfl sc_tokens_of.nd (mi_tup (me_v 2)) (show BlkOk N_tokens_of (defScope (top 36)) _ [("lot", 6)] from blkOf (by decide +kernel)) (fun s H C cl fp => (mg_nm (i := 6) sc_tokens_of.nd)) (fun s H C cl fp => mts_nil) (fun s H C cl fp => (me_cD (d_lot_text T) ME.takes0 hgd hr (ma_cons (me_v 6) ma_nil))) (by decide)))))))
theorem d_tokens_of (T : Txt K mg) : DefG P w K mg base "tokens_of" 2 P_tokens_of f_tokens_of := by
  obtain ⟨fd, Fd⟩ := T.u_tokens_of
  exact ⟨fd, T.g_tokens_of, Fd.kp, Fd.bindsN fun _ _ _ _ _ _ us hl => match us, hl with | [_], _ => rfl, g_tokens_of T Fd⟩
end
abbrev N_text_of_record : List Str := ["record"]
abbrev P_text_of_record : List Str := ["record"]
theorem sc_text_of_record : FnScope N_text_of_record P_text_of_record (defScope (top 37)) := ⟨rfl, rfl, rfl, by decide +kernel, rfl, by decide +kernel, by decide +kernel⟩
noncomputable def m_text_of_record : MStm := (sRet (mS1 gJoin (mC (.str " ")) (mOp gAdd (mLst (mCons (mOp gIx (mVar 0) (mC (.int 0))) mNil)) (mCall P_tokens_of.length f_tokens_of (mCons (mVar 0) mNil)))))
noncomputable def f_text_of_record : Fn := bodyFn N_text_of_record.length m_text_of_record
section
variable {P : Program} {w : World} {K : PySem.W.Frag} {mg : Str → Option Value} {base : Heap}
theorem g_text_of_record (T : Txt K mg) {fd : FuncData} (Fd : FD K "text_of_record" 37 fd) : FnG P w K mg base 3 (He.ga K "text_of_record") fd P_text_of_record (spM K P_text_of_record.length f_text_of_record) :=
  fn_body (N := N_text_of_record) (ps := P_text_of_record) (m := m_text_of_record) Fd sc_text_of_record fun cdv A outer s H E hgd hr tk pw => (mss_one (ms_ret (me_join me_str (me_add (me_lst (ma_cons (me_sub1 (me_v 0) me_int) ma_nil)) (me_cD (d_tokens_of T) tk hgd hr (ma_cons (me_v 0) ma_nil))))))
theorem d_text_of_record (T : Txt K mg) : DefG P w K mg base "text_of_record" 3 P_text_of_record f_text_of_record := by
  obtain ⟨fd, Fd⟩ := T.u_text_of_record
  exact ⟨fd, T.g_text_of_record, Fd.kp, Fd.bindsN fun _ _ _ _ _ _ us hl => match us, hl with | [_], _ => rfl, g_text_of_record T Fd⟩
end
abbrev N_read_record : List Str := ["text", "tokens", "found"]
abbrev P_read_record : List Str := ["text"]
theorem sc_read_record : FnScope N_read_record P_read_record (defScope (top 43)) := ⟨rfl, rfl, rfl, by decide +kernel, rfl, by decide +kernel, by decide +kernel⟩
noncomputable def m_read_record : MStm := (sSeq (sIf (tNotM (mTest (mIsa PyData.isStr (mVar 0)))) (sRaise "InvalidText" ["value"] (mCons (mVar 0) mNil)) sNext)
    (sSeq (sAsg (mS1 gSplit (mVar 0) (mC (.str " "))) (pName 1))
    (sSeq (sAsg (mTup (mCons (mOp gIx (mVar 1) (mC (.int 0))) (mCons (mCall P_rest_read.length f_rest_read (mCons (mOp gIx (mVar 1) (mC (.int 0))) (mCons (mSl (mVar 1) (bind (mC (.int 1)) oInt) (ret none)) mNil))) mNil))) (pName 2))
    (sSeq (sIf (tOrM (tNotM (mTest (mCall P_is_record_of.length f_is_record_of (mCons (mVar 2) mNil)))) (mB (mOp (gEq true) (mCall P_text_of_record.length f_text_of_record (mCons (mVar 2) mNil)) (mVar 0)))) (sRaise "Unread" ["text"] (mCons (mVar 0) mNil)) sNext)
    (sRet (mVar 2))))))
noncomputable def f_read_record : Fn := bodyFn N_read_record.length m_read_record
section
variable {P : Program} {w : World} {K : PySem.W.Frag} {mg : Str → Option Value} {base : Heap}
theorem g_read_record (T : Txt K mg) {fd : FuncData} (Fd : FD K "read_record" 43 fd) : FnG P w K mg base 8 (He.ga K "read_record") fd P_read_record (spM K P_read_record.length f_read_record) :=
  fn_body (N := N_read_record) (ps := P_read_record) (m := m_read_record) Fd sc_read_record fun cdv A outer s H E hgd hr tk pw => (mss_cons (ms_if (mt_not (mt_of (me_isa1 isa_str T.n_isinstance T.n_str boot_str (me_v 0)))) (mss_one (ms_raise T.e_InvalidText rfl tk hr (by decide) T.g_InvalidText (ma_cons (me_v 0) ma_nil) rfl)) mss_nil)
    (mss_cons (ms_set1 (i := 1) sc_read_record.nd (me_split (me_v 0) me_str))
    (mss_cons (ms_set1 (i := 2) sc_read_record.nd (me_tup (ma_cons (me_sub1 (me_v 1) me_int) (ma_cons (me_cD (d_rest_read T) tk hgd hr (ma_cons (me_sub1 (me_v 1) me_int) (ma_cons (me_sl (me_v 1) (mo_some me_int) mo_none) ma_nil))) ma_nil))))
    (mss_cons (ms_if (MTW.mt (mw_or (mt_not (mt_of (me_cD (d_is_record_of T) tk hgd hr (ma_cons (me_v 2) ma_nil)))) (mw_or1 (mt_cmp (op_neP hr.units) (od_eq true) (me_cD (d_text_of_record T) tk hgd hr (ma_cons (me_v 2) ma_nil)) (me_v 0))))) (mss_one (ms_raise T.e_Unread rfl tk hr (by decide) T.g_Unread (ma_cons (me_v 0) ma_nil) rfl)) mss_nil)
    (mss_one (ms_ret (me_v 2)))))))
theorem d_read_record (T : Txt K mg) : DefG P w K mg base "read_record" 8 P_read_record f_read_record := by
  obtain ⟨fd, Fd⟩ := T.u_read_record
  exact ⟨fd, T.g_read_record, Fd.kp, Fd.bindsN fun _ _ _ _ _ _ us hl => match us, hl with | [_], _ => rfl, g_read_record T Fd⟩
end
abbrev N__law_text : List Str := ["record", "kind", "rest", "tokens", "near", "far", "one", "lot"]
abbrev P__law_text : List Str := ["record"]
theorem sc__law_text : FnScope N__law_text P__law_text (defScope (top 52)) := ⟨rfl, rfl, rfl, by decide +kernel, rfl, by decide +kernel, by decide +kernel⟩
noncomputable def c0__law_text : M Val := mLc [4, 5] (iT (mOp gIx (mVar 2) (mC (.int 2)))) (pTup 2 (psCons (pName 4) (psCons (pName 5) psNil))) (ret true) (mOp gAdd (mOp gAdd (mCa (k1 gStr) (aCons (mVar 4) aNil)) (mC (.str "-"))) (mCa (k1 gStr) (aCons (mVar 5) aNil)))
noncomputable def c1__law_text : M Val := mLc [6] (iT (mVar 2)) (pName 6) (ret true) (mCa (k1 gStr) (aCons (mVar 6) aNil))
noncomputable def c2__law_text : M Val := mLc [6] (iT (mVar 7)) (pName 6) (ret true) (mCa (k1 gStr) (aCons (mVar 6) aNil))
noncomputable def c3__law_text : M Val := mLc [7] (iT (mVar 2)) (pName 7) (ret true) (mIf (mB (mOp (gEq true) (mVar 7) (mTup mNil))) (mS1 gJoin (mC (.str ",")) c2__law_text) (mC (.str "-")))
noncomputable def m__law_text : MStm := (sSeq (sAsg (mVar 0) (pTup 2 (psCons (pName 1) (psCons (pName 2) psNil))))
    (sSeq (sIf (mB (mOp (gEq false) (mVar 1) (mC (.str "web")))) (sAsg (mOp gAdd (mLst (mCons (mCa (k1 gStr) (aCons (mOp gIx (mVar 2) (mC (.int 1))) aNil)) mNil)) c0__law_text) (pName 3)) (sIf (mB (mOp (gEq false) (mVar 1) (mC (.str "places")))) (sAsg c1__law_text (pName 3)) (sAsg c3__law_text (pName 3))))
    (sRet (mS1 gJoin (mC (.str " ")) (mOp gAdd (mLst (mCons (mVar 1) mNil)) (mVar 3))))))
noncomputable def f__law_text : Fn := bodyFn N__law_text.length m__law_text
section
variable {P : Program} {w : World} {K : PySem.W.Frag} {mg : Str → Option Value} {base : Heap}
theorem g__law_text (T : Txt K mg) {fd : FuncData} (Fd : FD K "_law_text" 52 fd) : FnG P w K mg base 1 (He.ga K "_law_text") fd P__law_text (spM K P__law_text.length f__law_text) :=
  fn_body (N := N__law_text) (ps := P__law_text) (m := m__law_text) Fd sc__law_text fun cdv A outer s H E hgd hr tk pw => (mss_cons (ms_asg (me_v 0) (mg_tp (mgs_cons (mg_nm (i := 1) sc__law_text.nd) (mgs_cons (mg_nm (i := 2) sc__law_text.nd) mgs_nil))))
    (mss_cons (ms_if (mt_cmp (op_eqP hr.units) (od_eq false) (me_v 1) me_str) (mss_one (ms_set1 (i := 3) sc__law_text.nd (me_add (me_lst (ma_cons (me_strc T.n_str (me_sub1 (me_v 2) me_int)) ma_nil)) (me_lc (own := [("near", 4), ("far", 5)]) rfl sc__law_text.nd (mi_tup (me_sub1 (me_v 2) me_int)) (show BlkOk N__law_text (defScope (top 52)) _ [("near", 4), ("far", 5)] from blkOf (by decide +kernel)) (fun s H C cl fp => (mg_tp (mgs_cons (mg_nm (i := 4) sc__law_text.nd) (mgs_cons (mg_nm (i := 5) sc__law_text.nd) mgs_nil)))) (fun s H C cl fp => mts_nil) (fun s H C cl fp => (me_add (me_add (me_strc T.n_str (me_v 4)) me_str) (me_strc T.n_str (me_v 5)))) (by decide))))) (mss_one (ms_if (mt_cmp (op_eqP hr.units) (od_eq false) (me_v 1) me_str) (mss_one (by first | exact (ms_set1 (i := 3) sc__law_text.nd (me_lc (own := [("one", 6)]) rfl sc__law_text.nd (mi_tup (me_v 2)) (show BlkOk N__law_text (defScope (top 52)) _ [("one", 6)] from blkOf (by decide +kernel)) (fun s H C cl fp => (mg_nm (i := 6) sc__law_text.nd)) (fun s H C cl fp => mts_nil) (fun s H C cl fp => (me_strc T.n_str (me_v 6))) (by decide))) | exact (ms_setLc (own := [("one", 6)]) rfl sc__law_text.nd (i := 3) rfl rfl rfl (mi_tup (me_v 2)) (show BlkOk N__law_text (defScope (top 52)) _ [("one", 6)] from blkOf (by decide +kernel)) (fun s H C cl fp => (mg_nm (i := 6) sc__law_text.nd)) (fun s H C cl fp => mts_nil) (fun s H C cl fp => (me_strc T.n_str (me_v 6))) (by decide)))) (mss_one (by first | exact (ms_set1 (i := 3) sc__law_text.nd (me_lc (own := [("lot", 7)]) rfl sc__law_text.nd (mi_tup (me_v 2)) (show BlkOk N__law_text (defScope (top 52)) _ [("lot", 7)] from blkOf (by decide +kernel)) (fun s H C cl fp => (mg_nm (i := 7) sc__law_text.nd)) (fun s H C cl fp => mts_nil) (fun s H C cl fp => (me_if (mt_cmp (op_neP hr.units) (od_eq true) (me_v 7) (me_tup ma_nil)) (me_join me_str (me_lc (own := [("one", 6)]) rfl sc__law_text.nd (mi_tup (me_v 7)) (blkOf (by rfl)) (fun s H C cl fp => (mg_nm (i := 6) sc__law_text.nd)) (fun s H C cl fp => mts_nil) (fun s H C cl fp => (me_strc T.n_str (me_v 6))) (by decide))) me_str)) (by decide))) | exact (ms_setLc (own := [("lot", 7)]) rfl sc__law_text.nd (i := 3) rfl rfl rfl (mi_tup (me_v 2)) (show BlkOk N__law_text (defScope (top 52)) _ [("lot", 7)] from blkOf (by decide +kernel)) (fun s H C cl fp => (mg_nm (i := 7) sc__law_text.nd)) (fun s H C cl fp => mts_nil) (fun s H C cl fp => (me_if (mt_cmp (op_neP hr.units) (od_eq true) (me_v 7) (me_tup ma_nil)) (me_join me_str (me_lc (own := [("one", 6)]) rfl sc__law_text.nd (mi_tup (me_v 7)) (blkOf (by rfl)) (fun s H C cl fp => (mg_nm (i := 6) sc__law_text.nd)) (fun s H C cl fp => mts_nil) (fun s H C cl fp => (me_strc T.n_str (me_v 6))) (by decide))) me_str)) (by decide)))))))
    (mss_one (ms_ret (me_join me_str (me_add (me_lst (ma_cons (me_v 1) ma_nil)) (me_v 3)))))))
theorem d__law_text (T : Txt K mg) : DefG P w K mg base "_law_text" 1 P__law_text f__law_text := by
  obtain ⟨fd, Fd⟩ := T.u__law_text
  exact ⟨fd, T.g__law_text, Fd.kp, Fd.bindsN fun _ _ _ _ _ _ us hl => match us, hl with | [_], _ => rfl, g__law_text T Fd⟩
end
abbrev N__law_bent_text : List Str := ["pot", "text", "at", "sign"]
abbrev P__law_bent_text : List Str := ["pot", "text"]
theorem sc__law_bent_text : FnScope N__law_bent_text P__law_bent_text (defScope (top 53)) := ⟨rfl, rfl, rfl, by decide +kernel, rfl, by decide +kernel, by decide +kernel⟩
noncomputable def m__law_bent_text : MStm := (sSeq (sPar 2 3 (mCall P__law_draw.length f__law_draw (mCons (mVar 0) (mCons (mOp gAdd (mCa (k1 gLen) (aCons (mVar 1) aNil)) (mC (.int 1))) mNil))) (mCall P__law_pick.length f__law_pick (mCons (mVar 0) (mCons (mLst (mCons (mC (.str " ")) (mCons (mC (.str "-")) (mCons (mC (.str "0")) (mCons (mC (.str "1")) (mCons (mC (.str "16")) (mCons (mC (.str "40")) (mCons (mC (.str "a")) (mCons (mC (.str " 0-1")) (mCons (mC (.str ",")) (mCons (mC (.str " -")) mNil))))))))))) mNil))))
    (sRet (mCall P__law_pick.length f__law_pick (mCons (mVar 0) (mCons (mLst (mCons (mOp gAdd (mSl (mVar 1) (ret none) (bind (mVar 2) oInt)) (mSl (mVar 1) (bind (mOp gAdd (mVar 2) (mC (.int 1))) oInt) (ret none))) (mCons (mOp gAdd (mOp gAdd (mSl (mVar 1) (ret none) (bind (mVar 2) oInt)) (mVar 3)) (mSl (mVar 1) (bind (mVar 2) oInt) (ret none))) (mCons (mOp gAdd (mOp gAdd (mSl (mVar 1) (ret none) (bind (mVar 2) oInt)) (mVar 3)) (mSl (mVar 1) (bind (mOp gAdd (mVar 2) (mC (.int 1))) oInt) (ret none))) mNil)))) mNil)))))
noncomputable def f__law_bent_text : Fn := bodyFn N__law_bent_text.length m__law_bent_text
section
variable {P : Program} {w : World} {K : PySem.W.Frag} {mg : Str → Option Value} {base : Heap}
theorem g__law_bent_text (T : Txt K mg) {fd : FuncData} (Fd : FD K "_law_bent_text" 53 fd) : FnG P w K mg base 3 (He.ga K "_law_bent_text") fd P__law_bent_text (spM K P__law_bent_text.length f__law_bent_text) :=
  fn_body (N := N__law_bent_text) (ps := P__law_bent_text) (m := m__law_bent_text) Fd sc__law_bent_text fun cdv A outer s H E hgd hr tk pw => (mss_cons (ms_par2 (i := 2) (j := 3) sc__law_bent_text.nd (me_cD (d__law_draw T) tk hgd hr (ma_cons (me_v 0) (ma_cons (me_add (me_len T.n_len (me_v 1)) me_int) ma_nil))) (me_cD (d__law_pick T) tk hgd hr (ma_cons (me_v 0) (ma_cons (me_lst (ma_cons me_str (ma_cons me_str (ma_cons me_str (ma_cons me_str (ma_cons me_str (ma_cons me_str (ma_cons me_str (ma_cons me_str (ma_cons me_str (ma_cons me_str ma_nil))))))))))) ma_nil))))
    (mss_one (ms_ret (me_cD (d__law_pick T) tk hgd hr (ma_cons (me_v 0) (ma_cons (me_lst (ma_cons (me_add (me_sl (me_v 1) mo_none (mo_some (me_v 2))) (me_sl (me_v 1) (mo_some (me_add (me_v 2) me_int)) mo_none)) (ma_cons (me_add (me_add (me_sl (me_v 1) mo_none (mo_some (me_v 2))) (me_v 3)) (me_sl (me_v 1) (mo_some (me_v 2)) mo_none)) (ma_cons (me_add (me_add (me_sl (me_v 1) mo_none (mo_some (me_v 2))) (me_v 3)) (me_sl (me_v 1) (mo_some (me_add (me_v 2) me_int)) mo_none)) ma_nil)))) ma_nil))))))
theorem d__law_bent_text (T : Txt K mg) : DefG P w K mg base "_law_bent_text" 3 P__law_bent_text f__law_bent_text := by
  obtain ⟨fd, Fd⟩ := T.u__law_bent_text
  exact ⟨fd, T.g__law_bent_text, Fd.kp, Fd.bindsN fun _ _ _ _ _ _ us hl => match us, hl with | [_, _], _ => rfl, g__law_bent_text T Fd⟩
end
abbrev N__law_read : List Str := ["text", "told", "e"]
abbrev P__law_read : List Str := ["text"]
theorem sc__law_read : FnScope N__law_read P__law_read (defScope (top 54)) := ⟨rfl, rfl, rfl, by decide +kernel, rfl, by decide +kernel, by decide +kernel⟩
noncomputable def t0__law_read : MStm := (sAsg (mCall P_read_record.length f_read_record (mCons (mVar 0) mNil)) (pName 1))
noncomputable def m__law_read : MStm := (sSeq (sTry t0__law_read t_Unread 2 fun c p a d => (sRet (mLst (mCons (mC (.str "unread")) (mCons (mExF 2 a d "text") (mCons (mExI 2 a d (List.lookup c t_StateError)) mNil))))))
    (sRet (mVar 1)))
noncomputable def f__law_read : Fn := bodyFn N__law_read.length m__law_read
section
variable {P : Program} {w : World} {K : PySem.W.Frag} {mg : Str → Option Value} {base : Heap}
theorem g__law_read (T : Txt K mg) {fd : FuncData} (Fd : FD K "_law_read" 54 fd) : FnG P w K mg base 9 (He.ga K "_law_read") fd P__law_read (spM K P__law_read.length f__law_read) :=
  fn_body (N := N__law_read) (ps := P__law_read) (m := m__law_read) Fd sc__law_read fun cdv A outer s H E hgd hr tk pw => (mss_cons (ms_try (t := t_Unread) rfl rfl sc__law_read.nd rfl rfl ⟨rfl, by decide, .inl T.g_Unread⟩ tk T.h_Unread (fun W pn xe tk1 pw1 => (mss_one (ms_set1 (i := 1) sc__law_read.nd (me_cD (d_read_record T) tk1 hgd hr (ma_cons (me_v 0) ma_nil))))) (fun a oe c p d pn hd htc => have htc := T.w_Unread c htc; (mss_one (ms_ret (me_lst (ma_cons me_str (ma_cons (me_exf (T.x c true htc).ox ((T.x c true htc).no "text" (by decide)) hd rfl (pv 2)) (ma_cons (me_exi hd rfl (fun b hb => T.k_StateError c b hb) (fun t => pe_callB (call_isX (T.x c true htc).ox hd.z hd.f) rfl T.n_isinstance boot_isinstance t) (pv 2) (pe_glob rfl T.g_StateError rfl)) ma_nil))))))))
    (mss_one (ms_ret (me_v 1))))
theorem d__law_read (T : Txt K mg) : DefG P w K mg base "_law_read" 9 P__law_read f__law_read := by
  obtain ⟨fd, Fd⟩ := T.u__law_read
  exact ⟨fd, T.g__law_read, Fd.kp, Fd.bindsN fun _ _ _ _ _ _ us hl => match us, hl with | [_], _ => rfl, g__law_read T Fd⟩
end
abbrev N_record_text : List Str := ["record"]
abbrev P_record_text : List Str := ["record"]
theorem sc_record_text : FnScope N_record_text P_record_text (defScope (top 42)) := ⟨rfl, rfl, rfl, by decide +kernel, rfl, by decide +kernel, by decide +kernel⟩
noncomputable def m_record_text : MStm := (sSeq (sIf (tNotM (mTest (mCall P_is_record_of.length f_is_record_of (mCons (mVar 0) mNil)))) (sRaise "InvalidRecord" ["value"] (mCons (mVar 0) mNil)) sNext)
    (sRet (mCall P_text_of_record.length f_text_of_record (mCons (mVar 0) mNil))))
noncomputable def f_record_text : Fn := bodyFn N_record_text.length m_record_text
section
variable {P : Program} {w : World} {K : PySem.W.Frag} {mg : Str → Option Value} {base : Heap}
theorem g_record_text (T : Txt K mg) {fd : FuncData} (Fd : FD K "record_text" 42 fd) : FnG P w K mg base 8 (He.ga K "record_text") fd P_record_text (spM K P_record_text.length f_record_text) :=
  fn_body (N := N_record_text) (ps := P_record_text) (m := m_record_text) Fd sc_record_text fun cdv A outer s H E hgd hr tk pw => (mss_cons (ms_if (mt_not (mt_of (me_cD (d_is_record_of T) tk hgd hr (ma_cons (me_v 0) ma_nil)))) (mss_one (ms_raise T.e_InvalidRecord rfl tk hr (by decide) T.g_InvalidRecord (ma_cons (me_v 0) ma_nil) rfl)) mss_nil)
    (mss_one (ms_ret (me_cD (d_text_of_record T) tk hgd hr (ma_cons (me_v 0) ma_nil)))))
theorem d_record_text (T : Txt K mg) : DefG P w K mg base "record_text" 8 P_record_text f_record_text := by
  obtain ⟨fd, Fd⟩ := T.u_record_text
  exact ⟨fd, T.g_record_text, Fd.kp, Fd.bindsN fun _ _ _ _ _ _ us hl => match us, hl with | [_], _ => rfl, g_record_text T Fd⟩
end
abbrev N_is_record : List Str := ["value"]
abbrev P_is_record : List Str := ["value"]
theorem sc_is_record : FnScope N_is_record P_is_record (defScope (top 41)) := ⟨rfl, rfl, rfl, by decide +kernel, rfl, by decide +kernel, by decide +kernel⟩
noncomputable def m_is_record : MStm := (sRet (mCall P_is_record_of.length f_is_record_of (mCons (mVar 0) mNil)))
noncomputable def f_is_record : Fn := bodyFn N_is_record.length m_is_record
section
variable {P : Program} {w : World} {K : PySem.W.Frag} {mg : Str → Option Value} {base : Heap}
theorem g_is_record (T : Txt K mg) {fd : FuncData} (Fd : FD K "is_record" 41 fd) : FnG P w K mg base 8 (He.ga K "is_record") fd P_is_record (spM K P_is_record.length f_is_record) :=
  fn_body (N := N_is_record) (ps := P_is_record) (m := m_is_record) Fd sc_is_record fun cdv A outer s H E hgd hr tk pw => (mss_one (ms_ret (me_cD (d_is_record_of T) tk hgd hr (ma_cons (me_v 0) ma_nil))))
theorem d_is_record (T : Txt K mg) : DefG P w K mg base "is_record" 8 P_is_record f_is_record := by
  obtain ⟨fd, Fd⟩ := T.u_is_record
  exact ⟨fd, T.g_is_record, Fd.kp, Fd.bindsN fun _ _ _ _ _ _ us hl => match us, hl with | [_], _ => rfl, g_is_record T Fd⟩
end
abbrev N_law : List Str := ["script", "pot", "turn", "record", "shown", "text", "step", "bent", "told", "odd", "e"]
abbrev P_law : List Str := ["script"]
theorem sc_law : FnScope N_law P_law (defScope (top 56)) := ⟨rfl, rfl, rfl, by decide +kernel, rfl, by decide +kernel, by decide +kernel⟩
noncomputable def b0_law : MStm := (sSeq (sAsg (mCall P__law_bent_text.length f__law_bent_text (mCons (mVar 1) (mCons (mVar 5) mNil))) (pName 7))
    (sSeq (sAsg (mCall P__law_read.length f__law_read (mCons (mVar 7) mNil)) (pName 8))
    (sIf (mTest (mIsa PyData.isTuple (mVar 8))) (sIf (tOrM (mB (mOp (gIsB false) (mCall P_is_record.length f_is_record (mCons (mVar 8) mNil)) (mC (.bool true)))) (mB (mOp (gEq true) (mCall P__law_text.length f__law_text (mCons (mVar 8) mNil)) (mVar 7)))) (sRet (mC (.bool false))) sNext) (sIf (tOrM (mB (mOp (gEq true) (mVar 8) (mLst (mCons (mC (.str "unread")) (mCons (mVar 7) (mCons (mC (.bool true)) mNil)))))) (mB (mOp (gEq false) (mVar 7) (mVar 5)))) (sRet (mC (.bool false))) sNext))))
noncomputable def l0_law : MStm := sFor (iR1 (mCons (mC (.int 6)) mNil)) (pName 6) b0_law
noncomputable def t0_law : MStm := (sExpr (mCall P_record_text.length f_record_text (mCons (mVar 9) mNil)))
noncomputable def b1_law : MStm := (sSeq (sAsg (mC .none) (pName 8))
    (sSeq (sTry t0_law t_InvalidRecord 10 fun c p a d => (sAsg (mLst (mCons (mCa (k1 gRepr) (aCons (mExF 10 a d "value") aNil)) (mCons (mExI 10 a d (List.lookup c t_WebError)) mNil))) (pName 8)))
    (sIf (tOrM (mB (mOp (gIsB false) (mCall P_is_record.length f_is_record (mCons (mVar 9) mNil)) (mC (.bool false)))) (mB (mOp (gEq true) (mVar 8) (mLst (mCons (mCa (k1 gRepr) (aCons (mVar 9) aNil)) (mCons (mC (.bool true)) mNil)))))) (sRet (mC (.bool false))) sNext)))
noncomputable def l1_law : MStm := sFor (iL (mCall P__law_odd.length f__law_odd (mCons (mVar 3) mNil))) (pName 9) b1_law
noncomputable def b2_law : MStm := (sSeq (sAsg (mCall P__law_record.length f__law_record (mCons (mVar 1) mNil)) (pName 3))
    (sSeq (sPar 4 5 (mCa (k1 gRepr) (aCons (mVar 3) aNil)) (mCall P__law_text.length f__law_text (mCons (mVar 3) mNil)))
    (sSeq (sIf (tOrM (mB (mOp (gEq true) (mCa (k1 gRepr) (aCons (mLst (mCons (mCall P_is_record.length f_is_record (mCons (mVar 3) mNil)) (mCons (mCallK P_is_record.length f_is_record kw_is_record mNil (mCons (mVar 3) mNil)) mNil))) aNil)) (mC (.str "[True, True]")))) (mB (mOp (gEq true) (mCa (k1 gRepr) (aCons (mLst (mCons (mCall P_record_text.length f_record_text (mCons (mVar 3) mNil)) (mCons (mCallK P_record_text.length f_record_text kw_record_text mNil (mCons (mVar 3) mNil)) mNil))) aNil)) (mCa (k1 gRepr) (aCons (mLst (mCons (mVar 5) (mCons (mVar 5) mNil))) aNil))))) (sRet (mC (.bool false))) sNext)
    (sSeq (sIf (tOrM (mB (mOp (gEq true) (mCa (k1 gRepr) (aCons (mLst (mCons (mCall P__law_read.length f__law_read (mCons (mVar 5) mNil)) (mCons (mCallK P_read_record.length f_read_record kw_read_record mNil (mCons (mVar 5) mNil)) mNil))) aNil)) (mCa (k1 gRepr) (aCons (mLst (mCons (mVar 3) (mCons (mVar 3) mNil))) aNil)))) (mB (mOp (gEq true) (mCa (k1 gRepr) (aCons (mVar 3) aNil)) (mVar 4)))) (sRet (mC (.bool false))) sNext)
    (sSeq l0_law
    l1_law)))))
noncomputable def l2_law : MStm := sFor (iR1 (mCons (mC (.int 5)) mNil)) (pName 2) b2_law
noncomputable def t1_law : MStm := (sExpr (mCall P_read_record.length f_read_record (mCons (mVar 9) mNil)))
noncomputable def m_law : MStm := (sSeq (sAsg (mCall P__law_pot.length f__law_pot (mCons (mVar 0) (mCons (mC (.int 0)) mNil))) (pName 1))
    (sSeq l2_law
    (sSeq (sPar 8 9 (mC .none) (mCall P__law_pick.length f__law_pick (mCons (mVar 1) (mCons (mLst (mCons (mC .none) (mCons (mC (.int 0)) (mCons (mTup (mCons (mC (.str "web")) mNil)) (mCons (mLst (mCons (mC (.str "web")) mNil)) mNil))))) mNil))))
    (sSeq (sTry t1_law t_InvalidText 10 fun c p a d => (sAsg (mLst (mCons (mCa (k1 gRepr) (aCons (mExF 10 a d "value") aNil)) (mCons (mExI 10 a d (List.lookup c t_WebError)) mNil))) (pName 8)))
    (sRet (mOp (gEq false) (mVar 8) (mLst (mCons (mCa (k1 gRepr) (aCons (mVar 9) aNil)) (mCons (mC (.bool true)) mNil)))))))))
noncomputable def f_law : Fn := bodyFn N_law.length m_law
section
variable {P : Program} {w : World} {K : PySem.W.Frag} {mg : Str → Option Value} {base : Heap}
theorem g_law (T : Txt K mg) {fd : FuncData} (Fd : FD K "law" 56 fd) : FnG P w K mg base 10 (He.ga K "law") fd P_law (spM K P_law.length f_law) :=
  fn_body (N := N_law) (ps := P_law) (m := m_law) Fd sc_law fun cdv A outer s H E hgd hr tk pw => (mss_cons (ms_set1 (i := 1) sc_law.nd (me_cD (d__law_pot T) tk hgd hr (ma_cons (me_v 0) (ma_cons me_int ma_nil))))
    (mss_cons (ms_for pw rfl (mi_r1 T.n_range me_int) (mg_nm (i := 2) sc_law.nd) (mss_cons (ms_set1 (i := 3) sc_law.nd (me_cD (d__law_record T) tk hgd hr (ma_cons (me_v 1) ma_nil)))
    (mss_cons (ms_par2 (i := 4) (j := 5) sc_law.nd (me_repr T.n_repr hgd hr.units (me_v 3)) (me_cD (d__law_text T) tk hgd hr (ma_cons (me_v 3) ma_nil)))
    (mss_cons (ms_if (MTW.mt (mw_or (mt_cmp (op_neP hr.units) (od_eq true) (me_repr T.n_repr hgd hr.units (me_lst (ma_cons (me_cD (d_is_record T) tk hgd hr (ma_cons (me_v 3) ma_nil)) (ma_cons (Exists.elim T.u_is_record fun fd Fd => me_cK0 (g_is_record T Fd) T.g_is_record Fd.kp (b_kw_is_record Fd) tk hgd hr (mk_cons (me_v 3) mk_nil)) ma_nil)))) me_str) (mw_or1 (mt_cmp (op_neP hr.units) (od_eq true) (me_repr T.n_repr hgd hr.units (me_lst (ma_cons (me_cD (d_record_text T) tk hgd hr (ma_cons (me_v 3) ma_nil)) (ma_cons (Exists.elim T.u_record_text fun fd Fd => me_cK0 (g_record_text T Fd) T.g_record_text Fd.kp (b_kw_record_text Fd) tk hgd hr (mk_cons (me_v 3) mk_nil)) ma_nil)))) (me_repr T.n_repr hgd hr.units (me_lst (ma_cons (me_v 5) (ma_cons (me_v 5) ma_nil)))))))) (mss_one (ms_ret me_bool)) mss_nil)
    (mss_cons (ms_if (MTW.mt (mw_or (mt_cmp (op_neP hr.units) (od_eq true) (me_repr T.n_repr hgd hr.units (me_lst (ma_cons (me_cD (d__law_read T) tk hgd hr (ma_cons (me_v 5) ma_nil)) (ma_cons (Exists.elim T.u_read_record fun fd Fd => me_cK0 (g_read_record T Fd) T.g_read_record Fd.kp (b_kw_read_record Fd) tk hgd hr (mk_cons (me_v 5) mk_nil)) ma_nil)))) (me_repr T.n_repr hgd hr.units (me_lst (ma_cons (me_v 3) (ma_cons (me_v 3) ma_nil))))) (mw_or1 (mt_cmp (op_neP hr.units) (od_eq true) (me_repr T.n_repr hgd hr.units (me_v 3)) (me_v 4))))) (mss_one (ms_ret me_bool)) mss_nil)
    (mss_cons (ms_for pw rfl (mi_r1 T.n_range me_int) (mg_nm (i := 6) sc_law.nd) (mss_cons (ms_set1 (i := 7) sc_law.nd (me_cD (d__law_bent_text T) tk hgd hr (ma_cons (me_v 1) (ma_cons (me_v 5) ma_nil))))
    (mss_cons (ms_set1 (i := 8) sc_law.nd (me_cD (d__law_read T) tk hgd hr (ma_cons (me_v 7) ma_nil)))
    (mss_one (ms_if (mt_of (me_isa1 isa_tuple T.n_isinstance T.n_tuple boot_tuple (me_v 8))) (mss_one (ms_if (MTW.mt (mw_or (mt_cmp op_isnot_bl od_isnB (me_cD (d_is_record T) tk hgd hr (ma_cons (me_v 8) ma_nil)) me_bool) (mw_or1 (mt_cmp (op_neP hr.units) (od_eq true) (me_cD (d__law_text T) tk hgd hr (ma_cons (me_v 8) ma_nil)) (me_v 7))))) (mss_one (ms_ret me_bool)) mss_nil)) (mss_one (ms_if (MTW.mt (mw_or (mt_cmp (op_neP hr.units) (od_eq true) (me_v 8) (me_lst (ma_cons me_str (ma_cons (me_v 7) (ma_cons me_bool ma_nil))))) (mw_or1 (mt_cmp (op_eqP hr.units) (od_eq false) (me_v 7) (me_v 5))))) (mss_one (ms_ret me_bool)) mss_nil)))))))
    (mss_one (ms_for pw rfl (mi_list (me_cD (d__law_odd T) tk hgd hr (ma_cons (me_v 3) ma_nil))) (mg_nm (i := 9) sc_law.nd) (mss_cons (ms_set1 (i := 8) sc_law.nd me_non)
    (mss_cons (ms_try (t := t_InvalidRecord) rfl rfl sc_law.nd rfl rfl ⟨rfl, by decide, .inl T.g_InvalidRecord⟩ tk T.h_InvalidRecord (fun W pn xe tk1 pw1 => (mss_one (ms_expr (me_cD (d_record_text T) tk1 hgd hr (ma_cons (me_v 9) ma_nil))))) (fun a oe c p d pn hd htc => have htc := T.w_InvalidRecord c htc; (mss_one (ms_set1 (i := 8) sc_law.nd (me_lst (ma_cons (me_repr T.n_repr hgd hr.units (me_exf (T.x c true htc).ox ((T.x c true htc).no "value" (by decide)) hd rfl (pv 10))) (ma_cons (me_exi hd rfl (fun b hb => T.k_WebError c b hb) (fun t => pe_callB (call_isX (T.x c true htc).ox hd.z hd.f) rfl T.n_isinstance boot_isinstance t) (pv 10) (pe_glob rfl T.g_WebError rfl)) ma_nil)))))))
    (mss_one (ms_if (MTW.mt (mw_or (mt_cmp op_isnot_bl od_isnB (me_cD (d_is_record T) tk hgd hr (ma_cons (me_v 9) ma_nil)) me_bool) (mw_or1 (mt_cmp (op_neP hr.units) (od_eq true) (me_v 8) (me_lst (ma_cons (me_repr T.n_repr hgd hr.units (me_v 9)) (ma_cons me_bool ma_nil))))))) (mss_one (ms_ret me_bool)) mss_nil))))))))))))
    (mss_cons (ms_par2 (i := 8) (j := 9) sc_law.nd me_non (me_cD (d__law_pick T) tk hgd hr (ma_cons (me_v 1) (ma_cons (me_lst (ma_cons me_non (ma_cons me_int (ma_cons (me_tup (ma_cons me_str ma_nil)) (ma_cons (me_lst (ma_cons me_str ma_nil)) ma_nil))))) ma_nil))))
    (mss_cons (ms_try (t := t_InvalidText) rfl rfl sc_law.nd rfl rfl ⟨rfl, by decide, .inl T.g_InvalidText⟩ tk T.h_InvalidText (fun W pn xe tk1 pw1 => (mss_one (ms_expr (me_cD (d_read_record T) tk1 hgd hr (ma_cons (me_v 9) ma_nil))))) (fun a oe c p d pn hd htc => have htc := T.w_InvalidText c htc; (mss_one (ms_set1 (i := 8) sc_law.nd (me_lst (ma_cons (me_repr T.n_repr hgd hr.units (me_exf (T.x c true htc).ox ((T.x c true htc).no "value" (by decide)) hd rfl (pv 10))) (ma_cons (me_exi hd rfl (fun b hb => T.k_WebError c b hb) (fun t => pe_callB (call_isX (T.x c true htc).ox hd.z hd.f) rfl T.n_isinstance boot_isinstance t) (pv 10) (pe_glob rfl T.g_WebError rfl)) ma_nil)))))))
    (mss_one (ms_ret (me_cm (op_eqP hr.units) (od_eq false) (me_v 8) (me_lst (ma_cons (me_repr T.n_repr hgd hr.units (me_v 9)) (ma_cons me_bool ma_nil))))))))))
theorem d_law (T : Txt K mg) : DefG P w K mg base "law" 10 P_law f_law := by
  obtain ⟨fd, Fd⟩ := T.u_law
  exact ⟨fd, T.g_law, Fd.kp, Fd.bindsN fun _ _ _ _ _ _ us hl => match us, hl with | [_], _ => rfl, g_law T Fd⟩
end
end LW
end

section
set_option maxHeartbeats 1000000
namespace LW
open PySem PySem.Spec L2 ME
open PyProof.Rows hiding St pairD

def isI : D → Bool
  | .int _ => true
  | _ => false
theorem s_is_integer (x : D) (S : T) : f_is_integer [.d x] S = .ok (.d (.bool (isI x))) S := by
  cases x <;> rfl
def isN : D → Bool
  | .int i => decide (0 ≤ i)
  | _ => false
theorem s_is_count (x : D) (S : T) : f_is_count [.d x] S = .ok (.d (.bool (isN x))) S := by
  cases x <;> simp [f_is_count, m_is_count, s_is_integer, isI, isN]
  rename_i i
  by_cases h : 0 ≤ i <;> simp [h] <;> omega
def isB (n : Int) : D → Bool
  | .int i => decide (0 ≤ i ∧ i < n)
  | _ => false
theorem s_is_below (x : D) (n : Int) (S : T) : f_is_below [.d x, .d (.int n)] S = .ok (.d (.bool (isB n x))) S := by
  cases x <;> simp [f_is_below, m_is_below, s_is_count, isB, isN]
  rename_i i
  by_cases h : 0 ≤ i <;> simp [h]
def isR (n : Int) : D → Bool
  | .tuple l => decide ((l.length : Int) = n)
  | _ => false
theorem s_is_row (x : D) (n : Int) (S : T) : f_is_row [.d x, .d (.int n)] S = .ok (.d (.bool (isR n x))) S := by
  cases x <;> simp [f_is_row, m_is_row, isR, PyData.isTuple, gLen, gEq, PyData.depth, PyData.eqv]
  rename_i l
  by_cases h : (l.length : Int) = n <;> simp [h]
def cnts (n : Int) : D → Bool
  | .tuple l => l.all (isB n)
  | _ => false
theorem s_are_counts (x : D) (n : Int) (S : T) (h : ∀ l, x = .tuple l → l.length ≤ sizeLine) : f_are_counts [.d x, .d (.int n)] S = .ok (.d (.bool (cnts n x))) S := by
  cases x with
  | tuple l =>
    have e : c0_are_counts [.d (.tuple l), .d (.int n), .un] S = .ok (.fl (l.map fun x => .bool (isB n x))) [.d (.tuple l), .d (.int n), .un] S := by
      refine lc_map (xs := l) (by simp) (h l rfl) rfl fun x hx => ?_
      exact lc_pure rfl rfl (by simp [unR, setSl, s_is_below]) rfl
    simp [f_are_counts, m_are_counts, PyData.isTuple, cnts, e, all_bools]
  | _ => simp [f_are_counts, m_are_counts, PyData.isTuple, cnts]
theorem cnts_ints {n : Int} {x : D} (h : cnts n x = true) : ∃ ns : List Int, x = .tuple (ns.map .int) ∧ ∀ i ∈ ns, 0 ≤ i ∧ i < n := by
  cases x with
  | tuple l =>
    have h : l.all (isB n) = true := h
    have e : ∀ l : List D, l.all (isB n) = true → ∃ ns : List Int, l = ns.map .int ∧ ∀ i ∈ ns, 0 ≤ i ∧ i < n := by
      intro l
      induction l with
      | nil => exact fun _ => ⟨[], rfl, by simp⟩
      | cons x l ih =>
        intro h
        rw [List.all_cons, Bool.and_eq_true] at h
        obtain ⟨ns, e, p⟩ := ih h.2
        cases x with
        | int i =>
          refine ⟨i :: ns, by rw [e]; rfl, fun j hj => ?_⟩
          rcases List.mem_cons.mp hj with z | z
          · rw [z]; exact of_decide_eq_true h.1
          · exact p j z
        | _ => cases h.1
    obtain ⟨ns, e, p⟩ := e l h
    exact ⟨ns, by rw [e], p⟩
  | _ => cases h
theorem cnts_of {n : Int} {ns : List Int} (h : ∀ i ∈ ns, 0 ≤ i ∧ i < n) : cnts n (.tuple (ns.map .int)) = true := by
  show (ns.map PyData.int).all (isB n) = true
  rw [List.all_map, List.all_eq_true]
  intro i hi
  exact decide_eq_true (h i hi)
/-- all along -/
def climb {α : Type} (ok : α → α → Bool) : List α → Bool
  | x :: y :: l => ok x y && climb ok (y :: l)
  | _ => true
theorem climb_pair {α : Type} {ok : α → α → Bool} : ∀ {l : List α}, climb ok l = (List.zipWith ok l (l.drop 1)).all id
  | [] => rfl
  | [_] => rfl
  | x :: y :: l => by
    have := climb_pair (ok := ok) (l := y :: l)
    simp only [climb, this]
    simp
theorem zw_bools {g : D → D → Bool} {l m : List D} : (pairD l m).map (fun p => match p with | .tuple [x, y] => PyData.bool (g x y) | _ => .none) = (List.zipWith g l m).map .bool := by
  unfold pairD
  rw [List.map_zipWith, List.map_zipWith]
theorem mem_pair {p : D} {l m : List D} (h : p ∈ pairD l m) : ∃ x ∈ l, ∃ y ∈ m, p = .tuple [x, y] := by
  unfold pairD at h
  rw [← List.map_uncurry_zip_eq_zipWith] at h
  obtain ⟨⟨x, y⟩, hz, e⟩ := List.mem_map.mp h
  exact ⟨x, (List.of_mem_zip hz).1, y, (List.of_mem_zip hz).2, e.symm⟩
theorem gAll_bools {bs : List Bool} : gAll (.list (bs.map .bool)) = some (.d (.bool (bs.all id))) := by
  have := all_bools (l := bs.map .bool) (g := fun d => match d with | .bool b => b | _ => false)
  rw [List.map_map, List.all_map] at this
  exact this
/-- is_climbing of things that can be compared -/
theorem s_is_climbing {l : List D} {S : T} (hz : l.length ≤ sizeLine) (h : ∀ x ∈ l, ∀ y ∈ l, gLt x y = some (.d (.bool (PySem.W.dataLt x y)))) : f_is_climbing [.d (.tuple l)] S = .ok (.d (.bool (climb PySem.W.dataLt l))) S := by
  have e : c0_is_climbing [.d (.tuple l), .un, .un] S = .ok (.fl ((List.zipWith PySem.W.dataLt l (l.drop 1)).map .bool)) [.d (.tuple l), .un, .un] S := by
    rw [← zw_bools]
    refine lc_map (xs := pairD l (l.drop 1)) (by simp [gSl_tl1]) (by unfold pairD; rw [List.length_zipWith]; omega) rfl fun p hp => ?_
    obtain ⟨x, hx, y, hy, rfl⟩ := mem_pair hp
    exact lc_pure rfl rfl (by simp [unR, setSl, h x hx y (List.mem_of_mem_drop hy)]) rfl
  rw [climb_pair]
  generalize List.zipWith PySem.W.dataLt l (l.drop 1) = bs at e ⊢
  simp [f_is_climbing, m_is_climbing, e, gAll_bools]
/-- rows not too long, k deep -/
def Wd : Nat → D → Prop
  | 0, _ => True
  | k + 1, .tuple l => l.length ≤ sizeLine ∧ ∀ y ∈ l, Wd k y
  | _ + 1, _ => True
theorem gLt_int {x y : D} {n : Int} (hx : isB n x = true) (hy : isB n y = true) : gLt x y = some (.d (.bool (PySem.W.dataLt x y))) := by
  cases x with
  | int i =>
    cases y with
    | int j => rfl
    | _ => cases hy
  | _ => cases hx
def lotD (n : Int) : D → Bool
  | .tuple l => l.all (isB n) && climb PySem.W.dataLt l
  | _ => false
def lotsD (most below : Int) : D → Bool
  | .tuple l => decide (1 ≤ (l.length : Int) ∧ (l.length : Int) ≤ most) && l.all (lotD below)
  | _ => false
theorem s_are_lots {x : D} {most below : Int} {S : T} (w : Wd 2 x) : f_are_lots [.d x, .d (.int most), .d (.int below)] S = .ok (.d (.bool (lotsD most below x))) S := by
  cases x with
  | tuple l =>
    by_cases c : 1 ≤ (l.length : Int) ∧ (l.length : Int) ≤ most
    · have e : c0_are_lots [.d (.tuple l), .d (.int most), .d (.int below), .un] S = .ok (.fl (l.map fun x => .bool (lotD below x))) [.d (.tuple l), .d (.int most), .d (.int below), .un] S := by
        refine lc_map (xs := l) (by simp) w.1 rfl fun x hx => ?_
        have wx := w.2 x hx
        have e1 := s_are_counts x below S (by intro l e; subst e; exact wx.1)
        refine lc_pure rfl rfl ?_ rfl
        cases x with
        | tuple ys =>
          by_cases cy : ys.all (isB below) = true
          · have e2 := s_is_climbing (l := ys) (S := S) wx.1 fun a ha b hb => gLt_int (List.all_eq_true.mp cy a ha) (List.all_eq_true.mp cy b hb)
            simp [unR, setSl, e1, e2, lotD, cnts, cy]
          · simp [unR, setSl, e1, lotD, cnts, cy]
        | _ => simp [unR, setSl, e1, lotD, cnts]
      have c2 : ¬ most < (l.length : Int) := by omega
      have c3 : ¬ (l.length : Int) < 1 := by omega
      simp [f_are_lots, m_are_lots, PyData.isTuple, gLen, lotsD, e, all_bools, c.1, c.2, c2, c3]
    · by_cases c1 : 1 ≤ (l.length : Int)
      · have c2 : ¬ (l.length : Int) ≤ most := fun z => c ⟨c1, z⟩
        have c3 : ¬ (l.length : Int) < 1 := by omega
        have c4 : most < (l.length : Int) := by omega
        simp [f_are_lots, m_are_lots, PyData.isTuple, gLen, lotsD, c1, c2, c3, c4]
      · have c3 : (l.length : Int) < 1 := by omega
        simp [f_are_lots, m_are_lots, PyData.isTuple, gLen, lotsD, c1, c3]
  | _ => simp [f_are_lots, m_are_lots, PyData.isTuple, lotsD]
def pairI (n : Int) : D → Bool
  | .tuple [.int a, .int b] => decide (0 ≤ a ∧ a < b ∧ b < n)
  | _ => false
def tiesD (n : Int) : D → Bool
  | .tuple l => decide (l.length ≤ 40) && l.all (pairI n) && climb (fun x y => !PySem.W.dataLt y x) l
  | _ => false
theorem pairI_of {n : Int} {x : D} (h : pairI n x = true) : ∃ a b, x = .tuple [.int a, .int b] ∧ 0 ≤ a ∧ a < b ∧ b < n := by
  unfold pairI at h
  split at h
  · exact ⟨_, _, rfl, of_decide_eq_true h⟩
  · cases h
theorem gLe_pair {x y : D} {n : Int} (hx : pairI n x = true) (hy : pairI n y = true) : gLe x y = some (.d (.bool (!PySem.W.dataLt y x))) := by
  obtain ⟨a, b, rfl, _⟩ := pairI_of hx
  obtain ⟨c, d, rfl, _⟩ := pairI_of hy
  exact cmp_ints (ns := [a, b]) (ms := [c, d])
theorem row2 {x : D} (h : isR 2 x = true) : ∃ a b, x = .tuple [a, b] := by
  cases x with
  | tuple l =>
    have h : ((l.length : Int) = 2) := of_decide_eq_true h
    match l, h with
    | [a, b], _ => exact ⟨a, b, rfl⟩
    | [], h => simp at h
    | [_], h => simp at h
    | _ :: _ :: _ :: _, h => simp at h; omega
  | _ => cases h
theorem s_are_ties {x : D} {n : Int} {S : T} : f_are_ties [.d (.int n), .d x] S = .ok (.d (.bool (tiesD n x))) S := by
  cases x with
  | tuple l =>
    by_cases c : l.length ≤ 40
    · have hz : l.length ≤ sizeLine := Nat.le_trans c (by decide)
      have c' : ¬ (40 : Int) < (l.length : Int) := by omega
      have e0 : c0_are_ties [.d (.int n), .d (.tuple l), .un, .un, .un, .un, .un] S = .ok (.fl (l.map fun x => .bool (isR 2 x))) [.d (.int n), .d (.tuple l), .un, .un, .un, .un, .un] S := by
        refine lc_map (xs := l) (by simp) hz rfl fun x hx => ?_
        exact lc_pure rfl rfl (by simp [unR, setSl, s_is_row]) rfl
      by_cases h0 : l.all (isR 2) = true
      · have e1 : c1_are_ties [.d (.int n), .d (.tuple l), .un, .un, .un, .un, .un] S = .ok (.fl (l.map fun x => .bool (pairI n x))) [.d (.int n), .d (.tuple l), .un, .un, .un, .un, .un] S := by
          refine lc_map (xs := l) (by simp) hz rfl fun x hx => ?_
          obtain ⟨a, b, rfl⟩ := row2 (List.all_eq_true.mp h0 x hx)
          refine lc_pure rfl rfl ?_ rfl
          have ea := s_is_below a n S
          have eb := s_is_below b n S
          by_cases ha : isB n a = true
          · by_cases hb : isB n b = true
            · have eg := gLt_int ha hb
              cases a with
              | int a =>
                cases b with
                | int b =>
                  have ha : 0 ≤ a ∧ a < n := of_decide_eq_true ha
                  have hb : 0 ≤ b ∧ b < n := of_decide_eq_true hb
                  simp [unR, setSl, ea, eb, isB, ha, hb, pairI]
                | _ => cases hb
              | _ => cases ha
            · have : pairI n (.tuple [a, b]) = false := by
                cases z : pairI n (.tuple [a, b]) with
                | false => rfl
                | true =>
                  obtain ⟨i, j, e, h1, h2, h3⟩ := pairI_of z
                  cases e
                  exact absurd (decide_eq_true (⟨by omega, h3⟩ : 0 ≤ j ∧ j < n)) hb
              simp [unR, setSl, ea, eb, ha, hb, this]
          · have : pairI n (.tuple [a, b]) = false := by
              cases z : pairI n (.tuple [a, b]) with
              | false => rfl
              | true =>
                obtain ⟨i, j, e, h1, h2, h3⟩ := pairI_of z
                cases e
                exact absurd (decide_eq_true (⟨h1, by omega⟩ : 0 ≤ i ∧ i < n)) ha
            simp [unR, setSl, ea, ha, this]
        by_cases h1 : l.all (pairI n) = true
        · have e2 : c2_are_ties [.d (.int n), .d (.tuple l), .un, .un, .un, .un, .un] S = .ok (.fl ((List.zipWith (fun x y => !PySem.W.dataLt y x) l (l.drop 1)).map .bool)) [.d (.int n), .d (.tuple l), .un, .un, .un, .un, .un] S := by
            rw [← zw_bools]
            refine lc_map (xs := pairD l (l.drop 1)) (by simp [gSl_tl1]) (by unfold pairD; rw [List.length_zipWith]; omega) rfl fun p hp => ?_
            obtain ⟨x, hx, y, hy, rfl⟩ := mem_pair hp
            exact lc_pure rfl rfl (by simp [unR, setSl, gLe_pair (List.all_eq_true.mp h1 x hx) (List.all_eq_true.mp h1 y (List.mem_of_mem_drop hy))]) rfl
          have ed : tiesD n (.tuple l) = (decide (l.length ≤ 40) && l.all (pairI n) && climb (fun x y => !PySem.W.dataLt y x) l) := rfl
          rw [ed, climb_pair]
          generalize List.zipWith (fun x y => !PySem.W.dataLt y x) l (l.drop 1) = bs at e2 ⊢
          simp [f_are_ties, m_are_ties, PyData.isTuple, gLen, c, c', e0, e1, e2, all_bools, gAll_bools, h0, h1]
        · simp [f_are_ties, m_are_ties, PyData.isTuple, gLen, c, c', e0, e1, all_bools, h0, h1, tiesD]
      · have : l.all (pairI n) = false := by
          cases z : l.all (pairI n) with
          | false => rfl
          | true =>
            refine absurd (List.all_eq_true.mpr fun x hx => ?_) h0
            obtain ⟨a, b, rfl, _⟩ := pairI_of (List.all_eq_true.mp z x hx)
            rfl
        simp [f_are_ties, m_are_ties, PyData.isTuple, gLen, c, c', e0, all_bools, h0, this, tiesD]
    · have c' : (40 : Int) < (l.length : Int) := by omega
      simp [f_are_ties, m_are_ties, PyData.isTuple, gLen, c, c', tiesD]
  | _ => simp [f_are_ties, m_are_ties, PyData.isTuple, tiesD]
def manyD : D → Bool
  | .int i => decide (1 ≤ i ∧ i ≤ 16)
  | _ => false
theorem s_is_many {x : D} {S : T} : f_is_many [.d x] S = .ok (.d (.bool (manyD x))) S := by
  cases x with
  | int i =>
    by_cases h1 : 1 ≤ i
    · by_cases h2 : i ≤ 16
      · have c1 : ¬ i < 1 := by omega
        have c2 : ¬ 16 < i := by omega
        simp [f_is_many, m_is_many, s_is_integer, isI, manyD, h1, h2, c1, c2]
      · have c1 : ¬ i < 1 := by omega
        have c2 : 16 < i := by omega
        simp [f_is_many, m_is_many, s_is_integer, isI, manyD, h1, h2, c1, c2]
    · have c1 : i < 1 := by omega
      simp [f_is_many, m_is_many, s_is_integer, isI, manyD, h1, c1]
  | _ => simp [f_is_many, m_is_many, s_is_integer, isI, manyD]
def webD : D → Bool
  | .tuple [.str w, .int n, t] => w == "web" && manyD (.int n) && tiesD n t
  | _ => false
theorem row_n {x : D} {n : Int} (h : isR n x = true) : ∃ l, x = .tuple l ∧ (l.length : Int) = n := by
  cases x with
  | tuple l => exact ⟨l, rfl, of_decide_eq_true h⟩
  | _ => cases h
theorem gEqs {b : Bool} {x y : Str} : gEq b (.str x) (.str y) = some (.d (.bool (b ^^ (x == y)))) := by
  simp [gEq, PyData.depth, PyData.eqv]
theorem ix0 {x : D} {l : List D} : gIx (.tuple (x :: l)) (.int 0) = some (.d x) := by
  simp [gIx, atI, ixN]
theorem ix1 {x y : D} {l : List D} : gIx (.tuple (x :: y :: l)) (.int 1) = some (.d y) := by
  simp [gIx, atI, ixN]
  rw [if_pos (by omega)]
  rfl
theorem ix2 {x y z : D} {l : List D} : gIx (.tuple (x :: y :: z :: l)) (.int 2) = some (.d z) := by
  simp [gIx, atI, ixN]
  rw [if_pos (by omega)]
  rfl
theorem row3 {x : D} (h : isR 3 x = true) : ∃ a b c, x = .tuple [a, b, c] := by
  obtain ⟨l, e, hl⟩ := row_n h
  subst e
  clear h
  match l, hl with
  | [a, b, c], _ => exact ⟨a, b, c, rfl⟩
  | [], h => simp at h
  | [_], h => simp at h
  | [_, _], h => simp at h
  | _ :: _ :: _ :: _ :: _, h => simp at h; omega
theorem many_int {x : D} (h : manyD x = true) : ∃ i, x = .int i ∧ 1 ≤ i ∧ i ≤ 16 := by
  cases x with
  | int i => exact ⟨i, rfl, of_decide_eq_true h⟩
  | _ => cases h
theorem s_is_web_of {x : D} {S : T} : f_is_web_of [.d x] S = .ok (.d (.bool (webD x))) S := by
  by_cases h : isR 3 x = true
  · obtain ⟨a, b, c, rfl⟩ := row3 h
    have e := s_is_row (.tuple [a, b, c]) 3 S
    rw [h] at e
    cases a with
    | str w =>
      by_cases hw : w = "web"
      · subst hw
        by_cases hb : manyD b = true
        · obtain ⟨i, rfl, _⟩ := many_int hb
          simp [f_is_web_of, m_is_web_of, e, ix0, ix1, ix2, gEqs, PyData.isStr, s_is_many, hb, s_are_ties, webD]
        · have : webD (.tuple [.str "web", b, c]) = false := by
            cases b with
            | int i => show (("web" : Str) == "web" && manyD (.int i) && tiesD i c) = false
                       simp [hb]
            | _ => rfl
          simp [f_is_web_of, m_is_web_of, e, ix0, ix1, ix2, gEqs, PyData.isStr, s_is_many, hb, this]
      · have : webD (.tuple [.str w, b, c]) = false := by
          cases b with
          | int i => show (w == "web" && manyD (.int i) && tiesD i c) = false
                     simp [hw]
          | _ => rfl
        simp [f_is_web_of, m_is_web_of, e, ix0, ix1, ix2, gEqs, PyData.isStr, hw, this]
    | _ => simp [f_is_web_of, m_is_web_of, e, ix0, PyData.isStr, webD]
  · have e := s_is_row x 3 S
    have hf : isR 3 x = false := by simpa using h
    rw [hf] at e
    have : webD x = false := by
      unfold webD
      split
      · exact absurd rfl h
      · rfl
    simp [f_is_web_of, m_is_web_of, e, this]
end LW
end

section
set_option maxHeartbeats 1000000
namespace LW
open PySem PySem.Spec L2 ME
/-- the parts, one behind another -/
def flatD : List D → List D
  | [] => []
  | .tuple l :: r => l ++ flatD r
  | _ :: r => flatD r
def intsOf : List D → List Int
  | [] => []
  | .int i :: r => i :: intsOf r
  | _ :: r => intsOf r
def partD (x : D) : Bool := lotsD 16 16 x && (match x with
  | .tuple l => !(l.any fun z => PyData.eqv z (.tuple [])) && climb PySem.W.dataLt l && decide (dn (intsOf (flatD l)).reverse = (intsOf (flatD l)).length)
  | _ => false)
theorem lotD_ints {n : Int} {x : D} (h : lotD n x = true) : ∃ ns : List Int, x = .tuple (ns.map .int) ∧ (∀ i ∈ ns, 0 ≤ i ∧ i < n) ∧ climb PySem.W.dataLt (ns.map PyData.int) = true := by
  cases x with
  | tuple l =>
    have h : (l.all (isB n) && climb PySem.W.dataLt l) = true := h
    rw [Bool.and_eq_true] at h
    obtain ⟨ns, e, p⟩ := cnts_ints (n := n) (x := .tuple l) h.1
    cases e
    exact ⟨ns, rfl, p, h.2⟩
  | _ => cases h
theorem lots_ints {n : Int} {l : List D} (h : l.all (lotD n) = true) : ∃ ls : List (List Int), l = ls.map (fun ns => .tuple (ns.map .int)) ∧ ∀ ns ∈ ls, (∀ i ∈ ns, 0 ≤ i ∧ i < n) ∧ climb PySem.W.dataLt (ns.map PyData.int) = true := by
  induction l with
  | nil => exact ⟨[], rfl, by simp⟩
  | cons x l ih =>
    rw [List.all_cons, Bool.and_eq_true] at h
    obtain ⟨ls, e, p⟩ := ih h.2
    obtain ⟨ns, e1, p1⟩ := lotD_ints h.1
    refine ⟨ns :: ls, by rw [e, e1]; rfl, fun ms hm => ?_⟩
    rcases List.mem_cons.mp hm with z | z
    · rw [z]; exact p1
    · exact p ms z
theorem flat_ints : ∀ {ls : List (List Int)}, flatD (ls.map fun ns => .tuple (ns.map .int)) = ls.flatten.map .int
  | [] => rfl
  | ns :: ls => by
    show ns.map PyData.int ++ flatD _ = _
    rw [flat_ints, List.flatten_cons, List.map_append]
theorem intsOf_map : ∀ {ns : List Int}, intsOf (ns.map .int) = ns
  | [] => rfl
  | n :: ns => congrArg (n :: ·) intsOf_map
theorem asInts_map : ∀ {ns : List Int}, asInts (ns.map .int) = some ns
  | [] => rfl
  | n :: ns => by simp [asInts, asInts_map]
/-- climbing rows of small numbers are short -/
theorem climb_short : ∀ {ns : List Int} {a n : Int}, (∀ i ∈ ns, a ≤ i ∧ i < n) → climb PySem.W.dataLt (ns.map PyData.int) = true → a ≤ n → (ns.length : Int) ≤ n - a
  | [], _, _, _, _, h => by simp; omega
  | [x], a, n, h, _, _ => by
    have := h x List.mem_cons_self
    simp
    omega
  | x :: y :: ns, a, n, h, c, _ => by
    have hx := h x List.mem_cons_self
    have hy := h y (List.mem_cons_of_mem _ List.mem_cons_self)
    have c : (PySem.W.dataLt (.int x) (.int y) && climb PySem.W.dataLt ((y :: ns).map PyData.int)) = true := c
    rw [Bool.and_eq_true, PySem.W.dataLt_int, decide_eq_true_eq] at c
    have gt : ∀ (zs : List Int) (y : Int), climb PySem.W.dataLt ((y :: zs).map PyData.int) = true → ∀ i ∈ y :: zs, y ≤ i := by
      intro zs
      induction zs with
      | nil => intro y _ i hi; simp at hi; omega
      | cons z zs ih =>
        intro y c i hi
        have c : (PySem.W.dataLt (.int y) (.int z) && climb PySem.W.dataLt ((z :: zs).map PyData.int)) = true := c
        rw [Bool.and_eq_true, PySem.W.dataLt_int, decide_eq_true_eq] at c
        rcases List.mem_cons.mp hi with e | e
        · omega
        · have := ih z c.2 i e
          omega
    have r := climb_short (ns := y :: ns) (a := x + 1) (n := n) (fun i hi => ⟨by have := gt ns y c.2 i hi; omega, (h i (List.mem_cons_of_mem _ hi)).2⟩) c.2 (by omega)
    simp only [List.length_cons] at r ⊢
    omega
theorem for_ext : ∀ {ls : List (List Int)} {acc : List Int} {x : Sl} {y : Sl} {S : T}, ls.flatten.length + acc.length ≤ sizeLine → ∃ z, forM (pName 2) b0_is_parting (ls.map fun ns => PyData.tuple (ns.map .int)) [x, .own (acc.map .int), y] S = .nx [x, .own ((acc ++ ls.flatten).map .int), z] S
  | [], acc, x, y, S, _ => ⟨y, by simp⟩
  | ns :: ls, acc, x, y, S, h => by
    rw [List.flatten_cons, List.length_append] at h
    obtain ⟨z, e⟩ := for_ext (ls := ls) (acc := acc ++ ns) (x := x) (y := .d (.tuple (ns.map .int))) (S := S) (by rw [List.length_append]; omega)
    refine ⟨z, ?_⟩
    have hz : acc.length + ns.length ≤ sizeLine := by omega
    rw [List.map_cons]
    have e0 : b0_is_parting [x, .own (acc.map .int), .d (.tuple (ns.map .int))] S = .nx [x, .own ((acc ++ ns).map .int), .d (.tuple (ns.map .int))] S := by
      simp [b0_is_parting, gExtL, hz]
    show (match b0_is_parting [x, .own (acc.map .int), .d (.tuple (ns.map .int))] S with
      | .nx ρ2 S2 => ME.forM (pName 2) b0_is_parting _ ρ2 S2
      | .ct ρ2 S2 => ME.forM (pName 2) b0_is_parting _ ρ2 S2
      | .bk ρ2 S2 => .nx ρ2 S2
      | r => r) = _
    rw [e0]
    dsimp only
    rw [e, List.append_assoc, List.flatten_cons]
theorem flat_len {ls : List (List Int)} {n : Nat} (h : ∀ ns ∈ ls, ns.length ≤ n) : ls.flatten.length ≤ ls.length * n := by
  induction ls with
  | nil => simp
  | cons ns ls ih =>
    have h1 := h ns List.mem_cons_self
    have h2 := ih fun ms hm => h ms (List.mem_cons_of_mem _ hm)
    rw [List.flatten_cons, List.length_append, List.length_cons, Nat.succ_mul]
    omega
theorem gLt_rows {ls : List (List Int)} {x y : D} (hx : x ∈ ls.map fun ns => PyData.tuple (ns.map .int)) (hy : y ∈ ls.map fun ns => PyData.tuple (ns.map .int)) : gLt x y = some (.d (.bool (PySem.W.dataLt x y))) := by
  obtain ⟨a, _, rfl⟩ := List.mem_map.mp hx
  obtain ⟨b, _, rfl⟩ := List.mem_map.mp hy
  exact cmp_ints
theorem lotsD_rows {most below : Int} {x : D} (h : lotsD most below x = true) : ∃ ls : List (List Int), x = .tuple (ls.map fun ns => .tuple (ns.map .int)) ∧ 1 ≤ ls.length ∧ (ls.length : Int) ≤ most ∧ ∀ ns ∈ ls, (∀ i ∈ ns, 0 ≤ i ∧ i < below) ∧ climb PySem.W.dataLt (ns.map PyData.int) = true := by
  cases x with
  | tuple l =>
    have h : (decide (1 ≤ (l.length : Int) ∧ (l.length : Int) ≤ most) && l.all (lotD below)) = true := h
    rw [Bool.and_eq_true, decide_eq_true_eq] at h
    obtain ⟨ls, e, p⟩ := lots_ints h.2
    subst e
    rw [List.length_map] at h
    exact ⟨ls, rfl, by omega, h.1.2, p⟩
  | _ => cases h
theorem s_is_parting {x : D} {S : T} (w : Wd 2 x) : f_is_parting [.d x] S = .ok (.d (.bool (partD x))) S := by
  have e0 := s_are_lots (x := x) (most := 16) (below := 16) (S := S) w
  by_cases h : lotsD 16 16 x = true
  · obtain ⟨ls, rfl, h1, h2, h3⟩ := lotsD_rows h
    rw [h] at e0
    have hl : ls.flatten.length ≤ ls.length * 16 := flat_len fun ns hn => by
      have := climb_short (a := 0) (n := 16) (h3 ns hn).1 (h3 ns hn).2 (by omega)
      omega
    have hb : ls.flatten.length ≤ 256 := by omega
    have sl : sizeLine ≥ 256 := by decide
    have ec := s_is_climbing (l := ls.map fun ns => .tuple (ns.map .int)) (S := S) w.1 fun a ha b hb => gLt_rows ha hb
    obtain ⟨z, ef⟩ := for_ext (ls := ls) (acc := []) (x := .d (.tuple (ls.map fun ns => .tuple (ns.map .int)))) (y := .un) (S := S) (by simp; simp at hb; omega)
    have el : l0_is_parting [.d (.tuple (ls.map fun ns => .tuple (ns.map .int))), .own [], .un] S = .nx [.d (.tuple (ls.map fun ns => .tuple (ns.map .int))), .own (ls.flatten.map .int), z] S := ef
    have ep : partD (.tuple (ls.map fun ns => .tuple (ns.map .int))) = (!((ls.map fun ns => PyData.tuple (ns.map .int)).any fun z => PyData.eqv z (.tuple [])) && climb PySem.W.dataLt (ls.map fun ns => .tuple (ns.map .int)) && decide (dn ls.flatten.reverse = ls.flatten.length)) := by
      unfold partD
      rw [h]
      dsimp only
      rw [flat_ints, intsOf_map]
      rfl
    rw [ep]
    have gl : gLenSet (.list (ls.flatten.map .int)) = some (.d (.int (dn ls.flatten.reverse : Nat))) := by
      have sb : scanBound = 4096 := rfl
      unfold gLenSet seqOf
      dsimp only
      rw [if_pos (by rw [List.length_map]; omega), asInts_map]
    generalize (ls.map fun ns => PyData.tuple (ns.map .int)) = rows at *
    generalize ls.flatten = fl at *
    have gi : gIn false (.tuple []) (.tuple rows) = some (.d (.bool (rows.any fun z => PyData.eqv z (.tuple [])))) := by
      simp [gIn, PyData.depth, PyData.depthAll]
    cases c1 : rows.any fun z => PyData.eqv z (.tuple [])
    · cases c2 : climb PySem.W.dataLt rows
      · rw [c1] at gi
        rw [c2] at ec
        simp [f_is_parting, m_is_parting, e0, gi, ec]
      · rw [c1] at gi
        rw [c2] at ec
        simp [f_is_parting, m_is_parting, e0, gi, ec, pName, setSl, el, gl, gLen, gEq, PyData.depth, PyData.eqv, Int.natCast_inj]
        rw [Bool.eq_iff_iff, beq_iff_eq, decide_eq_true_eq]
        omega
    · rw [c1] at gi
      simp [f_is_parting, m_is_parting, e0, gi]
  · have hf : lotsD 16 16 x = false := by simpa using h
    rw [hf] at e0
    have : partD x = false := by unfold partD; rw [hf]; rfl
    simp [f_is_parting, m_is_parting, e0, this]
/-- a record, by this look -/
def recD : D → Bool
  | .tuple [.str w, t] => if w = "web" then webD t else if w = "places" then cnts 16 t && (match t with | .tuple l => decide (l.length ≤ 16) | _ => false)
      else if w = "lots" then lotsD 6 40 t else decide (w = "parting") && partD t
  | _ => false
theorem s_is_record_of {x : D} {S : T} (w : Wd 3 x) : f_is_record_of [.d x] S = .ok (.d (.bool (recD x))) S := by
  have e := s_is_row x 2 S
  by_cases h : isR 2 x = true
  · obtain ⟨a, t, rfl⟩ := row2 h
    rw [h] at e
    cases a with
    | str z =>
      have wt : Wd 2 t := w.2 t (by simp)
      by_cases c1 : z = "web"
      · subst c1
        simp [f_is_record_of, m_is_record_of, e, ix0, PyData.isStr, pTup, psCons, psNil, pName, setSl, gEqs, s_is_web_of, recD]
      · by_cases c2 : z = "places"
        · subst c2
          have ew : (("places" : Str) == "web") = false := by decide
          have e1 := s_are_counts t 16 S (fun l el => by subst el; exact wt.1)
          cases c3 : cnts 16 t
          · rw [c3] at e1
            simp [f_is_record_of, m_is_record_of, e, ix0, PyData.isStr, pTup, psCons, psNil, pName, setSl, gEqs, ew, e1, c3, recD, c1]
          · rw [c3] at e1
            obtain ⟨ns, rfl, _⟩ := cnts_ints c3
            by_cases c4 : (ns.length : Int) ≤ 16
            · have c5 : ¬ 16 < (ns.length : Int) := by omega
              have c6 : ns.length ≤ 16 := by omega
              simp [f_is_record_of, m_is_record_of, e, ix0, PyData.isStr, pTup, psCons, psNil, pName, setSl, gEqs, ew, e1, c3, recD, c1, gLen, c4, c5, c6]
            · have c5 : 16 < (ns.length : Int) := by omega
              have c6 : ¬ ns.length ≤ 16 := by omega
              simp [f_is_record_of, m_is_record_of, e, ix0, PyData.isStr, pTup, psCons, psNil, pName, setSl, gEqs, ew, e1, c3, recD, c1, gLen, c4, c5, c6]
        · by_cases c3 : z = "lots"
          · subst c3
            simp [f_is_record_of, m_is_record_of, e, ix0, PyData.isStr, pTup, psCons, psNil, pName, setSl, gEqs, c1, c2, s_are_lots wt, recD]
          · by_cases c4 : z = "parting"
            · subst c4
              simp [f_is_record_of, m_is_record_of, e, ix0, PyData.isStr, pTup, psCons, psNil, pName, setSl, gEqs, c1, c2, c3, s_is_parting wt, recD]
            · simp [f_is_record_of, m_is_record_of, e, ix0, PyData.isStr, pTup, psCons, psNil, pName, setSl, gEqs, c1, c2, c3, c4, recD]
    | _ => simp [f_is_record_of, m_is_record_of, e, ix0, PyData.isStr, recD]
  · have hf : isR 2 x = false := by simpa using h
    rw [hf] at e
    have : recD x = false := by
      unfold recD
      split
      · exact absurd rfl h
      · rfl
    simp [f_is_record_of, m_is_record_of, e, this]
end LW
end

section
set_option maxHeartbeats 1000000
namespace LW
open PySem PySem.Spec L2 ME
open PyProof.Rows hiding St pairD
/-! ### texts -/
abbrev numS (i : Int) : Str := toString i
theorem numS_len {i : Int} (h0 : 0 ≤ i) (h : i < 100) : (numS i).length ≤ 2 := by
  obtain ⟨n, rfl⟩ := Int.eq_ofNat_of_zero_le h0
  rw [TL.len_tl]
  show (TL.tl (Str.ofString (toString ((n : Nat) : Int)))).length ≤ 2
  rw [TL.tl_num]
  exact TL.numL_len (by decide) (by omega)
theorem sum_le {l : List Str} {k : Nat} (h : ∀ z ∈ l, z.length ≤ k) : (l.map (·.length)).sum ≤ l.length * k := by
  induction l with
  | nil => simp
  | cons z l ih =>
    have h1 := h z List.mem_cons_self
    have h2 := ih fun y hy => h y (List.mem_cons_of_mem _ hy)
    rw [List.map_cons, List.sum_cons, List.length_cons, Nat.succ_mul]
    omega
theorem joinL_len {S : List Nat} : ∀ {ps : List (List Nat)}, (TL.joinL S ps).length ≤ (ps.map (·.length)).sum + ps.length * S.length
  | [] => by simp [TL.joinL]
  | [p] => by simp [TL.joinL]
  | p :: q :: ps => by
    have := joinL_len (S := S) (ps := q :: ps)
    simp [TL.joinL, Nat.succ_mul] at this ⊢
    omega
theorem join_len {y : Str} {ps : List Str} : (Txt.join y ps).length ≤ (ps.map (·.length)).sum + ps.length * y.length := by
  rw [TL.join_eq, TL.len_tl, TL.tl_join]
  refine Nat.le_trans joinL_len ?_
  rw [List.map_map, List.length_map, ← TL.len_tl]
  have : ((fun x : List Nat => x.length) ∘ TL.tl) = fun z : Str => z.length := by
    funext z; exact (TL.len_tl z).symm
  rw [this]
  exact Nat.le_refl _
theorem asStrs_map : ∀ {l : List Str}, asStrs (l.map .str) = some l
  | [] => rfl
  | z :: l => by simp [asStrs, asStrs_map]
def lotT (ns : List Int) : Str := if ns = [] then "-" else Txt.join "," (ns.map numS)
theorem gStr_small {i : Int} (h0 : 0 ≤ i) (h : i < 100) : gStr (.int i) = some (.d (.str (numS i))) := by
  have : i.natAbs.log2 < 1920 := by
    obtain ⟨n, rfl⟩ := Int.eq_ofNat_of_zero_le h0
    have : (Int.natAbs (n : Int)) = n := rfl
    rw [this]
    by_cases z : n = 0
    · subst z; decide
    · exact Nat.lt_trans ((Nat.log2_lt z).mpr (by omega : n < 2 ^ 7)) (by decide)
  unfold gStr
  dsimp only
  rw [if_pos this]
theorem gJoin_ok {y : Str} {ps : List Str} (h : (ps.map (·.length)).sum + ps.length * y.length ≤ 16777216) : gJoin y (.list (ps.map .str)) = some (.d (.str (Txt.join y ps))) := by
  unfold gJoin
  dsimp only
  rw [asStrs_map]
  dsimp only
  rw [if_pos h]
def sml (n : Int) (ns : List Int) : Prop := ∀ i ∈ ns, 0 ≤ i ∧ i < n
theorem nums_len {ns : List Int} (h : sml 100 ns) : ((ns.map numS).map (·.length)).sum ≤ ns.length * 2 := by
  have := sum_le (l := ns.map numS) (k := 2) fun z hz => by
    obtain ⟨i, hi, rfl⟩ := List.mem_map.mp hz
    exact numS_len (h i hi).1 (h i hi).2
  rwa [List.length_map] at this
theorem s_lot_text {ns : List Int} {S : T} (h : sml 100 ns) (hz : ns.length ≤ 100) : f_lot_text [.d (.tuple (ns.map .int))] S = .ok (.d (.str (lotT ns))) S := by
  have sz : 100 ≤ sizeLine := by decide
  by_cases c : ns = []
  · subst c
    rfl
  · have e : c0_lot_text [.d (.tuple (ns.map .int)), .un] S = .ok (.fl ((ns.map numS).map .str)) [.d (.tuple (ns.map .int)), .un] S := by
      have e1 : (ns.map numS).map PyData.str = (ns.map PyData.int).map fun x => match x with | .int i => .str (numS i) | _ => .none := by
        rw [List.map_map, List.map_map]; rfl
      rw [e1]
      refine lc_map (xs := ns.map .int) (by simp) (by rw [List.length_map]; omega) rfl fun x hx => ?_
      obtain ⟨i, hi, rfl⟩ := List.mem_map.mp hx
      exact lc_pure rfl rfl (by simp [unR, setSl, gStr_small (h i hi).1 (h i hi).2]) rfl
    have hj := nums_len h
    have e2 := gJoin_ok (y := ",") (ps := ns.map numS) (by
      rw [List.length_map]
      have : (("," : Str)).length = 1 := by decide
      rw [this]
      omega)
    have c2 : PyData.eqv (.tuple (ns.map .int)) (.tuple []) = false := by
      cases ns with
      | nil => exact absurd rfl c
      | cons n ns => simp [PyData.eqv, PyData.eqvAll]
    have hd := depth_ints (ns := ns)
    have hl : lotT ns = Txt.join "," (ns.map numS) := if_neg c
    rw [hl]
    generalize ns.map numS = ps at *
    generalize ns.map PyData.int = xs at *
    simp [f_lot_text, m_lot_text, e, e2, gEq, PyData.depth, PyData.depthAll, c2, asStr]
end LW
end

section
set_option maxHeartbeats 1000000
namespace LW
open PySem PySem.Spec L2 ME
open PyProof.Rows hiding St pairD
/-! ### records -/
inductive Rc where
  | web (n : Int) (ts : List (Int × Int))
  | places (ns : List Int)
  | lots (ls : List (List Int))
  | parting (ls : List (List Int))
abbrev tieD (t : Int × Int) : D := .tuple [.int t.1, .int t.2]
abbrev rowD (ns : List Int) : D := .tuple (ns.map .int)
def Rc.word : Rc → Str
  | .web _ _ => "web"
  | .places _ => "places"
  | .lots _ => "lots"
  | .parting _ => "parting"
def Rc.told : Rc → D
  | .web n ts => .tuple [.str "web", .int n, .tuple (ts.map tieD)]
  | .places ns => rowD ns
  | .lots ls => .tuple (ls.map rowD)
  | .parting ls => .tuple (ls.map rowD)
def Rc.d (r : Rc) : D := .tuple [.str r.word, r.told]
def tieT (t : Int × Int) : Str := numS t.1 ++ "-" ++ numS t.2
def Rc.toks : Rc → List Str
  | .web n ts => numS n :: ts.map tieT
  | .places ns => ns.map numS
  | .lots ls => ls.map lotT
  | .parting ls => ls.map lotT
def Rc.text (r : Rc) : Str := Txt.join " " (r.word :: r.toks)
def Rc.fit : Rc → Prop
  | .web n ts => (0 ≤ n ∧ n < 100) ∧ ts.length ≤ 100 ∧ ∀ t ∈ ts, (0 ≤ t.1 ∧ t.1 < 100) ∧ 0 ≤ t.2 ∧ t.2 < 100
  | .places ns => sml 100 ns ∧ ns.length ≤ 100
  | .lots ls => ls.length ≤ 100 ∧ ∀ ns ∈ ls, sml 100 ns ∧ ns.length ≤ 100
  | .parting ls => ls.length ≤ 100 ∧ ∀ ns ∈ ls, sml 100 ns ∧ ns.length ≤ 100
theorem ties_of {n : Int} : ∀ {l : List D}, l.all (pairI n) = true → ∃ ts : List (Int × Int), l = ts.map tieD ∧ ∀ t ∈ ts, 0 ≤ t.1 ∧ t.1 < t.2 ∧ t.2 < n
  | [], _ => ⟨[], rfl, by simp⟩
  | x :: l, h => by
    rw [List.all_cons, Bool.and_eq_true] at h
    obtain ⟨ts, e, p⟩ := ties_of h.2
    obtain ⟨a, b, rfl, q⟩ := pairI_of h.1
    refine ⟨(a, b) :: ts, by rw [e]; rfl, fun t ht => ?_⟩
    rcases List.mem_cons.mp ht with z | z
    · rw [z]; exact q
    · exact p t z
theorem rec_of {x : D} (h : recD x = true) : ∃ r : Rc, x = r.d ∧ r.fit := by
  unfold recD at h
  split at h
  · rename_i w t
    split at h
    · rename_i c
      subst c
      unfold webD at h
      split at h
      · rename_i z n u
        rw [Bool.and_eq_true, Bool.and_eq_true, beq_iff_eq] at h
        obtain ⟨⟨rfl, h1⟩, h2⟩ := h
        have h1 : 1 ≤ n ∧ n ≤ 16 := of_decide_eq_true h1
        cases u with
        | tuple l =>
          have h2 : (decide (l.length ≤ 40) && l.all (pairI n) && climb (fun x y => !PySem.W.dataLt y x) l) = true := h2
          rw [Bool.and_eq_true, Bool.and_eq_true, decide_eq_true_eq] at h2
          obtain ⟨ts, e, p⟩ := ties_of h2.1.2
          subst e
          have hl := h2.1.1
          rw [List.length_map] at hl
          exact ⟨.web n ts, rfl, by omega, by omega, fun t ht => by have := p t ht; omega⟩
        | _ => cases h2
      · cases h
    · split at h
      · rename_i c
        subst c
        rw [Bool.and_eq_true] at h
        obtain ⟨ns, e, p⟩ := cnts_ints h.1
        subst e
        have hl : ns.length ≤ 16 := by
          have := of_decide_eq_true h.2
          rwa [List.length_map] at this
        exact ⟨.places ns, rfl, fun i hi => by have := p i hi; omega, by omega⟩
      · split at h
        · rename_i c
          subst c
          obtain ⟨ls, e, _, h2, h3⟩ := lotsD_rows h
          subst e
          refine ⟨.lots ls, rfl, by omega, fun ns hn => ⟨fun i hi => by have := (h3 ns hn).1 i hi; omega, ?_⟩⟩
          have := climb_short (a := 0) (n := 40) (h3 ns hn).1 (h3 ns hn).2 (by omega)
          omega
        · rw [Bool.and_eq_true, decide_eq_true_eq] at h
          obtain ⟨c, h⟩ := h
          subst c
          unfold partD at h
          rw [Bool.and_eq_true] at h
          obtain ⟨ls, e, _, h2, h3⟩ := lotsD_rows h.1
          subst e
          refine ⟨.parting ls, rfl, by omega, fun ns hn => ⟨fun i hi => by have := (h3 ns hn).1 i hi; omega, ?_⟩⟩
          have := climb_short (a := 0) (n := 16) (h3 ns hn).1 (h3 ns hn).2 (by omega)
          omega
  · cases h
end LW
end

section
set_option maxHeartbeats 1000000
namespace LW
open PySem PySem.Spec L2 ME
open PyProof.Rows hiding St pairD
theorem tieT_len {t : Int × Int} (h1 : 0 ≤ t.1 ∧ t.1 < 100) (h2 : 0 ≤ t.2 ∧ t.2 < 100) : (tieT t).length ≤ 5 := by
  have a := numS_len h1.1 h1.2
  have b := numS_len h2.1 h2.2
  unfold tieT
  rw [TL.len_tl, TL.tl_append, TL.tl_append, List.length_append, List.length_append, ← TL.len_tl, ← TL.len_tl, ← TL.len_tl]
  have : (("-" : Str)).length = 1 := by decide
  rw [this]
  omega
theorem lotT_len {ns : List Int} (h : sml 100 ns) (hz : ns.length ≤ 100) : (lotT ns).length ≤ 300 := by
  unfold lotT
  split
  · decide
  · have := join_len (y := ",") (ps := ns.map numS)
    have h2 := nums_len h
    have : (("," : Str)).length = 1 := by decide
    simp only [List.length_map, this] at *
    omega
theorem toks_len {r : Rc} (h : r.fit) : r.toks.length ≤ 101 ∧ ∀ z ∈ r.toks, z.length ≤ 300 := by
  cases r with
  | web n ts =>
    refine ⟨by simp [Rc.toks]; exact h.2.1, fun z hz => ?_⟩
    rcases List.mem_cons.mp hz with e | e
    · rw [e]; exact Nat.le_trans (numS_len h.1.1 h.1.2) (by decide)
    · obtain ⟨t, ht, rfl⟩ := List.mem_map.mp e
      exact Nat.le_trans (tieT_len (h.2.2 t ht).1 (h.2.2 t ht).2) (by decide)
  | places ns =>
    refine ⟨by simp [Rc.toks]; have := h.2; omega, fun z hz => ?_⟩
    obtain ⟨i, hi, rfl⟩ := List.mem_map.mp hz
    exact Nat.le_trans (numS_len (h.1 i hi).1 (h.1 i hi).2) (by decide)
  | lots ls =>
    refine ⟨by simp [Rc.toks]; have := h.1; omega, fun z hz => ?_⟩
    obtain ⟨ns, hn, rfl⟩ := List.mem_map.mp hz
    exact lotT_len (h.2 ns hn).1 (h.2 ns hn).2
  | parting ls =>
    refine ⟨by simp [Rc.toks]; have := h.1; omega, fun z hz => ?_⟩
    obtain ⟨ns, hn, rfl⟩ := List.mem_map.mp hz
    exact lotT_len (h.2 ns hn).1 (h.2 ns hn).2
theorem text_ok {r : Rc} (h : r.fit) : (((r.word :: r.toks).map (·.length)).sum + (r.word :: r.toks).length * ((" " : Str)).length ≤ 65536) := by
  obtain ⟨h1, h2⟩ := toks_len h
  have e : ((" " : Str)).length = 1 := by decide
  have w : r.word.length ≤ 300 := by
    cases r
    · show (("web" : Str)).length ≤ 300; decide
    · show (("places" : Str)).length ≤ 300; decide
    · show (("lots" : Str)).length ≤ 300; decide
    · show (("parting" : Str)).length ≤ 300; decide
  have := sum_le (l := r.word :: r.toks) (k := 300) fun z hz => by
    rcases List.mem_cons.mp hz with q | q
    · rw [q]; exact w
    · exact h2 z q
  rw [e]
  rw [List.length_cons] at this ⊢
  omega
end LW
end

section
set_option maxHeartbeats 1000000
namespace LW
open PySem PySem.Spec L2 ME
open PyProof.Rows hiding St pairD
theorem gAddS {x y : Str} (h : x.length + y.length ≤ sizeLine) : gAdd (.str x) (.str y) = some (.d (.str (x ++ y))) := by
  unfold gAdd
  dsimp only
  rw [if_pos h]
theorem lc_mapF {α : Type} {vs : List Nat} {mi : M (List D)} {p : Pat} {c : M Bool} {m : M Val} {ρ : Rho} {S : T} {l : List α} {f g : α → D} (hi : mi ρ S = .ok (l.map f) ρ S) (hz : l.length ≤ sizeLine) (no : vs.all (notOwn ρ) = true)
    (h : ∀ x ∈ l, LcStep vs p c m (unR vs ρ) S (f x) (some (g x)) S) : mLc vs mi p c m ρ S = .ok (.fl (l.map g)) ρ S := by
  have key : ∀ (ys : List α) (acc : List D), (∀ x ∈ ys, LcStep vs p c m (unR vs ρ) S (f x) (some (g x)) S) → compM vs p c m (ys.map f) acc (unR vs ρ) S = .ok (acc ++ ys.map g) (unR vs ρ) S := by
    intro ys
    induction ys with
    | nil => intro acc _; simp [compM, ME.ret]
    | cons y ys ih =>
      intro acc hy
      rw [List.map_cons, lc_step (hy y List.mem_cons_self), ih _ fun x hx => hy x (List.mem_cons_of_mem _ hx)]
      simp
  unfold mLc ME.bind
  rw [hi]
  dsimp only
  rw [if_pos ⟨by rw [List.length_map]; exact hz, no⟩, key l [] h]
  dsimp only
  rw [restR_same, List.nil_append]
theorem s_toks_web {n : Int} {ts : List (Int × Int)} {S : T} (h : (Rc.web n ts).fit) : f_tokens_of [.d (Rc.web n ts).d] S = .ok (.d (.list ((Rc.web n ts).toks.map .str))) S := by
  have sz : 100000 ≤ sizeLine := by decide
  obtain ⟨hn, hl, ht⟩ := h
  have e : c0_tokens_of [.d (Rc.web n ts).d, .d (.str "web"), .d (Rc.web n ts).told, .un, .un, .un, .un] S = .ok (.fl (ts.map fun t => .str (tieT t))) [.d (Rc.web n ts).d, .d (.str "web"), .d (Rc.web n ts).told, .un, .un, .un, .un] S := by
    refine lc_mapF (l := ts) (f := tieD) (by simp [Rc.told, ix2]) (by omega) rfl fun t hm => ?_
    obtain ⟨h1, h2⟩ := ht t hm
    have l1 := numS_len h1.1 h1.2
    have l2 := numS_len h2.1 h2.2
    have e1 := gAddS (x := numS t.1) (y := "-") (by have : (("-" : Str)).length = 1 := by decide
                                                    rw [this]; omega)
    have e2 := gAddS (x := numS t.1 ++ "-") (y := numS t.2) (by
      rw [TL.len_tl (numS t.1 ++ "-"), TL.tl_append, List.length_append, ← TL.len_tl, ← TL.len_tl]
      have : (("-" : Str)).length = 1 := by decide
      rw [this]; omega)
    exact lc_pure rfl rfl (by simp [unR, setSl, gStr_small h1.1 h1.2, gStr_small h2.1 h2.2, e1, e2, tieT]) rfl
  have ed : (Rc.web n ts).d = .tuple [.str "web", (Rc.web n ts).told] := rfl
  have g1 : gIx (Rc.web n ts).told (.int 1) = some (.d (.int n)) := ix1
  have et : (Rc.web n ts).toks = numS n :: ts.map tieT := rfl
  have ga : gAdd (.list [.str (numS n)]) (.list (ts.map fun t => .str (tieT t))) = some (.fl (.str (numS n) :: ts.map fun t => .str (tieT t))) := by
    unfold gAdd
    dsimp only
    rw [if_pos (by rw [List.length_map]; simp; omega)]
    rfl
  rw [ed] at e ⊢
  rw [et, List.map_cons, List.map_map, show (PyData.str ∘ tieT) = fun t => PyData.str (tieT t) from rfl]
  generalize (Rc.web n ts).told = z at *
  generalize (ts.map fun t => PyData.str (tieT t)) = zs at *
  have s1 : 1 ≤ sizeLine := by omega
  simp [f_tokens_of, m_tokens_of, pTup, psCons, psNil, pName, setSl, gEqs, g1, gStr_small hn.1 hn.2, e, ga, s1]
theorem s_toks_places {ns : List Int} {S : T} (h : (Rc.places ns).fit) : f_tokens_of [.d (Rc.places ns).d] S = .ok (.d (.list ((Rc.places ns).toks.map .str))) S := by
  have sz : 100000 ≤ sizeLine := by decide
  obtain ⟨hs, hl⟩ := h
  have e : c1_tokens_of [.d (Rc.places ns).d, .d (.str "places"), .d (Rc.places ns).told, .un, .un, .un, .un] S = .ok (.fl (ns.map fun t => .str (numS t))) [.d (Rc.places ns).d, .d (.str "places"), .d (Rc.places ns).told, .un, .un, .un, .un] S := by
    refine lc_mapF (l := ns) (f := .int) (by simp [Rc.told]) (by omega) rfl fun t hm => ?_
    exact lc_pure rfl rfl (by simp [unR, setSl, gStr_small (hs t hm).1 (hs t hm).2]) rfl
  have ed : (Rc.places ns).d = .tuple [.str "places", (Rc.places ns).told] := rfl
  have et : (Rc.places ns).toks = ns.map numS := rfl
  rw [ed] at e ⊢
  rw [et, List.map_map, show (PyData.str ∘ numS) = fun t => PyData.str (numS t) from rfl]
  generalize (Rc.places ns).told = z at *
  generalize (ns.map fun t => PyData.str (numS t)) = zs at *
  have ew : (("places" : Str) == "web") = false := by decide
  simp [f_tokens_of, m_tokens_of, pTup, psCons, psNil, pName, setSl, gEqs, e, ew]
theorem s_toks_rows {w : Str} {ls : List (List Int)} {S : T} (h1 : (w == "web") = false) (h2 : (w == "places") = false) (hl : ls.length ≤ 100) (h : ∀ ns ∈ ls, sml 100 ns ∧ ns.length ≤ 100) : f_tokens_of [.d (.tuple [.str w, .tuple (ls.map rowD)])] S = .ok (.d (.list ((ls.map lotT).map .str))) S := by
  have sz : 100000 ≤ sizeLine := by decide
  have e : ∀ x y, c2_tokens_of [.d x, .d y, .d (.tuple (ls.map rowD)), .un, .un, .un, .un] S = .ok (.fl (ls.map fun t => .str (lotT t))) [.d x, .d y, .d (.tuple (ls.map rowD)), .un, .un, .un, .un] S := by
    intro x y
    refine lc_mapF (l := ls) (f := rowD) (by simp) (by omega) rfl fun t hm => ?_
    exact lc_pure rfl rfl (by simp [unR, setSl, s_lot_text (h t hm).1 (h t hm).2]) rfl
  rw [List.map_map, show (PyData.str ∘ lotT) = fun t => PyData.str (lotT t) from rfl]
  generalize (ls.map fun t => PyData.str (lotT t)) = zs at *
  generalize ls.map rowD = z at *
  rw [beq_eq_false_iff_ne] at h1 h2
  simp [f_tokens_of, m_tokens_of, pTup, psCons, psNil, pName, setSl, gEqs, e, h1, h2]
theorem s_tokens_of {r : Rc} {S : T} (h : r.fit) : f_tokens_of [.d r.d] S = .ok (.d (.list (r.toks.map .str))) S := by
  cases r with
  | web n ts => exact s_toks_web h
  | places ns => exact s_toks_places h
  | lots ls => exact s_toks_rows (w := "lots") (by decide) (by decide) h.1 h.2
  | parting ls => exact s_toks_rows (w := "parting") (by decide) (by decide) h.1 h.2
theorem s_text_of_record {r : Rc} {S : T} (h : r.fit) : f_text_of_record [.d r.d] S = .ok (.d (.str r.text)) S := by
  have sz : 100000 ≤ sizeLine := by decide
  have e := s_tokens_of (S := S) h
  have hl := (toks_len h).1
  have e2 := gJoin_ok (y := " ") (ps := r.word :: r.toks) (Nat.le_trans (text_ok h) (by decide))
  have ga : gAdd (.list [.str r.word]) (.list (r.toks.map .str)) = some (.fl (.str r.word :: r.toks.map .str)) := by
    unfold gAdd
    dsimp only
    rw [if_pos (by rw [List.length_map]; simp; omega)]
    rfl
  have ed : r.d = .tuple [.str r.word, r.told] := rfl
  rw [List.map_cons] at e2
  rw [ed] at e ⊢
  have s1 : 1 ≤ sizeLine := by omega
  show _ = RF.ok (.d (.str (Txt.join " " (r.word :: r.toks)))) S
  generalize Txt.join " " (r.word :: r.toks) = txt at *
  generalize r.toks.map PyData.str = zs at *
  simp [f_text_of_record, m_text_of_record, ix0, e, ga, e2, s1, asStr]
end LW
end

section
set_option maxHeartbeats 1000000
namespace LW
open PySem PySem.Spec L2 ME
open PyProof.Rows hiding St pairD
theorem lt_web {n : Int} {ts : List (Int × Int)} {x y : D} {S : T} (h : (Rc.web n ts).fit) : c0__law_text [.d x, .d y, .d (Rc.web n ts).told, .un, .un, .un, .un, .un] S = .ok (.fl (ts.map fun t => .str (tieT t))) [.d x, .d y, .d (Rc.web n ts).told, .un, .un, .un, .un, .un] S := by
  have sz : 100000 ≤ sizeLine := by decide
  obtain ⟨hn, hl, ht⟩ := h
  refine lc_mapF (l := ts) (f := tieD) (by simp [Rc.told, ix2]) (by omega) rfl fun t hm => ?_
  obtain ⟨h1, h2⟩ := ht t hm
  have l1 := numS_len h1.1 h1.2
  have l2 := numS_len h2.1 h2.2
  have e1 := gAddS (x := numS t.1) (y := "-") (by have : (("-" : Str)).length = 1 := by decide
                                                  rw [this]; omega)
  have e2 := gAddS (x := numS t.1 ++ "-") (y := numS t.2) (by
    rw [TL.len_tl (numS t.1 ++ "-"), TL.tl_append, List.length_append, ← TL.len_tl, ← TL.len_tl]
    have : (("-" : Str)).length = 1 := by decide
    rw [this]; omega)
  exact lc_pure rfl rfl (by simp [unR, setSl, gStr_small h1.1 h1.2, gStr_small h2.1 h2.2, e1, e2, tieT]) rfl
theorem lt_places {ns : List Int} {x y : D} {S : T} (h : (Rc.places ns).fit) : c1__law_text [.d x, .d y, .d (Rc.places ns).told, .un, .un, .un, .un, .un] S = .ok (.fl (ns.map fun t => .str (numS t))) [.d x, .d y, .d (Rc.places ns).told, .un, .un, .un, .un, .un] S := by
  have sz : 100000 ≤ sizeLine := by decide
  refine lc_mapF (l := ns) (f := .int) (by simp [Rc.told]) (by have := h.2; omega) rfl fun t hm => ?_
  exact lc_pure rfl rfl (by simp [unR, setSl, gStr_small (h.1 t hm).1 (h.1 t hm).2]) rfl
theorem lt_lot {ns : List Int} {x y z : D} {S : T} (h : sml 100 ns) (hz : ns.length ≤ 100) : c2__law_text [.d x, .d y, .d z, .un, .un, .un, .un, .d (rowD ns)] S = .ok (.fl ((ns.map numS).map .str)) [.d x, .d y, .d z, .un, .un, .un, .un, .d (rowD ns)] S := by
  have sz : 100000 ≤ sizeLine := by decide
  rw [List.map_map]
  refine lc_mapF (l := ns) (f := .int) (by simp) (by omega) rfl fun t hm => ?_
  exact lc_pure rfl rfl (by simp [unR, setSl, gStr_small (h t hm).1 (h t hm).2]) rfl
theorem lt_rows {ls : List (List Int)} {x y : D} {S : T} (hl : ls.length ≤ 100) (h : ∀ ns ∈ ls, sml 100 ns ∧ ns.length ≤ 100) : c3__law_text [.d x, .d y, .d (.tuple (ls.map rowD)), .un, .un, .un, .un, .un] S = .ok (.fl (ls.map fun t => .str (lotT t))) [.d x, .d y, .d (.tuple (ls.map rowD)), .un, .un, .un, .un, .un] S := by
  have sz : 100000 ≤ sizeLine := by decide
  refine lc_mapF (l := ls) (f := rowD) (by simp) (by omega) rfl fun ns hm => ?_
  obtain ⟨hs, hz⟩ := h ns hm
  refine lc_pure rfl rfl ?_ rfl
  by_cases c : ns = []
  · subst c
    rfl
  · have e := lt_lot (x := x) (y := y) (z := .tuple (ls.map rowD)) (S := S) hs hz
    have hj := nums_len hs
    have e2 := gJoin_ok (y := ",") (ps := ns.map numS) (by
      rw [List.length_map]
      have : (("," : Str)).length = 1 := by decide
      rw [this]
      omega)
    have c2 : PyData.eqv (rowD ns) (.tuple []) = false := by
      cases ns with
      | nil => exact absurd rfl c
      | cons n ns => simp [PyData.eqv, PyData.eqvAll]
    have hd : min (PyData.depth (rowD ns)) (PyData.depth (.tuple [])) ≤ 60 := by simp [PyData.depth, PyData.depthAll]
    have hl : lotT ns = Txt.join "," (ns.map numS) := if_neg c
    rw [hl]
    have hd2 : min (PyData.depth (rowD ns)) 1 ≤ 60 := Nat.le_trans (Nat.min_le_right _ _) (by decide)
    generalize ns.map numS = ps at *
    generalize rowD ns = row at *
    generalize PyData.tuple (ls.map rowD) = rows at *
    simp [unR, setSl, pName, e, e2, gEq, PyData.depth, PyData.depthAll, hd2, c2, asStr]
theorem join_toks {r : Rc} (h : r.fit) : gJoin " " (.list (.str r.word :: r.toks.map .str)) = some (.d (.str r.text)) := gJoin_ok (y := " ") (ps := r.word :: r.toks) (Nat.le_trans (text_ok h) (by decide))
theorem word_toks {r : Rc} (h : r.fit) : gAdd (.list [.str r.word]) (.list (r.toks.map .str)) = some (.fl (.str r.word :: r.toks.map .str)) := by
  have sz : 100000 ≤ sizeLine := by decide
  have hl := (toks_len h).1
  unfold gAdd
  dsimp only
  rw [if_pos (by rw [List.length_map]; simp; omega)]
  rfl
theorem s_law_text {r : Rc} {S : T} (h : r.fit) : f__law_text [.d r.d] S = .ok (.d (.str r.text)) S := by
  have sz : 100000 ≤ sizeLine := by decide
  have s1 : 1 ≤ sizeLine := by omega
  have ej := join_toks h
  have ew := word_toks h
  cases r with
  | web n ts =>
    have e := lt_web (x := (Rc.web n ts).d) (y := .str "web") (S := S) h
    have g1 : gIx (Rc.web n ts).told (.int 1) = some (.d (.int n)) := ix1
    have et : (Rc.web n ts).toks.map PyData.str = .str (numS n) :: ts.map fun t => .str (tieT t) := by
      show PyData.str (numS n) :: (ts.map tieT).map PyData.str = _
      rw [List.map_map]; rfl
    have ga : gAdd (.list [.str (numS n)]) (.list (ts.map fun t => .str (tieT t))) = some (.fl (.str (numS n) :: ts.map fun t => .str (tieT t))) := by
      unfold gAdd
      dsimp only
      rw [if_pos (by rw [List.length_map]; have := h.2.1; simp; omega)]
      rfl
    have ed : (Rc.web n ts).d = .tuple [.str "web", (Rc.web n ts).told] := rfl
    have ed2 : (Rc.web n ts).word = "web" := rfl
    have hn := h.1
    rw [ed] at e ⊢
    rw [ed2, et] at ew ej
    generalize (Rc.web n ts).told = z at *
    generalize (Rc.web n ts).text = txt at *
    generalize (ts.map fun t => PyData.str (tieT t)) = zs at *
    simp [f__law_text, m__law_text, pTup, psCons, psNil, pName, setSl, gEqs, g1, gStr_small hn.1 hn.2, e, ga, s1, ew, ej, asStr]
  | places ns =>
    have e := lt_places (x := (Rc.places ns).d) (y := .str "places") (S := S) h
    have et : (Rc.places ns).toks.map PyData.str = ns.map fun t => .str (numS t) := by
      show (ns.map numS).map PyData.str = _
      rw [List.map_map]; rfl
    have ed : (Rc.places ns).d = .tuple [.str "places", (Rc.places ns).told] := rfl
    have ed2 : (Rc.places ns).word = "places" := rfl
    rw [ed] at e ⊢
    rw [ed2, et] at ew ej
    generalize (Rc.places ns).told = z at *
    generalize (Rc.places ns).text = txt at *
    generalize (ns.map fun t => PyData.str (numS t)) = zs at *
    have ex : (("places" : Str) == "web") = false := by decide
    simp [f__law_text, m__law_text, pTup, psCons, psNil, pName, setSl, gEqs, e, s1, ew, ej, asStr, ex]
  | lots ls =>
    have e := lt_rows (x := (Rc.lots ls).d) (y := .str "lots") (S := S) h.1 h.2
    have et : (Rc.lots ls).toks.map PyData.str = ls.map fun t => .str (lotT t) := by
      show (ls.map lotT).map PyData.str = _
      rw [List.map_map]; rfl
    have ed : (Rc.lots ls).d = .tuple [.str "lots", .tuple (ls.map rowD)] := rfl
    have ed2 : (Rc.lots ls).word = "lots" := rfl
    rw [ed] at e ⊢
    rw [ed2, et] at ew ej
    generalize (ls.map rowD) = z at *
    generalize (Rc.lots ls).text = txt at *
    generalize (ls.map fun t => PyData.str (lotT t)) = zs at *
    have ex : (("lots" : Str) == "web") = false := by decide
    have ex2 : (("lots" : Str) == "places") = false := by decide
    simp [f__law_text, m__law_text, pTup, psCons, psNil, pName, setSl, gEqs, e, s1, ew, ej, asStr, ex, ex2]
  | parting ls =>
    have e := lt_rows (x := (Rc.parting ls).d) (y := .str "parting") (S := S) h.1 h.2
    have et : (Rc.parting ls).toks.map PyData.str = ls.map fun t => .str (lotT t) := by
      show (ls.map lotT).map PyData.str = _
      rw [List.map_map]; rfl
    have ed : (Rc.parting ls).d = .tuple [.str "parting", .tuple (ls.map rowD)] := rfl
    have ed2 : (Rc.parting ls).word = "parting" := rfl
    rw [ed] at e ⊢
    rw [ed2, et] at ew ej
    generalize (ls.map rowD) = z at *
    generalize (Rc.parting ls).text = txt at *
    generalize (ls.map fun t => PyData.str (lotT t)) = zs at *
    have ex : (("parting" : Str) == "web") = false := by decide
    have ex2 : (("parting" : Str) == "places") = false := by decide
    simp [f__law_text, m__law_text, pTup, psCons, psNil, pName, setSl, gEqs, e, s1, ew, ej, asStr, ex, ex2]
end LW
end

section
set_option maxHeartbeats 1000000
namespace LW
open PySem PySem.Spec L2 ME
open PyProof.Rows hiding St pairD
/-! ### texts cut in parts -/
theorem spl_len {S : List Nat} : ∀ (l acc : List Nat) (k : Nat), (TL.spl S k acc l).length ≤ l.length + 1
  | [], acc, k => by rw [TL.spl_nil]; simp
  | c :: r, acc, 0 => by
    by_cases h : TL.pre S (c :: r) = true
    · rw [TL.spl_hit h]
      have := spl_len (S := S) r [] (S.length - 1)
      simp only [List.length_cons] at this ⊢
      omega
    · rw [TL.spl_miss (by simpa using h)]
      have := spl_len (S := S) r (acc ++ [c]) 0
      simp only [List.length_cons] at this ⊢
      omega
  | c :: r, acc, k + 1 => by
    have := spl_len (S := S) r acc k
    show (TL.spl S k acc r).length ≤ _
    simp only [List.length_cons] at this ⊢
    omega
theorem spl_part_len {S : List Nat} : ∀ (l acc : List Nat) (k : Nat), ∀ p ∈ TL.spl S k acc l, p.length ≤ acc.length + l.length
  | [], acc, k, p, hp => by
    rw [TL.spl_nil] at hp
    rw [List.mem_singleton.mp hp]
    simp
  | c :: r, acc, 0, p, hp => by
    by_cases h : TL.pre S (c :: r) = true
    · rw [TL.spl_hit h] at hp
      rcases List.mem_cons.mp hp with e | e
      · rw [e]; omega
      · have := spl_part_len r [] (S.length - 1) p e
        simp only [List.length_cons, List.length_nil] at this ⊢
        omega
    · rw [TL.spl_miss (by simpa using h)] at hp
      have := spl_part_len r (acc ++ [c]) 0 p hp
      simp only [List.length_cons, List.length_append, List.length_nil] at this ⊢
      omega
  | c :: r, acc, k + 1, p, hp => by
    have hp : p ∈ TL.spl S k acc r := hp
    have := spl_part_len r acc k p hp
    simp only [List.length_cons] at this ⊢
    omega
theorem spl_ne {S : List Nat} : ∀ (l acc : List Nat) (k : Nat), TL.spl S k acc l ≠ []
  | [], acc, k => by rw [TL.spl_nil]; simp
  | c :: r, acc, 0 => by
    by_cases h : TL.pre S (c :: r) = true
    · rw [TL.spl_hit h]; simp
    · rw [TL.spl_miss (by simpa using h)]
      exact spl_ne r (acc ++ [c]) 0
  | c :: r, acc, k + 1 => spl_ne r acc k
/-- a text by which others are cut -/
structure Sep (y : Str) : Prop where
  ne : TL.tl y ≠ []
  kd : y.cps.all (· < 256) = true
theorem split_eq {x y : Str} (h : Sep y) : (Txt.split x y).map TL.tl = TL.spl (TL.tl y) 0 [] (TL.tl x) := TL.split_spl x y h.ne (TL.kind_ok h.kd)
theorem split_len {x y : Str} (h : Sep y) : (Txt.split x y).length ≤ x.length + 1 := by
  have := congrArg List.length (split_eq (x := x) h)
  rw [List.length_map] at this
  rw [this, TL.len_tl]
  exact spl_len _ _ _
theorem split_part {x y p : Str} (h : Sep y) (hp : p ∈ Txt.split x y) : p.length ≤ x.length := by
  have := List.mem_map_of_mem (f := TL.tl) hp
  rw [split_eq h] at this
  have := spl_part_len _ _ _ _ this
  rw [TL.len_tl, TL.len_tl]
  simpa using this
theorem split_ne {x y : Str} (h : Sep y) : Txt.split x y ≠ [] := fun e => by
  have := congrArg (List.map TL.tl) e
  rw [split_eq h] at this
  exact spl_ne _ _ _ this
theorem gSplit_ok {x y : Str} (h : Sep y) (hz : x.length + 2 ≤ sizeLine) : gSplit x (.str y) = some (.fl ((Txt.split x y).map .str)) := by
  have hy : (y.length == 0) = false := by
    rw [TL.len_tl]
    have := h.ne
    cases e : TL.tl y with
    | nil => exact absurd e this
    | cons _ _ => rfl
  unfold gSplit
  dsimp only
  rw [if_pos ⟨hy, hz⟩]
  rfl
theorem sep_sp : Sep " " := ⟨by decide, by decide +kernel⟩
theorem sep_da : Sep "-" := ⟨by decide, by decide +kernel⟩
theorem sep_co : Sep "," := ⟨by decide, by decide +kernel⟩
/-! ### numbers read -/
def isDg (c : Nat) : Bool := decide (48 ≤ c ∧ c ≤ 57)
theorem digits_in (c : Nat) : strIn ⟨#[c]⟩ "0123456789" = isDg c := by
  unfold strIn
  have := PySem.StrLaws.found_one ("0123456789" : Str) c
  rw [this]
  have e : ("0123456789" : Str).cps.toList = [48, 49, 50, 51, 52, 53, 54, 55, 56, 57] := by decide
  rw [e]
  unfold isDg
  rw [decide_eq_decide]
  simp only [List.mem_cons, List.not_mem_nil, or_false]
  omega
def numRd (z : Str) : D := if (z.length = 1 ∨ z.length = 2) ∧ (TL.tl z).all isDg = true then .int (NumText.digitsVal (TL.tl z) : Nat) else .none
theorem numRd_num {i : Int} (h0 : 0 ≤ i) (h : i < 100) : numRd (numS i) = .int i := by
  obtain ⟨n, rfl⟩ := Int.eq_ofNat_of_zero_le h0
  have e : TL.tl (numS (n : Int)) = TL.numL n := TL.tl_num n
  have hl := numS_len h0 h
  have hne := TL.numL_ne n
  have hl1 : 1 ≤ (numS (n : Int)).length := by
    rw [TL.len_tl, e]
    cases q : TL.numL n with
    | nil => exact absurd q hne
    | cons _ _ => simp
  have hd : (TL.tl (numS (n : Int))).all isDg = true := by
    rw [e, List.all_eq_true]
    intro c hc
    exact decide_eq_true (TL.numL_digits n c hc)
  unfold numRd
  rw [if_pos ⟨by omega, hd⟩, e, TL.numL_val]
theorem numRd_cases (z : Str) : numRd z = .none ∨ ∃ i : Int, numRd z = .int i := by
  unfold numRd
  split
  · exact .inr ⟨_, rfl⟩
  · exact .inl rfl
end LW
end

section
set_option maxHeartbeats 1000000
namespace LW
open PySem PySem.Spec L2 ME
open PyProof.Rows hiding St pairD
theorem s_count_read {z : Str} {S : T} (hz : z.length ≤ sizeLine) : f_count_read [.d (.str z)] S = .ok (.d (numRd z)) S := by
  have e : c0_count_read [.d (.str z), .un] S = .ok (.fl ((TL.tl z).map fun c => .bool (isDg c))) [.d (.str z), .un] S := by
    refine lc_mapF (l := TL.tl z) (f := fun c => .str ⟨#[c]⟩) (by simp [chD]) (by rw [← TL.len_tl]; exact hz) rfl fun c hm => ?_
    exact lc_pure rfl rfl (by simp [unR, setSl, gIn, digits_in]) rfl
  have e2 : gAll (.list ((TL.tl z).map fun c => .bool (isDg c))) = some (.d (.bool ((TL.tl z).all isDg))) := by
    have := gAll_bools (bs := (TL.tl z).map isDg)
    rw [List.map_map, List.all_map] at this
    exact this
  have hi : (z.length = 1 ∨ z.length = 2) → (TL.tl z).all isDg = true → gInt (.str z) = some (.d (.int (NumText.digitsVal (TL.tl z) : Nat))) := fun h1 h2 => by
    unfold gInt
    dsimp only
    rw [if_pos (by omega), intText_digits (x := z) (fun c hc => of_decide_eq_true (List.all_eq_true.mp h2 c hc)) (fun q => by rw [TL.len_tl, show TL.tl z = [] from q] at h1; simp at h1) (by omega)]
    rfl
  generalize (TL.tl z).map (fun c => PyData.bool (isDg c)) = bs at *
  by_cases h1 : z.length = 1 ∨ z.length = 2
  · have c1 : (((1 : Int) = (z.length : Int)) ∨ (2 : Int) = (z.length : Int)) := by omega
    cases h2 : (TL.tl z).all isDg
    · rw [h2] at e2
      simp [f_count_read, m_count_read, gLen, hz, gIn, PyData.depth, PyData.eqv, c1, e, e2, numRd, h2]
    · rw [h2] at e2
      simp [f_count_read, m_count_read, gLen, hz, gIn, PyData.depth, PyData.eqv, c1, e, e2, numRd, h1, h2, hi h1 h2]
  · have c1 : ¬ (((1 : Int) = (z.length : Int)) ∨ (2 : Int) = (z.length : Int)) := by omega
    simp [f_count_read, m_count_read, gLen, hz, gIn, PyData.depth, PyData.eqv, c1, numRd, h1]
end LW
end

section
set_option maxHeartbeats 1000000
namespace LW
open PySem PySem.Spec L2 ME
open PyProof.Rows hiding St pairD
def numsRd (z y : Str) : D := .tuple ((Txt.split z y).map numRd)
theorem s_numbers_read {z y : Str} {S : T} (h : Sep y) (hz : z.length + 2 ≤ sizeLine) : f_numbers_read [.d (.str z), .d (.str y)] S = .ok (.d (numsRd z y)) S := by
  have e : c0_numbers_read [.d (.str z), .d (.str y), .un] S = .ok (.fl ((Txt.split z y).map numRd)) [.d (.str z), .d (.str y), .un] S := by
    refine lc_mapF (l := Txt.split z y) (f := .str) (by simp [asStr, gSplit_ok h hz]) (by have := split_len (x := z) h; omega) rfl fun c hm => ?_
    have := split_part h hm
    exact lc_pure rfl rfl (by simp [unR, s_count_read (z := c) (by omega)]) rfl
  simp [f_numbers_read, m_numbers_read, e, gTuple, numsRd]
def lotRd (t : Str) : D := if t = "-" then .tuple [] else numsRd t ","
def restRd (w : Str) (ts : List Str) : D := if w = "web" then (match ts with
    | [] => .none
    | t :: ts => .tuple [.str "web", numRd t, .tuple (ts.map fun t => numsRd t "-")])
  else if w = "places" then .tuple (ts.map numRd) else .tuple (ts.map lotRd)
theorem s_rest_read {w : Str} {ts : List Str} {S : T} (hl : ts.length ≤ sizeLine) (hz : ∀ t ∈ ts, t.length + 2 ≤ sizeLine) : f_rest_read [.d (.str w), .d (.list (ts.map .str))] S = .ok (.d (restRd w ts)) S := by
  by_cases h1 : w = "web"
  · subst h1
    have e : c0_rest_read [.d (.str "web"), .d (.list (ts.map .str)), .un, .un] S = .ok (.fl ((ts.drop 1).map fun t => numsRd t "-")) [.d (.str "web"), .d (.list (ts.map .str)), .un, .un] S := by
      refine lc_mapF (l := ts.drop 1) (f := .str) (by simp [gSl_ll1]) (by rw [List.length_drop]; omega) rfl fun c hm => ?_
      exact lc_pure rfl rfl (by simp [unR, s_numbers_read sep_da (hz c (List.mem_of_mem_drop hm))]) rfl
    cases ts with
    | nil =>
      simp only [List.map_nil, List.drop_nil] at e
      simp [f_rest_read, m_rest_read, gEqs, e, gTuple, gEq, PyData.depth, PyData.depthAll, PyData.eqv, PyData.eqvAll, restRd]
    | cons t ts =>
      have g0 : gIx (.list (.str t :: ts.map .str)) (.int 0) = some (.d (.str t)) := by simp [gIx, atI, ixN]
      have ht := hz t List.mem_cons_self
      have e1 := s_count_read (z := t) (S := S) (by omega)
      have hd : min (PyData.depth (.list (.str t :: ts.map .str))) 1 ≤ 60 := Nat.le_trans (Nat.min_le_right _ _) (by decide)
      rw [List.map_cons] at e ⊢
      rw [List.drop_succ_cons, List.drop_zero] at e
      simp only [restRd]
      generalize (ts.map fun t => numsRd t "-") = zs at *
      generalize hq : ts.map PyData.str = us at *
      simp [f_rest_read, m_rest_read, gEqs, e, gTuple, gEq, PyData.depth, PyData.depthAll, PyData.eqv, PyData.eqvAll, g0, e1]
  · by_cases h2 : w = "places"
    · subst h2
      have e : c1_rest_read [.d (.str "places"), .d (.list (ts.map .str)), .un, .un] S = .ok (.fl (ts.map numRd)) [.d (.str "places"), .d (.list (ts.map .str)), .un, .un] S := by
        refine lc_mapF (l := ts) (f := .str) (by simp) hl rfl fun c hm => ?_
        have := hz c hm
        exact lc_pure rfl rfl (by simp [unR, s_count_read (z := c) (by omega)]) rfl
      simp [f_rest_read, m_rest_read, gEqs, e, gTuple, restRd]
    · have e : c2_rest_read [.d (.str w), .d (.list (ts.map .str)), .un, .un] S = .ok (.fl (ts.map lotRd)) [.d (.str w), .d (.list (ts.map .str)), .un, .un] S := by
        refine lc_mapF (l := ts) (f := .str) (by simp) hl rfl fun c hm => ?_
        have := hz c hm
        by_cases c1 : c = "-"
        · exact lc_pure rfl rfl (by simp [unR, gEqs, c1, lotRd]) rfl
        · exact lc_pure rfl rfl (by simp [unR, gEqs, c1, lotRd, s_numbers_read sep_co this]) rfl
      simp [f_rest_read, m_rest_read, gEqs, e, gTuple, restRd, h1, h2]
end LW
end

section
set_option maxHeartbeats 1000000
namespace LW
open PySem PySem.Spec L2 ME
open PyProof.Rows hiding St pairD
def readD (z : Str) : D := .tuple [.str ((Txt.split z " ").headD ""), restRd ((Txt.split z " ").headD "") ((Txt.split z " ").drop 1)]
theorem wd_tup {k : Nat} {l : List D} (h : l.length ≤ sizeLine) (h2 : ∀ y ∈ l, Wd k y) : Wd (k + 1) (.tuple l) := ⟨h, h2⟩
theorem wd_numRd (z : Str) : ∀ k, Wd k (numRd z)
  | 0 => trivial
  | k + 1 => by rcases numRd_cases z with e | ⟨i, e⟩ <;> rw [e] <;> trivial
theorem wd_nums {k : Nat} {z y : Str} (h : Sep y) (hz : z.length + 2 ≤ sizeLine) : Wd (k + 1) (numsRd z y) := by
  refine wd_tup (by rw [List.length_map]; have := split_len (x := z) h; omega) fun y hy => ?_
  obtain ⟨c, hc, rfl⟩ := List.mem_map.mp hy
  exact wd_numRd c k
theorem wd_rest {w : Str} {ts : List Str} (hl : ts.length ≤ sizeLine) (hz : ∀ t ∈ ts, t.length + 2 ≤ sizeLine) : Wd 2 (restRd w ts) := by
  unfold restRd
  split
  · cases ts with
    | nil => trivial
    | cons t ts =>
      refine wd_tup (by simp) fun y hy => ?_
      simp only [List.mem_cons, List.not_mem_nil, or_false] at hy
      rcases hy with rfl | rfl | rfl
      · trivial
      · exact wd_numRd t 1
      · refine wd_tup (by rw [List.length_map]; simp at hl; omega) fun y hy => ?_
        trivial
  · split
    · refine wd_tup (by rw [List.length_map]; exact hl) fun y hy => ?_
      obtain ⟨c, hc, rfl⟩ := List.mem_map.mp hy
      exact wd_numRd c 1
    · refine wd_tup (by rw [List.length_map]; exact hl) fun y hy => ?_
      obtain ⟨c, hc, rfl⟩ := List.mem_map.mp hy
      unfold lotRd
      split
      · exact ⟨Nat.zero_le _, by simp⟩
      · exact wd_nums sep_co (hz c hc)
theorem wd_read {z : Str} (hz : z.length + 2 ≤ sizeLine) : Wd 3 (readD z) := by
  have h1 := split_len (x := z) sep_sp
  have h2 : ∀ t ∈ Txt.split z " ", t.length + 2 ≤ sizeLine := fun t ht => by have := split_part sep_sp ht; omega
  refine wd_tup (by simp) fun y hy => ?_
  simp only [List.mem_cons, List.not_mem_nil, or_false] at hy
  rcases hy with rfl | rfl
  · trivial
  · exact wd_rest (by rw [List.length_drop]; omega) fun t ht => h2 t (List.mem_of_mem_drop ht)
/-- what is read, if it is a record with this text -/
theorem s_read_no {z : Str} {S : T} (hz : z.length + 2 ≤ sizeLine) (h : recD (readD z) = false) : f_read_record [.d (.str z)] S = .exc "Unread" [("text", .str z)] S := by
  have e0 := gSplit_ok sep_sp hz
  have h1 := split_len (x := z) sep_sp
  have h2 : ∀ t ∈ Txt.split z " ", t.length + 2 ≤ sizeLine := fun t ht => by have := split_part sep_sp ht; omega
  have er := s_is_record_of (S := S) (wd_read hz)
  rw [h] at er
  cases q : Txt.split z " " with
  | nil => exact absurd q (split_ne sep_sp)
  | cons w ts =>
    rw [q] at e0 h1 h2
    have e1 := s_rest_read (w := w) (ts := ts) (S := S) (by simp at h1; omega) fun t ht => h2 t (List.mem_cons_of_mem _ ht)
    have g0 : gIx (.list (.str w :: ts.map .str)) (.int 0) = some (.d (.str w)) := by simp [gIx, atI, ixN]
    have g1 : gSl (.list (.str w :: ts.map .str)) (some 1) none = some (.fl (ts.map .str)) := gSl_ll1
    have ed : readD z = .tuple [.str w, restRd w ts] := by unfold readD; rw [q]; rfl
    rw [ed] at er
    rw [List.map_cons] at e0
    generalize restRd w ts = rr at *
    generalize ts.map PyData.str = us at *
    simp [f_read_record, m_read_record, PyData.isStr, asStr, e0, g0, g1, e1, er]
theorem s_read_ok {z : Str} {S : T} {r : Rc} (hz : z.length + 2 ≤ sizeLine) (h : recD (readD z) = true) (hr : readD z = r.d) (hf : r.fit) :
    f_read_record [.d (.str z)] S = if r.text = z then .ok (.d r.d) S else .exc "Unread" [("text", .str z)] S := by
  have e0 := gSplit_ok sep_sp hz
  have h1 := split_len (x := z) sep_sp
  have h2 : ∀ t ∈ Txt.split z " ", t.length + 2 ≤ sizeLine := fun t ht => by have := split_part sep_sp ht; omega
  have er := s_is_record_of (S := S) (wd_read hz)
  rw [h] at er
  have et := s_text_of_record (S := S) hf
  cases q : Txt.split z " " with
  | nil => exact absurd q (split_ne sep_sp)
  | cons w ts =>
    rw [q] at e0 h1 h2
    have e1 := s_rest_read (w := w) (ts := ts) (S := S) (by simp at h1; omega) fun t ht => h2 t (List.mem_cons_of_mem _ ht)
    have g0 : gIx (.list (.str w :: ts.map .str)) (.int 0) = some (.d (.str w)) := by simp [gIx, atI, ixN]
    have g1 : gSl (.list (.str w :: ts.map .str)) (some 1) none = some (.fl (ts.map .str)) := gSl_ll1
    have ed : readD z = .tuple [.str w, restRd w ts] := by unfold readD; rw [q]; rfl
    rw [hr] at ed
    rw [hr, ed] at er
    rw [ed] at et ⊢
    rw [List.map_cons] at e0
    generalize restRd w ts = rr at *
    generalize ts.map PyData.str = us at *
    generalize r.text = tx at *
    by_cases c : tx = z
    · simp [f_read_record, m_read_record, PyData.isStr, asStr, e0, g0, g1, e1, er, et, gEqs, c]
    · simp [f_read_record, m_read_record, PyData.isStr, asStr, e0, g0, g1, e1, er, et, gEqs, c]
end LW
end

section
set_option maxHeartbeats 1000000
namespace LW
open PySem PySem.Spec L2 ME
open PyProof.Rows hiding St pairD
def unreadD (z : Str) : D := .list [.str "unread", .str z, .bool true]
theorem s_law_read_no {z : Str} {S : T} (h : f_read_record [.d (.str z)] S = .exc "Unread" [("text", .str z)] S) : f__law_read [.d (.str z)] S = .ok (.d (unreadD z)) S := by
  simp [f__law_read, m__law_read, t0__law_read, h, t_Unread, t_StateError, List.lookup, unreadD]
theorem s_law_read_ok {z : Str} {x : D} {S : T} (h : f_read_record [.d (.str z)] S = .ok (.d x) S) : f__law_read [.d (.str z)] S = .ok (.d x) S := by
  simp [f__law_read, m__law_read, t0__law_read, h]
theorem s_record_text_ok {r : Rc} {S : T} (h : recD r.d = true) (hf : r.fit) (w : Wd 3 r.d) : f_record_text [.d r.d] S = .ok (.d (.str r.text)) S := by
  have e := s_is_record_of (S := S) w
  have e2 := s_text_of_record (S := S) hf
  rw [h] at e
  simp [f_record_text, m_record_text, e, e2]
theorem s_record_text_no {x : D} {S : T} (h : recD x = false) (w : Wd 3 x) : f_record_text [.d x] S = .exc "InvalidRecord" [("value", x)] S := by
  have e := s_is_record_of (S := S) w
  rw [h] at e
  simp [f_record_text, m_record_text, e]
theorem s_is_record {x : D} {S : T} (w : Wd 3 x) : f_is_record [.d x] S = .ok (.d (.bool (recD x))) S := by
  simp [f_is_record, m_is_record, s_is_record_of w]
/-! ### the round trip -/
theorem tl_numS {i : Int} (h : 0 ≤ i) : TL.tl (numS i) = TL.numL i.toNat := by
  obtain ⟨n, rfl⟩ := Int.eq_ofNat_of_zero_le h
  exact TL.tl_num n
theorem numS_free {i : Int} {s : Nat} (h : 0 ≤ i) (hs : s < 48 ∨ 57 < s) : s ∉ TL.tl (numS i) := by
  rw [tl_numS h]
  exact TL.numL_free hs
theorem tl_sp : TL.tl " " = [32] := by decide +kernel
theorem tl_da : TL.tl "-" = [45] := by decide +kernel
theorem tl_co : TL.tl "," = [44] := by decide +kernel
theorem tie_join (t : Int × Int) : tieT t = Txt.join "-" [numS t.1, numS t.2] := by
  refine TL.ext_tl ?_
  rw [TL.join_eq, TL.tl_join, tieT, TL.tl_append, TL.tl_append]
  simp [TL.joinL]
theorem tie_free {t : Int × Int} (h1 : 0 ≤ t.1) (h2 : 0 ≤ t.2) : 32 ∉ TL.tl (tieT t) := by
  rw [tieT, TL.tl_append, TL.tl_append, tl_da]
  simp only [List.mem_append, not_or]
  exact ⟨⟨numS_free h1 (by omega), by decide⟩, numS_free h2 (by omega)⟩
theorem joinL_free {s : Nat} {q : List Nat} (hq : s ∉ q) : ∀ {l : List (List Nat)}, (∀ p ∈ l, s ∉ p) → s ∉ TL.joinL q l
  | [], _ => by simp [TL.joinL]
  | [p], h => h p List.mem_cons_self
  | p :: r :: l, h => by
    show s ∉ p ++ (q ++ TL.joinL q (r :: l))
    simp only [List.mem_append, not_or]
    exact ⟨h p List.mem_cons_self, hq, joinL_free hq fun z hz => h z (List.mem_cons_of_mem _ hz)⟩
theorem lot_free {ns : List Int} (h : sml 100 ns) : 32 ∉ TL.tl (lotT ns) := by
  unfold lotT
  split
  · rw [tl_da]; decide
  · rw [TL.join_eq, TL.tl_join, tl_co]
    refine joinL_free (by decide) fun p hp => ?_
    obtain ⟨z, hz, rfl⟩ := List.mem_map.mp hp
    obtain ⟨i, hi, rfl⟩ := List.mem_map.mp hz
    exact numS_free (h i hi).1 (by omega)
theorem toks_free {r : Rc} (h : r.fit) : ∀ z ∈ r.word :: r.toks, 32 ∉ TL.tl z := by
  intro z hz
  rcases List.mem_cons.mp hz with e | e
  · rw [e]
    cases r
    · show 32 ∉ TL.tl "web"; decide +kernel
    · show 32 ∉ TL.tl "places"; decide +kernel
    · show 32 ∉ TL.tl "lots"; decide +kernel
    · show 32 ∉ TL.tl "parting"; decide +kernel
  · cases r with
    | web n ts =>
      rcases List.mem_cons.mp e with e | e
      · rw [e]; exact numS_free h.1.1 (by omega)
      · obtain ⟨t, ht, rfl⟩ := List.mem_map.mp e
        exact tie_free (h.2.2 t ht).1.1 (h.2.2 t ht).2.1
    | places ns =>
      obtain ⟨i, hi, rfl⟩ := List.mem_map.mp e
      exact numS_free (h.1 i hi).1 (by omega)
    | lots ls =>
      obtain ⟨ns, hn, rfl⟩ := List.mem_map.mp e
      exact lot_free (h.2 ns hn).1
    | parting ls =>
      obtain ⟨ns, hn, rfl⟩ := List.mem_map.mp e
      exact lot_free (h.2 ns hn).1
theorem split_text {r : Rc} (h : r.fit) : Txt.split r.text " " = r.word :: r.toks := TL.split_join (s := 32) (S := []) tl_sp sep_sp.kd (by simp) (toks_free h)
theorem numsRd_tie {t : Int × Int} (h1 : 0 ≤ t.1 ∧ t.1 < 100) (h2 : 0 ≤ t.2 ∧ t.2 < 100) : numsRd (tieT t) "-" = tieD t := by
  unfold numsRd
  rw [tie_join, TL.split_join (s := 45) (S := []) tl_da sep_da.kd (by simp) fun p hp => by
    simp only [List.mem_cons, List.not_mem_nil, or_false] at hp
    rcases hp with rfl | rfl
    · exact numS_free h1.1 (by omega)
    · exact numS_free h2.1 (by omega)]
  simp [numRd_num h1.1 h1.2, numRd_num h2.1 h2.2]
theorem map_numRd {ns : List Int} (h : sml 100 ns) : (ns.map numS).map numRd = ns.map .int := by
  rw [List.map_map]
  exact List.map_congr_left fun i hi => numRd_num (h i hi).1 (h i hi).2
theorem lotRd_lot {ns : List Int} (h : sml 100 ns) : lotRd (lotT ns) = rowD ns := by
  by_cases c : ns = []
  · subst c
    rfl
  · have e : lotT ns = Txt.join "," (ns.map numS) := if_neg c
    have ne : lotT ns ≠ "-" := by
      intro q
      have q := congrArg TL.tl q
      rw [e, TL.join_eq, TL.tl_join, tl_da] at q
      cases ns with
      | nil => exact c rfl
      | cons i ns =>
        have hi := numS_free (i := i) (s := 45) (h i List.mem_cons_self).1 (by omega)
        have hn : TL.tl (numS i) ≠ [] := by rw [tl_numS (h i List.mem_cons_self).1]; exact TL.numL_ne _
        cases z : TL.tl (numS i) with
        | nil => exact hn z
        | cons a b =>
          rw [z] at hi
          have ha : a ≠ 45 := fun u => hi (by rw [u]; exact List.mem_cons_self)
          cases ns with
          | nil =>
            simp only [List.map_cons, List.map_nil, TL.joinL, z] at q
            exact ha (List.cons.inj q).1
          | cons j ns =>
            simp only [List.map_cons, TL.joinL, z, List.cons_append] at q
            exact ha (List.cons.inj q).1
    unfold lotRd
    rw [if_neg ne, e]
    unfold numsRd
    rw [TL.split_join (s := 44) (S := []) tl_co sep_co.kd (by simpa using c) fun p hp => by
      obtain ⟨i, hi, rfl⟩ := List.mem_map.mp hp
      exact numS_free (h i hi).1 (by omega), map_numRd h]
theorem read_text {r : Rc} (h : r.fit) : readD r.text = r.d := by
  unfold readD
  rw [split_text h]
  show PyData.tuple [.str r.word, restRd r.word r.toks] = PyData.tuple [.str r.word, r.told]
  congr 3
  cases r with
  | web n ts =>
    show PyData.tuple [.str "web", numRd (numS n), .tuple ((ts.map tieT).map fun t => numsRd t "-")] = .tuple [.str "web", .int n, .tuple (ts.map tieD)]
    rw [numRd_num h.1.1 h.1.2, List.map_map]
    congr 5
    exact List.map_congr_left fun t ht => numsRd_tie (h.2.2 t ht).1 (h.2.2 t ht).2
  | places ns =>
    have e : restRd "places" (ns.map numS) = .tuple ((ns.map numS).map numRd) := by simp [restRd]
    show restRd "places" (ns.map numS) = rowD ns
    rw [e, map_numRd h.1]
  | lots ls =>
    have e : restRd "lots" (ls.map lotT) = .tuple ((ls.map lotT).map lotRd) := by simp [restRd]
    show restRd "lots" (ls.map lotT) = .tuple (ls.map rowD)
    rw [e, List.map_map]
    congr 1
    exact List.map_congr_left fun ns hn => lotRd_lot (h.2 ns hn).1
  | parting ls =>
    have e : restRd "parting" (ls.map lotT) = .tuple ((ls.map lotT).map lotRd) := by simp [restRd]
    show restRd "parting" (ls.map lotT) = .tuple (ls.map rowD)
    rw [e, List.map_map]
    congr 1
    exact List.map_congr_left fun ns hn => lotRd_lot (h.2 ns hn).1
theorem text_len {r : Rc} (h : r.fit) : r.text.length ≤ 65536 := Nat.le_trans join_len (text_ok h)
/-- what _law_read gives for any text -/
theorem s_law_read {z : Str} {S : T} (hz : z.length + 2 ≤ sizeLine) : f__law_read [.d (.str z)] S = .ok (.d (unreadD z)) S ∧ (∀ r : Rc, r.fit → recD r.d = true → r.text ≠ z) ∨
    ∃ r : Rc, r.fit ∧ recD r.d = true ∧ r.text = z ∧ f__law_read [.d (.str z)] S = .ok (.d r.d) S ∧ f_read_record [.d (.str z)] S = .ok (.d r.d) S := by
  cases h : recD (readD z) with
  | false =>
    refine .inl ⟨s_law_read_no (s_read_no hz h), fun r hf hr e => ?_⟩
    rw [← e, read_text hf, hr] at h
    cases h
  | true =>
    obtain ⟨r, e, hf⟩ := rec_of h
    have k := s_read_ok (S := S) hz h e hf
    by_cases c : r.text = z
    · rw [if_pos c] at k
      rw [e] at h
      exact .inr ⟨r, hf, h, c, s_law_read_ok k, k⟩
    · rw [if_neg c] at k
      refine .inl ⟨s_law_read_no k, fun r' hf' hr' e' => ?_⟩
      subst e'
      rw [read_text hf'] at e
      have t1 := s_text_of_record (S := S) hf
      have t2 := s_text_of_record (S := S) hf'
      rw [e, t1] at t2
      injection t2 with t2
      injection t2 with t2
      injection t2 with t2
      exact c t2
end LW
end

section
set_option maxHeartbeats 400000
namespace LW
open PySem PySem.Spec L2 ME
open PyProof.Rows hiding St pairD
/-! ### draws -/
def potS (ns : List Int) (a b : Int) : T := [.frz ns, .lst [.d (.int a), .d (.int b)]]
def PS (ns : List Int) (S : T) : Prop := ∃ a b, S = potS ns a b
theorem pow18 : gPow (.int 10) (.int 18) = some (.d (.int 1000000000000000000)) := by
  unfold gPow
  dsimp only
  rw [if_pos (by decide)]
  rfl
theorem s_law_pot {ns : List Int} : ∃ S', PS ns S' ∧ f__law_pot [.w 0, .d (.int 0)] [.frz ns] = .ok (.w 1) S' := by
  have e : ∃ a b : Int, f__law_pot [.w 0, .d (.int 0)] [.frz ns] = .ok (.w 1) (potS ns a b) := by
    have k1 : ∀ i : Int, gMod (.int i) (.int 2147483587) = some (.d (.int (i.fmod 2147483587))) := fun i => gMod_ok (by decide)
    have k2 : ∀ i : Int, gMod (.int i) (.int 2147483629) = some (.d (.int (i.fmod 2147483629))) := fun i => gMod_ok (by decide)
    have k3 : ∀ i : Int, gMul (.int i) (.int 48271) = some (.d (.int (i * 48271))) := fun i => gMulR (by decide)
    have k4 : ∀ i : Int, gMul (.int 60271) (.int i) = some (.d (.int (60271 * i))) := fun i => gMulL (by decide)
    have k5 : ∀ i : Int, gMul (.int 3331) (.int i) = some (.d (.int (3331 * i))) := fun i => gMulL (by decide)
    cases ns with
    | nil =>
      simp [f__law_pot, m__law_pot, wls, pow18, potS, k1, k2, k3, k4, k5]
    | cons x ns =>
      simp [f__law_pot, m__law_pot, wls, pow18, potS, k1, k2, k3, k4, k5, atI, ixN]
  obtain ⟨a, b, e⟩ := e
  exact ⟨_, ⟨a, b, rfl⟩, e⟩
theorem s_draw {ns : List Int} {S : T} {m : Int} (i : PS ns S) (h0 : 0 < m) (h1 : m < 1073741824) : ∃ r S', PS ns S' ∧ 0 ≤ r ∧ r < m ∧ f__law_draw [.w 1, .d (.int m)] S = .ok (.d (.int r)) S' := by
  obtain ⟨a, b, rfl⟩ := i
  by_cases c : 0 < a
  · refine ⟨a % m, potS ns (a / m) b, ⟨_, _, rfl⟩, Int.emod_nonneg _ (by omega), Int.emod_lt_of_pos _ h0, ?_⟩
    simp [f__law_draw, m__law_draw, potS, wls, atI, ixN, c, gDivmod_ok h0 h1]
  · have hm : m ≠ 0 := by omega
    have k1 : ∀ i : Int, gMod (.int i) (.int 2147483587) = some (.d (.int (i.fmod 2147483587))) := fun i => gMod_ok (by decide)
    have k2 : ∀ i : Int, gMod (.int i) (.int 2147483629) = some (.d (.int (i.fmod 2147483629))) := fun i => gMod_ok (by decide)
    have k3 : ∀ i : Int, gMul (.int i) (.int 69621) = some (.d (.int (i * 69621))) := fun i => gMulR (by decide)
    have k4 : ∀ i : Int, gDiv (.int i) (.int 31) = some (.d (.int (i.fdiv 31))) := fun i => gDiv_ok (by decide) (by decide)
    have k5 : ∀ i : Int, gMod (.int i) (.int m) = some (.d (.int (i.fmod m))) := fun i => gMod_ok hm
    have hb := fmod_lt (i := b * 69621 + 2927) (m := 2147483629) (by decide)
    have h2 : -(2 ^ 64) < ((b * 69621 + 2927).fmod 2147483629) ∧ ((b * 69621 + 2927).fmod 2147483629) < 2 ^ 64 := by omega
    have k6 := gMulL (j := (b * 69621 + 2927).fmod 2147483629) h2
    have hr := fmod_lt (i := ((((b * 69621 + 2927).fmod 2147483629) * ((b * 69621 + 2927).fmod 2147483629)).fmod 2147483587).fdiv 31) h0
    refine ⟨_, potS ns a ((b * 69621 + 2927).fmod 2147483629), ⟨_, _, rfl⟩, hr.1, hr.2, ?_⟩
    simp [f__law_draw, m__law_draw, potS, wls, atI, ixN, c, k3, k2]
    generalize (b * 69621 + 2927).fmod 2147483629 = b' at *
    simp [k1, k4, k5, k6]
theorem s_pick {ns : List Int} {S : T} {l : List D} (i : PS ns S) (h0 : l ≠ []) (h1 : l.length < 1000000) : ∃ x S', PS ns S' ∧ x ∈ l ∧ f__law_pick [.w 1, .d (.list l)] S = .ok (.d x) S' := by
  have hl : 0 < l.length := List.length_pos_iff.mpr h0
  obtain ⟨r, S', i', r0, r1, e⟩ := s_draw (m := (l.length : Int)) i (by omega) (by omega)
  obtain ⟨k, rfl⟩ := Int.eq_ofNat_of_zero_le r0
  have hk : k < l.length := by omega
  have sz : 1000000 ≤ sizeLine := by decide
  have g := gIxL hk (by omega)
  refine ⟨l[k], S', i', List.getElem_mem hk, ?_⟩
  simp [f__law_pick, m__law_pick, e, g]
end LW
end

section
set_option maxHeartbeats 400000
namespace LW
open PySem PySem.Spec L2 ME
open PyProof.Rows hiding St pairD
def srt (t : Int × Int) : List Int := if t.1 ≤ t.2 then [t.1, t.2] else [t.2, t.1]
theorem s_law_web_by {n : Int} {ts : List (Int × Int)} {S : T} (hl : ts.length ≤ 1000) : f__law_web_by [.d (.int n), .d (.list (ts.map tieD))] S = .ok (.d (.tuple [.str "web", .int n, .tuple ((sortI (ts.map srt)).map ME.rowD)])) S := by
  have sz : 1000 ≤ sizeLine := by decide
  have e : c0__law_web_by [.d (.int n), .d (.list (ts.map tieD)), .un] S = .ok (.fl ((ts.map srt).map ME.rowD)) [.d (.int n), .d (.list (ts.map tieD)), .un] S := by
    rw [List.map_map]
    refine lc_mapF (l := ts) (f := tieD) (by simp) (by omega) rfl fun t hm => ?_
    have g : gSorted (.tuple [.int t.1, .int t.2]) = some (.fl ((srt t).map .int)) := by
      have := gSorted_tints (ns := [t.1, t.2])
      rw [sortN_two] at this
      exact this
    exact lc_pure rfl rfl (by simp [g]) rfl
  have g := gSorted_rows (ls := ts.map srt) (by
    intro l hl
    obtain ⟨t, _, rfl⟩ := List.mem_map.mp hl
    unfold srt
    split <;> simp)
  generalize (ts.map srt).map ME.rowD = rows at *
  generalize (sortI (ts.map srt)).map ME.rowD = rows2 at *
  simp [f__law_web_by, m__law_web_by, e, g]
def okT (n : Int) (t : Int × Int) : Prop := (0 ≤ t.1 ∧ t.1 < n) ∧ (0 ≤ t.2 ∧ t.2 < n) ∧ t.1 ≠ t.2
theorem climb_of {α : Type} {ok : α → α → Bool} : ∀ {l : List α}, l.Pairwise (fun x y => ok x y = true) → climb ok l = true
  | [], _ => rfl
  | [_], _ => rfl
  | x :: y :: l, h => by
    rw [List.pairwise_cons] at h
    show (ok x y && climb ok (y :: l)) = true
    rw [h.1 y List.mem_cons_self, climb_of h.2] <;> rfl
theorem ties_ok {n : Int} {ts : List (Int × Int)} (hl : ts.length ≤ 40) (h : ∀ t ∈ ts, okT n t) : tiesD n (.tuple ((sortI (ts.map srt)).map ME.rowD)) = true := by
  have p := sortI_perm (ts.map srt)
  have s := sortI_sorted (ts.map srt)
  show (decide (((sortI (ts.map srt)).map ME.rowD).length ≤ 40) && ((sortI (ts.map srt)).map ME.rowD).all (pairI n) && climb (fun x y => !PySem.W.dataLt y x) ((sortI (ts.map srt)).map ME.rowD)) = true
  rw [Bool.and_eq_true, Bool.and_eq_true, decide_eq_true_eq, List.length_map, p.length_eq, List.length_map]
  refine ⟨⟨hl, List.all_eq_true.mpr fun x hx => ?_⟩, climb_of ?_⟩
  · obtain ⟨l, hm, rfl⟩ := List.mem_map.mp hx
    obtain ⟨t, ht, rfl⟩ := List.mem_map.mp (p.mem_iff.mp hm)
    have := h t ht
    unfold okT at this
    unfold srt
    split
    · exact decide_eq_true (by omega)
    · exact decide_eq_true (by omega)
  · rw [List.pairwise_map]
    refine s.imp fun {a b} q => ?_
    rw [lt_ints, q]
    rfl
theorem far_ok {n a d : Int} (h0 : 0 ≤ a) (h1 : a < n) (h2 : 0 ≤ d) (h3 : d < n - 1) : okT n (a, (a + 1 + d).fmod n) := by
  have k := fmod_lt (i := a + 1 + d) (m := n) (by omega)
  refine ⟨⟨h0, h1⟩, k, fun e => ?_⟩
  have e : a = (a + 1 + d).fmod n := e
  rw [Int.fmod_eq_emod_of_nonneg _ (by omega)] at e
  by_cases c : a + 1 + d < n
  · rw [Int.emod_eq_of_lt (by omega) c] at e
    omega
  · have : (a + 1 + d) % n = a + 1 + d - n := by
      rw [← Int.sub_emod_right, Int.emod_eq_of_lt (by omega) (by omega)]
    omega
theorem webBody {ns : List Int} {pl mo n cr : Int} {ts : List (Int × Int)} {t a b : Sl} {S : T} (i : PS ns S) (hn : 1 < n) (hn2 : n ≤ 1000) (hc : 2 ≤ cr) (hc2 : cr ≤ 4) (hl : ts.length ≤ 1000) :
    ∃ x a' b' S', PS ns S' ∧ okT n x ∧ b0__law_web [.w 1, .d (.int pl), .d (.int mo), .d (.int n), .own (ts.map tieD), .d (.int cr), t, a, b] S = .nx [.w 1, .d (.int pl), .d (.int mo), .d (.int n), .own ((ts ++ [x]).map tieD), .d (.int cr), t, a', b'] S' := by
  have sz : 1001 ≤ sizeLine := by decide
  have hz : ts.length < sizeLine := by omega
  obtain ⟨r1, S1, i1, p1, q1, e1⟩ := s_draw (m := n) i (by omega) (by omega)
  obtain ⟨r2, S2, i2, p2, q2, e2⟩ := s_draw (m := n - 1) i1 (by omega) (by omega)
  obtain ⟨r3, S3, i3, p3, q3, e3⟩ := s_draw (m := 2) i2 (by omega) (by omega)
  have k1 : ∀ i : Int, gMod (.int i) (.int n) = some (.d (.int (i.fmod n))) := fun i => gMod_ok (by omega)
  have k2 : ∀ i : Int, gMod (.int i) (.int cr) = some (.d (.int (i.fmod cr))) := fun i => gMod_ok (by omega)
  by_cases c : r3 = 0 ∧ cr ≤ n
  · obtain ⟨r4, S4, i4, p4, q4, e4⟩ := s_draw (m := cr) i3 (by omega) (by omega)
    obtain ⟨r5, S5, i5, p5, q5, e5⟩ := s_draw (m := cr - 1) i4 (by omega) (by omega)
    refine ⟨(r4, (r4 + 1 + r5).fmod cr), .d (.int r4), .d (.int ((r4 + 1 + r5).fmod cr)), S5, i5, ?_, ?_⟩
    · have := far_ok (n := cr) p4 q4 p5 q5
      unfold okT at *
      dsimp only at *
      omega
    · have c1 := c.1
      subst c1
      have c2 : ¬ n < cr := by omega
      simp [b0__law_web, e1, e2, e3, e4, e5, k1, k2, c, c2, gApp, hz]
  · refine ⟨(r1, (r1 + 1 + r2).fmod n), .d (.int r1), .d (.int ((r1 + 1 + r2).fmod n)), S3, i3, far_ok p1 q1 p2 q2, ?_⟩
    by_cases c1 : r3 = 0
    · subst c1
      have c2 : n < cr := by omega
      simp [b0__law_web, e1, e2, e3, k1, k2, c2, gApp, hz]
    · simp [b0__law_web, e1, e2, e3, k1, k2, c1, gApp, hz]
end LW
end

section
set_option maxHeartbeats 400000
namespace LW
open PySem PySem.Spec L2 ME
open PyProof.Rows hiding St pairD
theorem range_get {n i : Nat} {x : D} (h : (rangeD 0 n)[i]? = some x) : x = .int (i : Int) ∧ i < n := by
  by_cases c : i < n
  · rw [rangeD_get 0 n i c] at h
    refine ⟨?_, c⟩
    have := Option.some.inj h
    rw [← this]
    simp
  · rw [List.getElem?_eq_none (by rw [rangeD_len]; omega)] at h
    cases h
theorem s_web {ns : List Int} {S : T} (i : PS ns S) : ∃ x S', PS ns S' ∧ webD x = true ∧ f__law_web [.w 1, .d (.int 16), .d (.int 20)] S = .ok (.d x) S' := by
  obtain ⟨n0, S1, i1, p1, q1, e1⟩ := s_draw (m := 16) i (by decide) (by decide)
  obtain ⟨c0, S2, i2, p2, q2, e2⟩ := s_draw (m := 3) i1 (by decide) (by decide)
  obtain ⟨ts, t, a, b, S', i', hl, hts, e⟩ : ∃ (ts : List (Int × Int)) (t a b : Sl) (S' : T), PS ns S' ∧ ts.length ≤ 40 ∧ (∀ t ∈ ts, okT (1 + n0) t) ∧
      l0__law_web [.w 1, .d (.int 16), .d (.int 20), .d (.int (1 + n0)), .own [], .d (.int (2 + c0)), .un, .un, .un] S2 = .nx [.w 1, .d (.int 16), .d (.int 20), .d (.int (1 + n0)), .own (ts.map tieD), .d (.int (2 + c0)), t, a, b] S' := by
    by_cases c : 1 < 1 + n0
    · obtain ⟨m, S3, i3, p3, q3, e3⟩ := s_draw (m := 21) i2 (by decide) (by decide)
      obtain ⟨ρ', S', e, ts, t, a, b, i', hρ, hl, ht⟩ := for_inv (p := pName 6) (body := b0__law_web) (I := fun k ρ S => ∃ (ts : List (Int × Int)) (t a b : Sl), PS ns S ∧ ρ = [.w 1, .d (.int 16), .d (.int 20), .d (.int (1 + n0)), .own (ts.map tieD), .d (.int (2 + c0)), t, a, b] ∧ ts.length = k ∧ ∀ t ∈ ts, okT (1 + n0) t)
        (rangeD 0 m.toNat) 0 [.w 1, .d (.int 16), .d (.int 20), .d (.int (1 + n0)), .own [], .d (.int (2 + c0)), .un, .un, .un] S3 ⟨[], .un, .un, .un, i3, rfl, rfl, by simp⟩ fun j x ρ S hx hI => by
          obtain ⟨ts, t, a, b, i, rfl, hk, ht⟩ := hI
          obtain ⟨rfl, hj⟩ := range_get hx
          obtain ⟨y, a', b', S', i', hy, e⟩ := webBody (pl := 16) (mo := 20) (t := .d (.int (j : Int))) (a := a) (b := b) (cr := 2 + c0) i c (by omega) (by omega) (by omega) (by omega : ts.length ≤ 1000)
          refine ⟨_, rfl, _, S', .inl e, ts ++ [y], _, a', b', i', rfl, by simp; omega, fun t h => ?_⟩
          rcases List.mem_append.mp h with h | h
          · exact ht t h
          · rw [List.mem_singleton.mp h]; exact hy
      rw [rangeD_len] at hl
      subst hρ
      refine ⟨ts, t, a, b, S', i', by omega, ht, ?_⟩
      have hb : -4611686018427387904 ≤ m ∧ m < 4611686018427387904 := by omega
      simp [l0__law_web, c, e3, e, hb]
    · refine ⟨[], .un, .un, .un, S2, i2, by simp, by simp, ?_⟩
      simp [l0__law_web, c]
  have ew := s_law_web_by (n := 1 + n0) (ts := ts) (S := S') (by omega)
  refine ⟨.tuple [.str "web", .int (1 + n0), .tuple ((sortI (ts.map srt)).map ME.rowD)], S', i', ?_, ?_⟩
  · show (("web" : Str) == "web" && manyD (.int (1 + n0)) && tiesD (1 + n0) (.tuple ((sortI (ts.map srt)).map ME.rowD))) = true
    rw [ties_ok hl hts]
    have : manyD (.int (1 + n0)) = true := decide_eq_true (by omega)
    rw [this]
    simp
  · simp [f__law_web, m__law_web, e1, e2, e, ew]
end LW
end

section
set_option maxHeartbeats 400000
namespace LW
open PySem PySem.Spec L2 ME
open PyProof.Rows hiding St pairD
theorem r_places {ns : List Int} {S : T} {kd : D} (i : PS ns S) : ∃ (rs : List Int) (S' : T), PS ns S' ∧ rs.length ≤ 16 ∧ (∀ r ∈ rs, 0 ≤ r ∧ r < 16) ∧ c0__law_record [.w 1, .d kd, .un, .un, .un, .un, .un, .un, .un] S = .ok (.fl (rs.map .int)) [.w 1, .d kd, .un, .un, .un, .un, .un, .un, .un] S' := by
  have sz : 100 ≤ sizeLine := by decide
  obtain ⟨m, S1, i1, p1, q1, e1⟩ := s_draw (m := 17) i (by decide) (by decide)
  have hb : -4611686018427387904 ≤ m ∧ m < 4611686018427387904 := by omega
  obtain ⟨rs, S', r, i', e⟩ := lc_all (enc := PyData.int) (P := fun _ r => 0 ≤ r ∧ r < 16) (vs := [5]) (mi := iR1 (mCons (mCall P__law_draw.length f__law_draw (mCons (mVar 0) (mCons (mC (.int 17)) mNil))) mNil)) (p := pName 5) (c := ME.ret true) (m := mCall P__law_draw.length f__law_draw (mCons (mVar 0) (mCons (mC (.int 16)) mNil)))
    (ρ := [.w 1, .d kd, .un, .un, .un, .un, .un, .un, .un]) (S := S) (I := PS ns) (xs := rangeD 0 m.toNat) (S1 := S1) (by simp [e1, hb]) i1 (by rw [rangeD_len]; omega) rfl fun x hx S i => by
      obtain ⟨r, S', i', p, q, e⟩ := s_draw (m := 16) i (by decide) (by decide)
      exact ⟨r, S', lc_pure rfl rfl (by simp [e]) rfl, i', p, q⟩
  obtain ⟨h1, h2⟩ := Paired.all r
  rw [rangeD_len] at h1
  exact ⟨rs, S', i', by omega, h2, e⟩
theorem range_int {n : Nat} : rangeD 0 n = ((List.range n).map fun (k : Nat) => (k : Int)).map .int := by
  rw [rangeD_map, List.map_map]
  refine List.map_congr_left fun k _ => ?_
  simp
theorem r_lot {ns : List Int} {S : T} {ρ : Rho} (i : PS ns S) (h0 : ρ[0]? = some (.w 1)) (h6 : ρ[6]? = some .un) (hl : ρ.length = 9) :
    ∃ (rs : List Int) (S' : T), PS ns S' ∧ rs.Pairwise (· < ·) ∧ (∀ r ∈ rs, 0 ≤ r ∧ r < 40) ∧ c1__law_record ρ S = .ok (.fl (rs.map .int)) ρ S' := by
  have sz : 100 ≤ sizeLine := by decide
  have hu : ρ.set 6 .un = ρ := by
    apply List.ext_getElem?
    intro j
    by_cases e : j = 6
    · subst e; rw [List.getElem?_set_self (by omega), h6]
    · rw [List.getElem?_set_ne (Ne.symm e)]
  obtain ⟨ys, S', hs, i', e⟩ := lc_sub (vs := [6]) (mi := iR1 (mCons (mC (.int 40)) mNil)) (p := pName 6) (c := mB (mOp (gEq false) (mCall P__law_draw.length f__law_draw (mCons (mVar 0) (mCons (mC (.int 9)) mNil))) (mC (.int 0)))) (m := mVar 6)
    (ρ := ρ) (S := S) (I := PS ns) (xs := rangeD 0 40) (S1 := S) (by simp) i (by rw [rangeD_len]; omega) (by simp [notOwn, h6]) fun x hx S i => by
      obtain ⟨r, S', i', p, q, e⟩ := s_draw (m := 9) i (by decide) (by decide)
      have g0 : (ρ.set 6 (.d x))[0]? = some (.w 1) := by rw [List.getElem?_set_ne (by decide)]; exact h0
      have g6 : (ρ.set 6 (.d x))[6]? = some (.d x) := List.getElem?_set_self (by omega)
      have gu : unR [6] (ρ.set 6 (.d x)) = unR [6] ρ := by simp
      by_cases c : r = 0
      · subst c
        exact ⟨some x, S', lc_yes (ρ1 := ρ.set 6 (.d x)) (S1 := S') (by simp) (by simp [g0, e]) (by simp [g6]) gu, i', .inr rfl⟩
      · exact ⟨none, S', lc_no (ρ1 := ρ.set 6 (.d x)) (by simp) (by simp [g0, e, c]) gu, i', .inl rfl⟩
  rw [range_int] at hs
  obtain ⟨rs, hr, rfl⟩ := List.sublist_map_iff.mp hs
  refine ⟨rs, S', i', ?_, ?_, e⟩
  · refine List.Pairwise.sublist hr ?_
    rw [List.pairwise_map]
    exact (List.pairwise_lt_range (n := 40)).imp fun h => by omega
  · intro r h
    obtain ⟨k, hk, rfl⟩ := List.mem_map.mp (hr.subset h)
    have := List.mem_range.mp hk
    omega
theorem r_lots {ns : List Int} {S : T} {kd : D} (i : PS ns S) : ∃ (rs : List (List Int)) (S' : T), PS ns S' ∧ 1 ≤ rs.length ∧ rs.length ≤ 6 ∧ (∀ l ∈ rs, List.Pairwise (· < ·) l ∧ ∀ r ∈ l, 0 ≤ r ∧ r < 40) ∧ c2__law_record [.w 1, .d kd, .un, .un, .un, .un, .un, .un, .un] S = .ok (.fl (rs.map ME.rowD)) [.w 1, .d kd, .un, .un, .un, .un, .un, .un, .un] S' := by
  obtain ⟨m, S1, i1, p1, q1, e1⟩ := s_draw (m := 6) i (by decide) (by decide)
  have hb : -4611686018427387904 ≤ 1 + m ∧ 1 + m < 4611686018427387904 := by omega
  have sz : 100 ≤ sizeLine := by decide
  obtain ⟨rs, S', r, i', e⟩ := lc_all (enc := ME.rowD) (P := fun _ l => List.Pairwise (· < ·) l ∧ ∀ r ∈ l, 0 ≤ r ∧ r < 40) (vs := [5]) (mi := iR1 (mCons (mOp gAdd (mC (.int 1)) (mCall P__law_draw.length f__law_draw (mCons (mVar 0) (mCons (mC (.int 6)) mNil)))) mNil)) (p := pName 5) (c := ME.ret true) (m := mCa (k1 gTuple) (aCons c1__law_record aNil))
    (ρ := [.w 1, .d kd, .un, .un, .un, .un, .un, .un, .un]) (S := S) (I := PS ns) (xs := rangeD 0 (1 + m).toNat) (S1 := S1) (by simp [e1, hb]) i1 (by rw [rangeD_len]; omega) rfl fun x hx S i => by
      obtain ⟨l, S', i', h1, h2, e⟩ := r_lot (ρ := [.w 1, .d kd, .un, .un, .un, .d x, .un, .un, .un]) i rfl rfl rfl
      exact ⟨l, S', lc_pure rfl rfl (by simp [e]) rfl, i', h1, h2⟩
  obtain ⟨h1, h2⟩ := Paired.all r
  rw [rangeD_len] at h1
  exact ⟨rs, S', i', by omega, by omega, h2, e⟩
theorem r_names {ns : List Int} {S : T} {kd : D} (i : PS ns S) : ∃ (rs : List Int) (S' : T), PS ns S' ∧ 1 ≤ rs.length ∧ rs.length ≤ 16 ∧ (∀ r ∈ rs, 0 ≤ r ∧ r < 6) ∧ c3__law_record [.w 1, .d kd, .un, .un, .un, .un, .un, .un, .un] S = .ok (.fl (rs.map .int)) [.w 1, .d kd, .un, .un, .un, .un, .un, .un, .un] S' := by
  have sz : 100 ≤ sizeLine := by decide
  obtain ⟨m, S1, i1, p1, q1, e1⟩ := s_draw (m := 16) i (by decide) (by decide)
  have hb : -4611686018427387904 ≤ 1 + m ∧ 1 + m < 4611686018427387904 := by omega
  obtain ⟨rs, S', r, i', e⟩ := lc_all (enc := PyData.int) (P := fun _ r => 0 ≤ r ∧ r < 6) (vs := [7]) (mi := iR1 (mCons (mOp gAdd (mC (.int 1)) (mCall P__law_draw.length f__law_draw (mCons (mVar 0) (mCons (mC (.int 16)) mNil)))) mNil)) (p := pName 7) (c := ME.ret true) (m := mCall P__law_draw.length f__law_draw (mCons (mVar 0) (mCons (mC (.int 6)) mNil)))
    (ρ := [.w 1, .d kd, .un, .un, .un, .un, .un, .un, .un]) (S := S) (I := PS ns) (xs := rangeD 0 (1 + m).toNat) (S1 := S1) (by simp [e1, hb]) i1 (by rw [rangeD_len]; omega) rfl fun x hx S i => by
      obtain ⟨r, S', i', p, q, e⟩ := s_draw (m := 6) i (by decide) (by decide)
      exact ⟨r, S', lc_pure rfl rfl (by simp [e]) rfl, i', p, q⟩
  obtain ⟨h1, h2⟩ := Paired.all r
  rw [rangeD_len] at h1
  exact ⟨rs, S', i', by omega, by omega, h2, e⟩
end LW
end

section
set_option maxHeartbeats 400000
namespace LW
open PySem PySem.Spec L2 ME
open PyProof.Rows hiding St pairD
def selP (p : Int) : D → Option D
  | .tuple [.int i, .int x] => if x = p then some (.int i) else none
  | _ => none
theorem mem_pairs {names : List Int} {x : D} (h : x ∈ pairD (rangeD 0 names.length) (names.map .int)) : ∃ i z : Int, x = .tuple [.int i, .int z] := by
  obtain ⟨a, ha, b, hb, rfl⟩ := mem_pair h
  obtain ⟨z, _, rfl⟩ := List.mem_map.mp hb
  rw [range_int] at ha
  obtain ⟨i, _, rfl⟩ := List.mem_map.mp ha
  exact ⟨i, z, rfl⟩
/-- the parts by the names us -/
theorem p_body {names : List Int} {acc : List (List Int)} {p : Int} {kd : D} {S : T} {s2 : Sl} (h2 : s2 = .own (names.map .int) ∨ s2 = .d (.list (names.map .int))) (hn : names.length ≤ 16) (ha : acc.length ≤ 100) :
    b0__law_record [.w 1, .d kd, s2, .own (acc.map ME.rowD), .d (.int p), .un, .un, .un, .un] S = .nx [.w 1, .d kd, .d (.list (names.map .int)), .own ((acc ++ [idxs p 0 names]).map ME.rowD), .d (.int p), .un, .un, .un, .un] S := by
  have sz : 1000 ≤ sizeLine := by decide
  have e : c4__law_record [.w 1, .d kd, s2, .own (acc.map ME.rowD), .d (.int p), .un, .un, .un, .un] S = .ok (.fl ((idxs p 0 names).map .int)) [.w 1, .d kd, .d (.list (names.map .int)), .own (acc.map ME.rowD), .d (.int p), .un, .un, .un, .un] S := by
    rw [← idxs_filt (p := p) (g := selP p) (fun _ _ => rfl)]
    refine lc_fmap (xs := pairD (rangeD 0 names.length) (names.map .int)) ?_ ?_ rfl fun x hx => ?_
    · rcases h2 with rfl | rfl <;> simp
    · unfold pairD
      rw [List.length_zipWith, rangeD_len]
      omega
    · obtain ⟨i, z, rfl⟩ := mem_pairs hx
      by_cases c : z = p
      · have : selP p (.tuple [.int i, .int z]) = some (.int i) := if_pos c
        rw [this]
        exact lc_yes (S1 := S) rfl (by simp [c]) (by simp) rfl
      · have : selP p (.tuple [.int i, .int z]) = none := if_neg c
        rw [this]
        exact lc_no rfl (by simp [c]) rfl
  have hz : acc.length < sizeLine := by omega
  simp [b0__law_record, e, gApp, hz]
theorem p_loop {names : List Int} {kd : D} {S : T} (hn : names.length ≤ 16) : ∀ (ps : List Int) (acc : List (List Int)) (s2 s4 : Sl), (s2 = .own (names.map .int) ∨ s2 = .d (.list (names.map .int))) → acc.length + ps.length ≤ 100 →
    ∃ s2' s4', ME.forM (pName 4) b0__law_record (ps.map .int) [.w 1, .d kd, s2, .own (acc.map ME.rowD), s4, .un, .un, .un, .un] S = .nx [.w 1, .d kd, s2', .own ((acc ++ ps.map fun p => idxs p 0 names).map ME.rowD), s4', .un, .un, .un, .un] S
  | [], acc, s2, s4, _, _ => ⟨s2, s4, by simp⟩
  | p :: ps, acc, s2, s4, h2, hl => by
    simp only [List.length_cons] at hl
    have e := p_body (kd := kd) (S := S) (p := p) h2 hn (by omega : acc.length ≤ 100)
    obtain ⟨s2', s4', e2⟩ := p_loop (kd := kd) (S := S) hn ps (acc ++ [idxs p 0 names]) (.d (.list (names.map .int))) (.d (.int p)) (.inr rfl) (by simp; omega)
    refine ⟨s2', s4', ?_⟩
    rw [List.append_assoc] at e2
    rw [List.map_cons]
    show (match b0__law_record [.w 1, .d kd, s2, .own (acc.map ME.rowD), .d (.int p), .un, .un, .un, .un] S with
      | .nx ρ2 S2 => ME.forM (pName 4) b0__law_record (ps.map .int) ρ2 S2
      | .ct ρ2 S2 => ME.forM (pName 4) b0__law_record (ps.map .int) ρ2 S2
      | .bk ρ2 S2 => .nx ρ2 S2
      | r => r) = _
    rw [e]
    exact e2
/-- parts of rows of places -/
structure Parts (ls : List (List Int)) : Prop where
  ne : ∀ l ∈ ls, l ≠ []
  up : ∀ l ∈ ls, l.Pairwise (· < ·)
  lim : ∀ l ∈ ls, ∀ i ∈ l, 0 ≤ i ∧ i < 16
  dis : ls.Pairwise fun a b => ∀ i, i ∈ a → i ∉ b
theorem parts_names {names : List Int} {ps : List Int} (hn : names.length ≤ 16) (hp : ps.Nodup) (hm : ∀ p ∈ ps, p ∈ names) : Parts (ps.map fun p => idxs p 0 names) where
  ne l h := by
    obtain ⟨p, q, rfl⟩ := List.mem_map.mp h
    exact idxs_ne (hm p q)
  up l h := by
    obtain ⟨p, q, rfl⟩ := List.mem_map.mp h
    exact idxs_up
  lim l h i hi := by
    obtain ⟨p, q, rfl⟩ := List.mem_map.mp h
    have := idxs_mem hi
    omega
  dis := by
    rw [List.pairwise_map]
    refine List.Pairwise.imp ?_ (List.nodup_iff_pairwise_ne.mp hp)
    intro a b hab i h1 h2
    have k1 := (idxs_mem h1).2.2
    have k2 := (idxs_mem h2).2.2
    rw [k1] at k2
    exact hab (Option.some.inj k2)
theorem Parts.perm {l m : List (List Int)} (h : Parts l) (p : m.Perm l) : Parts m where
  ne x hx := h.ne x (p.mem_iff.mp hx)
  up x hx := h.up x (p.mem_iff.mp hx)
  lim x hx := h.lim x (p.mem_iff.mp hx)
  dis := (p.pairwise_iff (fun {a b} hab i h1 h2 => hab i h2 h1)).mpr h.dis
theorem Parts.sub {l m : List (List Int)} (h : Parts l) (p : m.Sublist l) : Parts m where
  ne x hx := h.ne x (p.subset hx)
  up x hx := h.up x (p.subset hx)
  lim x hx := h.lim x (p.subset hx)
  dis := h.dis.sublist p
theorem Parts.nodup {l : List (List Int)} (h : Parts l) : l.flatten.Nodup := by
  refine List.nodup_iff_pairwise_ne.mpr (List.pairwise_flatten.mpr ⟨fun x hx => (h.up x hx).imp fun q => by omega, h.dis.imp fun {a b} q => ?_⟩)
  intro i h1 j h2 e
  subst e
  exact q i h1 h2
theorem parts_strict {l : List (List Int)} (h : Parts l) : (sortI l).Pairwise fun a b => ltI a b = true := by
  have p := h.perm (sortI_perm l)
  have s := sortI_sorted l
  have both := List.pairwise_and_iff.mpr ⟨s, p.dis⟩
  refine List.Pairwise.imp_of_mem (fun {a b} ha hb q => ?_) both
  rcases ltI_tri a b with c | c | c
  · exact c
  · subst c
    have := p.ne a ha
    cases a with
    | nil => exact absurd rfl this
    | cons x a => exact absurd (List.mem_cons_self (a := x) (l := a)) (q.2 x List.mem_cons_self)
  · rw [q.1] at c
    cases c
theorem up_climb {l : List Int} (h : l.Pairwise (· < ·)) : climb PySem.W.dataLt (l.map PyData.int) = true := by
  refine climb_of ?_
  rw [List.pairwise_map]
  exact h.imp fun q => by rw [u_ltI]; exact decide_eq_true q
theorem lot_ok {n : Int} {l : List Int} (h : l.Pairwise (· < ·)) (h2 : ∀ i ∈ l, 0 ≤ i ∧ i < n) : lotD n (ME.rowD l) = true := by
  show ((l.map PyData.int).all (isB n) && climb PySem.W.dataLt (l.map PyData.int)) = true
  rw [up_climb h, Bool.and_true]
  exact cnts_of h2
theorem lots_ok {m n : Int} {ls : List (List Int)} (h : ∀ l ∈ ls, l.Pairwise (· < ·) ∧ ∀ i ∈ l, 0 ≤ i ∧ i < n) (h1 : 1 ≤ ls.length) (h2 : (ls.length : Int) ≤ m) : lotsD m n (.tuple (ls.map ME.rowD)) = true := by
  show (decide (1 ≤ ((ls.map ME.rowD).length : Int) ∧ ((ls.map ME.rowD).length : Int) ≤ m) && (ls.map ME.rowD).all (lotD n)) = true
  rw [List.length_map, decide_eq_true ⟨by omega, h2⟩, Bool.true_and, List.all_eq_true]
  intro x hx
  obtain ⟨l, hl, rfl⟩ := List.mem_map.mp hx
  exact lot_ok (h l hl).1 (h l hl).2
theorem part_ok {ls : List (List Int)} (h : Parts ls) (hs : ls.Pairwise fun a b => ltI a b = true) (h1 : 1 ≤ ls.length) (h2 : ls.length ≤ 16) : partD (.tuple (ls.map ME.rowD)) = true := by
  show (lotsD 16 16 (.tuple (ls.map ME.rowD)) && (!((ls.map ME.rowD).any fun z => PyData.eqv z (.tuple [])) && climb PySem.W.dataLt (ls.map ME.rowD) && decide (dn (intsOf (flatD (ls.map ME.rowD))).reverse = (intsOf (flatD (ls.map ME.rowD))).length))) = true
  have ef : flatD (ls.map ME.rowD) = ls.flatten.map .int := flat_ints
  rw [lots_ok (fun l hl => ⟨h.up l hl, h.lim l hl⟩) h1 (by omega), ef, intsOf_map, Bool.true_and]
  have e1 : ((ls.map ME.rowD).any fun z => PyData.eqv z (.tuple [])) = false := by
    rw [Bool.eq_false_iff]
    intro q
    rw [List.any_eq_true] at q
    obtain ⟨x, hx, q⟩ := q
    obtain ⟨l, hl, rfl⟩ := List.mem_map.mp hx
    have := h.ne l hl
    cases l with
    | nil => exact this rfl
    | cons a l => simp [PyData.eqv, PyData.eqvAll] at q
  have e2 : climb PySem.W.dataLt (ls.map ME.rowD) = true := by
    refine climb_of ?_
    rw [List.pairwise_map]
    exact hs.imp fun q => by rw [lt_ints]; exact q
  have e3 : dn ls.flatten.reverse = ls.flatten.length := by
    rw [(ME.dn_nodup _).mpr ((List.reverse_perm _).nodup_iff.mpr h.nodup), List.length_reverse]
  rw [e1, e2, e3]
  simp
end LW
end

section
set_option maxHeartbeats 400000
namespace LW
open PySem PySem.Spec L2 ME
open PyProof.Rows hiding St pairD
theorem sIx_nat {n k : Nat} : HT.sIx n n (some (k : Int)) = min k n := by
  unfold HT.sIx
  simp
  omega
theorem insU_len {x : Int} : ∀ {l : List Int}, (insU x l).length ≤ l.length + 1
  | [] => by simp [insU]
  | y :: l => by
    have := insU_len (x := x) (l := l)
    unfold insU
    split
    · simp
    · split <;> simp <;> omega
theorem sortU_len : ∀ {l : List Int}, (sortU l).length ≤ l.length
  | [] => Nat.le_refl _
  | x :: l => by
    have h := insU_len (x := x) (l := sortU l)
    have := sortU_len (l := l)
    show (insU x (sortU l)).length ≤ l.length + 1
    omega
theorem gSl_take {l : List D} {k : Nat} : gSl (.list l) none (some (k : Int)) = some (.fl (l.take k)) := by
  show some (Ro.fl ((l.drop (HT.sIx l.length 0 none)).take (HT.sIx l.length l.length (some (k : Int)) - HT.sIx l.length 0 none))) = _
  have e : HT.sIx l.length 0 none = 0 := rfl
  rw [e, sIx_nat, List.drop_zero, Nat.sub_zero]
  congr 2
  by_cases h : k ≤ l.length
  · rw [Nat.min_eq_left h]
  · rw [Nat.min_eq_right (by omega), List.take_length, List.take_of_length_le (by omega)]
theorem gSS {names : List Int} (h : names.length ≤ 16) : gSortedSet (.list (names.map .int)) = some (.fl ((sortU names).map .int)) := by
  unfold gSortedSet
  dsimp only
  rw [asInts_map]
  dsimp only
  rw [if_pos (by omega)]
theorem s_record {ns : List Int} {S : T} (i : PS ns S) : ∃ x S', PS ns S' ∧ recD x = true ∧ f__law_record [.w 1] S = .ok (.d x) S' := by
  obtain ⟨k, S1, i1, hk, e1⟩ := s_pick (l := [.str "web", .str "places", .str "lots", .str "parting"]) i (by simp) (by simp)
  simp only [List.mem_cons, List.not_mem_nil, or_false] at hk
  rcases hk with rfl | rfl | rfl | rfl
  · obtain ⟨x, S2, i2, h, e2⟩ := s_web i1
    refine ⟨.tuple [.str "web", x], S2, i2, ?_, ?_⟩
    · simp [recD, h]
    · simp [f__law_record, m__law_record, e1, e2]
  · obtain ⟨rs, S2, i2, h1, h2, e2⟩ := r_places (kd := .str "places") i1
    refine ⟨.tuple [.str "places", .tuple (rs.map .int)], S2, i2, ?_, ?_⟩
    · have := cnts_of h2
      simp [recD, this, h1]
    · simp [f__law_record, m__law_record, e1, e2]
  · obtain ⟨rs, S2, i2, h0, h1, h2, e2⟩ := r_lots (kd := .str "lots") i1
    refine ⟨.tuple [.str "lots", .tuple (rs.map ME.rowD)], S2, i2, ?_, ?_⟩
    · have := lots_ok (m := 6) h2 h0 (by omega)
      simp [recD, this]
    · generalize rs.map ME.rowD = rows at *
      simp [f__law_record, m__law_record, e1, e2]
  · obtain ⟨names, S2, i2, h0, h1, h2, e2⟩ := r_names (kd := .str "parting") i1
    obtain ⟨d, S3, i3, p3, q3, e3⟩ := s_draw (m := 6) i2 (by decide) (by decide)
    have hU : (sortU names).Nodup := List.nodup_iff_pairwise_ne.mpr ((sortU_lt names).imp fun h => by omega)
    have hUm : ∀ p ∈ sortU names, p ∈ names := fun p hp => sortU_mem.mp hp
    have hUl : (sortU names).length ≤ 16 := by
      have := sortU_len (l := names)
      omega
    obtain ⟨s2', s4', el⟩ := p_loop (kd := .str "parting") (S := S2) (names := names) h1 (sortU names) [] (.own (names.map .int)) .un (.inl rfl) (by simp; omega)
    have P := parts_names h1 hU hUm
    have g := gSorted_rows (ls := (sortU names).map fun p => idxs p 0 names) P.ne
    have Q := (P.perm (sortI_perm _)).sub (List.take_sublist (1 + d.toNat) _)
    have st := (parts_strict P).sublist (List.take_sublist (1 + d.toNat) _)
    have hlen : (sortI ((sortU names).map fun p => idxs p 0 names)).length = (sortU names).length := by rw [(sortI_perm _).length_eq, List.length_map]
    have hne : 1 ≤ (sortU names).length := by
      cases names with
      | nil => simp at h0
      | cons x names =>
        have : x ∈ sortU (x :: names) := sortU_mem.mpr List.mem_cons_self
        exact List.length_pos_iff.mpr (List.ne_nil_of_mem this)
    refine ⟨.tuple [.str "parting", .tuple (((sortI ((sortU names).map fun p => idxs p 0 names)).take (1 + d.toNat)).map ME.rowD)], S3, i3, ?_, ?_⟩
    · have := part_ok Q st (by rw [List.length_take]; omega) (by rw [List.length_take]; omega)
      generalize PyData.tuple (((sortI ((sortU names).map fun p => idxs p 0 names)).take (1 + d.toNat)).map ME.rowD) = t at *
      simp [recD, this]
    · have el2 : l0__law_record [.w 1, .d (.str "parting"), .own (names.map .int), .own [], .un, .un, .un, .un, .un] S2 = .nx [.w 1, .d (.str "parting"), s2', .own (((sortU names).map fun p => idxs p 0 names).map ME.rowD), s4', .un, .un, .un, .un] S2 := by
        simp only [List.map_nil, List.nil_append] at el
        generalize (((sortU names).map fun p => idxs p 0 names).map ME.rowD) = rows at *
        simp [l0__law_record, gSS h1, el]
      have g2 := gSl_take (l := (sortI ((sortU names).map fun p => idxs p 0 names)).map ME.rowD) (k := 1 + d.toNat)
      have ed : (((1 + d.toNat : Nat)) : Int) = 1 + d := by omega
      rw [ed] at g2
      rw [List.map_take]
      generalize ((sortU names).map fun p => idxs p 0 names).map ME.rowD = rows at *
      generalize (sortI ((sortU names).map fun p => idxs p 0 names)).map ME.rowD = rows2 at *
      simp [f__law_record, m__law_record, e1, e2, el2, g, e3, g2]
end LW
end

section
set_option maxHeartbeats 400000
namespace LW
open PySem PySem.Spec L2 ME
open PyProof.Rows hiding St pairD
/-! ### bounds -/
theorem gd_row {ns : List Int} (h : sml 100 ns) (hl : ns.length ≤ 100) : Gd 2100 1 (ME.rowD ns) := (gd_ints (fun i hi => by have := h i hi; omega) hl).up (by decide) (by decide)
theorem gd_told {r : Rc} (h : r.fit) : Gd 210100 3 r.told := by
  cases r with
  | web n ts =>
    have h1 : Gd 4300 2 (.tuple (ts.map tieD)) := gd_tup (w := 42) (k := 1) (n := 100) (fun d hd => by
      obtain ⟨t, ht, rfl⟩ := List.mem_map.mp hd
      have := h.2.2 t ht
      exact gd_tup (w := 20) (k := 0) (n := 2) (fun d hd => by
        simp only [List.mem_cons, List.not_mem_nil, or_false] at hd
        rcases hd with rfl | rfl
        · exact gd_int (by omega)
        · exact gd_int (by omega)) (by simp)) (by rw [List.length_map]; exact h.2.1)
    refine (gd_tup (w := 4300) (k := 2) (n := 3) (fun d hd => ?_) (by simp)).up (by decide) (by decide)
    simp only [List.mem_cons, List.not_mem_nil, or_false] at hd
    rcases hd with rfl | rfl | rfl
    · exact (gd_str (n := 3) (ch_lit (by decide +kernel)) (by decide)).up (by decide) (by decide)
    · exact (gd_int (by have := h.1; omega)).up (by decide) (by decide)
    · exact h1
  | places ns => exact (gd_row h.1 h.2).up (by decide) (by decide)
  | lots ls =>
    refine (gd_tup (w := 2100) (k := 1) (n := 100) (fun d hd => ?_) (by rw [List.length_map]; exact h.1)).up (by decide) (by decide)
    obtain ⟨ns, hn, rfl⟩ := List.mem_map.mp hd
    exact gd_row (h.2 ns hn).1 (h.2 ns hn).2
  | parting ls =>
    refine (gd_tup (w := 2100) (k := 1) (n := 100) (fun d hd => ?_) (by rw [List.length_map]; exact h.1)).up (by decide) (by decide)
    obtain ⟨ns, hn, rfl⟩ := List.mem_map.mp hd
    exact gd_row (h.2 ns hn).1 (h.2 ns hn).2
theorem gd_word (r : Rc) : Gd 10 0 (.str r.word) := by
  cases r
  · exact gd_str (z := "web") (ch_lit (by decide +kernel)) (by decide)
  · exact gd_str (z := "places") (ch_lit (by decide +kernel)) (by decide)
  · exact gd_str (z := "lots") (ch_lit (by decide +kernel)) (by decide)
  · exact gd_str (z := "parting") (ch_lit (by decide +kernel)) (by decide)
theorem gd_rec {r : Rc} (h : r.fit) : Gd 420202 4 r.d := by
  refine (gd_tup (w := 210100) (k := 3) (n := 2) (fun d hd => ?_) (by simp)).up (by decide) (by decide)
  simp only [List.mem_cons, List.not_mem_nil, or_false] at hd
  rcases hd with rfl | rfl
  · exact (gd_word r).up (by decide) (by decide)
  · exact gd_told h
theorem ch_text {r : Rc} (h : r.fit) : ch r.text := by
  refine ch_join (ch_lit (by decide +kernel)) fun z hz => ?_
  have hlot : ∀ ns, sml 100 ns → ch (lotT ns) := fun ns hs => by
    unfold lotT
    split
    · exact ch_lit (by decide +kernel)
    · refine ch_join (ch_lit (by decide +kernel)) fun z hz => ?_
      obtain ⟨i, hi, rfl⟩ := List.mem_map.mp hz
      exact ch_num (hs i hi).1
  rcases List.mem_cons.mp hz with e | e
  · rw [e]
    cases r
    · show ch "web"; exact ch_lit (by decide +kernel)
    · show ch "places"; exact ch_lit (by decide +kernel)
    · show ch "lots"; exact ch_lit (by decide +kernel)
    · show ch "parting"; exact ch_lit (by decide +kernel)
  · cases r with
    | web n ts =>
      rcases List.mem_cons.mp e with e | e
      · rw [e]; exact ch_num h.1.1
      · obtain ⟨t, ht, rfl⟩ := List.mem_map.mp e
        exact ch_app (ch_app (ch_num (h.2.2 t ht).1.1) (ch_lit (by decide +kernel))) (ch_num (h.2.2 t ht).2.1)
    | places ns =>
      obtain ⟨i, hi, rfl⟩ := List.mem_map.mp e
      exact ch_num (h.1 i hi).1
    | lots ls =>
      obtain ⟨ns, hn, rfl⟩ := List.mem_map.mp e
      exact hlot ns (h.2 ns hn).1
    | parting ls =>
      obtain ⟨ns, hn, rfl⟩ := List.mem_map.mp e
      exact hlot ns (h.2 ns hn).1
theorem wd_rec {r : Rc} (h : r.fit) : Wd 3 r.d := by
  have := wd_read (z := r.text) (by have := text_len h; have : 100000 ≤ sizeLine := by decide
                                    omega)
  rwa [read_text h] at this
/-! ### bent texts -/
theorem gSlS {z : Str} {lo hi : Option Int} (h : z.length ≤ sizeLine) : gSl (.str z) lo hi = some (.d (.str (cutS z lo hi))) := if_pos h
theorem app_len (x y : Str) : (x ++ y).length = x.length + y.length := by
  rw [TL.len_tl, TL.tl_append, List.length_append, ← TL.len_tl, ← TL.len_tl]
theorem s_bent {ns : List Int} {S : T} {z : Str} (i : PS ns S) (hz : z.length ≤ 65536) : ∃ y S', PS ns S' ∧ y.length ≤ 200000 ∧ f__law_bent_text [.w 1, .d (.str z)] S = .ok (.d (.str y)) S' := by
  have sz : 1000000 ≤ sizeLine := by decide
  obtain ⟨a, S1, i1, p1, q1, e1⟩ := s_draw (m := (z.length : Int) + 1) i (by omega) (by omega)
  obtain ⟨k, S2, i2, hk, e2⟩ := s_pick (l := [.str " ", .str "-", .str "0", .str "1", .str "16", .str "40", .str "a", .str " 0-1", .str ",", .str " -"]) i1 (by simp) (by simp)
  obtain ⟨g, rfl, hg⟩ : ∃ g : Str, k = .str g ∧ g.length ≤ 10 := by
    simp only [List.mem_cons, List.not_mem_nil, or_false] at hk
    rcases hk with rfl | rfl | rfl | rfl | rfl | rfl | rfl | rfl | rfl | rfl
    all_goals exact ⟨_, rfl, by decide⟩
  have c1 := cutS_length z none (some a)
  have c2 := cutS_length z (some (a + 1)) none
  have c3 := cutS_length z (some a) none
  have g1 := gSlS (z := z) (lo := none) (hi := some a) (by omega)
  have g2 := gSlS (z := z) (lo := some (a + 1)) (hi := none) (by omega)
  have g3 := gSlS (z := z) (lo := some a) (hi := none) (by omega)
  generalize cutS z none (some a) = x1 at *
  generalize cutS z (some (a + 1)) none = x2 at *
  generalize cutS z (some a) none = x3 at *
  have l1 := app_len x1 g
  have k1 := gAddS (x := x1) (y := x2) (by omega)
  have k2 := gAddS (x := x1) (y := g) (by omega)
  have k3 := gAddS (x := x1 ++ g) (y := x3) (by omega)
  have k4 := gAddS (x := x1 ++ g) (y := x2) (by omega)
  obtain ⟨y, S3, i3, hy, e3⟩ := s_pick (l := [.str (x1 ++ x2), .str (x1 ++ g ++ x3), .str (x1 ++ g ++ x2)]) i2 (by simp) (by simp)
  obtain ⟨y, rfl, hl⟩ : ∃ z : Str, y = .str z ∧ z.length ≤ 200000 := by
    simp only [List.mem_cons, List.not_mem_nil, or_false] at hy
    rcases hy with rfl | rfl | rfl
    all_goals exact ⟨_, rfl, by simp only [app_len]; omega⟩
  refine ⟨y, S3, i3, hl, ?_⟩
  have hz2 : z.length ≤ sizeLine := by omega
  simp [f__law_bent_text, m__law_bent_text, gLen, hz2, e1, e2, g1, g2, g3, k1, k2, k3, k4, e3]
end LW
end

section
set_option maxHeartbeats 1000000
namespace LW
open PySem PySem.Spec L2 ME
open PyProof.Rows hiding St pairD
/-! ### odd values -/
def odd1 (w : Str) (l : List D) : List D := [.none, .int 0, .tuple [], .str w, .list [.str w, .tuple l], .tuple [.str w, .tuple l, .int 0], .tuple [.str w], .tuple [.str "none", .tuple l], .tuple [.str w, .none], .tuple [.bool true, .tuple l], .tuple [.str w, .list l]]
def odd2 : List D := [.tuple [.str "web", .tuple [.str "web", .int 0, .tuple []]], .tuple [.str "web", .tuple [.str "web", .int 2, .tuple [.tuple [.int 1, .int 0]]]], .tuple [.str "web", .tuple [.str "web", .int 2, .tuple [.tuple [.int 0, .int 0]]]],
  .tuple [.str "places", .tuple [.int 16]], .tuple [.str "places", .tuple [.int (-1)]], .tuple [.str "places", .tuple [.bool true]], .tuple [.str "places", .tuple (List.replicate 17 (.int 0))]]
def odd3 : List D := [.tuple [.str "lots", .tuple []], .tuple [.str "lots", .tuple (List.replicate 7 (.tuple []))], .tuple [.str "lots", .tuple [.tuple [.int 1, .int 0]]], .tuple [.str "lots", .tuple [.tuple [.int 0, .int 0]]], .tuple [.str "lots", .tuple [.tuple [.int 40]]],
  .tuple [.str "lots", .tuple [.int 0]], .tuple [.str "lots", .tuple [.tuple [.bool true]]], .tuple [.str "parting", .tuple []], .tuple [.str "parting", .tuple [.tuple []]]]
def odd4 : List D := [.tuple [.str "parting", .tuple [.tuple [.int 1], .tuple [.int 0]]], .tuple [.str "parting", .tuple [.tuple [.int 0], .tuple [.int 0, .int 1]]], .tuple [.str "parting", .tuple [.tuple [.int 16]]], .tuple [.str "parting", .tuple [.tuple [.int 0, .int 1], .list [.int 2]]]]
def odds (w : Str) (l : List D) : List D := odd1 w l ++ odd2 ++ odd3 ++ odd4
theorem mul17 : gMul (.tuple [.int 0]) (.int 17) = some (.d (.tuple (List.replicate 17 (.int 0)))) := by
  show (if ([PyData.int 0] : List D) ≠ [] ∧ 2 ≤ (17 : Int) ∧ (17 : Int) ≤ 1000 ∧ [PyData.int 0].length ≤ 1000 then some (Ro.d (.tuple (List.replicate (17 : Int).toNat [PyData.int 0]).flatten)) else none) = _
  rw [if_pos ⟨by simp, by decide, by decide, by simp⟩]
  rfl
theorem mul7 : gMul (.tuple [.tuple []]) (.int 7) = some (.d (.tuple (List.replicate 7 (.tuple [])))) := by
  show (if ([PyData.tuple []] : List D) ≠ [] ∧ 2 ≤ (7 : Int) ∧ (7 : Int) ≤ 1000 ∧ [PyData.tuple []].length ≤ 1000 then some (Ro.d (.tuple (List.replicate (7 : Int).toNat [PyData.tuple []]).flatten)) else none) = _
  rw [if_pos ⟨by simp, by decide, by decide, by simp⟩]
  rfl
theorem addL {x y : List D} (h : x.length + y.length ≤ sizeLine) : gAdd (.list x) (.list y) = some (.fl (x ++ y)) := if_pos h
theorem addT {x y : List D} (h : x.length + y.length ≤ sizeLine) : gAdd (.tuple x) (.tuple y) = some (.d (.tuple (x ++ y))) := if_pos h
theorem s_odd {w : Str} {l : List D} {S : T} : f__law_odd [.d (.tuple [.str w, .tuple l])] S = .ok (.d (.list (odds w l))) S := by
  have g1 : gSl (.tuple [.str w, .tuple l]) none (some 1) = some (.d (.tuple [.str w])) := rfl
  simp [f__law_odd, m__law_odd, ix0, ix1, g1, mul17, mul7, gAdd, odds, odd1, odd2, odd3, odd4]
theorem recs_no {w : Str} {t : D} (h1 : webD t = false) (h2 : cnts 16 t = false) (h3 : lotsD 6 40 t = false) (h4 : partD t = false) : recD (.tuple [.str w, t]) = false := by
  unfold recD
  dsimp only
  rw [h1, h2, h3, h4]
  split
  · rfl
  · split
    · rfl
    · split
      · rfl
      · simp
theorem odd_no {w : Str} {l : List D} : ∀ x ∈ odds w l, recD x = false := by
  intro x hx
  simp only [odds, List.mem_append] at hx
  rcases hx with ((hx | hx) | hx) | hx
  · simp only [odd1, List.mem_cons, List.not_mem_nil, or_false] at hx
    rcases hx with rfl | rfl | rfl | rfl | rfl | rfl | rfl | rfl | rfl | rfl | rfl
    · rfl
    · rfl
    · rfl
    · rfl
    · rfl
    · rfl
    · rfl
    · simp [recD]
    · exact recs_no rfl rfl rfl rfl
    · rfl
    · exact recs_no rfl rfl rfl rfl
  · simp only [odd2, List.mem_cons, List.not_mem_nil, or_false] at hx
    rcases hx with rfl | rfl | rfl | rfl | rfl | rfl | rfl
    · simp [recD, webD, manyD]
    · simp [recD, webD, manyD, tiesD, pairI]
    · simp [recD, webD, manyD, tiesD, pairI]
    · simp [recD, cnts, isB]
    · simp [recD, cnts, isB]
    · simp [recD, cnts, isB]
    · simp [recD, cnts, isB]
  · simp only [odd3, List.mem_cons, List.not_mem_nil, or_false] at hx
    rcases hx with rfl | rfl | rfl | rfl | rfl | rfl | rfl | rfl | rfl
    · simp [recD, lotsD]
    · simp [recD, lotsD]
    · simp [recD, lotsD, lotD, climb]
    · simp [recD, lotsD, lotD, climb]
    · simp [recD, lotsD, lotD, isB]
    · simp [recD, lotsD, lotD]
    · simp [recD, lotsD, lotD, isB]
    · simp [recD, partD, lotsD]
    · simp [recD, partD, PyData.eqv, PyData.eqvAll]
  · simp only [odd4, List.mem_cons, List.not_mem_nil, or_false] at hx
    rcases hx with rfl | rfl | rfl | rfl
    · have : PySem.W.dataLt (.tuple [.int 1]) (.tuple [.int 0]) = false := lt_ints (ns := [1]) (ms := [0])
      simp [recD, partD, climb, this]
    · simp [recD, partD, lotsD, lotD, flatD, intsOf, dn]
    · simp [recD, partD, lotsD, lotD, isB]
    · simp [recD, partD, lotsD, lotD]
theorem odd_wd {w : Str} {l : List D} (h : Wd 2 (.tuple l)) : ∀ x ∈ odds w l, Wd 3 x := by
  intro x hx
  simp only [odds, List.mem_append] at hx
  rcases hx with ((hx | hx) | hx) | hx
  · simp only [odd1, List.mem_cons, List.not_mem_nil, or_false] at hx
    rcases hx with rfl | rfl | rfl | rfl | rfl | rfl | rfl | rfl | rfl | rfl | rfl
    all_goals simp [Wd, h]
    all_goals exact h
  · simp only [odd2, List.mem_cons, List.not_mem_nil, or_false] at hx
    rcases hx with rfl | rfl | rfl | rfl | rfl | rfl | rfl
    all_goals simp [Wd]
  · simp only [odd3, List.mem_cons, List.not_mem_nil, or_false] at hx
    rcases hx with rfl | rfl | rfl | rfl | rfl | rfl | rfl | rfl | rfl
    all_goals simp [Wd]
  · simp only [odd4, List.mem_cons, List.not_mem_nil, or_false] at hx
    rcases hx with rfl | rfl | rfl | rfl
    all_goals simp [Wd]
theorem gd_odd {w : Str} {l : List D} (hw : Gd 10 0 (.str w)) (h : Gd 210100 3 (.tuple l)) : ∀ x ∈ odds w l, Gd 700000 4 x := by
  have hl : Gd 210100 3 (.list l) := ⟨by have := h.s; simpa [PyData.showable] using this, by have := h.l; simpa [PyData.leavesShort] using this, by have := h.w; simpa [PyData.weight] using this, by have := h.k; simpa [PyData.depth] using this⟩
  have two : ∀ {a b : D}, Gd 210100 3 a → Gd 210100 3 b → Gd 700000 4 (.tuple [a, b]) := fun ha hb => (gd_tup (w := 210100) (k := 3) (n := 2) (fun d hd => by
    simp only [List.mem_cons, List.not_mem_nil, or_false] at hd
    rcases hd with rfl | rfl
    · exact ha
    · exact hb) (by simp)).up (by decide) (by decide)
  have hw2 : Gd 210100 3 (.str w) := hw.up (by decide) (by decide)
  have hi : ∀ i : Int, -1000000 < i ∧ i < 1000000 → Gd 210100 3 (.int i) := fun i hi => (gd_int hi).up (by decide) (by decide)
  have hs : ∀ z : Str, (TL.tl z).all (fun c => decide (c < 256)) = true → z.length ≤ 100 → Gd 210100 3 (.str z) := fun z h1 h2 => (gd_str (ch_lit h1) h2).up (by decide) (by decide)
  have ht : ∀ ds : List D, (∀ d ∈ ds, Gd 2100 2 d) → ds.length ≤ 20 → Gd 210100 3 (.tuple ds) := fun ds h1 h2 => (gd_tup h1 h2).up (by decide) (by decide)
  have ht1 : ∀ ds : List D, (∀ d ∈ ds, Gd 100 1 d) → ds.length ≤ 20 → Gd 2100 2 (.tuple ds) := fun ds h1 h2 => (gd_tup h1 h2).up (by decide) (by decide)
  have ht2 : ∀ ds : List D, (∀ d ∈ ds, Gd 20 0 d) → ds.length ≤ 4 → Gd 100 1 (.tuple ds) := fun ds h1 h2 => (gd_tup h1 h2).up (by decide) (by decide)
  have hl2 : ∀ ds : List D, (∀ d ∈ ds, Gd 20 0 d) → ds.length ≤ 4 → Gd 2100 2 (.list ds) := fun ds h1 h2 => (gd_lst h1 h2).up (by decide) (by decide)
  have i0 : ∀ i : Int, -1000000 < i ∧ i < 1000000 → Gd 20 0 (.int i) := fun i hi => gd_int hi
  have i1 : ∀ i : Int, -1000000 < i ∧ i < 1000000 → Gd 100 1 (.int i) := fun i hi => (gd_int hi).up (by decide) (by decide)
  have i2 : ∀ i : Int, -1000000 < i ∧ i < 1000000 → Gd 2100 2 (.int i) := fun i hi => (gd_int hi).up (by decide) (by decide)
  have b0 : ∀ b : Bool, Gd 20 0 (.bool b) := fun b => gd_bool.up (by decide) (by decide)
  have b2 : ∀ b : Bool, Gd 2100 2 (.bool b) := fun b => gd_bool.up (by decide) (by decide)
  have s2 : Gd 2100 2 (.str "web") := (gd_str (n := 3) (ch_lit (by decide +kernel)) (by decide)).up (by decide) (by decide)
  have sw : Gd 210100 3 (.str "web") := (gd_str (n := 3) (ch_lit (by decide +kernel)) (by decide)).up (by decide) (by decide)
  have sp : Gd 210100 3 (.str "places") := hs _ (by decide +kernel) (by decide)
  have sl : Gd 210100 3 (.str "lots") := hs _ (by decide +kernel) (by decide)
  have sg : Gd 210100 3 (.str "parting") := hs _ (by decide +kernel) (by decide)
  have e0 : ∀ d ∈ ([] : List D), Gd 20 0 d := by simp
  have e1 : ∀ d ∈ ([] : List D), Gd 100 1 d := by simp
  have e2 : ∀ d ∈ ([] : List D), Gd 2100 2 d := by simp
  have r0 : ∀ i : Int, (-1000000 < i ∧ i < 1000000) → Gd 100 1 (.tuple [.int i]) := fun i hi => ht2 _ (by simpa using i0 i hi) (by simp)
  have r00 : ∀ i j : Int, (-1000000 < i ∧ i < 1000000) → (-1000000 < j ∧ j < 1000000) → Gd 100 1 (.tuple [.int i, .int j]) := fun i j hi hj => ht2 _ (by simpa using ⟨i0 i hi, i0 j hj⟩) (by simp)
  intro x hx
  simp only [odds, List.mem_append] at hx
  rcases hx with ((hx | hx) | hx) | hx
  · simp only [odd1, List.mem_cons, List.not_mem_nil, or_false] at hx
    rcases hx with rfl | rfl | rfl | rfl | rfl | rfl | rfl | rfl | rfl | rfl | rfl
    · exact gd_none.up (by decide) (by decide)
    · exact (hi 0 (by decide)).up (by decide) (by decide)
    · exact (ht [] e2 (by simp)).up (by decide) (by decide)
    · exact hw2.up (by decide) (by decide)
    · exact (gd_lst (w := 210100) (k := 3) (n := 2) (fun d hd => by
        simp only [List.mem_cons, List.not_mem_nil, or_false] at hd
        rcases hd with rfl | rfl
        · exact hw2
        · exact h) (by simp)).up (by decide) (by decide)
    · exact (gd_tup (w := 210100) (k := 3) (n := 3) (fun d hd => by
        simp only [List.mem_cons, List.not_mem_nil, or_false] at hd
        rcases hd with rfl | rfl | rfl
        · exact hw2
        · exact h
        · exact hi 0 (by decide)) (by simp)).up (by decide) (by decide)
    · exact (gd_tup (w := 210100) (k := 3) (n := 1) (fun d hd => by
        simp only [List.mem_cons, List.not_mem_nil, or_false] at hd
        rw [hd]
        exact hw2) (by simp)).up (by decide) (by decide)
    · exact two (hs _ (by decide +kernel) (by decide)) h
    · exact two hw2 (gd_none.up (by decide) (by decide))
    · exact two (gd_bool.up (by decide) (by decide)) h
    · exact two hw2 hl
  · simp only [odd2, List.mem_cons, List.not_mem_nil, or_false] at hx
    rcases hx with rfl | rfl | rfl | rfl | rfl | rfl | rfl
    · exact two sw (ht _ (by simpa using ⟨s2, i2 0 (by decide), ht1 [] e1 (by simp)⟩) (by simp))
    · exact two sw (ht _ (by simpa using ⟨s2, i2 2 (by decide), ht1 _ (by simpa using r00 1 0 (by decide) (by decide)) (by simp)⟩) (by simp))
    · exact two sw (ht _ (by simpa using ⟨s2, i2 2 (by decide), ht1 _ (by simpa using r00 0 0 (by decide) (by decide)) (by simp)⟩) (by simp))
    · exact two sp (ht _ (by simpa using i2 16 (by decide)) (by simp))
    · exact two sp (ht _ (by simpa using i2 (-1) (by decide)) (by simp))
    · exact two sp (ht _ (by simpa using b2 true) (by simp))
    · exact two sp (ht _ (fun d hd => by rw [List.eq_of_mem_replicate hd]; exact i2 0 (by decide)) (by simp))
  · simp only [odd3, List.mem_cons, List.not_mem_nil, or_false] at hx
    rcases hx with rfl | rfl | rfl | rfl | rfl | rfl | rfl | rfl | rfl
    · exact two sl (ht [] e2 (by simp))
    · exact two sl (ht _ (fun d hd => by rw [List.eq_of_mem_replicate hd]; exact ht1 [] e1 (by simp)) (by simp))
    · exact two sl (ht _ (by simpa using (r00 1 0 (by decide) (by decide)).up (by decide) (by decide)) (by simp))
    · exact two sl (ht _ (by simpa using (r00 0 0 (by decide) (by decide)).up (by decide) (by decide)) (by simp))
    · exact two sl (ht _ (by simpa using (r0 40 (by decide)).up (by decide) (by decide)) (by simp))
    · exact two sl (ht _ (by simpa using i2 0 (by decide)) (by simp))
    · exact two sl (ht _ (by simpa using (ht2 [.bool true] (by simpa using b0 true) (by simp)).up (by decide) (by decide)) (by simp))
    · exact two sg (ht [] e2 (by simp))
    · exact two sg (ht _ (by simpa using ht1 [] e1 (by simp)) (by simp))
  · simp only [odd4, List.mem_cons, List.not_mem_nil, or_false] at hx
    rcases hx with rfl | rfl | rfl | rfl
    · exact two sg (ht _ (by simpa using ⟨(r0 1 (by decide)).up (by decide) (by decide), (r0 0 (by decide)).up (by decide) (by decide)⟩) (by simp))
    · exact two sg (ht _ (by simpa using ⟨(r0 0 (by decide)).up (by decide) (by decide), (r00 0 1 (by decide) (by decide)).up (by decide) (by decide)⟩) (by simp))
    · exact two sg (ht _ (by simpa using (r0 16 (by decide)).up (by decide) (by decide)) (by simp))
    · exact two sg (ht _ (by simpa using ⟨(r00 0 1 (by decide) (by decide)).up (by decide) (by decide), hl2 _ (by simpa using i0 2 (by decide)) (by simp)⟩) (by simp))
end LW
end

section
set_option maxHeartbeats 1000000
namespace LW
open PySem PySem.Spec L2 ME
open PyProof.Rows hiding St pairD
theorem s_bent_step {ns : List Int} {S : T} {r : Rc} {s2 s3 s4 s6 s7 s8 s9 s10 : Sl} (i : PS ns S) (hf : r.fit) (hr : recD r.d = true) :
    ∃ s7' s8' S', PS ns S' ∧ b0_law [.w 0, .w 1, s2, s3, s4, .d (.str r.text), s6, s7, s8, s9, s10] S = .nx [.w 0, .w 1, s2, s3, s4, .d (.str r.text), s6, s7', s8', s9, s10] S' := by
  have sz : 1000000 ≤ sizeLine := by decide
  obtain ⟨z, S1, i1, hz, e1⟩ := s_bent i (text_len hf)
  rcases s_law_read (z := z) (S := S1) (by omega) with ⟨e2, hne⟩ | ⟨r', hf', hr', ht, e2, e3⟩
  · have c : ¬ z = r.text := fun e => hne r hf hr e.symm
    have g : gEq true (unreadD z) (.list [.str "unread", .str z, .bool true]) = some (.d (.bool false)) := by simp [gEq, unreadD, PyData.depth, PyData.depthAll, PyData.eqv, PyData.eqvAll]
    have ht : (unreadD z).isTuple = false := rfl
    refine ⟨.d (.str z), .d (unreadD z), S1, i1, ?_⟩
    generalize unreadD z = u at *
    simp [b0_law, e1, e2, g, c, ht]
  · have e4 := s_is_record (x := r'.d) (S := S1) (wd_rec hf')
    rw [hr'] at e4
    have e5 := s_law_text (r := r') (S := S1) hf'
    rw [ht] at e5
    have ht' : (r'.d).isTuple = true := rfl
    refine ⟨.d (.str z), .d r'.d, S1, i1, ?_⟩
    generalize r'.d = u at *
    simp [b0_law, e1, e2, e4, e5, ht', gIsB]
theorem s_odd_step {S : T} {x : D} {s2 s3 s4 s5 s6 s7 s8 s10 : Sl} (h : recD x = false) (w : Wd 3 x) (g : Gd 700000 4 x) :
    b1_law [.w 0, .w 1, s2, s3, s4, s5, s6, s7, s8, .d x, s10] S = .nx [.w 0, .w 1, s2, s3, s4, s5, s6, s7, .own [.str x.shown, .bool true], .d x, .un] S := by
  have e1 := s_record_text_no (S := S) h w
  have e2 := s_is_record (S := S) w
  rw [h] at e2
  have e3 := gRepr_ok g (by decide) (by decide)
  have e4 : gEq true (.list [.str x.shown, .bool true]) (.list [.str x.shown, .bool true]) = some (.d (.bool false)) := by simp [gEq, PyData.depth, PyData.depthAll, PyData.eqv, PyData.eqvAll]
  generalize x.shown = sh at *
  simp [b1_law, t0_law, e1, e2, e3, e4, t_InvalidRecord, t_WebError, List.lookup, gIsB]
theorem shown_tt : (PyData.list [.bool true, .bool true]).shown = "[True, True]" := by decide +kernel
theorem for_odds {S : T} {s2 s3 s4 s5 s6 s7 : Sl} : ∀ (l : List D) (s8 s9 s10 : Sl), (∀ x ∈ l, recD x = false ∧ Wd 3 x ∧ Gd 700000 4 x) → ∃ s8' s9' s10',
    ME.forM (pName 9) b1_law l [.w 0, .w 1, s2, s3, s4, s5, s6, s7, s8, s9, s10] S = .nx [.w 0, .w 1, s2, s3, s4, s5, s6, s7, s8', s9', s10'] S
  | [], s8, s9, s10, _ => ⟨s8, s9, s10, rfl⟩
  | x :: l, s8, s9, s10, h => by
    obtain ⟨h1, h2, h3⟩ := h x List.mem_cons_self
    have e := s_odd_step (S := S) (s2 := s2) (s3 := s3) (s4 := s4) (s5 := s5) (s6 := s6) (s7 := s7) (s8 := s8) (s10 := s10) h1 h2 h3
    obtain ⟨a, b, c, e2⟩ := for_odds (S := S) (s2 := s2) (s3 := s3) (s4 := s4) (s5 := s5) (s6 := s6) (s7 := s7) l (.own [.str x.shown, .bool true]) (.d x) .un fun y hy => h y (List.mem_cons_of_mem _ hy)
    refine ⟨a, b, c, ?_⟩
    show (match b1_law [.w 0, .w 1, s2, s3, s4, s5, s6, s7, s8, .d x, s10] S with
      | .nx ρ2 S2 => ME.forM (pName 9) b1_law l ρ2 S2
      | .ct ρ2 S2 => ME.forM (pName 9) b1_law l ρ2 S2
      | .bk ρ2 S2 => .nx ρ2 S2
      | r => r) = _
    rw [e]
    exact e2
theorem gd_pair {x : D} (h : Gd 420202 4 x) : Gd 1048576 5 (.list [x, x]) := (gd_lst (w := 420202) (k := 4) (n := 2) (fun d hd => by
    simp only [List.mem_cons, List.not_mem_nil, or_false, or_self] at hd
    rw [hd]; exact h) (by simp)).up (by decide) (by decide)
theorem s_turn {ns : List Int} {S : T} {s2 s3 s4 s5 s6 s7 s8 s9 s10 : Sl} (i : PS ns S) : ∃ s3' s4' s5' s6' s7' s8' s9' s10' S', PS ns S' ∧
    b2_law [.w 0, .w 1, s2, s3, s4, s5, s6, s7, s8, s9, s10] S = .nx [.w 0, .w 1, s2, s3', s4', s5', s6', s7', s8', s9', s10'] S' := by
  obtain ⟨x, S1, i1, hx, e1⟩ := s_record i
  obtain ⟨r, rfl, hf⟩ := rec_of hx
  have w := wd_rec hf
  have g := gd_rec hf
  have e2 := gRepr_ok g (by decide) (by decide)
  have e3 := s_law_text (S := S1) hf
  have e4 := s_is_record (S := S1) w
  rw [hx] at e4
  have e5 := s_record_text_ok (S := S1) hx hf w
  have sz : 1000000 ≤ sizeLine := by decide
  have hl := text_len hf
  have e6 : f__law_read [.d (.str r.text)] S1 = .ok (.d r.d) S1 ∧ f_read_record [.d (.str r.text)] S1 = .ok (.d r.d) S1 := by
    have k := s_read_ok (S := S1) (z := r.text) (by omega) (by rw [read_text hf]; exact hx) (read_text hf) hf
    rw [if_pos rfl] at k
    exact ⟨s_law_read_ok k, k⟩
  have g1 : gRepr (.list [.bool true, .bool true]) = some (.d (.str "[True, True]")) := by
    rw [← shown_tt]
    exact gRepr_ok (gd_lst (w := 0) (k := 0) (n := 2) (by simp [gd_bool]) (by simp)) (by decide) (by decide)
  have g2 := gRepr_ok (gd_pair ((gd_str (ch_text hf) hl).up (by decide) (by decide))) (by decide) (by decide)
  have g3 := gRepr_ok (gd_pair g) (by decide) (by decide)
  obtain ⟨ρ', S', el, s6', s7', s8', i', hρ⟩ := for_inv (p := pName 6) (body := b0_law) (I := fun k ρ S => ∃ (s6 s7 s8 : Sl), PS ns S ∧ ρ = [.w 0, .w 1, s2, .d r.d, .d (.str r.d.shown), .d (.str r.text), s6, s7, s8, s9, s10])
    (rangeD 0 6) 0 [.w 0, .w 1, s2, .d r.d, .d (.str r.d.shown), .d (.str r.text), s6, s7, s8, s9, s10] S1 ⟨s6, s7, s8, i1, rfl⟩ fun j y ρ S hy hI => by
      obtain ⟨s6, s7, s8, i, rfl⟩ := hI
      obtain ⟨s7', s8', S', i', e⟩ := s_bent_step (s2 := s2) (s3 := .d r.d) (s4 := .d (.str r.d.shown)) (s6 := .d y) (s7 := s7) (s8 := s8) (s9 := s9) (s10 := s10) i hf hx
      exact ⟨_, rfl, _, S', .inl e, _, s7', s8', i', rfl⟩
  subst hρ
  obtain ⟨l, hl2⟩ : ∃ l, r.told = .tuple l := by cases r <;> exact ⟨_, rfl⟩
  have wt : Wd 2 (.tuple l) := by
    rw [← hl2]
    exact w.2 _ (by simp)
  have gt : Gd 210100 3 (.tuple l) := by rw [← hl2]; exact gd_told hf
  have ed : r.d = .tuple [.str r.word, .tuple l] := by unfold Rc.d; rw [hl2]
  have e7 := s_odd (w := r.word) (l := l) (S := S')
  rw [← ed] at e7
  obtain ⟨a, b, c, eo⟩ := for_odds (S := S') (s2 := s2) (s3 := .d r.d) (s4 := .d (.str r.d.shown)) (s5 := .d (.str r.text)) (s6 := s6') (s7 := s7') (odds r.word l) s8' s9 s10 fun y hy => ⟨odd_no y hy, odd_wd wt y hy, gd_odd (gd_word r) gt y hy⟩
  refine ⟨.d r.d, .d (.str r.d.shown), .d (.str r.text), s6', s7', a, b, c, S', i', ?_⟩
  have k0 : l0_law [.w 0, .w 1, s2, .d r.d, .d (.str r.d.shown), .d (.str r.text), s6, s7, s8, s9, s10] S1 = .nx [.w 0, .w 1, s2, .d r.d, .d (.str r.d.shown), .d (.str r.text), s6', s7', s8', s9, s10] S' := by
    simp [l0_law, el]
  have k1 : l1_law [.w 0, .w 1, s2, .d r.d, .d (.str r.d.shown), .d (.str r.text), s6', s7', s8', s9, s10] S' = .nx [.w 0, .w 1, s2, .d r.d, .d (.str r.d.shown), .d (.str r.text), s6', s7', a, b, c] S' := by
    generalize odds r.word l = os at *
    simp [l1_law, e7, eo]
  clear el eo e7
  generalize r.d.shown = sh at *
  generalize (PyData.list [.str r.text, .str r.text]).shown = sh2 at *
  generalize (PyData.list [r.d, r.d]).shown = sh3 at *
  generalize r.text = tx at *
  generalize r.d = x at *
  simp [b2_law, e1, e2, e3, e4, e5, e6.1, e6.2, g1, g2, g3, kw_is_record, kw_record_text, kw_read_record, k0, k1]
end LW
end

section
set_option maxHeartbeats 1000000
namespace LW
open PySem PySem.Spec L2 ME
open PyProof.Rows hiding St pairD
theorem s_read_odd {x : D} {S : T} (h : x.isStr = false) : f_read_record [.d x] S = .exc "InvalidText" [("value", x)] S := by
  simp [f_read_record, m_read_record, h]
theorem law_says : ∀ ns : List Int, ns.length ≤ 63 → ∃ S', f_law [.w 0] [.frz ns] = .ok (.d (.bool true)) S' := by
  intro ns _
  obtain ⟨S0, i0, e0⟩ := s_law_pot (ns := ns)
  obtain ⟨ρ', S1, el, s2, s3, s4, s5, s6, s7, s8, s9, s10, i1, hρ⟩ := for_inv (p := pName 2) (body := b2_law) (I := fun k ρ S => ∃ (s2 s3 s4 s5 s6 s7 s8 s9 s10 : Sl), PS ns S ∧ ρ = [.w 0, .w 1, s2, s3, s4, s5, s6, s7, s8, s9, s10])
    (rangeD 0 5) 0 [.w 0, .w 1, .un, .un, .un, .un, .un, .un, .un, .un, .un] S0 ⟨_, _, _, _, _, _, _, _, _, i0, rfl⟩ fun j y ρ S hy hI => by
      obtain ⟨s2, s3, s4, s5, s6, s7, s8, s9, s10, i, rfl⟩ := hI
      obtain ⟨a3, a4, a5, a6, a7, a8, a9, a10, S', i', e⟩ := s_turn (s2 := .d y) (s3 := s3) (s4 := s4) (s5 := s5) (s6 := s6) (s7 := s7) (s8 := s8) (s9 := s9) (s10 := s10) i
      exact ⟨_, rfl, _, S', .inl e, _, a3, a4, a5, a6, a7, a8, a9, a10, i', rfl⟩
  subst hρ
  obtain ⟨x, S2, i2, hx, e2⟩ := s_pick (l := [.none, .int 0, .tuple [.str "web"], .list [.str "web"]]) i1 (by simp) (by simp)
  have hs : x.isStr = false ∧ Gd 100 1 x := by
    have g : Gd 3 0 (.str "web") := gd_str (ch_lit (by decide +kernel)) (by decide)
    simp only [List.mem_cons, List.not_mem_nil, or_false] at hx
    rcases hx with rfl | rfl | rfl | rfl
    · exact ⟨rfl, gd_none.up (by decide) (by decide)⟩
    · exact ⟨rfl, (gd_int (by decide)).up (by decide) (by decide)⟩
    · exact ⟨rfl, (gd_tup (w := 3) (k := 0) (n := 1) (by simpa using g) (by simp)).up (by decide) (by decide)⟩
    · exact ⟨rfl, (gd_lst (w := 3) (k := 0) (n := 1) (by simpa using g) (by simp)).up (by decide) (by decide)⟩
  have e3 := s_read_odd (S := S2) hs.1
  have e4 := gRepr_ok hs.2 (by decide) (by decide)
  have k0 : l2_law [.w 0, .w 1, .un, .un, .un, .un, .un, .un, .un, .un, .un] S0 = .nx [.w 0, .w 1, s2, s3, s4, s5, s6, s7, s8, s9, s10] S1 := by
    simp [l2_law, el]
  have e5 : gEq false (.list [.str x.shown, .bool true]) (.list [.str x.shown, .bool true]) = some (.d (.bool true)) := by simp [gEq, PyData.depth, PyData.depthAll, PyData.eqv, PyData.eqvAll]
  refine ⟨S2, ?_⟩
  generalize x.shown = sh at *
  simp [f_law, m_law, e0, k0, e2, t1_law, e3, e4, t_InvalidText, t_WebError, List.lookup, e5]
end LW
end

section
set_option maxHeartbeats 0
namespace LW
open PySem PySem.Spec L2 ME
open PyProof.Rows hiding St
def dd0 : He.DefD := ⟨("_law_pot", none), "_law_pot", "_law_pot", defArgs (top 45), defBody (top 45), defScope (top 45), [], []⟩
def dd1 : He.DefD := ⟨("_law_draw", none), "_law_draw", "_law_draw", defArgs (top 46), defBody (top 46), defScope (top 46), [], []⟩
def dd2 : He.DefD := ⟨("_law_pick", none), "_law_pick", "_law_pick", defArgs (top 47), defBody (top 47), defScope (top 47), [], []⟩
def dd3 : He.DefD := ⟨("_law_web_by", none), "_law_web_by", "_law_web_by", defArgs (top 49), defBody (top 49), defScope (top 49), [], []⟩
def dd4 : He.DefD := ⟨("_law_web", none), "_law_web", "_law_web", defArgs (top 50), defBody (top 50), defScope (top 50), [], []⟩
def dd5 : He.DefD := ⟨("_law_record", none), "_law_record", "_law_record", defArgs (top 51), defBody (top 51), defScope (top 51), [], []⟩
def dd6 : He.DefD := ⟨("_law_odd", none), "_law_odd", "_law_odd", defArgs (top 55), defBody (top 55), defScope (top 55), [], []⟩
def dd7 : He.DefD := ⟨("count_read", none), "count_read", "count_read", defArgs (top 38), defBody (top 38), defScope (top 38), [], []⟩
def dd8 : He.DefD := ⟨("numbers_read", none), "numbers_read", "numbers_read", defArgs (top 39), defBody (top 39), defScope (top 39), [], []⟩
def dd9 : He.DefD := ⟨("rest_read", none), "rest_read", "rest_read", defArgs (top 40), defBody (top 40), defScope (top 40), [], []⟩
def dd10 : He.DefD := ⟨("is_row", none), "is_row", "is_row", defArgs (top 10), defBody (top 10), defScope (top 10), [], []⟩
def dd11 : He.DefD := ⟨("is_integer", none), "is_integer", "is_integer", defArgs (top 7), defBody (top 7), defScope (top 7), [], []⟩
def dd12 : He.DefD := ⟨("is_count", none), "is_count", "is_count", defArgs (top 8), defBody (top 8), defScope (top 8), [], []⟩
def dd13 : He.DefD := ⟨("is_below", none), "is_below", "is_below", defArgs (top 9), defBody (top 9), defScope (top 9), [], []⟩
def dd14 : He.DefD := ⟨("are_ties", none), "are_ties", "are_ties", defArgs (top 15), defBody (top 15), defScope (top 15), [], []⟩
def dd15 : He.DefD := ⟨("is_many", none), "is_many", "is_many", defArgs (top 16), defBody (top 16), defScope (top 16), [], []⟩
def dd16 : He.DefD := ⟨("is_web_of", none), "is_web_of", "is_web_of", defArgs (top 17), defBody (top 17), defScope (top 17), [], []⟩
def dd17 : He.DefD := ⟨("are_counts", none), "are_counts", "are_counts", defArgs (top 30), defBody (top 30), defScope (top 30), [], []⟩
def dd18 : He.DefD := ⟨("is_climbing", none), "is_climbing", "is_climbing", defArgs (top 31), defBody (top 31), defScope (top 31), [], []⟩
def dd19 : He.DefD := ⟨("are_lots", none), "are_lots", "are_lots", defArgs (top 32), defBody (top 32), defScope (top 32), [], []⟩
def dd20 : He.DefD := ⟨("is_parting", none), "is_parting", "is_parting", defArgs (top 33), defBody (top 33), defScope (top 33), [], []⟩
def dd21 : He.DefD := ⟨("is_record_of", none), "is_record_of", "is_record_of", defArgs (top 34), defBody (top 34), defScope (top 34), [], []⟩
def dd22 : He.DefD := ⟨("lot_text", none), "lot_text", "lot_text", defArgs (top 35), defBody (top 35), defScope (top 35), [], []⟩
def dd23 : He.DefD := ⟨("tokens_of", none), "tokens_of", "tokens_of", defArgs (top 36), defBody (top 36), defScope (top 36), [], []⟩
def dd24 : He.DefD := ⟨("text_of_record", none), "text_of_record", "text_of_record", defArgs (top 37), defBody (top 37), defScope (top 37), [], []⟩
def dd25 : He.DefD := ⟨("read_record", none), "read_record", "read_record", defArgs (top 43), defBody (top 43), defScope (top 43), [], []⟩
def dd26 : He.DefD := ⟨("_law_text", none), "_law_text", "_law_text", defArgs (top 52), defBody (top 52), defScope (top 52), [], []⟩
def dd27 : He.DefD := ⟨("_law_bent_text", none), "_law_bent_text", "_law_bent_text", defArgs (top 53), defBody (top 53), defScope (top 53), [], []⟩
def dd28 : He.DefD := ⟨("_law_read", none), "_law_read", "_law_read", defArgs (top 54), defBody (top 54), defScope (top 54), [], []⟩
def dd29 : He.DefD := ⟨("record_text", none), "record_text", "record_text", defArgs (top 42), defBody (top 42), defScope (top 42), [], []⟩
def dd30 : He.DefD := ⟨("is_record", none), "is_record", "is_record", defArgs (top 41), defBody (top 41), defScope (top 41), [], []⟩
def dd31 : He.DefD := ⟨("law", none), "law", "law", defArgs (top 56), defBody (top 56), defScope (top 56), [], []⟩
def dd32 : He.DefD := ⟨("WebError", some "__init__"), "__init__", "WebError.__init__", defArgs (cbody (top 1) 0), defBody (cbody (top 1) 0), defScope (cbody (top 1) 0), [.non], []⟩
def dd33 : He.DefD := ⟨("Unread", some "__init__"), "__init__", "Unread.__init__", defArgs (cbody (top 5) 0), defBody (cbody (top 5) 0), defScope (cbody (top 5) 0), [], []⟩
def fn0 : List He.DefD := [dd0, dd1, dd2, dd3, dd4, dd5, dd6, dd7, dd8, dd9, dd10, dd11, dd12, dd13, dd14, dd15, dd16, dd17, dd18, dd19, dd20, dd21, dd22, dd23, dd24]
def fn1 : List He.DefD := [dd25, dd26, dd27, dd28, dd29, dd30, dd31, dd32, dd33]
abbrev fn : List He.DefD := fn0 ++ fn1
def fa0 : List He.Fa := [.free "abs", .free "all", .free "bool", .free "divmod", .free "enumerate", .free "int", .free "isinstance", .free "len", .free "list", .free "max", .free "range", .free "repr", .free "set", .free "sorted", .free "str", .free "tuple", .free "zip", .str "BETWEEN" ",", .str "DIGITS" "0123456789", .str "LOTS" "lots", .int "MOST_LOTS" 6, .int "MOST_PLACES_records" 16, .int "MOST_PLACES_webs" 16, .int "MOST_TIES_records" 40, .int "MOST_TIES_webs" 40]
def fa1 : List He.Fa := [.str "NONE" "-", .str "PARTING" "parting", .str "PLACES" "places", .str "TIED" "-", .str "WEB_records" "web", .str "WEB_webs" "web", .glo "_law_pot", .glo "_law_draw", .glo "_law_pick", .glo "_law_web_by", .glo "_law_web", .glo "_law_record", .glo "_law_odd", .glo "count_read", .glo "numbers_read", .glo "rest_read", .glo "is_row", .glo "is_integer", .glo "is_count", .glo "is_below", .glo "are_ties", .glo "is_many", .glo "is_web_of", .glo "are_counts", .glo "is_climbing"]
def fa2 : List He.Fa := [.glo "are_lots", .glo "is_parting", .glo "is_record_of", .glo "lot_text", .glo "tokens_of", .glo "text_of_record", .glo "read_record", .glo "_law_text", .glo "_law_bent_text", .glo "_law_read", .glo "record_text", .glo "is_record", .glo "law", .glo "InvalidRecord", .glo "InvalidText", .glo "StateError", .glo "Unread", .glo "WebError"]
abbrev fa : List He.Fa := fa0 ++ fa1 ++ fa2
def xs0 : List Fx := [oxAllB tb ["text", "value"], iniB "InvalidRecord", sameB "InvalidRecord" "WebError", iniB "InvalidText", sameB "InvalidText" "WebError", iniB "Unread", sameB "Unread" "Unread", exmB t_InvalidRecord "InvalidRecord", exmB t_InvalidText "InvalidText", exmB t_Unread "Unread", kitB t_StateError "StateError", kitB t_WebError "WebError"]
abbrev xs : List Fx := xs0
theorem ini_WebError {K : PySem.W.Frag} (c : SaysM fa xs fn K) (ty : PySem.W.typeIn K (.ref (He.ma K (He.ga K "WebError") "__init__")) = some (.type "function")) : IniD K (He.ma K (He.ga K "WebError") "__init__") ["value"] := by
  obtain ⟨fd, Fd⟩ := c.d.def_ 32 (d := dd32) rfl
  have hb : L2.Binds K fd ["self", "value"] [] := by
    obtain ⟨ds, r, q⟩ := FunD.binds1 (ps := ["self", "value"]) Fd 2 1 (fun z => nomatch z) rfl fun _ _ _ _ _ _ _ us its hl hi => match us, its, hl, hi with | [_, _], [_], _, _ => ⟨_, rfl, rfl⟩
    cases r
    exact q
  exact ini_of Fd ty ⟨rfl, rfl, rfl, by decide +kernel, rfl, by decide +kernel, by decide +kernel⟩ (by decide +kernel) (.cons .nil fun _ => rfl) hb (by decide +kernel) (by decide) (by decide)
theorem ini_Unread {K : PySem.W.Frag} (c : SaysM fa xs fn K) (ty : PySem.W.typeIn K (.ref (He.ma K (He.ga K "Unread") "__init__")) = some (.type "function")) : IniD K (He.ma K (He.ga K "Unread") "__init__") ["text"] := by
  obtain ⟨fd, Fd⟩ := c.d.def_ 33 (d := dd33) rfl
  have hb : L2.Binds K fd ["self", "text"] [] := FunD.bindsN (show FunD K _ _ _ _ _ [] [] _ fd from Fd) fun _ _ _ _ _ _ us hl => match us, hl with | [_, _], _ => rfl
  exact ini_of Fd ty ⟨rfl, rfl, rfl, by decide +kernel, rfl, by decide +kernel, by decide +kernel⟩ (by decide +kernel) (.cons .nil fun _ => rfl) hb (by decide +kernel) (by decide) (by decide)
theorem txt_of {K : PySem.W.Frag} {h : Heap} {mg : Str → Option Value} (kx : K.In h) (G : h.Ns mainGlobals mg) (c : SaysM fa xs fn K) : Txt K mg where
  n_abs := He.free_ok kx G (c.d.fact 0 (f := .free "abs") rfl)
  n_all := He.free_ok kx G (c.d.fact 1 (f := .free "all") rfl)
  n_bool := He.free_ok kx G (c.d.fact 2 (f := .free "bool") rfl)
  n_divmod := He.free_ok kx G (c.d.fact 3 (f := .free "divmod") rfl)
  n_enumerate := He.free_ok kx G (c.d.fact 4 (f := .free "enumerate") rfl)
  n_int := He.free_ok kx G (c.d.fact 5 (f := .free "int") rfl)
  n_isinstance := He.free_ok kx G (c.d.fact 6 (f := .free "isinstance") rfl)
  n_len := He.free_ok kx G (c.d.fact 7 (f := .free "len") rfl)
  n_list := He.free_ok kx G (c.d.fact 8 (f := .free "list") rfl)
  n_max := He.free_ok kx G (c.d.fact 9 (f := .free "max") rfl)
  n_range := He.free_ok kx G (c.d.fact 10 (f := .free "range") rfl)
  n_repr := He.free_ok kx G (c.d.fact 11 (f := .free "repr") rfl)
  n_set := He.free_ok kx G (c.d.fact 12 (f := .free "set") rfl)
  n_sorted := He.free_ok kx G (c.d.fact 13 (f := .free "sorted") rfl)
  n_str := He.free_ok kx G (c.d.fact 14 (f := .free "str") rfl)
  n_tuple := He.free_ok kx G (c.d.fact 15 (f := .free "tuple") rfl)
  n_zip := He.free_ok kx G (c.d.fact 16 (f := .free "zip") rfl)
  c_BETWEEN := He.str_ok kx G (c.d.fact 17 (f := .str "BETWEEN" ",") rfl)
  c_DIGITS := He.str_ok kx G (c.d.fact 18 (f := .str "DIGITS" "0123456789") rfl)
  c_LOTS := He.str_ok kx G (c.d.fact 19 (f := .str "LOTS" "lots") rfl)
  c_MOST_LOTS := He.int_ok kx G (c.d.fact 20 (f := .int "MOST_LOTS" 6) rfl)
  c_MOST_PLACES_records := He.int_ok kx G (c.d.fact 21 (f := .int "MOST_PLACES_records" 16) rfl)
  c_MOST_PLACES_webs := He.int_ok kx G (c.d.fact 22 (f := .int "MOST_PLACES_webs" 16) rfl)
  c_MOST_TIES_records := He.int_ok kx G (c.d.fact 23 (f := .int "MOST_TIES_records" 40) rfl)
  c_MOST_TIES_webs := He.int_ok kx G (c.d.fact 24 (f := .int "MOST_TIES_webs" 40) rfl)
  c_NONE := He.str_ok kx G (c.d.fact 25 (f := .str "NONE" "-") rfl)
  c_PARTING := He.str_ok kx G (c.d.fact 26 (f := .str "PARTING" "parting") rfl)
  c_PLACES := He.str_ok kx G (c.d.fact 27 (f := .str "PLACES" "places") rfl)
  c_TIED := He.str_ok kx G (c.d.fact 28 (f := .str "TIED" "-") rfl)
  c_WEB_records := He.str_ok kx G (c.d.fact 29 (f := .str "WEB_records" "web") rfl)
  c_WEB_webs := He.str_ok kx G (c.d.fact 30 (f := .str "WEB_webs" "web") rfl)
  g__law_pot := He.glo_ok kx G (c.d.fact 31 (f := .glo "_law_pot") rfl)
  u__law_pot := c.d.def_ 0 (d := dd0) rfl
  g__law_draw := He.glo_ok kx G (c.d.fact 32 (f := .glo "_law_draw") rfl)
  u__law_draw := c.d.def_ 1 (d := dd1) rfl
  g__law_pick := He.glo_ok kx G (c.d.fact 33 (f := .glo "_law_pick") rfl)
  u__law_pick := c.d.def_ 2 (d := dd2) rfl
  g__law_web_by := He.glo_ok kx G (c.d.fact 34 (f := .glo "_law_web_by") rfl)
  u__law_web_by := c.d.def_ 3 (d := dd3) rfl
  g__law_web := He.glo_ok kx G (c.d.fact 35 (f := .glo "_law_web") rfl)
  u__law_web := c.d.def_ 4 (d := dd4) rfl
  g__law_record := He.glo_ok kx G (c.d.fact 36 (f := .glo "_law_record") rfl)
  u__law_record := c.d.def_ 5 (d := dd5) rfl
  g__law_odd := He.glo_ok kx G (c.d.fact 37 (f := .glo "_law_odd") rfl)
  u__law_odd := c.d.def_ 6 (d := dd6) rfl
  g_count_read := He.glo_ok kx G (c.d.fact 38 (f := .glo "count_read") rfl)
  u_count_read := c.d.def_ 7 (d := dd7) rfl
  g_numbers_read := He.glo_ok kx G (c.d.fact 39 (f := .glo "numbers_read") rfl)
  u_numbers_read := c.d.def_ 8 (d := dd8) rfl
  g_rest_read := He.glo_ok kx G (c.d.fact 40 (f := .glo "rest_read") rfl)
  u_rest_read := c.d.def_ 9 (d := dd9) rfl
  g_is_row := He.glo_ok kx G (c.d.fact 41 (f := .glo "is_row") rfl)
  u_is_row := c.d.def_ 10 (d := dd10) rfl
  g_is_integer := He.glo_ok kx G (c.d.fact 42 (f := .glo "is_integer") rfl)
  u_is_integer := c.d.def_ 11 (d := dd11) rfl
  g_is_count := He.glo_ok kx G (c.d.fact 43 (f := .glo "is_count") rfl)
  u_is_count := c.d.def_ 12 (d := dd12) rfl
  g_is_below := He.glo_ok kx G (c.d.fact 44 (f := .glo "is_below") rfl)
  u_is_below := c.d.def_ 13 (d := dd13) rfl
  g_are_ties := He.glo_ok kx G (c.d.fact 45 (f := .glo "are_ties") rfl)
  u_are_ties := c.d.def_ 14 (d := dd14) rfl
  g_is_many := He.glo_ok kx G (c.d.fact 46 (f := .glo "is_many") rfl)
  u_is_many := c.d.def_ 15 (d := dd15) rfl
  g_is_web_of := He.glo_ok kx G (c.d.fact 47 (f := .glo "is_web_of") rfl)
  u_is_web_of := c.d.def_ 16 (d := dd16) rfl
  g_are_counts := He.glo_ok kx G (c.d.fact 48 (f := .glo "are_counts") rfl)
  u_are_counts := c.d.def_ 17 (d := dd17) rfl
  g_is_climbing := He.glo_ok kx G (c.d.fact 49 (f := .glo "is_climbing") rfl)
  u_is_climbing := c.d.def_ 18 (d := dd18) rfl
  g_are_lots := He.glo_ok kx G (c.d.fact 50 (f := .glo "are_lots") rfl)
  u_are_lots := c.d.def_ 19 (d := dd19) rfl
  g_is_parting := He.glo_ok kx G (c.d.fact 51 (f := .glo "is_parting") rfl)
  u_is_parting := c.d.def_ 20 (d := dd20) rfl
  g_is_record_of := He.glo_ok kx G (c.d.fact 52 (f := .glo "is_record_of") rfl)
  u_is_record_of := c.d.def_ 21 (d := dd21) rfl
  g_lot_text := He.glo_ok kx G (c.d.fact 53 (f := .glo "lot_text") rfl)
  u_lot_text := c.d.def_ 22 (d := dd22) rfl
  g_tokens_of := He.glo_ok kx G (c.d.fact 54 (f := .glo "tokens_of") rfl)
  u_tokens_of := c.d.def_ 23 (d := dd23) rfl
  g_text_of_record := He.glo_ok kx G (c.d.fact 55 (f := .glo "text_of_record") rfl)
  u_text_of_record := c.d.def_ 24 (d := dd24) rfl
  g_read_record := He.glo_ok kx G (c.d.fact 56 (f := .glo "read_record") rfl)
  u_read_record := c.d.def_ 25 (d := dd25) rfl
  g__law_text := He.glo_ok kx G (c.d.fact 57 (f := .glo "_law_text") rfl)
  u__law_text := c.d.def_ 26 (d := dd26) rfl
  g__law_bent_text := He.glo_ok kx G (c.d.fact 58 (f := .glo "_law_bent_text") rfl)
  u__law_bent_text := c.d.def_ 27 (d := dd27) rfl
  g__law_read := He.glo_ok kx G (c.d.fact 59 (f := .glo "_law_read") rfl)
  u__law_read := c.d.def_ 28 (d := dd28) rfl
  g_record_text := He.glo_ok kx G (c.d.fact 60 (f := .glo "record_text") rfl)
  u_record_text := c.d.def_ 29 (d := dd29) rfl
  g_is_record := He.glo_ok kx G (c.d.fact 61 (f := .glo "is_record") rfl)
  u_is_record := c.d.def_ 30 (d := dd30) rfl
  g_law := He.glo_ok kx G (c.d.fact 62 (f := .glo "law") rfl)
  u_law := c.d.def_ 31 (d := dd31) rfl
  g_InvalidRecord := He.glo_ok kx G (c.d.fact 63 (f := .glo "InvalidRecord") rfl)
  g_InvalidText := He.glo_ok kx G (c.d.fact 64 (f := .glo "InvalidText") rfl)
  g_StateError := He.glo_ok kx G (c.d.fact 65 (f := .glo "StateError") rfl)
  g_Unread := He.glo_ok kx G (c.d.fact 66 (f := .glo "Unread") rfl)
  g_WebError := He.glo_ok kx G (c.d.fact 67 (f := .glo "WebError") rfl)
  e_InvalidRecord := by
    obtain ⟨b, hb⟩ := lookB (t := tx) (u := tb) rfl (c := "InvalidRecord") (b := true) rfl
    have o := oxAllB_ok (c.x 0 (f := oxAllB tb ["text", "value"]) rfl) _ _ hb
    have i1 := c.x 1 (f := iniB "InvalidRecord") rfl
    have i2 := c.x 2 (f := sameB "InvalidRecord" "WebError") rfl
    unfold iniB at i1
    rw [Bool.and_eq_true] at i1
    have i2 := of_decide_eq_true i2
    exact ⟨o.ox, i2 ▸ ini_WebError c (i2 ▸ of_decide_eq_true i1.2), of_decide_eq_true i1.1, fun f hf => o.no f (by revert f hf; decide)⟩
  e_InvalidText := by
    obtain ⟨b, hb⟩ := lookB (t := tx) (u := tb) rfl (c := "InvalidText") (b := true) rfl
    have o := oxAllB_ok (c.x 0 (f := oxAllB tb ["text", "value"]) rfl) _ _ hb
    have i1 := c.x 3 (f := iniB "InvalidText") rfl
    have i2 := c.x 4 (f := sameB "InvalidText" "WebError") rfl
    unfold iniB at i1
    rw [Bool.and_eq_true] at i1
    have i2 := of_decide_eq_true i2
    exact ⟨o.ox, i2 ▸ ini_WebError c (i2 ▸ of_decide_eq_true i1.2), of_decide_eq_true i1.1, fun f hf => o.no f (by revert f hf; decide)⟩
  e_Unread := by
    obtain ⟨b, hb⟩ := lookB (t := tx) (u := tb) rfl (c := "Unread") (b := true) rfl
    have o := oxAllB_ok (c.x 0 (f := oxAllB tb ["text", "value"]) rfl) _ _ hb
    have i1 := c.x 5 (f := iniB "Unread") rfl
    have i2 := c.x 6 (f := sameB "Unread" "Unread") rfl
    unfold iniB at i1
    rw [Bool.and_eq_true] at i1
    have i2 := of_decide_eq_true i2
    exact ⟨o.ox, i2 ▸ ini_Unread c (i2 ▸ of_decide_eq_true i1.2), of_decide_eq_true i1.1, fun f hf => o.no f (by revert f hf; decide)⟩
  h_InvalidRecord := exmB_ok (c.x 7 (f := exmB t_InvalidRecord "InvalidRecord") rfl)
  w_InvalidRecord := fun c h => look_all (t := t_InvalidRecord) (P := fun c b => b = true → List.lookup c tx = some true) (by decide +kernel) c true h rfl
  h_InvalidText := exmB_ok (c.x 8 (f := exmB t_InvalidText "InvalidText") rfl)
  w_InvalidText := fun c h => look_all (t := t_InvalidText) (P := fun c b => b = true → List.lookup c tx = some true) (by decide +kernel) c true h rfl
  h_Unread := exmB_ok (c.x 9 (f := exmB t_Unread "Unread") rfl)
  w_Unread := fun c h => look_all (t := t_Unread) (P := fun c b => b = true → List.lookup c tx = some true) (by decide +kernel) c true h rfl
  k_StateError := kitB_ok (c.x 10 (f := kitB t_StateError "StateError") rfl)
  k_WebError := kitB_ok (c.x 11 (f := kitB t_WebError "WebError") rfl)
  x := fun cc b hb => by
    obtain ⟨b2, hb2⟩ := lookB (t := tx) (u := tb) rfl hb
    exact oxAllB_ok (c.x 0 (f := oxAllB tb ["text", "value"]) rfl) _ _ hb2
def loose0 : List PySem.Str := ["WebError", "StateError", "InvalidRecord", "InvalidText", "Unread", "is_integer", "is_count", "is_below", "is_row", "WEB_webs", "MOST_PLACES_webs", "MOST_TIES_webs", "are_ties", "is_many", "is_web_of", "WEB_records", "PLACES", "LOTS", "PARTING", "MOST_PLACES_records", "MOST_TIES_records", "MOST_LOTS", "TIED", "NONE", "BETWEEN"]
def loose1 : List PySem.Str := ["DIGITS", "are_counts", "is_climbing", "are_lots", "is_parting", "is_record_of", "lot_text", "tokens_of", "text_of_record", "count_read", "numbers_read", "rest_read", "is_record", "record_text", "read_record", "_law_pot", "_law_draw", "_law_pick", "_law_mixed", "_law_web_by", "_law_web", "_law_record", "_law_text", "_law_bent_text", "_law_read"]
def loose2 : List PySem.Str := ["_law_odd"]
abbrev loose : List PySem.Str := loose0 ++ loose1 ++ loose2
abbrev R : PySem.W.OpenRow := PySem.W.OpenLaw.row PySem.Challenge.rw_grovesapart_k85_records_and_their_texts
abbrev hk : PySem.W.Hook := hookM 5 fa xs fn
def ob (s : PySem.W.SharedT) : AlM := obsMG 5 fa xs fn (HandSHeadRun.getT s)
theorem ob_eq (s : PySem.W.SharedT) : ob s = hk.obs s.abs := obsMG_eq (HandSHeadRun.getT_eq s)
theorem run (w : World) : HandSHeadRun.RunEq R (PySem.W.view R.prog [56]) hk ob 9000 loose w := by
  intro os
  kernel_rfl
end LW
end


open PySem PySem.W PySem.Calls PyProof.Rows
set_option maxHeartbeats 0
theorem PySem.Challenge.cw_grovesapart_k85_records_and_their_texts_holds : PySem.Challenge.rw_grovesapart_k85_records_and_their_texts.Holds := by
  w_on; o_law
  refine HandSHeadRun.head_any (r := OpenLaw.row PySem.Challenge.rw_grovesapart_k85_records_and_their_texts) (q := view (OpenLaw.row PySem.Challenge.rw_grovesapart_k85_records_and_their_texts).prog [56]) (H := LW.hk) (ob := LW.ob) (M := 9000) (loose := LW.loose) (d := HandSHeadRun.topDef (OpenLaw.row PySem.Challenge.rw_grovesapart_k85_records_and_their_texts).prog 56) (kwd := []) LW.ob_eq
    (by kernel_rfl) (fun s => by kernel_rfl) LW.run (by kernel_rfl) (by kernel_rfl) (by kernel_rfl) (by rfl) (by first | assumption | decide +kernel) (by decide +kernel) ⟨rfl, rfl, rfl, rfl, rfl, by decide +kernel⟩ ?hw ?hc
  case hw => w_witness2
  case hc =>
    refine ME.walk_ofG (l := PySem.Challenge.rw_grovesapart_k85_records_and_their_texts) (n := 63) (k := 10) (x := "script") rfl (by decide) (by kernel_rfl) ⟨rfl, by decide, by decide⟩ ?F
    intro w mg fa h Y G hmg0
    obtain ⟨K, KX, c⟩ := Y
    have T := LW.txt_of KX G c
    obtain ⟨fd, Fd⟩ := T.u_law
    have hmg : mg ("law" : PySem.Str) = some (.ref fa) := by
      have e : (HandSHeadRun.topDef (OpenLaw.row PySem.Challenge.rw_grovesapart_k85_records_and_their_texts).prog 56).name = ("law" : PySem.Str) := by kernel_rfl
      rw [← e]
      exact hmg0
    have e := hmg.symm.trans T.g_law
    cases e
    have b := L2.FunD.bindsA (ps := ["script"]) Fd fun _ _ _ _ _ _ us hl => match us, hl with | [_], _ => rfl
    exact ⟨K, fd, LW.f_law, KX, fun a o h => c.noList h, fun s v => b s [v] rfl, LW.law_says, fun base _ _ => LW.g_law T Fd⟩
