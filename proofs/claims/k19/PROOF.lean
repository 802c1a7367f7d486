import PyProof.Rows.All
import Wide.All
import OpenK.AllK
import Wide.FinOn
import HandS.ForMost
import HandS.ForExc
import HandS.Defaults
import HandS.MakeKwOnly
import HandS.CallSlots
import HandS.Style
import HandS.TupAny
import HandS.TupMul
import HandS.TupLe
import HandS.Deep
import PyProof.Rows.InDataRows
import HandS.ExcInit
import HandS.ExcIs
import HandS.ExcValue
import HandS.TryMany
import HandS.IsInst
import KE.KExcIs
import HandS.Small
import HandS.FStr
import HandS.More
import KE.DataFind
import HandS.SetKeys
import HandS.Iter
import PyProof.DictMoreH
import HandS.SetFor
import HandS.TupSets
import KE.SortData
import HandS.Strs
import HandS.Conv
import HandS.HeadHook2
import HandS.HeadEnd
import HandS.SetBool
import KE.KEqDict
import HandS.Head2
import PySem.Challenge.RW_manypurses_k19_whole_audits
set_option Elab.async false
set_option linter.all false
set_option pp.maxSteps 400
set_option maxRecDepth 100000
set_option maxHeartbeats 4000000
/-! A functional layer: Python values as trees, the store as a list of objects; each rule says that a construct of the text does what a plain function of these does. -/
namespace Fl
open PySem PySem.Spec L2

/-- values: tuples are trees, lists, dicts and instances are places of the store; rol: a list that nobody changes -/
inductive D where
  | non | bl (b : Bool) | int (i : Int) | str (s : Str) | tup (ds : List D) | rol (ds : List D) | ref (n : Nat)
/-- objects of the store -/
inductive MO where
  | lst (ds : List D)
  | dk (kvs : List (Key × D)) | dt (kvs : List (List Key × D))
  | fk (kvs : List (Key × D)) | ft (kvs : List (List Key × D))
  | ins (c : Nat) (fs : List (Nat × D))
  | exc (c : Nat) (f : Option (Nat × D))
abbrev Mem := List MO
structure Lay where
  nm : Nat → Str
  cls : Nat → Addr
  nc : Nat
  inj : ∀ i j, nm i = nm j → i = j

def WrT (K : PySem.W.Frag) (t : Addr) (vs : List V) : Prop :=
  ∃ (o : Obj) (its : Array Value) (n : Nat), K.lookup t = some o ∧ o.cls = .type "tuple" ∧ o.data = .seq its n ∧ its.size ≤ sizeLine ∧ Vals vs its.toList
def WrL (K : PySem.W.Frag) (t : Addr) (vs : List V) : Prop :=
  ∃ (o : Obj) (its : Array Value) (n : Nat), K.lookup t = some o ∧ o.cls = .type "list" ∧ o.dict = none ∧ o.data = .seq its n ∧ its.size ≤ sizeLine ∧ Vals vs its.toList
def TupAt (K : PySem.W.Frag) (H : Hp) (t : Addr) (vs : List V) : Prop := H t = some (.tup vs) ∨ (vs = [] ∧ WrT K t vs)
def RolAt (K : PySem.W.Frag) (H : Hp) (t : Addr) (vs : List V) : Prop := (∃ o, H t = some (.frz o (.lst vs))) ∨ WrL K t vs
theorem TupAt.sq {K : PySem.W.Frag} {H : Hp} {t : Addr} {vs : List V} (h : TupAt K H t vs) : SqT K H t vs := by
  rcases h with h | ⟨_, h⟩
  · exact .inl (.inl h)
  · exact .inr h
theorem RolAt.sq {K : PySem.W.Frag} {H : Hp} {t : Addr} {vs : List V} (h : RolAt K H t vs) : SqL K H t vs := by
  rcases h with ⟨o, h⟩ | h
  · exact .inl (.inr ⟨o, h⟩)
  · exact .inr h

mutual
def Rep (K : PySem.W.Frag) (α : List Addr) (H : Hp) : D → V → Prop
  | .non, v => v = .non
  | .bl b, v => v = .bl b
  | .int i, v => v = .int i
  | .str s, v => v = .str s
  | .tup ds, v => ∃ t vs, v = .ref t ∧ TupAt K H t vs ∧ Reps K α H ds vs
  | .rol ds, v => ∃ t vs, v = .ref t ∧ RolAt K H t vs ∧ Reps K α H ds vs
  | .ref n, v => ∃ a, α[n]? = some a ∧ v = .ref a
def Reps (K : PySem.W.Frag) (α : List Addr) (H : Hp) : List D → List V → Prop
  | [], vs => vs = []
  | d :: ds, vs => ∃ x xs, vs = x :: xs ∧ Rep K α H d x ∧ Reps K α H ds xs
end

/-- what a step keeps: places are added, what stands outside them stays -/
structure Le (α : List Addr) (H : Hp) (α' : List Addr) (H' : Hp) : Prop where
  ext : ∃ β, α' = α ++ β ∧ ∀ b ∈ β, H b = none
  keep : ∀ a o, H a = some o → a ∉ α → H' a = some o
  dom : ∀ a, H a ≠ none → H' a ≠ none
  tups : ∀ a xs, H a = some (.tup xs) → H' a = some (.tup xs)
  rols : ∀ a o xs, H a = some (.frz o (.lst xs)) → H' a = some (.frz o (.lst xs))
theorem Le.refl (α : List Addr) (H : Hp) : Le α H α H := ⟨⟨[], by simp, by simp⟩, fun _ _ h _ => h, fun _ h => h, fun _ _ h => h, fun _ _ _ h => h⟩
theorem Le.trans {α α1 α2 : List Addr} {H H1 H2 : Hp} (a : Le α H α1 H1) (b : Le α1 H1 α2 H2) : Le α H α2 H2 := by
  obtain ⟨β, e, f⟩ := a.ext
  obtain ⟨γ, e', f'⟩ := b.ext
  refine ⟨⟨β ++ γ, by rw [e', e, List.append_assoc], fun x hx => ?_⟩, fun x o h n => ?_, fun x h => b.dom x (a.dom x h), fun x xs h => b.tups x xs (a.tups x xs h), fun x o xs h => b.rols x o xs (a.rols x o xs h)⟩
  · rcases List.mem_append.mp hx with h | h
    · exact f x h
    · have z := f' x h
      cases q : H x with
      | none => rfl
      | some o => exact absurd z (a.dom x (by rw [q]; exact fun z => nomatch z))
  · refine b.keep x o (a.keep x o h n) fun hm => ?_
    rw [e] at hm
    rcases List.mem_append.mp hm with q | q
    · exact n q
    · rw [f x q] at h; cases h
/-- the part of it that values lean on -/
structure Lw (α : List Addr) (H : Hp) (α' : List Addr) (H' : Hp) : Prop where
  ext : ∃ β, α' = α ++ β
  tups : ∀ a xs, H a = some (.tup xs) → H' a = some (.tup xs)
  rols : ∀ a o xs, H a = some (.frz o (.lst xs)) → H' a = some (.frz o (.lst xs))
theorem Le.lw {α α' : List Addr} {H H' : Hp} (l : Le α H α' H') : Lw α H α' H' := ⟨let ⟨β, e, _⟩ := l.ext; ⟨β, e⟩, l.tups, l.rols⟩
theorem Lw.get {α α' : List Addr} {H H' : Hp} (l : Lw α H α' H') {n : Nat} {a : Addr} (h : α[n]? = some a) : α'[n]? = some a := by
  obtain ⟨β, rfl⟩ := l.ext
  obtain ⟨hn, _⟩ := List.getElem?_eq_some_iff.mp h
  rw [List.getElem?_append_left hn]
  exact h
theorem Le.get {α α' : List Addr} {H H' : Hp} (l : Le α H α' H') {n : Nat} {a : Addr} (h : α[n]? = some a) : α'[n]? = some a := l.lw.get h

section
variable {K : PySem.W.Frag} {α α' : List Addr} {H H' : Hp}
theorem TupAt.lw {t : Addr} {vs : List V} (l : Lw α H α' H') (h : TupAt K H t vs) : TupAt K H' t vs := by
  rcases h with h | h
  · exact .inl (l.tups _ _ h)
  · exact .inr h
theorem RolAt.lw {t : Addr} {vs : List V} (l : Lw α H α' H') (h : RolAt K H t vs) : RolAt K H' t vs := by
  rcases h with ⟨o, h⟩ | h
  · exact .inl ⟨o, l.rols _ _ _ h⟩
  · exact .inr h
mutual
theorem Rep.lw (l : Lw α H α' H') : ∀ {d : D} {v : V}, Rep K α H d v → Rep K α' H' d v
  | .non, _, h => by unfold Rep at h ⊢; exact h
  | .bl _, _, h => by unfold Rep at h ⊢; exact h
  | .int _, _, h => by unfold Rep at h ⊢; exact h
  | .str _, _, h => by unfold Rep at h ⊢; exact h
  | .tup ds, _, h => by
    unfold Rep at h ⊢
    obtain ⟨t, vs, e, ht, hr⟩ := h
    exact ⟨t, vs, e, ht.lw l, Reps.lw l hr⟩
  | .rol ds, _, h => by
    unfold Rep at h ⊢
    obtain ⟨t, vs, e, ht, hr⟩ := h
    exact ⟨t, vs, e, ht.lw l, Reps.lw l hr⟩
  | .ref n, _, h => by
    unfold Rep at h ⊢
    obtain ⟨a, e, r⟩ := h
    exact ⟨a, l.get e, r⟩
theorem Reps.lw (l : Lw α H α' H') : ∀ {ds : List D} {vs : List V}, Reps K α H ds vs → Reps K α' H' ds vs
  | [], _, h => by unfold Reps at h ⊢; exact h
  | d :: ds, _, h => by
    unfold Reps at h ⊢
    obtain ⟨x, xs, e, h1, h2⟩ := h
    exact ⟨x, xs, e, Rep.lw l h1, Reps.lw l h2⟩
end
theorem TupAt.le {t : Addr} {vs : List V} (l : Le α H α' H') (h : TupAt K H t vs) : TupAt K H' t vs := h.lw l.lw
theorem RolAt.le {t : Addr} {vs : List V} (l : Le α H α' H') (h : RolAt K H t vs) : RolAt K H' t vs := h.lw l.lw
theorem Rep.le (l : Le α H α' H') {d : D} {v : V} (h : Rep K α H d v) : Rep K α' H' d v := h.lw l.lw
theorem Reps.le (l : Le α H α' H') {ds : List D} {vs : List V} (h : Reps K α H ds vs) : Reps K α' H' ds vs := h.lw l.lw
theorem Reps.length : ∀ {ds : List D} {vs : List V}, Reps K α H ds vs → ds.length = vs.length
  | [], _, h => by unfold Reps at h; subst h; rfl
  | d :: ds, _, h => by
    unfold Reps at h
    obtain ⟨x, xs, rfl, _, h2⟩ := h
    rw [List.length_cons, List.length_cons, Reps.length h2]
theorem reps_nil : Reps K α H [] [] := by unfold Reps; rfl
theorem reps_cons {d : D} {ds : List D} {v : V} {vs : List V} (h : Rep K α H d v) (h2 : Reps K α H ds vs) : Reps K α H (d :: ds) (v :: vs) := by
  unfold Reps; exact ⟨v, vs, rfl, h, h2⟩
theorem Reps.append : ∀ {ds es : List D} {vs ws : List V}, Reps K α H ds vs → Reps K α H es ws → Reps K α H (ds ++ es) (vs ++ ws)
  | [], _, _, _, h, h' => by unfold Reps at h; subst h; exact h'
  | d :: ds, _, _, _, h, h' => by
    unfold Reps at h
    obtain ⟨x, xs, rfl, h1, h2⟩ := h
    exact reps_cons h1 (Reps.append h2 h')
theorem Reps.at {ds : List D} {vs : List V} (h : Reps K α H ds vs) {i : Nat} {d : D} (e : ds[i]? = some d) : ∃ v, vs[i]? = some v ∧ Rep K α H d v := by
  induction ds generalizing vs i with
  | nil => simp at e
  | cons a r ih =>
    unfold Reps at h
    obtain ⟨x, xs, rfl, h1, h2⟩ := h
    cases i with
    | zero =>
      have q : a = d := by simpa using e
      subst q
      exact ⟨x, rfl, h1⟩
    | succ i =>
      obtain ⟨v, e1, e2⟩ := ih h2 (i := i) (by simpa using e)
      exact ⟨v, by simpa using e1, e2⟩
theorem Reps.at' {ds : List D} {vs : List V} (h : Reps K α H ds vs) {i : Nat} {v : V} (e : vs[i]? = some v) : ∃ d, ds[i]? = some d ∧ Rep K α H d v := by
  have hl := h.length
  obtain ⟨hi, _⟩ := List.getElem?_eq_some_iff.mp e
  have hi' : i < ds.length := by omega
  obtain ⟨w, e1, r⟩ := h.at (List.getElem?_eq_getElem hi')
  rw [e] at e1; cases e1
  exact ⟨_, List.getElem?_eq_getElem hi', r⟩
theorem Reps.take : ∀ {ds : List D} {vs : List V} (n : Nat), Reps K α H ds vs → Reps K α H (ds.take n) (vs.take n)
  | _, _, 0, _ => by simp; exact reps_nil
  | [], _, n + 1, h => by unfold Reps at h; subst h; simp; exact reps_nil
  | d :: ds, _, n + 1, h => by
    unfold Reps at h
    obtain ⟨x, xs, rfl, h1, h2⟩ := h
    exact reps_cons h1 (Reps.take n h2)
theorem Reps.drop : ∀ {ds : List D} {vs : List V} (n : Nat), Reps K α H ds vs → Reps K α H (ds.drop n) (vs.drop n)
  | _, _, 0, h => h
  | [], _, n + 1, h => by unfold Reps at h; subst h; simp; exact reps_nil
  | d :: ds, _, n + 1, h => by
    unfold Reps at h
    obtain ⟨x, xs, rfl, h1, h2⟩ := h
    exact Reps.drop n h2
theorem Reps.set : ∀ {ds : List D} {vs : List V} (n : Nat) {d : D} {v : V}, Reps K α H ds vs → Rep K α H d v → Reps K α H (ds.set n d) (vs.set n v)
  | [], _, n, _, _, h, _ => by unfold Reps at h; subst h; simp; exact reps_nil
  | d :: ds, _, 0, _, _, h, r => by
    unfold Reps at h
    obtain ⟨x, xs, rfl, h1, h2⟩ := h
    exact reps_cons r h2
  | d :: ds, _, n + 1, _, _, h, r => by
    unfold Reps at h
    obtain ⟨x, xs, rfl, h1, h2⟩ := h
    exact reps_cons h1 (Reps.set n h2 r)
theorem Reps.erase : ∀ {ds : List D} {vs : List V} (n : Nat), Reps K α H ds vs → Reps K α H (ds.eraseIdx n) (vs.eraseIdx n)
  | [], _, n, h => by unfold Reps at h; subst h; simp; exact reps_nil
  | d :: ds, _, 0, h => by
    unfold Reps at h
    obtain ⟨x, xs, rfl, h1, h2⟩ := h
    exact h2
  | d :: ds, _, n + 1, h => by
    unfold Reps at h
    obtain ⟨x, xs, rfl, h1, h2⟩ := h
    exact reps_cons h1 (Reps.erase n h2)
theorem Reps.reverse : ∀ {ds : List D} {vs : List V}, Reps K α H ds vs → Reps K α H ds.reverse vs.reverse
  | [], _, h => by unfold Reps at h; subst h; exact reps_nil
  | d :: ds, _, h => by
    unfold Reps at h
    obtain ⟨x, xs, rfl, h1, h2⟩ := h
    rw [List.reverse_cons, List.reverse_cons]
    exact (Reps.reverse h2).append (reps_cons h1 reps_nil)
theorem Reps.rep : ∀ {ds : List D} {vs : List V} (k : Nat), Reps K α H ds vs → Reps K α H (List.replicate k ds).flatten (List.replicate k vs).flatten
  | _, _, 0, _ => reps_nil
  | ds, vs, k + 1, h => by
    rw [List.replicate_succ, List.replicate_succ, List.flatten_cons, List.flatten_cons]
    exact h.append (Reps.rep k h)
theorem reps_int {ns : List Int} : Reps K α H (ns.map D.int) (ns.map V.int) := by
  induction ns with
  | nil => exact reps_nil
  | cons n r ih => exact reps_cons (by unfold Rep; rfl) ih
theorem Reps.ints : ∀ {ns : List Int} {vs : List V}, Reps K α H (ns.map D.int) vs → vs = ns.map V.int
  | [], _, h => by rw [List.map_nil] at h; unfold Reps at h; exact h
  | n :: r, _, h => by
    rw [List.map_cons] at h
    unfold Reps at h
    obtain ⟨x, xs, rfl, h1, h2⟩ := h
    unfold Rep at h1
    rw [h1, Reps.ints h2]; rfl
theorem Reps.bls : ∀ {ns : List Bool} {vs : List V}, Reps K α H (ns.map D.bl) vs → vs = ns.map V.bl
  | [], _, h => by rw [List.map_nil] at h; unfold Reps at h; exact h
  | n :: r, _, h => by
    rw [List.map_cons] at h
    unfold Reps at h
    obtain ⟨x, xs, rfl, h1, h2⟩ := h
    unfold Rep at h1
    rw [h1, Reps.bls h2]; rfl
end
end Fl

namespace Fl
open PySem PySem.Spec L2
/-- dict entries -/
def KvR {κ : Type} (K : PySem.W.Frag) (α : List Addr) (H : Hp) : List (κ × D) → List (κ × V) → Prop := Paired fun p q => p.1 = q.1 ∧ Rep K α H p.2 q.2
def FsR (K : PySem.W.Frag) (L : Lay) (α : List Addr) (H : Hp) : List (Nat × D) → List (Str × V) → Prop := Paired fun p q => q.1 = L.nm p.1 ∧ Rep K α H p.2 q.2
/-- the exception object at a: its class, its own dict -/
def ExH (cls : Value) (d : Option Addr) (a : Addr) : HO := .ext fun h => ∃ (oe : Obj) (vs : Array Value), h.get? a = some oe ∧ Zc cls d oe ∧ oe.data = .fields vs
def XRep (K : PySem.W.Frag) (L : Lay) (α : List Addr) (H : Hp) (c : Nat) (f : Option (Nat × D)) (cls : Value) (d : Option Addr) : Prop :=
  cls = .ref (L.cls c) ∧ match f with
    | none => d = none
    | some p => ∃ dd v, d = some dd ∧ H dd = some (.xd [(L.nm p.1, v)]) ∧ Rep K α H p.2 v
def RepO (K : PySem.W.Frag) (L : Lay) (α : List Addr) (H : Hp) (a : Addr) : MO → Prop
  | .lst ds => ∃ vs, H a = some (.lst vs) ∧ Reps K α H ds vs
  | .dk kvs => ∃ vs, H a = some (.dK vs) ∧ KvR K α H kvs vs
  | .dt kvs => ∃ vs, H a = some (.dT vs) ∧ KvR K α H kvs vs
  | .fk kvs => ∃ o vs, H a = some (.frz o (.dK vs)) ∧ KvR K α H kvs vs
  | .ft kvs => ∃ o vs, H a = some (.frz o (.dT vs)) ∧ KvR K α H kvs vs
  | .ins c fs => ∃ dx vs, H a = some (.ins (L.cls c) dx vs) ∧ FsR K L α H fs vs ∧ c < L.nc
  | .exc c f => ∃ cls d, H a = some (ExH cls d a) ∧ XRep K L α H c f cls d ∧ ∀ dd, d = some dd → dd ∉ α
/-- an object of ours: neither a tuple nor a locked list -/
def Ours : HO → Prop
  | .tup _ => False
  | .frz _ (.lst _) => False
  | .xd _ => False
  | .own _ => False
  | _ => True
theorem RepO.ours {K : PySem.W.Frag} {L : Lay} {α : List Addr} {H : Hp} {a : Addr} : ∀ {o : MO}, RepO K L α H a o → ∃ u, H a = some u ∧ Ours u
  | .lst _, ⟨vs, h, _⟩ => ⟨_, h, trivial⟩
  | .dk _, ⟨vs, h, _⟩ => ⟨_, h, trivial⟩
  | .dt _, ⟨vs, h, _⟩ => ⟨_, h, trivial⟩
  | .fk _, ⟨o, vs, h, _⟩ => ⟨_, h, trivial⟩
  | .ft _, ⟨o, vs, h, _⟩ => ⟨_, h, trivial⟩
  | .ins _ _, ⟨dx, vs, h, _⟩ => ⟨_, h, trivial⟩
  | .exc _ _, ⟨c, d, h, _⟩ => ⟨_, h, trivial⟩
structure Rel (K : PySem.W.Frag) (L : Lay) (α : List Addr) (M : Mem) (H : Hp) : Prop where
  len : α.length = M.length
  nd : α.Nodup
  ob : ∀ (n : Nat) (o : MO) (a : Addr), M[n]? = some o → α[n]? = some a → RepO K L α H a o
section
variable {K : PySem.W.Frag} {L : Lay} {α α' : List Addr} {M : Mem} {H H' : Hp}
theorem KvR.lw {κ : Type} (l : Lw α H α' H') {ks : List (κ × D)} {vs : List (κ × V)} (h : KvR K α H ks vs) : KvR K α' H' ks vs := by
  induction h with
  | nil => exact .nil
  | cons p _ ih => exact .cons ⟨p.1, p.2.lw l⟩ ih
theorem FsR.lw (l : Lw α H α' H') {ks : List (Nat × D)} {vs : List (Str × V)} (h : FsR K L α H ks vs) : FsR K L α' H' ks vs := by
  induction h with
  | nil => exact .nil
  | cons p _ ih => exact .cons ⟨p.1, p.2.lw l⟩ ih
theorem KvR.le {κ : Type} (l : Le α H α' H') {ks : List (κ × D)} {vs : List (κ × V)} (h : KvR K α H ks vs) : KvR K α' H' ks vs := h.lw l.lw
theorem FsR.le (l : Le α H α' H') {ks : List (Nat × D)} {vs : List (Str × V)} (h : FsR K L α H ks vs) : FsR K L α' H' ks vs := h.lw l.lw
theorem Rel.at (r : Rel K L α M H) {n : Nat} {o : MO} (h : M[n]? = some o) : ∃ a, α[n]? = some a ∧ RepO K L α H a o := by
  obtain ⟨hn, _⟩ := List.getElem?_eq_some_iff.mp h
  have hn' : n < α.length := by rw [r.len]; exact hn
  exact ⟨α[n], List.getElem?_eq_getElem hn', r.ob n o _ h (List.getElem?_eq_getElem hn')⟩
theorem Rel.mem (r : Rel K L α M H) {a : Addr} (h : a ∈ α) : ∃ u, H a = some u ∧ Ours u := by
  obtain ⟨n, hn, rfl⟩ := List.mem_iff_getElem.mp h
  have hn' : n < M.length := by rw [← r.len]; exact hn
  exact (r.ob n _ _ (List.getElem?_eq_getElem hn') (List.getElem?_eq_getElem hn)).ours
theorem Rel.inj (r : Rel K L α M H) {i j : Nat} {a : Addr} (h : α[i]? = some a) (h' : α[j]? = some a) : i = j := nd_ix r.nd h h'
theorem XRep.lw (l : Lw α H α' H') {c : Nat} {f : Option (Nat × D)} {cls : Value} {d : Option Addr} (h : XRep K L α H c f cls d) (hx : ∀ dd fs, d = some dd → H dd = some (.xd fs) → H' dd = some (.xd fs)) : XRep K L α' H' c f cls d := by
  refine ⟨h.1, ?_⟩
  have h2 := h.2
  cases f with
  | none => exact h2
  | some p =>
    obtain ⟨dd, v, e, hd, hr⟩ := h2
    exact ⟨dd, v, e, hx _ _ e hd, hr.lw l⟩
theorem XRep.out (r : Rel K L α M H) {c : Nat} {f : Option (Nat × D)} {cls : Value} {d : Option Addr} (h : XRep K L α H c f cls d) : ∀ dd, d = some dd → dd ∉ α := fun dd e hm => by
  have h2 := h.2
  cases f with
  | none => rw [h2] at e; cases e
  | some p =>
    obtain ⟨d2, v, e2, hd, _⟩ := h2
    rw [e] at e2; cases e2
    obtain ⟨u, hu, ou⟩ := r.mem hm
    rw [hd] at hu; cases hu
    exact ou
theorem RepO.stayW {a : Addr} (l : Lw α H α' H') (e : H' a = H a) (hx : ∀ dd fs, dd ∉ α → H dd = some (.xd fs) → H' dd = some (.xd fs)) (hb : ∀ b, H b ≠ none → b ∈ α' → b ∈ α) : ∀ {o : MO}, RepO K L α H a o → RepO K L α' H' a o
  | .lst _, ⟨vs, h, q⟩ => ⟨vs, e.trans h, q.lw l⟩
  | .dk _, ⟨vs, h, q⟩ => ⟨vs, e.trans h, q.lw l⟩
  | .dt _, ⟨vs, h, q⟩ => ⟨vs, e.trans h, q.lw l⟩
  | .fk _, ⟨o, vs, h, q⟩ => ⟨o, vs, e.trans h, q.lw l⟩
  | .ft _, ⟨o, vs, h, q⟩ => ⟨o, vs, e.trans h, q.lw l⟩
  | .ins _ _, ⟨dx, vs, h, q, z⟩ => ⟨dx, vs, e.trans h, q.lw l, z⟩
  | .exc c f, ⟨cls, d, h, q, x⟩ => ⟨cls, d, e.trans h, q.lw l (fun dd fs ed => hx dd fs (x dd ed)), fun dd ed hm => by
      have q2 := q.2
      cases f with
      | none => rw [q2] at ed; cases ed
      | some p =>
        obtain ⟨d2, v, e2, hd, _⟩ := q2
        rw [ed] at e2; cases e2
        exact x dd ed (hb dd (by rw [hd]; exact fun z => nomatch z) hm)⟩
theorem RepO.stay {a : Addr} (l : Le α H α' H') (r : Rel K L α M H) (e : H' a = H a) (hb : ∀ b, H b ≠ none → b ∈ α' → b ∈ α) {o : MO} (h : RepO K L α H a o) : RepO K L α' H' a o := h.stayW l.lw e (fun dd fs n z => l.keep _ _ z n) hb
/-- a new tuple -/
theorem Le.tup {p : Addr} {vs : List V} (n : H p = none) : Le α H α (upd H p (.tup vs)) := by
  refine ⟨⟨[], by simp, by simp⟩, fun a o h _ => ?_, fun a h => ?_, fun a xs h => ?_, fun a o xs h => ?_⟩
  · rw [upd_ne (ne_of_none h n)]; exact h
  · by_cases q : a = p
    · rw [q, upd_same]; exact fun z => nomatch z
    · rw [upd_ne q]; exact h
  · rw [upd_ne (ne_of_none h n)]; exact h
  · rw [upd_ne (ne_of_none h n)]; exact h
theorem Le.new {p : Addr} {o : HO} (n : H p = none) : Le α H (α ++ [p]) (upd H p o) := by
  refine ⟨⟨[p], rfl, fun b hb => by rw [List.mem_singleton.mp hb]; exact n⟩, fun a o h _ => ?_, fun a h => ?_, fun a xs h => ?_, fun a o xs h => ?_⟩
  · rw [upd_ne (ne_of_none h n)]; exact h
  · by_cases q : a = p
    · rw [q, upd_same]; exact fun z => nomatch z
    · rw [upd_ne q]; exact h
  · rw [upd_ne (ne_of_none h n)]; exact h
  · rw [upd_ne (ne_of_none h n)]; exact h
theorem Le.write {p : Addr} {o u : HO} (hm : p ∈ α) (hu : H p = some u) (ou : Ours u) : Le α H α (upd H p o) := by
  refine ⟨⟨[], by simp, by simp⟩, fun a o h hn => ?_, fun a h => ?_, fun a xs h => ?_, fun a o xs h => ?_⟩
  · have ne : a ≠ p := fun z => hn (by rw [z]; exact hm)
    rw [upd_ne ne]; exact h
  · by_cases q : a = p
    · rw [q, upd_same]; exact fun z => nomatch z
    · rw [upd_ne q]; exact h
  · have ne : a ≠ p := fun z => by rw [z, hu] at h; cases h; exact ou
    rw [upd_ne ne]; exact h
  · have ne : a ≠ p := fun z => by rw [z, hu] at h; cases h; exact ou
    rw [upd_ne ne]; exact h
theorem Rel.tup (r : Rel K L α M H) {p : Addr} {vs : List V} (n : H p = none) : Rel K L α M (upd H p (.tup vs)) := by
  refine ⟨r.len, r.nd, fun i o a h1 h2 => (r.ob i o a h1 h2).stay (Le.tup n) r ?_ fun _ _ h => h⟩
  obtain ⟨u, hu, _⟩ := (r.ob i o a h1 h2).ours
  rw [upd_ne (ne_of_none hu n)]
theorem Rel.new (r : Rel K L α M H) {p : Addr} {ho : HO} {o : MO} (n : H p = none) (q : RepO K L (α ++ [p]) (upd H p ho) p o) : Rel K L (α ++ [p]) (M ++ [o]) (upd H p ho) := by
  have np : p ∉ α := fun hm => by
    obtain ⟨u, hu, _⟩ := r.mem hm
    rw [n] at hu; cases hu
  refine ⟨by rw [List.length_append, List.length_append, r.len]; rfl, List.nodup_append.mpr ⟨r.nd, by simp, fun a ha b hb => by rw [List.mem_singleton.mp hb]; exact fun z => np (z ▸ ha)⟩, fun i x a h1 h2 => ?_⟩
  by_cases hi : i < M.length
  · rw [List.getElem?_append_left hi] at h1
    rw [List.getElem?_append_left (by rw [r.len]; exact hi)] at h2
    have q' := r.ob i x a h1 h2
    obtain ⟨u, hu, _⟩ := q'.ours
    refine q'.stay (Le.new n) r (by rw [upd_ne (ne_of_none hu n)]) fun b hb hm => ?_
    rcases List.mem_append.mp hm with z | z
    · exact z
    · rw [List.mem_singleton.mp z] at hb; exact absurd n hb
  · rw [List.getElem?_append_right (by omega)] at h1
    rw [List.getElem?_append_right (by rw [r.len]; omega), r.len] at h2
    have e : i - M.length = 0 := by
      cases z : i - M.length with
      | zero => rfl
      | succ k => rw [z] at h1; simp at h1
    rw [e] at h1 h2
    have e1 : o = x := by simpa using h1
    have e2 : p = a := by simpa using h2
    subst e1 e2
    exact q
theorem Rel.write (r : Rel K L α M H) {n : Nat} {p : Addr} {ho : HO} {o : MO} (hp : α[n]? = some p) (q : RepO K L α (upd H p ho) p o) : Rel K L α (M.set n o) (upd H p ho) := by
  have hm : p ∈ α := List.mem_of_getElem? hp
  obtain ⟨u, hu, ou⟩ := r.mem hm
  refine ⟨by rw [List.length_set, r.len], r.nd, fun i x a h1 h2 => ?_⟩
  by_cases hi : i = n
  · subst hi
    rw [hp] at h2; cases h2
    have hn : i < M.length := by
      rw [← r.len]
      exact (List.getElem?_eq_some_iff.mp hp).1
    rw [List.getElem?_set_self hn] at h1
    cases h1
    exact q
  · rw [List.getElem?_set_ne (Ne.symm hi)] at h1
    have ne : a ≠ p := fun z => hi (r.inj (z ▸ h2) hp)
    exact (r.ob i x a h1 h2).stay (Le.write hm hu ou) r (by rw [upd_ne ne]) fun _ _ h => h
end
/-- slots -/
abbrev Sl := List (Option D)
def Slots (K : PySem.W.Frag) (α : List Addr) (H : Hp) (s : Sl) (σ : St) : Prop := s.length = σ.length ∧ ∀ (i : Nat) (d : D), s[i]? = some (some d) → ∃ v, σ[i]? = some (some v) ∧ Rep K α H d v
theorem Slots.lw {K : PySem.W.Frag} {α α' : List Addr} {H H' : Hp} (l : Lw α H α' H') {s : Sl} {σ : L2.St} (h : Slots K α H s σ) : Slots K α' H' s σ := ⟨h.1, fun i d e => let ⟨v, h1, h2⟩ := h.2 i d e; ⟨v, h1, h2.lw l⟩⟩
theorem Slots.le {K : PySem.W.Frag} {α α' : List Addr} {H H' : Hp} (l : Le α H α' H') {s : Sl} {σ : St} (h : Slots K α H s σ) : Slots K α' H' s σ := ⟨h.1, fun i d e => let ⟨v, h1, h2⟩ := h.2 i d e; ⟨v, h1, h2.le l⟩⟩
theorem Slots.set {K : PySem.W.Frag} {α : List Addr} {H : Hp} {s : Sl} {σ : St} (h : Slots K α H s σ) (i : Nat) {d : D} {v : V} (r : Rep K α H d v) : Slots K α H (s.set i (some d)) (σ.set i (some v)) := by
  refine ⟨by rw [List.length_set, List.length_set, h.1], fun j x e => ?_⟩
  by_cases hj : i = j
  · subst hj
    by_cases hi : i < s.length
    · rw [List.getElem?_set_self hi] at e
      cases e
      exact ⟨v, by rw [List.getElem?_set_self (by rw [← h.1]; exact hi)], r⟩
    · rw [List.getElem?_eq_none (by rw [List.length_set]; omega)] at e; cases e
  · rw [List.getElem?_set_ne hj] at e ⊢
    exact h.2 j x e
theorem Slots.del {K : PySem.W.Frag} {α : List Addr} {H : Hp} {s : Sl} {σ : St} (h : Slots K α H s σ) (i : Nat) (v : Option V) : Slots K α H (s.set i none) (σ.set i v) := by
  refine ⟨by rw [List.length_set, List.length_set, h.1], fun j x e => ?_⟩
  by_cases hj : i = j
  · subst hj
    by_cases hi : i < s.length
    · rw [List.getElem?_set_self hi] at e; cases e
    · rw [List.getElem?_eq_none (by rw [List.length_set]; omega)] at e; cases e
  · rw [List.getElem?_set_ne hj] at e ⊢
    exact h.2 j x e
end Fl

namespace Fl
open PySem PySem.Spec L2
/-- what a step gives: a value and a store, or an error of the class c, or nothing that is told -/
inductive Res (A : Type) where
  | ok (a : A) (M : Mem) | exc (c : Nat) (f : Option (Nat × D)) (M : Mem) | bad
def Res.bind {A B : Type} (r : Res A) (g : A → Mem → Res B) : Res B := match r with
  | .ok a M => g a M
  | .exc c f M => .exc c f M
  | .bad => .bad
inductive SR where
  | nx (s : Sl) (M : Mem) | rt (d : D) (M : Mem) | bk (s : Sl) (M : Mem) | ct (s : Sl) (M : Mem) | exc (c : Nat) (f : Option (Nat × D)) (s : Sl) (M : Mem) | bad
abbrev EF := Sl → Mem → Res D
abbrev TF := Sl → Mem → Res Bool
abbrev AF := Sl → Mem → Res (List D)
abbrev SF := Sl → Mem → SR
def Res.toS {A : Type} (r : Res A) (s : Sl) (g : A → Mem → SR) : SR := match r with
  | .ok a M => g a M
  | .exc c f M => .exc c f s M
  | .bad => .bad
abbrev W3 := Value → Option Addr → Hp → Prop
def PostR {A B : Type} (K : PySem.W.Frag) (L : Lay) (R : List Addr → Hp → A → B → Prop) (r : Res A) (α : List Addr) (H : Hp) (Q : B → Hp → Prop) (w : W3) : Prop := match r with
  | .ok a M => ∀ α' H' b, Le α H α' H' → Rel K L α' M H' → R α' H' a b → Q b H'
  | .exc c f M => ∀ α' H' cls d, Le α H α' H' → Rel K L α' M H' → XRep K L α' H' c f cls d → w cls d H'
  | .bad => False
def PostS (K : PySem.W.Frag) (L : Lay) (W : WX) (D : Ends) (α : List Addr) (H : Hp) : SR → Prop
  | .nx s M => ∀ α' H' σ, Le α H α' H' → Rel K L α' M H' → Slots K α' H' s σ → D.nx σ H'
  | .bk s M => ∀ α' H' σ, Le α H α' H' → Rel K L α' M H' → Slots K α' H' s σ → D.bk σ H'
  | .ct s M => ∀ α' H' σ, Le α H α' H' → Rel K L α' M H' → Slots K α' H' s σ → D.ct σ H'
  | .rt d M => ∀ α' H' v, Le α H α' H' → Rel K L α' M H' → Rep K α' H' d v → D.rt v H'
  | .exc c f s M => ∀ α' H' σ cls d, Le α H α' H' → Rel K L α' M H' → Slots K α' H' s σ → XRep K L α' H' c f cls d → W cls d σ H'
  | .bad => False
section
variable {K : PySem.W.Frag} {L : Lay} {α α' : List Addr} {H H' : Hp} {A B C B' : Type} {R : List Addr → Hp → A → B → Prop} {R' : List Addr → Hp → C → B' → Prop}
theorem PostR.le {r : Res A} {Q : B → Hp → Prop} {w : W3} (l : Le α H α' H') (h : PostR K L R r α H Q w) : PostR K L R r α' H' Q w := by
  cases r with
  | ok a M => exact fun α2 H2 b l2 => h α2 H2 b (l.trans l2)
  | exc c f M => exact fun α2 H2 cls d l2 => h α2 H2 cls d (l.trans l2)
  | bad => exact h
theorem PostS.le {r : SR} {W : WX} {D : Ends} (l : Le α H α' H') (h : PostS K L W D α H r) : PostS K L W D α' H' r := by
  cases r with
  | nx s M => exact fun α2 H2 b l2 => h α2 H2 b (l.trans l2)
  | bk s M => exact fun α2 H2 b l2 => h α2 H2 b (l.trans l2)
  | ct s M => exact fun α2 H2 b l2 => h α2 H2 b (l.trans l2)
  | rt s M => exact fun α2 H2 b l2 => h α2 H2 b (l.trans l2)
  | exc c f s M => exact fun α2 H2 σ cls d l2 => h α2 H2 σ cls d (l.trans l2)
  | bad => exact h
theorem PostR.imp {r : Res A} {Q Q' : B → Hp → Prop} {w : W3} (h : PostR K L R r α H Q w) (hq : ∀ b H, Q b H → Q' b H) : PostR K L R r α H Q' w := by
  cases r with
  | ok a M => exact fun α2 H2 b l r2 rr => hq _ _ (h α2 H2 b l r2 rr)
  | exc c f M => exact h
  | bad => exact h
/-- what stands behind a step -/
def Then (K : PySem.W.Frag) (L : Lay) (R : List Addr → Hp → A → B → Prop) (α : List Addr) (H : Hp) (T : A → Mem → List Addr → Hp → Prop) (b : B) (H1 : Hp) : Prop :=
  ∃ a α1 M1, Le α H α1 H1 ∧ Rel K L α1 M1 H1 ∧ R α1 H1 a b ∧ T a M1 α1 H1
theorem PostR.bind {r : Res A} {g : A → Mem → Res C} {Q : B' → Hp → Prop} {w : W3} (h : PostR K L R' (r.bind g) α H Q w) :
    PostR K L R r α H (Then K L R α H fun a M1 α1 H1 => PostR K L R' (g a M1) α1 H1 Q w) w := by
  cases r with
  | ok a M => exact fun α1 H1 b l r1 rr => ⟨a, α1, M, l, r1, rr, PostR.le (r := g a M) l h⟩
  | exc c f M => exact h
  | bad => exact h
theorem PostR.toS {r : Res A} {s : Sl} {σ : L2.St} {g : A → Mem → SR} {W : WX} {D : Ends} (sl : Slots K α H s σ) (h : PostS K L W D α H (r.toS s g)) :
    PostR K L R r α H (Then K L R α H fun a M1 α1 H1 => PostS K L W D α1 H1 (g a M1)) (fun c d H' => W c d σ H') := by
  cases r with
  | ok a M => exact fun α1 H1 b l r1 rr => ⟨a, α1, M, l, r1, rr, PostS.le (r := g a M) l h⟩
  | exc c f M => exact fun α1 H1 cls d l r1 x => h α1 H1 σ cls d l r1 (sl.le l) x
  | bad => exact h
theorem PostR.pure {a : A} {M : Mem} {b : B} {Q : B → Hp → Prop} {w : W3} (h : PostR K L R (.ok a M) α H Q w) (r : Rel K L α M H) (rr : R α H a b) : Q b H := h α H b (Le.refl _ _) r rr
end
abbrev RB : List Addr → Hp → Bool → Bool → Prop := fun _ _ a b => a = b
/-- the readings -/
def LE (K : PySem.W.Frag) (L : Lay) (W : WX) (f : EF) : TE := fun σ H Q => ∃ α M s, Rel K L α M H ∧ Slots K α H s σ ∧ PostR K L (Rep K) (f s M) α H Q (fun c d H' => W c d σ H')
def LT (K : PySem.W.Frag) (L : Lay) (W : WX) (f : TF) : TT := fun σ H Q => ∃ α M s, Rel K L α M H ∧ Slots K α H s σ ∧ PostR K L RB (f s M) α H Q (fun c d H' => W c d σ H')
def LA (K : PySem.W.Frag) (L : Lay) (W : WX) (f : AF) : TA := fun σ H Q => ∃ α M s, Rel K L α M H ∧ Slots K α H s σ ∧ PostR K L (Reps K) (f s M) α H Q (fun c d H' => W c d σ H')
def LS (K : PySem.W.Frag) (L : Lay) (W : WX) (f : SF) : TS := fun D σ H => ∃ α M s, Rel K L α M H ∧ Slots K α H s σ ∧ PostS K L W D α H (f s M)
abbrev FE (X : Cx) (L : Lay) (W : WX) (e : Expr) (f : EF) : Prop := PE X e (LE X.K L W f)
abbrev FT (X : Cx) (L : Lay) (W : WX) (e : Expr) (f : TF) : Prop := PT X e (LT X.K L W f)
abbrev FW (X : Cx) (L : Lay) (W : WX) (e : Expr) (f : TF) : Prop := PW X e (LT X.K L W f)
abbrev FA (X : Cx) (L : Lay) (W : WX) (es : List Expr) (f : AF) : Prop := PA X es (LA X.K L W f)
abbrev FS (X : Cx) (L : Lay) (W : WX) (st : Stmt) (f : SF) : Prop := PS X st (LS X.K L W f)
abbrev FSs (X : Cx) (L : Lay) (W : WX) (st : List Stmt) (f : SF) : Prop := PSs X st (LS X.K L W f)
section
variable {X : Cx}
theorem peImp {e : Expr} {t t' : TE} (h : PE X e t) (i : ∀ σ H Q, t' σ H Q → t σ H Q) : PE X e t' := ⟨fun pins s σ H Q I q => h.run pins s σ H Q I (i σ H Q q)⟩
theorem ptImp {e : Expr} {t t' : TT} (h : PT X e t) (i : ∀ σ H Q, t' σ H Q → t σ H Q) : PT X e t' := ⟨fun pins s σ H Q I q => h.run pins s σ H Q I (i σ H Q q)⟩
theorem pwImp {e : Expr} {t t' : TT} (h : PW X e t) (i : ∀ σ H Q, t' σ H Q → t σ H Q) : PW X e t' := ⟨fun wh pins s σ H Q I q => h.run wh pins s σ H Q I (i σ H Q q)⟩
theorem paImp {e : List Expr} {t t' : TA} (h : PA X e t) (i : ∀ σ H Q, t' σ H Q → t σ H Q) : PA X e t' := ⟨fun pos pins s σ H Q I q => h.run pos pins s σ H Q I (i σ H Q q)⟩
theorem psImp {e : Stmt} {t t' : TS} (h : PS X e t) (i : ∀ D σ H, t' D σ H → t D σ H) : PS X e t' := ⟨fun pins s σ H D I q => h.run pins s σ H D I (i D σ H q)⟩
theorem pssImp {e : List Stmt} {t t' : TS} (h : PSs X e t) (i : ∀ D σ H, t' D σ H → t D σ H) : PSs X e t' := ⟨fun pins s σ H D I q => h.run pins s σ H D I (i D σ H q)⟩
end
section
variable {K : PySem.W.Frag} {L : Lay} {W : WX} {σ : L2.St} {H H' : Hp} {α α' : List Addr} {M : Mem} {s : Sl}
/-- a reading from what stands -/
theorem LE.mk {f : EF} {Q : VK} (r : Rel K L α M H) (sl : Slots K α H s σ) (h : PostR K L (Rep K) (f s M) α H Q (fun c d H' => W c d σ H')) : LE K L W f σ H Q := ⟨α, M, s, r, sl, h⟩
/-! ### the functions -/
def dC (d : D) : EF := fun _ M => .ok d M
def dVar (i : Nat) : EF := fun s M => match s[i]? with
  | some (some d) => .ok d M
  | _ => .bad
def dOp2 (g : D → D → Mem → Res D) (a b : EF) : EF := fun s M => (a s M).bind fun x M1 => (b s M1).bind fun y M2 => g x y M2
def dOp1 (g : D → Mem → Res D) (a : EF) : EF := fun s M => (a s M).bind g
def dOpN (g : List D → Mem → Res D) (a : AF) : EF := fun s M => (a s M).bind g
def dNil : AF := fun _ M => .ok [] M
def dCons (a : EF) (r : AF) : AF := fun s M => (a s M).bind fun x M1 => (r s M1).bind fun xs M2 => .ok (x :: xs) M2
def tVal (a : EF) : TF := fun s M => (a s M).bind fun x M1 => match x with
  | .bl b => .ok b M1
  | _ => .bad
def tNotF (a : TF) : TF := fun s M => (a s M).bind fun x M1 => .ok (!x) M1
def tAndF (a b : TF) : TF := fun s M => (a s M).bind fun x M1 => match x with
  | true => b s M1
  | false => .ok false M1
def tOrF (a b : TF) : TF := fun s M => (a s M).bind fun x M1 => match x with
  | true => .ok true M1
  | false => b s M1
def dAnd (a b : EF) : EF := fun s M => (a s M).bind fun x M1 => match x with
  | .bl true => b s M1
  | .bl false => .ok (.bl false) M1
  | _ => .bad
def dOr (a b : EF) : EF := fun s M => (a s M).bind fun x M1 => match x with
  | .bl true => .ok (.bl true) M1
  | .bl false => b s M1
  | _ => .bad
def dNot (a : EF) : EF := fun s M => (a s M).bind fun x M1 => match x with
  | .bl b => .ok (.bl (!b)) M1
  | _ => .bad
def dIfE (c : TF) (a b : EF) : EF := fun s M => (c s M).bind fun x M1 => match x with
  | true => a s M1
  | false => b s M1
def sNext : SF := fun s M => .nx s M
def SR.seq (r : SR) (u : SF) : SR := match r with
  | .nx s M => u s M
  | r => r
def sSeq (t u : SF) : SF := fun s M => (t s M).seq u
def sDrop (a : EF) : SF := fun s M => (a s M).toS s fun _ M1 => .nx s M1
def sRet (a : EF) : SF := fun s M => (a s M).toS s fun d M1 => .rt d M1
def sSet (i : Nat) (a : EF) : SF := fun s M => (a s M).toS s fun d M1 => .nx (s.set i (some d)) M1
def sIf (c : TF) (t u : SF) : SF := fun s M => (c s M).toS s fun b M1 => match b with
  | true => t s M1
  | false => u s M1
def sBrk : SF := fun s M => .bk s M
def sCont : SF := fun s M => .ct s M
/-- the end of a def's body -/
def SR.fin (r : SR) : Res D := match r with
  | .nx _ M => .ok .non M
  | .rt d M => .ok d M
  | .exc c f _ M => .exc c f M
  | _ => .bad
end
section
variable {X : Cx} {L : Lay} {W : WX} {a b e : Expr} {fa fb f : EF} {pos : Pos}
theorem fe_int {i j pos} : FE X L W (.Constant (.int i) j pos) (dC (.int i)) := peImp pe_int fun σ H Q ⟨α, M, s, r, sl, h⟩ => PostR.pure h r (by unfold Rep; rfl)
theorem fe_bl {b j pos} : FE X L W (.Constant (.bool b) j pos) (dC (.bl b)) := peImp pe_bl fun σ H Q ⟨α, M, s, r, sl, h⟩ => PostR.pure h r (by unfold Rep; rfl)
theorem fe_non {j pos} : FE X L W (.Constant .none j pos) (dC .non) := peImp pe_non fun σ H Q ⟨α, M, s, r, sl, h⟩ => PostR.pure h r (by unfold Rep; rfl)
theorem fe_str {x j pos} : FE X L W (.Constant (.str x) j pos) (dC (.str x)) := peImp pe_str fun σ H Q ⟨α, M, s, r, sl, h⟩ => PostR.pure h r (by unfold Rep; rfl)
theorem fv (i : Nat) {x : Str} {pos : Pos} (hN : X.N[i]? = some x := by rfl) (hv : Vis X.env.scope x := by first | exact Or.inl rfl | exact Or.inr (Or.inl rfl) | exact Or.inr (Or.inr rfl)) (hd : (x == ("__debug__" : Str)) = false := by decide)
    (hcd : (x == ("__classdict__" : Str)) = false := by decide) : FE X L W (.Name x pos) (dVar i) := peImp (pe_var hN hv hd hcd) fun σ H Q ⟨α, M, s, r, sl, h⟩ => by
  unfold dVar at h
  cases q : s[i]? with
  | none => rw [q] at h; exact h.elim
  | some o =>
    cases o with
    | none => rw [q] at h; exact h.elim
    | some d =>
      rw [q] at h
      obtain ⟨v, e1, rr⟩ := sl.2 i d q
      exact ⟨v, e1, PostR.pure h r rr⟩
/-- two values in a row -/
def rF2 (K : PySem.W.Frag) (L : Lay) (g : D → D → Mem → Res D) (w : W3) : R2 := fun x y H Q => ∃ α M dx dy, Rel K L α M H ∧ Rep K α H dx x ∧ Rep K α H dy y ∧ PostR K L (Rep K) (g dx dy M) α H Q w
/-- the function g of two values does what the operator does -/
def Op2 (X : Cx) (L : Lay) (f : Value → Value → Sem Value) (g : D → D → Mem → Res D) : Prop := ∀ w, OpR X f (rF2 X.K L g w)
theorem opImp {f : Value → Value → Sem Value} {r r' : R2} (h : OpR X f r) (i : ∀ x y H Q, r' x y H Q → r x y H Q) : OpR X f r' := fun pins s σ H x y v u Q I rx ry q => h pins s σ H x y v u Q I rx ry (i _ _ _ _ q)
theorem op_case {f : Value → Value → Sem Value} {r : R2} (h : ∀ x y H Q, r x y H Q → ∃ r', OpR X f r' ∧ r' x y H Q) : OpR X f r := fun pins s σ H x y v u Q I rx ry q => by
  obtain ⟨r', h1, h2⟩ := h x y H Q q
  exact h1 pins s σ H x y v u Q I rx ry h2
theorem two_go {K : PySem.W.Frag} {g : D → D → Mem → Res D} {σ : L2.St} {H : Hp} {Q : VK} (h : LE K L W (dOp2 g fa fb) σ H Q) : LE K L W fa σ H fun x H1 => LE K L W fb σ H1 fun y H2 => rF2 K L g (fun c d H' => W c d σ H') x y H2 Q := by
  obtain ⟨α, M, s, r, sl, h⟩ := h
  refine ⟨α, M, s, r, sl, (PostR.bind (R := Rep K) h).imp fun x H1 ⟨dx, α1, M1, l1, r1, rx, h1⟩ => ?_⟩
  refine ⟨α1, M1, s, r1, sl.le l1, (PostR.bind (R := Rep K) h1).imp fun y H2 ⟨dy, α2, M2, l2, r2, ry, h2⟩ => ?_⟩
  exact ⟨α2, M2, dx, dy, r2, rx.le l2, ry, h2⟩
theorem fe_op {op : Operator} {g : D → D → Mem → Res D} (ho : Op2 X L (binaryOp op) g) (ha : FE X L W a fa) (hb : FE X L W b fb) : FE X L W (.BinOp a op b pos) (dOp2 g fa fb) :=
  ⟨fun pins s σ H Q I h => (pe_op (ho (fun c d H' => W c d σ H')) ha hb).run pins s σ H Q I (two_go h)⟩
theorem fe_cmp {op : CmpOp} {g : D → D → Mem → Res D} (ho : Op2 X L (compareOp op) g) (ha : FE X L W a fa) (hb : FE X L W b fb) (hm : behindInMarks op b = false := by first | exact nomark _ | rfl) : FE X L W (.Compare a [op] [b] pos) (dOp2 g fa fb) :=
  ⟨fun pins s σ H Q I h => (pe_cmpR (ho (fun c d H' => W c d σ H')) ha hb hm).run pins s σ H Q I (two_go h)⟩
theorem tval_go {K : PySem.W.Frag} {σ : L2.St} {H : Hp} {Q : Bool → Hp → Prop} (h : LT K L W (tVal f) σ H Q) : LE K L W f σ H fun x H1 => ∃ k, x = .bl k ∧ Q k H1 := by
  obtain ⟨α, M, s, r, sl, h⟩ := h
  refine ⟨α, M, s, r, sl, (PostR.bind (R := Rep K) h).imp fun x H1 ⟨dx, α1, M1, l1, r1, rx, h1⟩ => ?_⟩
  cases dx <;> try exact h1.elim
  unfold Rep at rx
  exact ⟨_, rx, PostR.pure h1 r1 rfl⟩
theorem ft_cmp {op : CmpOp} {g : D → D → Mem → Res D} (ho : Op2 X L (compareOp op) g) (ha : FE X L W a fa) (hb : FE X L W b fb) (hm : behindInMarks op b = false := by first | exact nomark _ | rfl) : FT X L W (.Compare a [op] [b] pos) (tVal (dOp2 g fa fb)) :=
  ⟨fun pins s σ H Q I h => (pt_cmpR (ho (fun c d H' => W c d σ H')) ha hb hm).run pins s σ H Q I (two_go (tval_go h))⟩
theorem ft_val (h : FE X L W e f) (he : ∀ whole, isTrue e X.env whole = (do let v ← whole; standAt e.pos; holding [v] (truthy v)) := by intro _; rfl) : FT X L W e (tVal f) :=
  ptImp (pt_val h he) fun σ H Q q => tval_go q
theorem ft_not {f : TF} (h : FT X L W a f) : FT X L W (.UnaryOp .Not a pos) (tNotF f) := ptImp (pt_not h) fun σ H Q ⟨α, M, s, r, sl, q⟩ =>
  ⟨α, M, s, r, sl, (PostR.bind (R := RB) q).imp fun b H1 ⟨x, α1, M1, l1, r1, rx, h1⟩ => by subst rx; exact PostR.pure h1 r1 rfl⟩
theorem fw_and1 {f : TF} (h : FT X L W a f) : FW X L W (.BoolOp .And [a] pos) f := pw_and1 h
theorem fw_or1 {f : TF} (h : FT X L W a f) : FW X L W (.BoolOp .Or [a] pos) f := pw_or1 h
theorem fw_and {f g : TF} {rest : List Expr} (ha : FT X L W a f) (hb : FW X L W (.BoolOp .And (b :: rest) pos) g) : FW X L W (.BoolOp .And (a :: b :: rest) pos) (tAndF f g) := pwImp (pw_and ha hb) fun σ H Q ⟨α, M, s, r, sl, q⟩ =>
  ⟨α, M, s, r, sl, (PostR.bind (R := RB) q).imp fun b H1 ⟨x, α1, M1, l1, r1, rx, h1⟩ => by
    subst rx
    cases x with
    | true => exact iteT ⟨α1, M1, s, r1, sl.le l1, h1⟩
    | false => exact iteF (PostR.pure h1 r1 rfl)⟩
theorem fw_or {f g : TF} {rest : List Expr} (ha : FT X L W a f) (hb : FW X L W (.BoolOp .Or (b :: rest) pos) g) : FW X L W (.BoolOp .Or (a :: b :: rest) pos) (tOrF f g) := pwImp (pw_or ha hb) fun σ H Q ⟨α, M, s, r, sl, q⟩ =>
  ⟨α, M, s, r, sl, (PostR.bind (R := RB) q).imp fun b H1 ⟨x, α1, M1, l1, r1, rx, h1⟩ => by
    subst rx
    cases x with
    | false => exact iteF ⟨α1, M1, s, r1, sl.le l1, h1⟩
    | true => exact iteT (PostR.pure h1 r1 rfl)⟩
theorem fw_t {f : TF} (h : FW X L W e f) : FT X L W e f := h.pt
theorem fe_one {op} (h : FE X L W a f) : FE X L W (.BoolOp op [a] pos) f := pe_one h
theorem fe_and {rest : List Expr} (ha : FE X L W a fa) (hb : FE X L W (.BoolOp .And (b :: rest) pos) fb) : FE X L W (.BoolOp .And (a :: b :: rest) pos) (dAnd fa fb) := peImp (pe_and ha hb) fun σ H Q ⟨α, M, s, r, sl, q⟩ =>
  ⟨α, M, s, r, sl, (PostR.bind (R := Rep _) q).imp fun b H1 ⟨x, α1, M1, l1, r1, rx, h1⟩ => by
    cases x <;> try exact h1.elim
    rename_i k
    unfold Rep at rx
    refine ⟨k, rx, ?_⟩
    cases k with
    | true => exact iteT ⟨α1, M1, s, r1, sl.le l1, h1⟩
    | false => exact iteF (PostR.pure h1 r1 (by unfold Rep; rfl))⟩
theorem fe_or {rest : List Expr} (ha : FE X L W a fa) (hb : FE X L W (.BoolOp .Or (b :: rest) pos) fb) : FE X L W (.BoolOp .Or (a :: b :: rest) pos) (dOr fa fb) := peImp (pe_or ha hb) fun σ H Q ⟨α, M, s, r, sl, q⟩ =>
  ⟨α, M, s, r, sl, (PostR.bind (R := Rep _) q).imp fun b H1 ⟨x, α1, M1, l1, r1, rx, h1⟩ => by
    cases x <;> try exact h1.elim
    rename_i k
    unfold Rep at rx
    refine ⟨k, rx, ?_⟩
    cases k with
    | false => exact iteF ⟨α1, M1, s, r1, sl.le l1, h1⟩
    | true => exact iteT (PostR.pure h1 r1 (by unfold Rep; rfl))⟩
theorem fe_not (ha : FE X L W a fa) : FE X L W (.UnaryOp .Not a pos) (dNot fa) := peImp (pe_not ha) fun σ H Q ⟨α, M, s, r, sl, q⟩ =>
  ⟨α, M, s, r, sl, (PostR.bind (R := Rep _) q).imp fun b H1 ⟨x, α1, M1, l1, r1, rx, h1⟩ => by
    cases x <;> try exact h1.elim
    unfold Rep at rx
    exact ⟨_, rx, PostR.pure h1 r1 (by unfold Rep; rfl)⟩⟩
theorem fe_if {c : Expr} {fc : TF} (hc : FT X L W c fc) (ha : FE X L W a fa) (hb : FE X L W b fb) : FE X L W (.IfExp c a b pos) (dIfE fc fa fb) := peImp (pe_ifExp hc ha hb) fun σ H Q ⟨α, M, s, r, sl, q⟩ =>
  ⟨α, M, s, r, sl, (PostR.bind (R := RB) q).imp fun b H1 ⟨x, α1, M1, l1, r1, rx, h1⟩ => by
    subst rx
    cases x with
    | true => exact iteT ⟨α1, M1, s, r1, sl.le l1, h1⟩
    | false => exact iteF ⟨α1, M1, s, r1, sl.le l1, h1⟩⟩
theorem fa_nil : FA X L W [] dNil := paImp pa_nil fun σ H Q ⟨α, M, s, r, sl, q⟩ => PostR.pure q r reps_nil
theorem fa_cons {es : List Expr} {t : AF} (ha : FE X L W e f) (hr : FA X L W es t) (hs : starEach (e :: es) X.env = (false, eval e X.env) :: starEach es X.env := by rfl) : FA X L W (e :: es) (dCons f t) :=
  paImp (pa_cons ha hr hs) fun σ H Q ⟨α, M, s, r, sl, q⟩ => ⟨α, M, s, r, sl, (PostR.bind (R := Rep _) q).imp fun x H1 ⟨dx, α1, M1, l1, r1, rx, h1⟩ =>
    ⟨α1, M1, s, r1, sl.le l1, (PostR.bind (R := Reps _) h1).imp fun y H2 ⟨dy, α2, M2, l2, r2, ry, h2⟩ => PostR.pure h2 r2 (reps_cons (rx.le l2) ry)⟩⟩
/-! ### statements -/
theorem fss_nil : FSs X L W [] sNext := pssImp pss_nil fun D σ H ⟨α, M, s, r, sl, q⟩ => q α H σ (Le.refl _ _) r sl
theorem seq_go {K : PySem.W.Frag} {t u : SF} {D : Ends} {σ : L2.St} {H : Hp} (h : LS K L W (sSeq t u) D σ H) : LS K L W t { D with nx := LS K L W u D } σ H := by
  obtain ⟨α, M, s, r, sl, q⟩ := h
  refine ⟨α, M, s, r, sl, ?_⟩
  unfold sSeq at q
  cases e : t s M with
  | nx s1 M1 =>
    rw [e] at q
    exact fun α' H' σ' l r' sl' => ⟨α', M1, s1, r', sl', PostS.le (r := u s1 M1) l q⟩
  | _ => rw [e] at q; exact q
theorem fss_cons {st : Stmt} {rest : List Stmt} {t u : SF} (h1 : FS X L W st t) (h2 : FSs X L W rest u) : FSs X L W (st :: rest) (sSeq t u) := pssImp (pss_cons h1 h2) fun D σ H q => seq_go q
theorem fss_one {st : Stmt} {t : SF} (h1 : FS X L W st t) : FSs X L W [st] t := pss_one h1
theorem fs_pass : FS X L W (.Pass pos) sNext := psImp ps_pass fun D σ H ⟨α, M, s, r, sl, q⟩ => q α H σ (Le.refl _ _) r sl
theorem fs_brk : FS X L W (.Break pos) sBrk := psImp ps_break fun D σ H ⟨α, M, s, r, sl, q⟩ => q α H σ (Le.refl _ _) r sl
theorem fs_cont : FS X L W (.Continue pos) sCont := psImp ps_continue fun D σ H ⟨α, M, s, r, sl, q⟩ => q α H σ (Le.refl _ _) r sl
theorem fs_expr (he : FE X L W e f) (hs : swapsWith e none pos.line X.env = pure false := by rfl) : FS X L W (.Expr e pos) (sDrop f) := psImp (ps_expr he hs) fun D σ H ⟨α, M, s, r, sl, q⟩ =>
  ⟨α, M, s, r, sl, (PostR.toS (R := Rep _) sl q).imp fun x H1 ⟨dx, α1, M1, l1, r1, rx, h1⟩ => h1 α1 H1 σ (Le.refl _ _) r1 (sl.le l1)⟩
theorem fs_ret (he : FE X L W e f) : FS X L W (.Return (some e) pos) (sRet f) := psImp (ps_ret he) fun D σ H ⟨α, M, s, r, sl, q⟩ =>
  ⟨α, M, s, r, sl, (PostR.toS (R := Rep _) sl q).imp fun x H1 ⟨dx, α1, M1, l1, r1, rx, h1⟩ => h1 α1 H1 x (Le.refl _ _) r1 rx⟩
theorem fs_set {i : Nat} {x : Str} {pos' : Pos} (hN : X.N.Nodup) (hi : X.N[i]? = some x) (hx : Loc X.env.scope x) (he : FE X L W e f) (hs : swapsWith e (some (.Name x pos')) pos.line X.env = pure false := by rfl) (hf : X.fn x = true ∨ X.env.scope.names.lookup x = some .local := by first | exact .inl rfl | exact .inr rfl | assumption) :
    FS X L W (.Assign [.Name x pos'] e pos) (sSet i f) := psImp (ps_set hN hi hx he hs hf) fun D σ H ⟨α, M, s, r, sl, q⟩ =>
  ⟨α, M, s, r, sl, (PostR.toS (R := Rep _) sl q).imp fun x H1 ⟨dx, α1, M1, l1, r1, rx, h1⟩ => h1 α1 H1 _ (Le.refl _ _) r1 ((sl.le l1).set i rx)⟩
theorem fs_if {c : Expr} {t u : List Stmt} {fc : TF} {ft fu : SF} (hc : FT X L W c fc) (ht : FSs X L W t ft) (hu : FSs X L W u fu) : FS X L W (.If c t u pos) (sIf fc ft fu) := psImp (ps_if hc ht hu) fun D σ H ⟨α, M, s, r, sl, q⟩ =>
  ⟨α, M, s, r, sl, (PostR.toS (R := RB) sl q).imp fun b H1 ⟨x, α1, M1, l1, r1, rx, h1⟩ => by
    subst rx
    cases x with
    | true => exact iteT ⟨α1, M1, s, r1, sl.le l1, h1⟩
    | false => exact iteF ⟨α1, M1, s, r1, sl.le l1, h1⟩⟩
end
end Fl

namespace Fl
open PySem PySem.Spec L2
/-! ### reading -/
def listAt (M : Mem) (n : Nat) : Option (List D) := match M[n]? with
  | some (.lst ds) => some ds
  | _ => none
def isNonD : D → Bool
  | .non => true
  | _ => false
/-- the items of a list or a tuple -/
def seqOf (M : Mem) : D → Option (List D)
  | .tup ds => some ds
  | .rol ds => some ds
  | .ref n => listAt M n
  | _ => none
theorem listAt_some {M : Mem} {n : Nat} {ds : List D} (h : listAt M n = some ds) : M[n]? = some (.lst ds) := by
  unfold listAt at h
  split at h
  · rename_i e
    cases h
    exact e
  · cases h
section
variable {K : PySem.W.Frag} {L : Lay} {α : List Addr} {M : Mem} {H : Hp}
theorem Rel.list (r : Rel K L α M H) {n : Nat} {ds : List D} (h : listAt M n = some ds) : ∃ a vs, α[n]? = some a ∧ H a = some (.lst vs) ∧ Reps K α H ds vs := by
  obtain ⟨a, ha, vs, hv, hr⟩ := r.at (listAt_some h)
  exact ⟨a, vs, ha, hv, hr⟩
theorem Rep.ref {n : Nat} {v : V} (h : Rep K α H (.ref n) v) : ∃ a, α[n]? = some a ∧ v = .ref a := by unfold Rep at h; exact h
theorem Rep.tup {ds : List D} {v : V} (h : Rep K α H (.tup ds) v) : ∃ t vs, v = .ref t ∧ TupAt K H t vs ∧ Reps K α H ds vs := by unfold Rep at h; exact h
theorem Rep.rol {ds : List D} {v : V} (h : Rep K α H (.rol ds) v) : ∃ t vs, v = .ref t ∧ RolAt K H t vs ∧ Reps K α H ds vs := by unfold Rep at h; exact h
theorem Rep.non {v : V} (h : Rep K α H .non v) : v = .non := by unfold Rep at h; exact h
theorem Rep.bl {b : Bool} {v : V} (h : Rep K α H (.bl b) v) : v = .bl b := by unfold Rep at h; exact h
theorem Rep.int {b : Int} {v : V} (h : Rep K α H (.int b) v) : v = .int b := by unfold Rep at h; exact h
theorem Rep.str {b : Str} {v : V} (h : Rep K α H (.str b) v) : v = .str b := by unfold Rep at h; exact h
theorem rep_bl {b : Bool} : Rep K α H (.bl b) (.bl b) := by unfold Rep; rfl
theorem rep_int {b : Int} : Rep K α H (.int b) (.int b) := by unfold Rep; rfl
theorem rep_str {b : Str} : Rep K α H (.str b) (.str b) := by unfold Rep; rfl
theorem rep_non : Rep K α H .non .non := by unfold Rep; rfl
theorem rep_ref {n : Nat} {a : Addr} (h : α[n]? = some a) : Rep K α H (.ref n) (.ref a) := by unfold Rep; exact ⟨a, h, rfl⟩
theorem rep_tup {ds : List D} {t : Addr} {vs : List V} (h : H t = some (.tup vs)) (h2 : Reps K α H ds vs) : Rep K α H (.tup ds) (.ref t) := by unfold Rep; exact ⟨t, vs, rfl, .inl h, h2⟩
theorem Rep.seq (r : Rel K L α M H) {d : D} {v : V} {ds : List D} (h : Rep K α H d v) (hs : seqOf M d = some ds) : ∃ a vs, v = .ref a ∧ (SqL K H a vs ∨ SqT K H a vs) ∧ Reps K α H ds vs := by
  cases d <;> try (cases hs; done)
  · cases hs
    obtain ⟨t, vs, e, ht, hr⟩ := h.tup
    exact ⟨t, vs, e, .inr ht.sq, hr⟩
  · cases hs
    obtain ⟨t, vs, e, ht, hr⟩ := h.rol
    exact ⟨t, vs, e, .inl ht.sq, hr⟩
  · obtain ⟨a, ha, e⟩ := h.ref
    obtain ⟨a', vs, ha', hv, hr⟩ := r.list hs
    rw [ha] at ha'; cases ha'
    exact ⟨a, vs, e, .inl (.of hv), hr⟩
theorem isNon {d : D} {v : V} (h : Rep K α H d v) : isNonD d = decide (v = .non) := by
  cases d
  · rw [h.non]; rfl
  · rw [h.bl]; rfl
  · rw [h.int]; rfl
  · rw [h.str]; rfl
  · obtain ⟨t, vs, e, _⟩ := h.tup; rw [e]; rfl
  · obtain ⟨t, vs, e, _⟩ := h.rol; rw [e]; rfl
  · obtain ⟨t, _, e⟩ := h.ref; rw [e]; rfl
end
/-! ### as data -/
def allSome {A B : Type} (f : A → Option B) : List A → Option (List B)
  | [] => some []
  | d :: ds => match f d with
    | some p => (match allSome f ds with
      | some ps => some (p :: ps)
      | none => none)
    | none => none
def toPy (M : Mem) : Nat → D → Option PyData
  | 0, _ => none
  | _ + 1, .non => some .none
  | _ + 1, .bl b => some (.bool b)
  | _ + 1, .int i => some (.int i)
  | _ + 1, .str s => some (.str s)
  | k + 1, .tup ds => (allSome (toPy M k) ds).map .tuple
  | k + 1, .rol ds => (allSome (toPy M k) ds).map .list
  | k + 1, .ref n => match listAt M n with
    | some ds => (allSome (toPy M k) ds).map .list
    | none => none
section
variable {K : PySem.W.Frag} {L : Lay} {α : List Addr} {M : Mem} {H : Hp}
theorem allSome_dp {f : D → Option PyData} (hf : ∀ (d : D) (v : V) (p : PyData), f d = some p → Rep K α H d v → Dp K H v p) : ∀ (ds : List D) (vs : List V) (ps : List PyData), allSome f ds = some ps → Reps K α H ds vs → DpAll K H vs ps
  | [], vs, ps, h, q => by unfold allSome at h; cases h; unfold Reps at q; subst q; exact .nil
  | d :: ds, vs, ps, h, q => by
    unfold allSome at h
    unfold Reps at q
    obtain ⟨x, xs, rfl, h1, h2⟩ := q
    split at h
    · rename_i p e1
      split at h
      · rename_i ps' e2
        cases h
        exact .cons (hf d x p e1 h1) (allSome_dp hf ds xs ps' e2 h2)
      · cases h
    · cases h
theorem toPy_dp (r : Rel K L α M H) : ∀ (k : Nat) (d : D) (v : V) (p : PyData), toPy M k d = some p → Rep K α H d v → Dp K H v p
  | 0, _, _, _, h, _ => by unfold toPy at h; cases h
  | k + 1, .non, v, p, h, q => by unfold toPy at h; cases h; rw [q.non]; exact .non
  | k + 1, .bl b, v, p, h, q => by unfold toPy at h; cases h; rw [q.bl]; exact .bl b
  | k + 1, .int b, v, p, h, q => by unfold toPy at h; cases h; rw [q.int]; exact .int b
  | k + 1, .str b, v, p, h, q => by unfold toPy at h; cases h; rw [q.str]; exact .str b
  | k + 1, .tup ds, v, p, h, q => by
    unfold toPy at h
    cases e : allSome (toPy M k) ds with
    | none => rw [e] at h; cases h
    | some ps =>
      rw [e] at h; cases h
      obtain ⟨t, vs, rfl, ht, hr⟩ := q.tup
      exact .tup ht.sq (allSome_dp (toPy_dp r k) ds vs ps e hr)
  | k + 1, .rol ds, v, p, h, q => by
    unfold toPy at h
    cases e : allSome (toPy M k) ds with
    | none => rw [e] at h; cases h
    | some ps =>
      rw [e] at h; cases h
      obtain ⟨t, vs, rfl, ht, hr⟩ := q.rol
      exact .lst ht.sq (allSome_dp (toPy_dp r k) ds vs ps e hr)
  | k + 1, .ref n, v, p, h, q => by
    unfold toPy at h
    cases e0 : listAt M n with
    | none => rw [e0] at h; cases h
    | some ds =>
      rw [e0] at h
      dsimp only at h
      cases e : allSome (toPy M k) ds with
      | none => rw [e] at h; cases h
      | some ps =>
        rw [e] at h; cases h
        obtain ⟨a, ha, rfl⟩ := q.ref
        obtain ⟨a', vs, ha', hv, hr⟩ := r.list e0
        rw [ha] at ha'; cases ha'
        exact .lst (.of hv) (allSome_dp (toPy_dp r k) ds vs ps e hr)
end
/-- == of data -/
def pyEq (M : Mem) (x y : D) : Option Bool := match toPy M 9 x, toPy M 9 y with
  | some a, some b => match SeqAt.shaped a && SeqAt.shaped b with
    | true => some (PyData.eqv a b)
    | false => none
  | _, _ => none
def pyIn (M : Mem) (x : D) (ds : List D) : Option Bool := match toPy M 9 x, allSome (toPy M 8) ds with
  | some a, some bs => match SeqAt.shaped a && SeqAt.shaped (.list bs) with
    | true => some (bs.any fun z => PyData.eqv z a)
    | false => none
  | _, _ => none
def okB (M : Mem) : Option Bool → Res D
  | some b => .ok (.bl b) M
  | none => .bad
def newL (M : Mem) (ds : List D) : Res D := match decide (ds.length ≤ sizeLine) with
  | true => .ok (.ref M.length) (M ++ [.lst ds])
  | false => .bad
/-! ### the operators -/
def gAdd : D → D → Mem → Res D
  | .int i, .int j, M => .ok (.int (i + j)) M
  | .str i, .str j, M => match decide (i.length + j.length ≤ sizeLine) with
    | true => .ok (.str (i ++ j)) M
    | false => .bad
  | .tup xs, .tup ys, M => match decide (xs.length + ys.length ≤ sizeLine) with
    | true => .ok (.tup (xs ++ ys)) M
    | false => .bad
  | .ref m, .ref n, M => match listAt M m, listAt M n with
    | some xs, some ys => newL M (xs ++ ys)
    | _, _ => .bad
  | _, _, _ => .bad
def gSub : D → D → Mem → Res D
  | .int i, .int j, M => .ok (.int (i - j)) M
  | _, _, _ => .bad
def gMul : D → D → Mem → Res D
  | .int i, .int j, M => match decide ((-(2 ^ 64) < i ∧ i < 2 ^ 64) ∨ (-(2 ^ 64) < j ∧ j < 2 ^ 64)) with
    | true => .ok (.int (i * j)) M
    | false => .bad
  | .ref m, .int k, M => match listAt M m with
    | some xs => match decide (-(2 ^ 63) ≤ k ∧ k < 2 ^ 63 ∧ xs.length * k.toNat ≤ sizeLine) with
      | true => .ok (.ref M.length) (M ++ [.lst (List.replicate k.toNat xs).flatten])
      | false => .bad
    | none => .bad
  | .tup xs, .int k, M => match decide (xs ≠ [] ∧ 2 ≤ k ∧ k ≤ 1000 ∧ xs.length ≤ 1000) with
    | true => .ok (.tup (List.replicate k.toNat xs).flatten) M
    | false => .bad
  | _, _, _ => .bad
def gDiv : D → D → Mem → Res D
  | .int i, .int j, M => match decide (0 < j ∧ j < 1073741824) with
    | true => .ok (.int (i / j)) M
    | false => .bad
  | _, _, _ => .bad
def gMod : D → D → Mem → Res D
  | .int i, .int j, M => match decide (0 < j) with
    | true => .ok (.int (i % j)) M
    | false => .bad
  | _, _, _ => .bad
def gPow : D → D → Mem → Res D
  | .int i, .int j, M => match decide (0 ≤ j ∧ j ≤ 1000000 ∧ i.natAbs < 2 ^ 64) with
    | true => .ok (.int (i ^ j.toNat)) M
    | false => .bad
  | _, _, _ => .bad
def gLt : D → D → Mem → Res D
  | .int i, .int j, M => .ok (.bl (decide (i < j))) M
  | _, _, _ => .bad
def gLe : D → D → Mem → Res D
  | .int i, .int j, M => .ok (.bl (decide (i ≤ j))) M
  | _, _, _ => .bad
def gGt : D → D → Mem → Res D
  | .int i, .int j, M => .ok (.bl (decide (j < i))) M
  | _, _, _ => .bad
def gGe : D → D → Mem → Res D
  | .int i, .int j, M => .ok (.bl (decide (j ≤ i))) M
  | _, _, _ => .bad
def gEq : D → D → Mem → Res D := fun x y M => okB M (pyEq M x y)
def gNe : D → D → Mem → Res D := fun x y M => okB M ((pyEq M x y).map (!·))
/-- x is None, True, False (the right one is written) -/
def gIs : D → D → Mem → Res D
  | .non, .non, M => .ok (.bl true) M
  | _, .non, M => .ok (.bl false) M
  | .bl a, .bl b, M => .ok (.bl (decide (a = b))) M
  | _, _, _ => .bad
def gIsNot : D → D → Mem → Res D
  | .non, .non, M => .ok (.bl false) M
  | _, .non, M => .ok (.bl true) M
  | .bl a, .bl b, M => .ok (.bl (!decide (a = b))) M
  | _, _, _ => .bad
section
variable {X : Cx} {L : Lay} {w : W3}
theorem dt {p : Prop} [Decidable p] (h : decide p = true) : p := of_decide_eq_true h
theorem o_add : Op2 X L (binaryOp .Add) gAdd := fun w => op_case fun x y H Q ⟨α, M, dx, dy, r, rx, ry, h⟩ => by
  unfold gAdd at h
  split at h
  · exact ⟨_, op_add, _, _, rx.int, ry.int, PostR.pure h r rep_int⟩
  · split at h
    · rename_i c
      exact ⟨_, op_add_str, _, _, rx.str, ry.str, dt c, PostR.pure h r rep_str⟩
    · exact h.elim
  · split at h
    · rename_i c
      obtain ⟨t, vs, e, ht, hr⟩ := rx.tup
      obtain ⟨t', vs', e', ht', hr'⟩ := ry.tup
      refine ⟨_, op_catA, t, t', vs, vs', e, e', ht.sq, ht'.sq, by rw [← hr.length, ← hr'.length]; exact dt c, ?_⟩
      have mk : ∀ v, Rep X.K α H (.tup _) v → Q v H := fun v rv => PostR.pure h r rv
      have nl : ∀ {ds : List D}, Reps X.K α H ds [] → ds = [] := fun {ds} q => by
        cases ds with
        | nil => rfl
        | cons a b => unfold Reps at q; obtain ⟨_, _, q, _⟩ := q; cases q
      refine ⟨fun ex => ?_, fun nx ey => ?_, fun nx ny p hp => ?_⟩
      · subst ex
        have q := nl hr
        subst q
        exact mk _ (by unfold Rep; exact ⟨t', vs', rfl, ht', hr'⟩)
      · subst ey
        have q := nl hr'
        subst q
        exact mk _ (by rw [List.append_nil]; unfold Rep; exact ⟨t, vs, rfl, ht, hr⟩)
      · have l := Le.tup (α := α) (vs := vs ++ vs') hp
        exact h α _ _ l (r.tup hp) (rep_tup upd_same ((hr.le l).append (hr'.le l)))
    · exact h.elim
  · split at h
    · rename_i xs ys e1 e2
      unfold newL at h
      split at h
      · rename_i c
        obtain ⟨a, ha, rfl⟩ := rx.ref
        obtain ⟨b, hb, rfl⟩ := ry.ref
        obtain ⟨a', vs, ha', hv, hr⟩ := r.list e1
        obtain ⟨b', vs', hb', hv', hr'⟩ := r.list e2
        rw [ha] at ha'; cases ha'
        rw [hb] at hb'; cases hb'
        refine ⟨_, op_cat, a, b, vs, vs', rfl, rfl, hv, hv', ?_, fun p hp => ?_⟩
        · rw [← hr.length, ← hr'.length, ← List.length_append]; exact dt c
        · have l := Le.new (α := α) (o := .lst (vs ++ vs')) hp
          exact h _ _ _ l (r.new (o := .lst _) hp ⟨_, upd_same, (hr.le l).append (hr'.le l)⟩) (rep_ref (by rw [← r.len]; simp))
      · exact h.elim
    · exact h.elim
  · exact h.elim
theorem o_sub : Op2 X L (binaryOp .Sub) gSub := fun w => op_case fun x y H Q ⟨α, M, dx, dy, r, rx, ry, h⟩ => by
  unfold gSub at h
  split at h
  · exact ⟨_, op_sub, _, _, rx.int, ry.int, PostR.pure h r rep_int⟩
  · exact h.elim
theorem flat_len {α : Type} (k : Nat) (xs : List α) : (List.replicate k xs).flatten.length = xs.length * k := by
  rw [List.length_flatten, List.map_replicate, List.sum_replicate_nat, Nat.mul_comm]
theorem o_mul : Op2 X L (binaryOp .Mult) gMul := fun w => op_case fun x y H Q ⟨α, M, dx, dy, r, rx, ry, h⟩ => by
  unfold gMul at h
  split at h
  · split at h
    · rename_i c
      have c2 := dt c
      exact ⟨_, op_mul, _, _, rx.int, ry.int, c2, PostR.pure h r rep_int⟩
    · exact h.elim
  · split at h
    · rename_i xs e1
      split at h
      · rename_i c
        obtain ⟨a, ha, rfl⟩ := rx.ref
        obtain ⟨a', vs, ha', hv, hr⟩ := r.list e1
        rw [ha] at ha'; cases ha'
        obtain ⟨c1, c2, c3⟩ := dt c
        refine ⟨_, op_rep, a, _, vs, rfl, ry.int, hv, c1, c2, by rw [← hr.length]; exact c3, fun p hp => ?_⟩
        exact h _ _ _ (Le.new hp) (r.new (o := .lst _) hp ⟨_, upd_same, (hr.le (Le.new hp)).rep _⟩) (rep_ref (by rw [← r.len]; simp))
      · exact h.elim
    · exact h.elim
  · split at h
    · rename_i c
      obtain ⟨c0, c1, c2, c3⟩ := dt c
      obtain ⟨t, vs, e, ht, hr⟩ := rx.tup
      refine ⟨_, op_repT, t, _, vs, e, ry.int, ht.sq, fun z => ?_, c1, c2, by rw [← hr.length]; exact c3, fun p hp => ?_⟩
      · subst z
        have q := hr.length
        exact c0 (List.length_eq_zero_iff.mp q)
      · exact h α _ _ (Le.tup hp) (r.tup hp) (rep_tup upd_same ((hr.le (Le.tup hp)).rep _))
    · exact h.elim
  · exact h.elim
theorem o_div : Op2 X L (binaryOp .FloorDiv) gDiv := fun w => op_case fun x y H Q ⟨α, M, dx, dy, r, rx, ry, h⟩ => by
  unfold gDiv at h
  split at h
  · split at h
    · rename_i c
      have c2 := dt c
      exact ⟨_, op_fdiv, _, _, rx.int, ry.int, c2, PostR.pure h r rep_int⟩
    · exact h.elim
  · exact h.elim
theorem o_mod : Op2 X L (binaryOp .Mod) gMod := fun w => op_case fun x y H Q ⟨α, M, dx, dy, r, rx, ry, h⟩ => by
  unfold gMod at h
  split at h
  · split at h
    · rename_i c
      exact ⟨_, op_mod, _, _, rx.int, ry.int, dt c, PostR.pure h r rep_int⟩
    · exact h.elim
  · exact h.elim
theorem o_pow : Op2 X L (binaryOp .Pow) gPow := fun w => op_case fun x y H Q ⟨α, M, dx, dy, r, rx, ry, h⟩ => by
  unfold gPow at h
  split at h
  · split at h
    · rename_i c
      have c2 := dt c
      exact ⟨_, op_pow, _, _, rx.int, ry.int, c2, PostR.pure h r rep_int⟩
    · exact h.elim
  · exact h.elim
theorem o_lt : Op2 X L (compareOp .Lt) gLt := fun w => op_case fun x y H Q ⟨α, M, dx, dy, r, rx, ry, h⟩ => by
  unfold gLt at h
  split at h
  · exact ⟨_, op_lt, _, _, rx.int, ry.int, PostR.pure h r rep_bl⟩
  · exact h.elim
theorem o_le : Op2 X L (compareOp .LtE) gLe := fun w => op_case fun x y H Q ⟨α, M, dx, dy, r, rx, ry, h⟩ => by
  unfold gLe at h
  split at h
  · exact ⟨_, op_le, _, _, rx.int, ry.int, PostR.pure h r rep_bl⟩
  · exact h.elim
theorem o_gt : Op2 X L (compareOp .Gt) gGt := fun w => op_case fun x y H Q ⟨α, M, dx, dy, r, rx, ry, h⟩ => by
  unfold gGt at h
  split at h
  · exact ⟨_, op_gt, _, _, rx.int, ry.int, PostR.pure h r rep_bl⟩
  · exact h.elim
theorem o_ge : Op2 X L (compareOp .GtE) gGe := fun w => op_case fun x y H Q ⟨α, M, dx, dy, r, rx, ry, h⟩ => by
  unfold gGe at h
  split at h
  · exact ⟨_, op_ge, _, _, rx.int, ry.int, PostR.pure h r rep_bl⟩
  · exact h.elim
theorem pyEq_dp {K : PySem.W.Frag} {α : List Addr} {M : Mem} {H : Hp} {dx dy : D} {x y : V} {b : Bool} (r : Rel K L α M H) (h : pyEq M dx dy = some b) (rx : Rep K α H dx x) (ry : Rep K α H dy y) :
    ∃ d e, Dp K H x d ∧ Dp K H y e ∧ SeqAt.shaped d = true ∧ SeqAt.shaped e = true ∧ b = PyData.eqv d e := by
  unfold pyEq at h
  split at h
  · rename_i a b' e1 e2
    split at h
    · rename_i c
      cases h
      exact ⟨a, b', toPy_dp r 9 dx x a e1 rx, toPy_dp r 9 dy y b' e2 ry, (Bool.and_eq_true_iff.mp c).1, (Bool.and_eq_true_iff.mp c).2, rfl⟩
    · cases h
  · cases h
theorem o_eq (hu : X.A.units + 70 < cLine) : Op2 X L (compareOp .Eq) gEq := fun w => op_case fun x y H Q ⟨α, M, dx, dy, r, rx, ry, h⟩ => by
  unfold gEq at h
  cases e : pyEq M dx dy with
  | none => rw [e] at h; exact h.elim
  | some b =>
    rw [e] at h
    obtain ⟨d, e2, h1, h2, h3, h4, rfl⟩ := pyEq_dp r e rx ry
    exact ⟨_, op_eqD (by omega), d, e2, h1, h2, h3, h4, PostR.pure h r rep_bl⟩
theorem o_ne (hu : X.A.units + 70 < cLine) : Op2 X L (compareOp .NotEq) gNe := fun w => op_case fun x y H Q ⟨α, M, dx, dy, r, rx, ry, h⟩ => by
  unfold gNe at h
  cases e : pyEq M dx dy with
  | none => rw [e] at h; exact h.elim
  | some b =>
    rw [e] at h
    obtain ⟨d, e2, h1, h2, h3, h4, rfl⟩ := pyEq_dp r e rx ry
    exact ⟨_, op_neD (by omega), d, e2, h1, h2, h3, h4, PostR.pure h r rep_bl⟩
theorem o_is : Op2 X L (compareOp .Is) gIs := fun w => op_case fun x y H Q ⟨α, M, dx, dy, r, rx, ry, h⟩ => by
  unfold gIs at h
  split at h
  · refine ⟨_, op_isN, ry.non, ?_⟩
    have e := rx.non
    subst e
    exact PostR.pure h r rep_bl
  · rename_i hn
    refine ⟨_, op_isN, ry.non, ?_⟩
    have e := isNon rx
    have e2 : isNonD dx = false := by cases dx <;> first | rfl | exact absurd rfl hn
    rw [← e, e2]
    exact PostR.pure h r rep_bl
  · exact ⟨_, op_is_bl, _, _, rx.bl, ry.bl, PostR.pure h r rep_bl⟩
  · exact h.elim
theorem o_isNot : Op2 X L (compareOp .IsNot) gIsNot := fun w => op_case fun x y H Q ⟨α, M, dx, dy, r, rx, ry, h⟩ => by
  unfold gIsNot at h
  split at h
  · refine ⟨_, op_notN, ry.non, ?_⟩
    have e := rx.non
    subst e
    exact PostR.pure h r rep_bl
  · rename_i hn
    refine ⟨_, op_notN, ry.non, ?_⟩
    have e := isNon rx
    have e2 : isNonD dx = false := by cases dx <;> first | rfl | exact absurd rfl hn
    rw [← e, e2]
    exact PostR.pure h r rep_bl
  · exact ⟨_, op_isnot_bl, _, _, rx.bl, ry.bl, PostR.pure h r rep_bl⟩
  · exact h.elim
end
end Fl

namespace Fl
open PySem PySem.Spec L2
/-! ### keys of dicts -/
def OptR (K : PySem.W.Frag) (α : List Addr) (H : Hp) (o : Option D) (v : Option V) : Prop := match o with
  | some d => ∃ u, v = some u ∧ Rep K α H d u
  | none => v = none
theorem OptR.isSome {K : PySem.W.Frag} {α : List Addr} {H : Hp} {o : Option D} {ov : Option V} (h : OptR K α H o ov) : ov.isSome = o.isSome := by
  cases o with
  | none => have q : ov = none := h
            rw [q]; rfl
  | some d => obtain ⟨u, e, _⟩ := h; rw [e]; rfl
def keyOf : D → Option Key
  | .int i => some (.inl i)
  | .str s => some (.inr s)
  | _ => none
def kD : Key → D
  | .inl i => .int i
  | .inr s => .str s
def keysOf : D → Option (List Key)
  | .tup (d :: ds) => allSome keyOf (d :: ds)
  | _ => none
def look {κ : Type} [DecidableEq κ] (kvs : List (κ × D)) (k : κ) : Option D := match kvs with
  | [] => none
  | p :: r => match decide (p.1 = k) with
    | true => some p.2
    | false => look r k
def put {κ : Type} [DecidableEq κ] (kvs : List (κ × D)) (k : κ) (d : D) : List (κ × D) := match kvs with
  | [] => [(k, d)]
  | p :: r => match decide (p.1 = k) with
    | true => (p.1, d) :: r
    | false => p :: put r k d
/-- what the dict at n holds for a key (outside: it is none, or the key does not fit) -/
def dictLook (M : Mem) (n : Nat) (k : D) : Option (Option D) := match M[n]? with
  | some (.dk kvs) => (keyOf k).map (look kvs)
  | some (.fk kvs) => (keyOf k).map (look kvs)
  | some (.dt kvs) => (keysOf k).map (look kvs)
  | some (.ft kvs) => (keysOf k).map (look kvs)
  | _ => none
def isDict (M : Mem) (n : Nat) : Bool := match M[n]? with
  | some (.dk _) => true
  | some (.fk _) => true
  | some (.dt _) => true
  | some (.ft _) => true
  | _ => false
section
variable {K : PySem.W.Frag} {L : Lay} {α : List Addr} {M : Mem} {H : Hp}
theorem keyOf_rep {d : D} {v : V} {k : Key} (h : keyOf d = some k) (r : Rep K α H d v) : v = kV k ∧ d = kD k := by
  cases d <;> try (cases h; done)
  · cases h; exact ⟨r.int, rfl⟩
  · cases h; exact ⟨r.str, rfl⟩
theorem allKeys_rep : ∀ {ds : List D} {vs : List V} {ks : List Key}, allSome keyOf ds = some ks → Reps K α H ds vs → vs = ks.map kV ∧ ds = ks.map kD
  | [], vs, ks, h, r => by unfold allSome at h; cases h; unfold Reps at r; subst r; exact ⟨rfl, rfl⟩
  | d :: ds, vs, ks, h, r => by
    unfold allSome at h
    unfold Reps at r
    obtain ⟨x, xs, rfl, h1, h2⟩ := r
    split at h
    · rename_i p e1
      split at h
      · rename_i ps e2
        cases h
        obtain ⟨a1, a2⟩ := keyOf_rep e1 h1
        obtain ⟨b1, b2⟩ := allKeys_rep e2 h2
        exact ⟨by rw [a1, b1]; rfl, by rw [List.map_cons, ← a2, ← b2]⟩
      · cases h
    · cases h
theorem keysOf_rep {d : D} {v : V} {ks : List Key} (h : keysOf d = some ks) (r : Rep K α H d v) : ∃ t, v = .ref t ∧ H t = some (.tup (ks.map kV)) ∧ d = .tup (ks.map kD) := by
  unfold keysOf at h
  split at h
  · obtain ⟨t, vs, e, ht, hr⟩ := r.tup
    obtain ⟨e1, e2⟩ := allKeys_rep h hr
    subst e1
    rcases ht with ht | ⟨z, _⟩
    · exact ⟨t, e, ht, by rw [e2]⟩
    · have q := hr.length
      rw [z] at q
      simp at q
  · cases h
theorem look_rep {κ : Type} [DecidableEq κ] {kvs : List (κ × D)} {vs : List (κ × V)} (h : KvR K α H kvs vs) (k : κ) : OptR K α H (look kvs k) (valV vs k) := by
  induction h with
  | nil => exact valV_nil
  | @cons p q ps qs hp _ ih =>
    unfold look
    by_cases e : p.1 = k
    · rw [decide_eq_true e]
      have e' : q.1 = k := hp.1.symm.trans e
      exact ⟨q.2, valV_pos e', hp.2⟩
    · rw [decide_eq_false e]
      have e' : ¬ q.1 = k := fun z => e (hp.1.trans z)
      simp only
      rw [valV_neg e']
      exact ih
theorem look_none {κ : Type} [DecidableEq κ] {kvs : List (κ × D)} {vs : List (κ × V)} (h : KvR K α H kvs vs) {k : κ} (e : look kvs k = none) : valV vs k = none := by
  have q := look_rep h k
  rw [e] at q
  exact q
theorem look_some {κ : Type} [DecidableEq κ] {kvs : List (κ × D)} {vs : List (κ × V)} (h : KvR K α H kvs vs) {k : κ} {d : D} (e : look kvs k = some d) : ∃ v, valV vs k = some v ∧ Rep K α H d v := by
  have q := look_rep h k
  rw [e] at q
  exact q
theorem KvR.nokey {κ : Type} [DecidableEq κ] {kvs : List (κ × D)} {vs : List (κ × V)} (h : KvR K α H kvs vs) {k : κ} {d : D} {v : V} (rd : Rep K α H d v) (e : valV vs k = none) : KvR K α H (put kvs k d) (vs ++ [(k, v)]) := by
  induction h with
  | nil => exact .cons ⟨rfl, rd⟩ .nil
  | @cons p q ps qs hp _ ih =>
    have nq : ¬ q.1 = k := fun z => by rw [valV_pos z] at e; cases e
    have np : ¬ p.1 = k := fun z => nq (hp.1.symm.trans z)
    unfold put
    rw [decide_eq_false np]
    rw [valV_neg nq] at e
    exact .cons hp (ih e)
theorem put_cons {κ : Type} [DecidableEq κ] (p : κ × D) (r : List (κ × D)) (k : κ) (d : D) : put (p :: r) k d = if p.1 = k then (p.1, d) :: r else p :: put r k d := by
  by_cases e : p.1 = k
  · rw [if_pos e]
    show (match decide (p.1 = k) with | true => (p.1, d) :: r | false => p :: put r k d) = _
    rw [decide_eq_true e]
  · rw [if_neg e]
    show (match decide (p.1 = k) with | true => (p.1, d) :: r | false => p :: put r k d) = _
    rw [decide_eq_false e]
/-- keys stand once -/
def NdK {κ : Type} : List (κ × D) → Prop := fun kvs => (kvs.map (·.1)).Nodup
theorem KvR.put {κ : Type} [DecidableEq κ] {kvs : List (κ × D)} {vs : List (κ × V)} (h : KvR K α H kvs vs) (nd : (vs.map (·.1)).Nodup) {k : κ} {d : D} {v : V} (rd : Rep K α H d v) : KvR K α H (Fl.put kvs k d) (putK vs k v) := by
  cases e : valV vs k with
  | none => rw [putK_new v e]; exact h.nokey rd e
  | some w =>
    have hk : putK vs k v = vs.map (fun kv => if kv.1 = k then (kv.1, v) else kv) := by
      unfold putK
      rw [valV_any, e]
      rfl
    rw [hk]
    clear hk
    induction h with
    | nil => rw [valV_nil] at e; cases e
    | @cons p q ps qs hp t ih =>
      rw [put_cons, List.map_cons]
      rw [List.map_cons, List.nodup_cons] at nd
      by_cases z : p.1 = k
      · have z' : q.1 = k := hp.1.symm.trans z
        rw [if_pos z, if_pos z']
        have same : qs.map (fun kv => if kv.1 = k then (kv.1, v) else kv) = qs := by
          refine (List.map_congr_left fun x hx => ?_).trans (List.map_id _)
          have nx : ¬ x.1 = k := fun y => nd.1 (List.mem_map.mpr ⟨x, hx, y.trans z'.symm⟩)
          rw [if_neg nx]; rfl
        rw [same]
        exact .cons ⟨hp.1, rd⟩ t
      · have z' : ¬ q.1 = k := fun y => z (hp.1.trans y)
        rw [if_neg z, if_neg z']
        rw [valV_neg z'] at e
        exact .cons hp (ih nd.2 e)
theorem KvR.length {κ : Type} {kvs : List (κ × D)} {vs : List (κ × V)} (h : KvR K α H kvs vs) : kvs.length = vs.length := Paired.length h
theorem dictLook_rep (r : Rel K L α M H) {n : Nat} {k : D} {v x : V} {o : Option D} (h : dictLook M n k = some o) (rn : Rep K α H (.ref n) x) (rk : Rep K α H k v) :
    ∃ a ov, x = .ref a ∧ DGet H a v ov ∧ OptR K α H o ov := by
  obtain ⟨a, ha, rfl⟩ := rn.ref
  have fin : ∀ {κ : Type} [DecidableEq κ] {kvs : List (κ × D)} {vs : List (κ × V)} (q : KvR K α H kvs vs) (key : κ), OptR K α H (look kvs key) (valV vs key) := fun q key => look_rep q key
  unfold dictLook at h
  split at h
  · rename_i kvs e
    obtain ⟨a', ha', vs, hv, q⟩ := r.at e
    rw [ha] at ha'; cases ha'
    cases ek : keyOf k with
    | none => rw [ek] at h; cases h
    | some key =>
      rw [ek] at h; cases h
      obtain ⟨e1, _⟩ := keyOf_rep ek rk
      subst e1
      exact ⟨a, _, rfl, DGet.k hv, fin q key⟩
  · rename_i kvs e
    obtain ⟨a', ha', o', vs, hv, q⟩ := r.at e
    rw [ha] at ha'; cases ha'
    cases ek : keyOf k with
    | none => rw [ek] at h; cases h
    | some key =>
      rw [ek] at h; cases h
      obtain ⟨e1, _⟩ := keyOf_rep ek rk
      subst e1
      exact ⟨a, _, rfl, .inl ⟨vs, key, .inr ⟨o', hv⟩, rfl, rfl⟩, fin q key⟩
  · rename_i kvs e
    obtain ⟨a', ha', vs, hv, q⟩ := r.at e
    rw [ha] at ha'; cases ha'
    cases ek : keysOf k with
    | none => rw [ek] at h; cases h
    | some key =>
      rw [ek] at h; cases h
      obtain ⟨t, e1, e2, _⟩ := keysOf_rep ek rk
      subst e1
      exact ⟨a, _, rfl, DGet.t hv e2, fin q key⟩
  · rename_i kvs e
    obtain ⟨a', ha', o', vs, hv, q⟩ := r.at e
    rw [ha] at ha'; cases ha'
    cases ek : keysOf k with
    | none => rw [ek] at h; cases h
    | some key =>
      rw [ek] at h; cases h
      obtain ⟨t, e1, e2, _⟩ := keysOf_rep ek rk
      subst e1
      exact ⟨a, _, rfl, .inr ⟨vs, key, t, .inr ⟨o', hv⟩, rfl, e2, rfl⟩, fin q key⟩
  · cases h
end
/-! ### in -/
def inB (M : Mem) (x y : D) : Option Bool := match y with
  | .str s => match x with
    | .str i => some (!(Builtin.Str.occurrences s i 0 s.length 1).isEmpty)
    | _ => none
  | .tup ds => pyIn M x ds
  | .rol ds => pyIn M x ds
  | .ref n => match listAt M n with
    | some ds => pyIn M x ds
    | none => (dictLook M n x).map (·.isSome)
  | _ => none
def gIn : D → D → Mem → Res D := fun x y M => okB M (inB M x y)
def gNotIn : D → D → Mem → Res D := fun x y M => okB M ((inB M x y).map (!·))
theorem pyIn_dp {K : PySem.W.Frag} {L : Lay} {α : List Addr} {M : Mem} {H : Hp} {dx : D} {ds : List D} {x : V} {vs : List V} {b : Bool} (r : Rel K L α M H) (h : pyIn M dx ds = some b) (rx : Rep K α H dx x) (ry : Reps K α H ds vs) :
    ∃ d es, Dp K H x d ∧ DpAll K H vs es ∧ SeqAt.shaped d = true ∧ SeqAt.shaped (.list es) = true ∧ b = es.any fun z => PyData.eqv z d := by
  unfold pyIn at h
  split at h
  · rename_i a bs e1 e2
    split at h
    · rename_i c
      cases h
      exact ⟨a, bs, toPy_dp r 9 dx x a e1 rx, allSome_dp (toPy_dp r 8) ds vs bs e2 ry, (Bool.and_eq_true_iff.mp c).1, (Bool.and_eq_true_iff.mp c).2, rfl⟩
    · cases h
  · cases h
section
variable {X : Cx} {L : Lay} {w : W3}
theorem op_inT (hu : X.A.units + 65 < cLine) : OpR X (compareOp .In) (fun x y H Q => ∃ d ds t vs, Dp X.K H x d ∧ y = .ref t ∧ SqT X.K H t vs ∧ DpAll X.K H vs ds ∧ SeqAt.shaped d = true ∧ SeqAt.shaped (.list ds) = true ∧ Q (.bl (ds.any fun z => PyData.eqv z d)) H) := by
  intro pins s σ H x y v u Q I rx ry h
  obtain ⟨d, ds, t, vs, hd, rfl, ht, he, sd, se, q⟩ := h
  obtain ⟨as, r1⟩ := Dp.reads I d x v hd rx
  obtain ⟨bs, r2⟩ := Dp.reads I (.tuple ds) _ u (.tup ht he) ry
  exact SeqAt.in_tuple_reads r2 r1 (show PyData.canLayAll0 ds = true from SeqAt.canLay_of_shaped se) (SeqAt.canLay_of_shaped sd) (PyProof.Rows.room_in_shaped sd hu) ⟨.bl _, H, I, rfl, q⟩
theorem op_notInT (hu : X.A.units + 65 < cLine) : OpR X (compareOp .NotIn) (fun x y H Q => ∃ d ds t vs, Dp X.K H x d ∧ y = .ref t ∧ SqT X.K H t vs ∧ DpAll X.K H vs ds ∧ SeqAt.shaped d = true ∧ SeqAt.shaped (.list ds) = true ∧ Q (.bl (!ds.any fun z => PyData.eqv z d)) H) := by
  intro pins s σ H x y v u Q I rx ry h
  obtain ⟨d, ds, t, vs, hd, rfl, ht, he, sd, se, q⟩ := h
  obtain ⟨as, r1⟩ := Dp.reads I d x v hd rx
  obtain ⟨bs, r2⟩ := Dp.reads I (.tuple ds) _ u (.tup ht he) ry
  exact SeqAt.notIn_tuple_reads r2 r1 (show PyData.canLayAll0 ds = true from SeqAt.canLay_of_shaped se) (SeqAt.canLay_of_shaped sd) (PyProof.Rows.room_in_shaped sd hu) ⟨.bl _, H, I, rfl, q⟩
theorem op_inDict (hu : X.A.units + 1 < cLine) : OpR X (compareOp .In) (fun x y H Q => ∃ a o, y = .ref a ∧ DGet H a x o ∧ Q (.bl o.isSome) H) := by
  intro pins s σ H x y v u Q I rx ry h
  obtain ⟨a, o, rfl, g, q⟩ := h
  obtain rfl : u = Value.ref a := ry
  exact d_in hu I g rx fun s3 I3 => ⟨.bl o.isSome, H, I3, rfl, q⟩
theorem op_notInDict (hu : X.A.units + 1 < cLine) : OpR X (compareOp .NotIn) (fun x y H Q => ∃ a o, y = .ref a ∧ DGet H a x o ∧ Q (.bl (!o.isSome)) H) := by
  intro pins s σ H x y v u Q I rx ry h
  obtain ⟨a, o, rfl, g, q⟩ := h
  obtain rfl : u = Value.ref a := ry
  exact d_notIn hu I g rx fun s3 I3 => ⟨.bl (!o.isSome), H, I3, rfl, q⟩
theorem o_in (hu : X.A.units + 70 < cLine) : Op2 X L (compareOp .In) gIn := fun w => op_case fun x y H Q ⟨α, M, dx, dy, r, rx, ry, h⟩ => by
  unfold gIn at h
  cases eb : inB M dx dy with
  | none => rw [eb] at h; exact h.elim
  | some b =>
    rw [eb] at h
    have q : Q (.bl b) H := PostR.pure h r rep_bl
    clear h
    unfold inB at eb
    split at eb
    · split at eb
      · cases eb
        exact ⟨_, op_in_str, _, _, rx.str, ry.str, q⟩
      · cases eb
    · obtain ⟨t, vs, e, ht, hr⟩ := ry.tup
      obtain ⟨d, es, h1, h2, h3, h4, rfl⟩ := pyIn_dp r eb rx hr
      exact ⟨_, op_inT (by omega), d, es, t, vs, h1, e, ht.sq, h2, h3, h4, q⟩
    · obtain ⟨t, vs, e, ht, hr⟩ := ry.rol
      obtain ⟨d, es, h1, h2, h3, h4, rfl⟩ := pyIn_dp r eb rx hr
      subst e
      exact ⟨_, op_inD (by omega), d, es, h1, .lst ht.sq h2, h3, h4, q⟩
    · split at eb
      · rename_i ds e1
        obtain ⟨a, ha, rfl⟩ := ry.ref
        obtain ⟨a', vs, ha', hv, hr⟩ := r.list e1
        rw [ha] at ha'; cases ha'
        obtain ⟨d, es, h1, h2, h3, h4, rfl⟩ := pyIn_dp r eb rx hr
        exact ⟨_, op_inD (by omega), d, es, h1, .lst (.of hv) h2, h3, h4, q⟩
      · rename_i n _ _
        cases e : dictLook M n dx with
        | none => rw [e] at eb; cases eb
        | some o =>
          rw [e] at eb; cases eb
          obtain ⟨a, ov, rfl, g, z⟩ := dictLook_rep r e ry rx
          have z2 := z.isSome
          exact ⟨_, op_inDict (by omega), a, ov, rfl, g, by rw [z2]; exact q⟩
    · cases eb
theorem o_notIn (hu : X.A.units + 70 < cLine) : Op2 X L (compareOp .NotIn) gNotIn := fun w => op_case fun x y H Q ⟨α, M, dx, dy, r, rx, ry, h⟩ => by
  unfold gNotIn at h
  cases eb : inB M dx dy with
  | none => rw [eb] at h; exact h.elim
  | some b =>
    rw [eb] at h
    have q : Q (.bl (!b)) H := PostR.pure h r rep_bl
    clear h
    unfold inB at eb
    split at eb
    · split at eb
      · cases eb
        exact ⟨_, L2.op_notin_str, _, _, rx.str, ry.str, q⟩
      · cases eb
    · obtain ⟨t, vs, e, ht, hr⟩ := ry.tup
      obtain ⟨d, es, h1, h2, h3, h4, rfl⟩ := pyIn_dp r eb rx hr
      exact ⟨_, op_notInT (by omega), d, es, t, vs, h1, e, ht.sq, h2, h3, h4, q⟩
    · obtain ⟨t, vs, e, ht, hr⟩ := ry.rol
      obtain ⟨d, es, h1, h2, h3, h4, rfl⟩ := pyIn_dp r eb rx hr
      subst e
      exact ⟨_, op_notInD (by omega), d, es, h1, .lst ht.sq h2, h3, h4, q⟩
    · split at eb
      · rename_i ds e1
        obtain ⟨a, ha, rfl⟩ := ry.ref
        obtain ⟨a', vs, ha', hv, hr⟩ := r.list e1
        rw [ha] at ha'; cases ha'
        obtain ⟨d, es, h1, h2, h3, h4, rfl⟩ := pyIn_dp r eb rx hr
        exact ⟨_, op_notInD (by omega), d, es, h1, .lst (.of hv) h2, h3, h4, q⟩
      · rename_i n _ _
        cases e : dictLook M n dx with
        | none => rw [e] at eb; cases eb
        | some o =>
          rw [e] at eb; cases eb
          obtain ⟨a, ov, rfl, g, z⟩ := dictLook_rep r e ry rx
          have z2 := z.isSome
          exact ⟨_, op_notInDict (by omega), a, ov, rfl, g, by rw [z2]; exact q⟩
    · cases eb
end
/-! ### items and slices -/
def ixF (n : Nat) (i : Int) : Option Nat := match decide (0 ≤ i) with
  | true => (match decide (i < n) with
    | true => some i.toNat
    | false => none)
  | false => (match decide (-(n : Int) ≤ i) with
    | true => some (i + n).toNat
    | false => none)
theorem ixF_eq (n : Nat) (i : Int) : ixF n i = ixN n i := by
  unfold ixF ixN
  by_cases h : 0 ≤ i
  · rw [decide_eq_true h, if_pos h]
    by_cases h2 : i < n
    · rw [decide_eq_true h2, if_pos h2]
    · rw [decide_eq_false h2, if_neg h2]
  · rw [decide_eq_false h, if_neg h]
    by_cases h2 : -(n : Int) ≤ i
    · rw [decide_eq_true h2, if_pos h2]
    · rw [decide_eq_false h2, if_neg h2]
def itemAt (ds : List D) (i : Int) : Option D := match ixF ds.length i with
  | some j => ds[j]?
  | none => none
def okD (M : Mem) : Option D → Res D
  | some d => .ok d M
  | none => .bad
def gIx : D → D → Mem → Res D := fun x y M => match x with
  | .tup ds => (match y with
    | .int i => okD M (itemAt ds i)
    | _ => .bad)
  | .rol ds => (match y with
    | .int i => okD M (itemAt ds i)
    | _ => .bad)
  | .str z => (match y with
    | .int i => (match decide (z.length ≤ sizeLine), atI z.cps.toList i with
      | true, some c => .ok (.str ⟨#[c]⟩) M
      | _, _ => .bad)
    | _ => .bad)
  | .ref n => (match listAt M n with
    | some ds => (match y with
      | .int i => okD M (itemAt ds i)
      | _ => .bad)
    | none => (match dictLook M n y with
      | some (some d) => .ok d M
      | _ => .bad))
  | _ => .bad
theorem itemAt_rep {K : PySem.W.Frag} {α : List Addr} {H : Hp} {ds : List D} {vs : List V} {i : Int} {d : D} (r : Reps K α H ds vs) (h : itemAt ds i = some d) : ∃ v, atI vs i = some v ∧ Rep K α H d v := by
  unfold itemAt at h
  rw [ixF_eq] at h
  split at h
  · rename_i j e
    obtain ⟨v, e1, r1⟩ := r.at h
    refine ⟨v, ?_, r1⟩
    unfold atI
    rw [← r.length, e]
    exact e1
  · cases h
section
variable {X : Cx} {L : Lay} {W : WX} {a b : Expr} {fa fb : EF} {pos : Pos}
theorem ix_case {r : R2} (h : ∀ x y H Q, r x y H Q → ∃ r', IxR X r' ∧ r' x y H Q) : IxR X r := fun value slice pins s σ H x y v u Q I rx ry q hs => by
  obtain ⟨r', h1, h2⟩ := h x y H Q q
  exact h1 value slice pins s σ H x y v u Q I rx ry h2 hs
theorem ix_dict (hu : X.A.units + 1 < cLine) : IxR X (fun x y H Q => ∃ a v, x = .ref a ∧ DGet H a y (some v) ∧ Q v H) := by
  intro value slice pins s σ H x y v u Q I rx ry h hs
  obtain ⟨a, z, rfl, g, q⟩ := h
  obtain rfl : v = Value.ref a := rx
  exact PyProof.Rows.tail_any (dict_typeIs I g) PySem.F.slot_dict_getitem.lookup (d_getItem hu I g ry fun w' s3 I3 rw' => ⟨z, H, I3, rw', q⟩) hs
theorem i_ix (hu : X.A.units + 70 < cLine) (w : W3) : IxR X (rF2 X.K L gIx w) := ix_case fun x y H Q ⟨α, M, dx, dy, r, rx, ry, h⟩ => by
  unfold gIx at h
  split at h
  · rename_i ds
    split at h
    · rename_i i
      obtain ⟨t, vs, e, ht, hr⟩ := rx.tup
      cases ei : itemAt ds i with
      | none => rw [ei] at h; exact h.elim
      | some d =>
        rw [ei] at h
        obtain ⟨v, e1, r1⟩ := itemAt_rep hr ei
        exact ⟨_, ix_tup, t, vs, _, v, e, ry.int, ht.sq, e1, PostR.pure h r r1⟩
    · exact h.elim
  · rename_i ds
    split at h
    · rename_i i
      obtain ⟨t, vs, e, ht, hr⟩ := rx.rol
      cases ei : itemAt ds i with
      | none => rw [ei] at h; exact h.elim
      | some d =>
        rw [ei] at h
        obtain ⟨v, e1, r1⟩ := itemAt_rep hr ei
        exact ⟨_, ix_list, t, vs, _, v, e, ry.int, ht.sq, e1, PostR.pure h r r1⟩
    · exact h.elim
  · split at h
    · split at h
      · rename_i c e
        exact ⟨_, ix_str, _, _, _, rx.str, ry.int, dt (by assumption), e, PostR.pure h r rep_str⟩
      · exact h.elim
    · exact h.elim
  · split at h
    · rename_i ds e1
      split at h
      · rename_i i
        obtain ⟨a, ha, rfl⟩ := rx.ref
        obtain ⟨a', vs, ha', hv, hr⟩ := r.list e1
        rw [ha] at ha'; cases ha'
        cases ei : itemAt ds i with
        | none => rw [ei] at h; exact h.elim
        | some d =>
          rw [ei] at h
          obtain ⟨v, e1, r1⟩ := itemAt_rep hr ei
          exact ⟨_, ix_list, a, vs, _, v, rfl, ry.int, .of hv, e1, PostR.pure h r r1⟩
      · exact h.elim
    · split at h
      · rename_i d e
        obtain ⟨a, ov, rfl, g, u, rfl, ru⟩ := dictLook_rep r e rx ry
        exact ⟨_, ix_dict (by omega), a, u, rfl, g, PostR.pure h r ru⟩
      · exact h.elim
  · exact h.elim
theorem fe_ix (hu : X.A.units + 70 < cLine) (ha : FE X L W a fa) (hb : FE X L W b fb) (hs : PlainIx b := by intro _ _; rfl) : FE X L W (.Subscript a b pos) (dOp2 gIx fa fb) :=
  ⟨fun pins s σ H Q I h => (pe_ix (i_ix hu (fun c d H' => W c d σ H')) ha hb hs).run pins s σ H Q I (two_go h)⟩
/-- a part of a slice -/
abbrev OF := Sl → Mem → Res (Option Int)
abbrev RO : List Addr → Hp → Option Int → Option Int → Prop := fun _ _ a b => a = b
def LO (K : PySem.W.Frag) (L : Lay) (W : WX) (f : OF) : TO := fun σ H Q => ∃ α M s, Rel K L α M H ∧ Slots K α H s σ ∧ PostR K L RO (f s M) α H Q (fun c d H' => W c d σ H')
abbrev FO (X : Cx) (L : Lay) (W : WX) (e : Option Expr) (f : OF) : Prop := PO X e (LO X.K L W f)
def oNone : OF := fun _ M => .ok none M
def oSome (a : EF) : OF := fun s M => (a s M).bind fun x M1 => match x with
  | .int i => .ok (some i) M1
  | _ => .bad
theorem poImp {e : Option Expr} {t t' : TO} (h : PO X e t) (i : ∀ σ H Q, t' σ H Q → t σ H Q) : PO X e t' := ⟨fun pins s σ H Q I q => h.run pins s σ H Q I (i σ H Q q)⟩
theorem fo_none : FO X L W none oNone := poImp po_none fun σ H Q ⟨α, M, s, r, sl, h⟩ => PostR.pure h r rfl
theorem fo_some (h : FE X L W a fa) : FO X L W (some a) (oSome fa) := poImp (po_some h) fun σ H Q ⟨α, M, s, r, sl, h⟩ =>
  ⟨α, M, s, r, sl, (PostR.bind (R := Rep _) h).imp fun x H1 ⟨dx, α1, M1, l1, r1, rx, h1⟩ => by
    cases dx <;> try exact h1.elim
    exact ⟨_, rx.int, PostR.pure h1 r1 rfl⟩⟩
def cutD (xs : List D) (lo hi : Option Int) : List D := (xs.drop (HT.sIx xs.length 0 lo)).take (HT.sIx xs.length xs.length hi - HT.sIx xs.length 0 lo)
theorem cut_rep {K : PySem.W.Frag} {α : List Addr} {H : Hp} {ds : List D} {vs : List V} (r : Reps K α H ds vs) (lo hi : Option Int) : Reps K α H (cutD ds lo hi) (cutV vs lo hi) := by
  unfold cutD cutV
  rw [r.length]
  exact (r.drop _).take _
def gSl (x : D) (lo hi : Option Int) (M : Mem) : Res D := match x with
  | .tup ds => .ok (.tup (cutD ds lo hi)) M
  | .rol ds => .ok (.ref M.length) (M ++ [.lst (cutD ds lo hi)])
  | .ref n => (match listAt M n with
    | some ds => .ok (.ref M.length) (M ++ [.lst (cutD ds lo hi)])
    | none => .bad)
  | .str z => (match decide (z.length ≤ sizeLine) with
    | true => .ok (.str (cutS z lo hi)) M
    | false => .bad)
  | _ => .bad
def dSl (a : EF) (lo hi : OF) : EF := fun s M => (a s M).bind fun x M1 => (lo s M1).bind fun l M2 => (hi s M2).bind fun u M3 => gSl x l u M3
theorem sl_case {r : V → Option Int → Option Int → Hp → VK → Prop} (h : ∀ x lo hi H Q, r x lo hi H Q → ∃ r', SlR X r' ∧ r' x lo hi H Q) : SlR X r := fun pins s σ H x v vl vu lo hi sl Q I rx e pl pu q => by
  obtain ⟨r', h1, h2⟩ := h x lo hi H Q q
  exact h1 pins s σ H x v vl vu lo hi sl Q I rx e pl pu h2
def rFs (K : PySem.W.Frag) (L : Lay) (w : W3) : V → Option Int → Option Int → Hp → VK → Prop := fun x lo hi H Q => ∃ α M dx, Rel K L α M H ∧ Rep K α H dx x ∧ PostR K L (Rep K) (gSl dx lo hi M) α H Q w
theorem s_sl (w : W3) : SlR X (rFs X.K L w) := sl_case fun x lo hi H Q ⟨α, M, dx, r, rx, h⟩ => by
  unfold gSl at h
  split at h
  · rename_i ds
    obtain ⟨t, vs, e, ht, hr⟩ := rx.tup
    refine ⟨_, sl_tupA, t, vs, e, ht.sq, fun z => ?_, fun z p hp => ?_⟩
    · refine PostR.pure h r ?_
      have e1 : cutV vs lo hi = vs := by
        unfold cutV
        rw [z.1, z.2, List.drop_zero, Nat.sub_zero, List.take_length]
      have q := cut_rep hr lo hi
      rw [e1] at q
      unfold Rep
      exact ⟨t, vs, rfl, ht, q⟩
    · exact h α _ _ (Le.tup hp) (r.tup hp) (rep_tup upd_same ((cut_rep hr lo hi).le (Le.tup hp)))
  · obtain ⟨t, vs, e, ht, hr⟩ := rx.rol
    refine ⟨_, sl_list, t, vs, e, ht.sq, fun p hp => ?_⟩
    exact h _ _ _ (Le.new hp) (r.new (o := .lst _) hp ⟨_, upd_same, (cut_rep hr lo hi).le (Le.new hp)⟩) (rep_ref (by rw [← r.len]; simp))
  · split at h
    · rename_i ds e1
      obtain ⟨a, ha, rfl⟩ := rx.ref
      obtain ⟨a', vs, ha', hv, hr⟩ := r.list e1
      rw [ha] at ha'; cases ha'
      refine ⟨_, sl_list, a, vs, rfl, .of hv, fun p hp => ?_⟩
      exact h _ _ _ (Le.new hp) (r.new (o := .lst _) hp ⟨_, upd_same, (cut_rep hr lo hi).le (Le.new hp)⟩) (rep_ref (by rw [← r.len]; simp))
    · exact h.elim
  · split at h
    · rename_i c
      exact ⟨_, sl_str, _, rx.str, dt c, PostR.pure h r rep_str⟩
    · exact h.elim
  · exact h.elim
theorem fe_sl {lo hi : Option Expr} {fl fh : OF} {p2 : Pos} (ha : FE X L W a fa) (hl : FO X L W lo fl) (hh : FO X L W hi fh) : FE X L W (.Subscript a (.Slice lo hi none p2) pos) (dSl fa fl fh) :=
  ⟨fun pins s σ H Q I ⟨α, M, sd, r, sl, h⟩ => (pe_slice (s_sl (L := L) (fun c d H' => W c d σ H')) ha hl hh).run pins s σ H Q I ⟨α, M, sd, r, sl, (PostR.bind (R := Rep _) h).imp fun x H1 ⟨dx, α1, M1, l1, r1, rx, h1⟩ =>
    ⟨α1, M1, sd, r1, sl.le l1, (PostR.bind (R := RO) h1).imp fun l H2 ⟨l', α2, M2, l2, r2, e2, h2⟩ => by
      subst e2
      exact ⟨α2, M2, sd, r2, (sl.le l1).le l2, (PostR.bind (R := RO) h2).imp fun u H3 ⟨u', α3, M3, l3, r3, e3, h3⟩ => by
        subst e3
        exact ⟨α3, M3, dx, r3, (rx.le l2).le l3, h3⟩⟩⟩⟩⟩
end
end Fl

namespace Fl
open PySem PySem.Spec L2
def rFN (K : PySem.W.Frag) (L : Lay) (g : List D → Mem → Res D) (w : W3) : List V → Hp → VK → Prop := fun xs H Q => ∃ α M ds, Rel K L α M H ∧ Reps K α H ds xs ∧ PostR K L (Rep K) (g ds M) α H Q w
def CallF (X : Cx) (L : Lay) (f : Value) (g : List D → Mem → Res D) : Prop := ∀ w, CallR X f (rFN X.K L g w)
section
variable {X : Cx} {L : Lay} {W : WX}
theorem call_case {f : Value} {r : List V → Hp → VK → Prop} (h : ∀ xs H Q, r xs H Q → ∃ r', CallR X f r' ∧ r' xs H Q) : CallR X f r := fun pins s σ H xs us Q I rx q => by
  obtain ⟨r', h1, h2⟩ := h xs H Q q
  exact h1 pins s σ H xs us Q I rx h2
theorem n_go {K : PySem.W.Frag} {g : List D → Mem → Res D} {fa : AF} {σ : L2.St} {H : Hp} {Q : VK} (h : LE K L W (dOpN g fa) σ H Q) : LA K L W fa σ H fun xs H1 => rFN K L g (fun c d H' => W c d σ H') xs H1 Q := by
  obtain ⟨α, M, s, r, sl, h⟩ := h
  exact ⟨α, M, s, r, sl, (PostR.bind (R := Reps K) h).imp fun x H1 ⟨dx, α1, M1, l1, r1, rx, h1⟩ => ⟨α1, M1, dx, r1, rx, h1⟩⟩
theorem fe_cb {x : Str} {p pos : Pos} {e : Expr} {es : List Expr} {id : String} {g : List D → Mem → Res D} {fa : AF} (hc : CallF X L (.builtin id) g) (hg : Gl X x) (hm : X.mg x = none) (hv : bootBuiltins x = some (.builtin id)) (ha : FA X L W (e :: es) fa) (hn : x ≠ "__name__" := by decide) (hdb : (x == ("__debug__" : Str)) = false := by decide)
    (he : starEach (e :: es) X.env = (false, eval e X.env) :: starEach es X.env := by rfl) (hpl : (backTo pos (starEach es X.env)).any (·.1) = false := by rfl) : FE X L W (.Call (.Name x p) (e :: es) [] pos) (dOpN g fa) :=
  ⟨fun pins s σ H Q I h => (pe_callB (hc (fun c d H' => W c d σ H')) hg hm hv ha hn hdb he hpl).run pins s σ H Q I (n_go h)⟩
theorem fe_ct {x : Str} {p pos : Pos} {e : Expr} {es : List Expr} {id : String} {g : List D → Mem → Res D} {fa : AF} (hc : CallF X L (.type id) g) (hg : Gl X x) (hm : X.mg x = none) (hv : bootBuiltins x = some (.type id)) (ha : FA X L W (e :: es) fa) (hn : x ≠ "__name__" := by decide) (hdb : (x == ("__debug__" : Str)) = false := by decide)
    (he : starEach (e :: es) X.env = (false, eval e X.env) :: starEach es X.env := by rfl) (hpl : (backTo pos (starEach es X.env)).any (·.1) = false := by rfl) : FE X L W (.Call (.Name x p) (e :: es) [] pos) (dOpN g fa) :=
  ⟨fun pins s σ H Q I h => (pe_callTy (hc (fun c d H' => W c d σ H')) hg hm hv ha hn hdb he hpl).run pins s σ H Q I (n_go h)⟩
end
section
variable {K : PySem.W.Frag} {α : List Addr} {H : Hp}
theorem Reps.nil {vs : List V} (h : Reps K α H [] vs) : vs = [] := by unfold Reps at h; exact h
theorem Reps.cons {d : D} {ds : List D} {vs : List V} (h : Reps K α H (d :: ds) vs) : ∃ x xs, vs = x :: xs ∧ Rep K α H d x ∧ Reps K α H ds xs := by unfold Reps at h; exact h
theorem Reps.one {d : D} {vs : List V} (h : Reps K α H [d] vs) : ∃ x, vs = [x] ∧ Rep K α H d x := by
  obtain ⟨x, xs, e, h1, h2⟩ := h.cons
  rw [h2.nil] at e
  exact ⟨x, e, h1⟩
theorem Reps.two {d d2 : D} {vs : List V} (h : Reps K α H [d, d2] vs) : ∃ x y, vs = [x, y] ∧ Rep K α H d x ∧ Rep K α H d2 y := by
  obtain ⟨x, xs, e, h1, h2⟩ := h.cons
  obtain ⟨y, e2, h3⟩ := h2.one
  rw [e2] at e
  exact ⟨x, y, e, h1, h3⟩
end
/-! ### len, list, tuple, sums -/
def gLen : List D → Mem → Res D
  | [.str z], M => (match decide (z.length ≤ sizeLine) with
    | true => .ok (.int z.length) M
    | false => .bad)
  | [d], M => (match seqOf M d with
    | some ds => .ok (.int ds.length) M
    | none => .bad)
  | _, _ => .bad
def gList : List D → Mem → Res D
  | [d], M => (match seqOf M d with
    | some ds => .ok (.ref M.length) (M ++ [.lst ds])
    | none => .bad)
  | _, _ => .bad
def gTuple : List D → Mem → Res D
  | [.tup ds], M => .ok (.tup ds) M
  | [.ref n], M => (match listAt M n with
    | some ds => .ok (.tup ds) M
    | none => .bad)
  | _, _ => .bad
def intsOf : List D → Option (List Int) := allSome fun d => match d with
  | .int i => some i
  | _ => none
def blsOf : List D → Option (List Bool) := allSome fun d => match d with
  | .bl i => some i
  | _ => none
theorem intsOf_map : ∀ {ds : List D} {ns : List Int}, intsOf ds = some ns → ds = ns.map .int
  | [], ns, h => by cases h; rfl
  | d :: ds, ns, h => by
    unfold intsOf allSome at h
    split at h
    · rename_i p e1
      split at h
      · rename_i ps e2
        cases h
        rw [intsOf_map (ds := ds) e2]
        cases d <;> first | (cases e1; done) | skip
        cases e1; rfl
      · cases h
    · cases h
theorem blsOf_map : ∀ {ds : List D} {ns : List Bool}, blsOf ds = some ns → ds = ns.map .bl
  | [], ns, h => by cases h; rfl
  | d :: ds, ns, h => by
    unfold blsOf allSome at h
    split at h
    · rename_i p e1
      split at h
      · rename_i ps e2
        cases h
        rw [blsOf_map (ds := ds) e2]
        cases d <;> first | (cases e1; done) | skip
        cases e1; rfl
      · cases h
    · cases h
def gSum : List D → Mem → Res D
  | [.ref n], M => (match listAt M n with
    | some ds => (match intsOf ds with
      | some ns => .ok (.int ns.sum) M
      | none => .bad)
    | none => .bad)
  | _, _ => .bad
/-- sum of a tuple of ints -/
def maxI : Int → List Int → Int
  | m, [] => m
  | m, n :: r => match decide (m < n) with
    | true => maxI n r
    | false => maxI m r
def minI : Int → List Int → Int
  | m, [] => m
  | m, n :: r => match decide (n < m) with
    | true => minI n r
    | false => minI m r
theorem maxI_ok : ∀ (m : Int) (r : List Int), maxI m r ∈ m :: r ∧ ∀ y ∈ m :: r, y ≤ maxI m r
  | m, [] => ⟨by simp [maxI], fun y hy => by simp [maxI] at hy ⊢; omega⟩
  | m, n :: r => by
    unfold maxI
    by_cases h : m < n
    · rw [decide_eq_true h]
      obtain ⟨a, b⟩ := maxI_ok n r
      refine ⟨List.mem_cons_of_mem _ a, fun y hy => ?_⟩
      rcases List.mem_cons.mp hy with e | e
      · have := b n List.mem_cons_self
        show y ≤ maxI n r
        omega
      · exact b y e
    · rw [decide_eq_false h]
      obtain ⟨a, b⟩ := maxI_ok m r
      refine ⟨?_, fun y hy => ?_⟩
      · rcases List.mem_cons.mp a with e | e
        · exact List.mem_cons.mpr (.inl e)
        · exact List.mem_cons_of_mem _ (List.mem_cons_of_mem _ e)
      · have hm := b m List.mem_cons_self
        rcases List.mem_cons.mp hy with e | e
        · show y ≤ maxI m r
          omega
        · rcases List.mem_cons.mp e with e | e
          · show y ≤ maxI m r
            omega
          · exact b y (List.mem_cons_of_mem _ e)
theorem minI_ok : ∀ (m : Int) (r : List Int), minI m r ∈ m :: r ∧ ∀ y ∈ m :: r, minI m r ≤ y
  | m, [] => ⟨by simp [minI], fun y hy => by simp [minI] at hy ⊢; omega⟩
  | m, n :: r => by
    unfold minI
    by_cases h : n < m
    · rw [decide_eq_true h]
      obtain ⟨a, b⟩ := minI_ok n r
      refine ⟨List.mem_cons_of_mem _ a, fun y hy => ?_⟩
      rcases List.mem_cons.mp hy with e | e
      · have := b n List.mem_cons_self
        show minI n r ≤ y
        omega
      · exact b y e
    · rw [decide_eq_false h]
      obtain ⟨a, b⟩ := minI_ok m r
      refine ⟨?_, fun y hy => ?_⟩
      · rcases List.mem_cons.mp a with e | e
        · exact List.mem_cons.mpr (.inl e)
        · exact List.mem_cons_of_mem _ (List.mem_cons_of_mem _ e)
      · have hm := b m List.mem_cons_self
        rcases List.mem_cons.mp hy with e | e
        · show minI m r ≤ y
          omega
        · rcases List.mem_cons.mp e with e | e
          · show minI m r ≤ y
            omega
          · exact b y (List.mem_cons_of_mem _ e)
def gMax : List D → Mem → Res D
  | [.ref n], M => (match listAt M n with
    | some ds => (match intsOf ds with
      | some (m :: ns) => .ok (.int (maxI m ns)) M
      | _ => .bad)
    | none => .bad)
  | [.int i, .int j], M => .ok (.int (if j > i then j else i)) M
  | _, _ => .bad
def gMin : List D → Mem → Res D
  | [.ref n], M => (match listAt M n with
    | some ds => (match intsOf ds with
      | some (m :: ns) => .ok (.int (minI m ns)) M
      | _ => .bad)
    | none => .bad)
  | [.int i, .int j], M => .ok (.int (if j < i then j else i)) M
  | _, _ => .bad
def gAll : List D → Mem → Res D
  | [.ref n], M => (match listAt M n with
    | some ds => (match blsOf ds with
      | some ns => .ok (.bl (ns.all id)) M
      | _ => .bad)
    | none => .bad)
  | _, _ => .bad
def gAny : List D → Mem → Res D
  | [.ref n], M => (match listAt M n with
    | some ds => (match blsOf ds with
      | some ns => .ok (.bl (ns.any id)) M
      | _ => .bad)
    | none => .bad)
  | _, _ => .bad
section
variable {X : Cx} {L : Lay}
theorem c_len : CallF X L (.builtin "len") gLen := fun w => call_case fun xs H Q ⟨α, M, ds, r, rx, h⟩ => by
  unfold gLen at h
  split at h
  · split at h
    · rename_i c
      obtain ⟨x, rfl, r1⟩ := rx.one
      exact ⟨_, call_len_str, _, congrArg (fun z => [z]) r1.str, dt c, PostR.pure h r rep_int⟩
    · exact h.elim
  · split at h
    · rename_i ds e
      obtain ⟨x, rfl, r1⟩ := rx.one
      obtain ⟨a, vs, rfl, hs, hr⟩ := r1.seq r e
      refine ⟨_, call_len_seq, a, vs, rfl, hs, ?_⟩
      rw [← hr.length]
      exact PostR.pure h r rep_int
    · exact h.elim
  · exact h.elim
theorem c_list : CallF X L (.type "list") gList := fun w => call_case fun xs H Q ⟨α, M, ds, r, rx, h⟩ => by
  unfold gList at h
  split at h
  · split at h
    · rename_i ds e
      obtain ⟨x, rfl, r1⟩ := rx.one
      obtain ⟨a, vs, rfl, hs, hr⟩ := r1.seq r e
      refine ⟨_, call_list_of, a, vs, rfl, hs, fun l hl => ?_⟩
      exact h _ _ _ (Le.new hl) (r.new (o := .lst _) hl ⟨_, upd_same, hr.le (Le.new hl)⟩) (rep_ref (by rw [← r.len]; simp))
    · exact h.elim
  · exact h.elim
theorem c_tuple : CallF X L (.type "tuple") gTuple := fun w => call_case fun xs H Q ⟨α, M, ds, r, rx, h⟩ => by
  unfold gTuple at h
  split at h
  · obtain ⟨x, rfl, r1⟩ := rx.one
    obtain ⟨t, vs, rfl, ht, hr⟩ := r1.tup
    exact ⟨_, call_tupleT, t, vs, rfl, ht.sq, PostR.pure h r r1⟩
  · split at h
    · rename_i ds e
      obtain ⟨x, rfl, r1⟩ := rx.one
      obtain ⟨a, ha, rfl⟩ := r1.ref
      obtain ⟨a', vs, ha', hv, hr⟩ := r.list e
      rw [ha] at ha'; cases ha'
      refine ⟨_, call_tuple_of, a, vs, rfl, .inl ⟨.of hv, fun l hl => ?_⟩⟩
      exact h α _ _ (Le.tup hl) (r.tup hl) (rep_tup upd_same (hr.le (Le.tup hl)))
    · exact h.elim
  · exact h.elim
theorem ints_at {K : PySem.W.Frag} {α : List Addr} {M : Mem} {H : Hp} (r : Rel K L α M H) {n : Nat} {ds : List D} {ns : List Int} {x : V} (e : listAt M n = some ds) (e2 : intsOf ds = some ns) (r1 : Rep K α H (.ref n) x) : ∃ a, x = .ref a ∧ SqL K H a (ns.map V.int) := by
  obtain ⟨a, ha, rfl⟩ := r1.ref
  obtain ⟨a', vs, ha', hv, hr⟩ := r.list e
  rw [ha] at ha'; cases ha'
  rw [intsOf_map e2] at hr
  exact ⟨a, rfl, by rw [← hr.ints]; exact .of hv⟩
theorem bls_at {K : PySem.W.Frag} {α : List Addr} {M : Mem} {H : Hp} (r : Rel K L α M H) {n : Nat} {ds : List D} {ns : List Bool} {x : V} (e : listAt M n = some ds) (e2 : blsOf ds = some ns) (r1 : Rep K α H (.ref n) x) : ∃ a, x = .ref a ∧ SqL K H a (ns.map V.bl) := by
  obtain ⟨a, ha, rfl⟩ := r1.ref
  obtain ⟨a', vs, ha', hv, hr⟩ := r.list e
  rw [ha] at ha'; cases ha'
  rw [blsOf_map e2] at hr
  exact ⟨a, rfl, by rw [← hr.bls]; exact .of hv⟩
theorem c_sum (hc : X.calm = true) : CallF X L (.builtin "sum") gSum := fun w => call_case fun xs H Q ⟨α, M, ds, r, rx, h⟩ => by
  unfold gSum at h
  split at h
  · split at h
    · rename_i ds e
      split at h
      · rename_i ns e2
        obtain ⟨x, rfl, r1⟩ := rx.one
        obtain ⟨a, rfl, hs⟩ := ints_at r e e2 r1
        exact ⟨_, cr_sum hc, a, ns, rfl, hs, PostR.pure h r rep_int⟩
      · exact h.elim
    · exact h.elim
  · exact h.elim
theorem c_max (hc : X.calm = true) : CallF X L (.builtin "max") gMax := fun w => call_case fun xs H Q ⟨α, M, ds, r, rx, h⟩ => by
  unfold gMax at h
  split at h
  · split at h
    · rename_i ds e
      split at h
      · rename_i m ns e2
        obtain ⟨x, rfl, r1⟩ := rx.one
        obtain ⟨a, rfl, hs⟩ := ints_at r e e2 r1
        refine ⟨_, cr_max hc, a, _, rfl, hs, by simp, fun z hz hle => ?_⟩
        obtain ⟨q1, q2⟩ := maxI_ok m ns
        have ez : z = maxI m ns := Int.le_antisymm (q2 z hz) (hle _ q1)
        rw [ez]
        exact PostR.pure h r rep_int
      · exact h.elim
    · exact h.elim
  · obtain ⟨x, y, rfl, r1, r2⟩ := rx.two
    have e1 := r1.int
    have e2 := r2.int
    subst e1 e2
    exact ⟨_, call_max2 hc, _, _, rfl, PostR.pure h r rep_int⟩
  · exact h.elim
theorem c_min (hc : X.calm = true) : CallF X L (.builtin "min") gMin := fun w => call_case fun xs H Q ⟨α, M, ds, r, rx, h⟩ => by
  unfold gMin at h
  split at h
  · split at h
    · rename_i ds e
      split at h
      · rename_i m ns e2
        obtain ⟨x, rfl, r1⟩ := rx.one
        obtain ⟨a, rfl, hs⟩ := ints_at r e e2 r1
        refine ⟨_, cr_min hc, a, _, rfl, hs, by simp, fun z hz hle => ?_⟩
        obtain ⟨q1, q2⟩ := minI_ok m ns
        have ez : z = minI m ns := Int.le_antisymm (hle _ q1) (q2 z hz)
        rw [ez]
        exact PostR.pure h r rep_int
      · exact h.elim
    · exact h.elim
  · obtain ⟨x, y, rfl, r1, r2⟩ := rx.two
    have e1 := r1.int
    have e2 := r2.int
    subst e1 e2
    exact ⟨_, call_min2 hc, _, _, rfl, PostR.pure h r rep_int⟩
  · exact h.elim
theorem c_all (hc : X.calm = true) : CallF X L (.builtin "all") gAll := fun w => call_case fun xs H Q ⟨α, M, ds, r, rx, h⟩ => by
  unfold gAll at h
  split at h
  · split at h
    · rename_i ds e
      split at h
      · rename_i ns e2
        obtain ⟨x, rfl, r1⟩ := rx.one
        obtain ⟨a, rfl, hs⟩ := bls_at r e e2 r1
        exact ⟨_, cr_all hc, a, ns, rfl, hs, PostR.pure h r rep_bl⟩
      · exact h.elim
    · exact h.elim
  · exact h.elim
theorem c_any (hc : X.calm = true) : CallF X L (.builtin "any") gAny := fun w => call_case fun xs H Q ⟨α, M, ds, r, rx, h⟩ => by
  unfold gAny at h
  split at h
  · split at h
    · rename_i ds e
      split at h
      · rename_i ns e2
        obtain ⟨x, rfl, r1⟩ := rx.one
        obtain ⟨a, rfl, hs⟩ := bls_at r e e2 r1
        exact ⟨_, cr_any hc, a, ns, rfl, hs, PostR.pure h r rep_bl⟩
      · exact h.elim
    · exact h.elim
  · exact h.elim
end
/-! ### lists, tuples as they are written -/
def dTup (a : AF) : EF := fun s M => (a s M).bind fun ds M1 => match decide (ds.length ≤ sizeLine) with
  | true => .ok (.tup ds) M1
  | false => .bad
def dLst (a : AF) : EF := fun s M => (a s M).bind fun ds M1 => match decide (ds.length ≤ sizeLine) with
  | true => .ok (.ref M1.length) (M1 ++ [.lst ds])
  | false => .bad
section
variable {X : Cx} {L : Lay} {W : WX} {es : List Expr} {fa : AF} {pos : Pos}
theorem fe_tup {x1} (h : FA X L W es fa) : FE X L W (.Tuple es x1 pos) (dTup fa) := peImp (pe_tup h) fun σ H Q ⟨α, M, s, r, sl, q⟩ =>
  ⟨α, M, s, r, sl, (PostR.bind (R := Reps _) q).imp fun xs H1 ⟨ds, α1, M1, l1, r1, rx, h1⟩ => by
    dsimp only at h1
    split at h1
    · rename_i c
      refine ⟨by rw [← rx.length]; exact dt c, fun p hp => ?_⟩
      exact h1 α1 _ _ (Le.tup hp) (r1.tup hp) (rep_tup upd_same (rx.le (Le.tup hp)))
    · exact h1.elim⟩
theorem fe_lst (h : FA X L W es fa) : FE X L W (.List es pos) (dLst fa) := peImp (pe_lst h) fun σ H Q ⟨α, M, s, r, sl, q⟩ =>
  ⟨α, M, s, r, sl, (PostR.bind (R := Reps _) q).imp fun xs H1 ⟨ds, α1, M1, l1, r1, rx, h1⟩ => by
    dsimp only at h1
    split at h1
    · rename_i c
      refine ⟨by rw [← rx.length]; exact dt c, fun p hp => ?_⟩
      exact h1 _ _ _ (Le.new hp) (r1.new (o := .lst _) hp ⟨_, upd_same, rx.le (Le.new hp)⟩) (rep_ref (by rw [← r1.len]; simp))
    · exact h1.elim⟩
end
end Fl

namespace Fl
open PySem PySem.Spec L2
/-- a def that does what the function S does -/
def spF (K : PySem.W.Frag) (L : Lay) (S : List D → Mem → Res D) : Sp := fun vs H Q E => ∃ α M ds, Rel K L α M H ∧ Reps K α H ds vs ∧ PostR K L (Rep K) (S ds M) α H Q E
/-- S takes n values -/
def Arity (n : Nat) (S : List D → Mem → Res D) : Prop := ∀ ds M, ds.length ≠ n → S ds M = .bad
theorem spF_len {K : PySem.W.Frag} {L : Lay} {n : Nat} {S : List D → Mem → Res D} (h : Arity n S) : ∀ vs H Q E, spF K L S vs H Q E → vs.length = n := fun vs H Q E ⟨α, M, ds, r, rs, p⟩ => by
  by_cases e : ds.length = n
  · rw [← rs.length]; exact e
  · rw [h ds M e] at p; exact p.elim
section
variable {X : Cx} {L : Lay} {W : WX} {k n : Nat} {f C : Addr} {fd : FuncData} {ps ks : List Str} {S : List D → Mem → Res D} {g : List Value → List Value → List Value} {gV : List V → List V → List V}
theorem run_g {sp : Sp} {pins : List (Addr × Obj)} {σ : L2.St} {H : Hp} {s : Shared} {Q : VK} {us ws : List Value} {vs zs : List V} (F : FnOk X.prog X.w X.K X.mg X.base (L2.CX X.prog X.w) k f fd ps sp) (hr : Room k X.A) (hb : KBn X.K fd ps n ks g gV) (tk : Takes X W)
    (I : Inv X pins σ H s) (r : Vals vs us) (rz : Vals zs ws) (l1 : vs.length = n) (l2 : zs.length = ks.length) (h : sp (gV vs zs) H Q (WE W σ)) : wpAny (model X.prog X.w) X.A (call (.ref f) us (ks.zip ws)) (EP X pins σ Q) X.xe s := by
  refine wpAny_call (codeAny_mono (F.run X.A X.stack s H ⟨us, ks.zip ws⟩ (g us ws) (gV vs zs) Q (WE W σ) hr I.env0 (hb.to s us ws I.kIn (r.length.symm.trans l1) (rz.length.symm.trans l2)) (hb.rel r rz) h) fun r s' hq => ?_)
  cases r with
  | error e => exact passAt tk σ pins H s e s' I hq
  | ok fl => cases fl <;> first | exact I.after hq | exact False.elim hq
/-- positional values alone -/
theorem KBn.of_binds {K : PySem.W.Frag} {ds : List Value} {dvs : List V} (hb : Binds K fd ps ds) (hd : Vals dvs ds) (hn : n + ds.length = ps.length) : KBn K fd ps n [] (fun us _ => us ++ ds) (fun vs _ => vs ++ dvs) :=
  ⟨fun s us ws X l1 l2 => by
    have e : ws = [] := List.length_eq_zero_iff.mp (by simpa using l2)
    subst e
    exact hb s us X (by rw [List.length_append, l1]; exact hn), fun r _ => r.append hd⟩
/-- the values of a call in the row of the parameters -/
structure GRel (K : PySem.W.Frag) (gD : List D → List D → List D) (gV : List V → List V → List V) : Prop where
  to : ∀ {α : List Addr} {H : Hp} {ds es : List D} {vs zs : List V}, Reps K α H ds vs → Reps K α H es zs → Reps K α H (gD ds es) (gV vs zs)
def lenIs (n : Nat) (l : List D) (r : Res D) : Res D := match decide (l.length = n) with
  | true => r
  | false => .bad
/-- f(e, .., k = v, ..) -/
def dCall (n m : Nat) (S : List D → Mem → Res D) (gD : List D → List D → List D) (fa fk : AF) : EF := fun s M => (fa s M).bind fun xs M1 => (fk s M1).bind fun zs M2 => lenIs n xs (lenIs m zs (S (gD xs zs) M2))
theorem lenIs_post {K : PySem.W.Frag} {α : List Addr} {H : Hp} {R : List Addr → Hp → D → V → Prop} {r : Res D} {Q : VK} {w : W3} {l : List D} (h : PostR K L R (lenIs n l r) α H Q w) : l.length = n ∧ PostR K L R r α H Q w := by
  unfold lenIs at h
  split at h
  · rename_i c
    exact ⟨dt c, h⟩
  · exact h.elim
abbrev FK (X : Cx) (L : Lay) (W : WX) (kws : List Keyword) (f : AF) : Prop := PK X kws (LA X.K L W f)
theorem pkImp {e : List Keyword} {t t' : TA} (h : PK X e t) (i : ∀ σ H Q, t' σ H Q → t σ H Q) : PK X e t' := ⟨fun pos pins s σ H Q I q => h.run pos pins s σ H Q I (i σ H Q q)⟩
theorem fk_nil : FK X L W [] dNil := pkImp pk_nil fun σ H Q ⟨α, M, s, r, sl, q⟩ => PostR.pure q r reps_nil
theorem fk_cons {nm : Option Str} {e : Expr} {kpos : Pos} {kws : List Keyword} {fe : EF} {t : AF} (ha : FE X L W e fe) (hr : FK X L W kws t) : FK X L W (⟨nm, e, kpos⟩ :: kws) (dCons fe t) := pkImp (pk_cons ha hr) fun σ H Q ⟨α, M, s, r, sl, q⟩ =>
  ⟨α, M, s, r, sl, (PostR.bind (R := Rep _) q).imp fun x H1 ⟨dx, α1, M1, l1, r1, rx, h1⟩ =>
    ⟨α1, M1, s, r1, sl.le l1, (PostR.bind (R := Reps _) h1).imp fun y H2 ⟨dy, α2, M2, l2, r2, ry, h2⟩ => PostR.pure h2 r2 (reps_cons (rx.le l2) ry)⟩⟩
variable {x m : Str} {p pos apos : Pos} {e o : Expr} {es : List Expr} {kws : List Keyword} {fa fk : AF} {fo : EF} {gD : List D → List D → List D}
theorem fe_call (F : FnOk X.prog X.w X.K X.mg X.base (L2.CX X.prog X.w) k f fd ps (spF X.K L S)) (hr : Room k X.A) (tk : Takes X W) (hg : Gl X x) (hm : X.mg x = some (.ref f)) (hk : PySem.W.keepIn X.K (.ref f) = true) (hb : KBn X.K fd ps n [] g gV) (hG : GRel X.K gD gV)
    (ha : FA X L W (e :: es) fa) (hdb : (x == ("__debug__" : Str)) = false := by decide) (he : starEach (e :: es) X.env = (false, eval e X.env) :: starEach es X.env := by rfl) (hpl : (backTo pos (starEach es X.env)).any (·.1) = false := by rfl) :
    FE X L W (.Call (.Name x p) (e :: es) [] pos) (dCall n 0 S gD fa dNil) := by
  refine ⟨fun pins s σ H Q I ⟨α, M, sd, r, sl, h⟩ => ?_⟩
  refine wpAny_Call_Name_kw (ld_glob I hg hm ?_ hdb)
  refine PySem.W.callWith_K (h₀ := X.base) I.ok.mod.kin hk (thn (ha.run pos pins s σ H _ I ⟨α, M, sd, r, sl, (PostR.bind (R := Reps _) h).imp fun xs H1 q => q⟩) fun us s1 ⟨vs, H1, I1, rv, q⟩ => ⟨I1.kIn, ?_⟩) he hpl
  obtain ⟨ds, α1, M1, l1, r1, rs, h1⟩ := q
  obtain ⟨n1, h1⟩ := lenIs_post h1
  obtain ⟨_, h1⟩ := lenIs_post h1
  exact run_g (us := us) (ws := []) (vs := vs) (zs := []) F hr hb tk I1 rv .nil (rs.length.symm.trans n1) rfl ⟨α1, M1, _, r1, hG.to rs reps_nil, h1⟩
theorem fe_callK (F : FnOk X.prog X.w X.K X.mg X.base (L2.CX X.prog X.w) k f fd ps (spF X.K L S)) (hr : Room k X.A) (tk : Takes X W) (hg : Gl X x) (hm : X.mg x = some (.ref f)) (hk : PySem.W.keepIn X.K (.ref f) = true) (hb : KBn X.K fd ps n ks g gV) (hG : GRel X.K gD gV)
    (ha : FA X L W (e :: es) fa) (hkw : FK X L W kws fk) (hall : (backToKw pos (keywordEach kws X.env)).all (·.1.isSome) = true := by rfl) (hks : (backToKw pos (keywordEach kws X.env)).filterMap (·.1) = ks := by rfl)
    (hdb : (x == ("__debug__" : Str)) = false := by decide) (he : starEach (e :: es) X.env = (false, eval e X.env) :: starEach es X.env := by rfl)
    (hpl : ((backTo pos (starEach (e :: es) X.env)).any (·.1) || (backToKw pos (keywordEach kws X.env)).any (·.1.isNone)) = false := by rfl) :
    FE X L W (.Call (.Name x p) (e :: es) kws pos) (dCall n ks.length S gD fa fk) := by
  refine ⟨fun pins s σ H Q I ⟨α, M, sd, r, sl, h⟩ => ?_⟩
  refine wpAny_Call_Name_kw (ld_glob I hg hm ?_ hdb)
  refine PySem.W.callWith_KW (h₀ := X.base) I.ok.mod.kin hk hall (thn (ha.run pos pins s σ H _ I ⟨α, M, sd, r, sl, (PostR.bind (R := Reps _) h).imp fun xs H1 q => q⟩) fun us s1 ⟨vs, H1, I1, rv, q⟩ => ?_) hpl he
  obtain ⟨ds, α1, M1, l1, r1, rs, h1⟩ := q
  refine thn (hkw.run pos pins s1 σ H1 _ I1 ⟨α1, M1, sd, r1, sl.le l1, (PostR.bind (R := Reps _) h1).imp fun xs H1 q => q⟩) fun ws s2 ⟨zs, H2, I2, rz, q⟩ => ⟨I2.kIn, ?_⟩
  obtain ⟨es', α2, M2, l2, r2, re, h2⟩ := q
  obtain ⟨n1, h2⟩ := lenIs_post h2
  obtain ⟨n2, h2⟩ := lenIs_post h2
  rw [hks]
  exact run_g (us := us) (ws := ws) (vs := vs) (zs := zs) F hr hb tk I2 rv rz (rs.length.symm.trans n1) (re.length.symm.trans n2) ⟨α2, M2, _, r2, hG.to (rs.le l2) re, h2⟩
/-! ### objects -/
/-- the fields of an instance of the class c (whichever: none) -/
def insAt (M : Mem) (d : D) : Option (Nat × Nat × List (Nat × D)) := match d with
  | .ref n => (match M[n]? with
    | some (.ins c fs) => some (n, c, fs)
    | _ => none)
  | _ => none
theorem insAt_rep {K : PySem.W.Frag} {α : List Addr} {M : Mem} {H : Hp} {d : D} {v : V} {n c : Nat} {fs : List (Nat × D)} (r : Rel K L α M H) (e : insAt M d = some (n, c, fs)) (rd : Rep K α H d v) :
    d = .ref n ∧ M[n]? = some (.ins c fs) ∧ ∃ a dx vs, α[n]? = some a ∧ v = .ref a ∧ H a = some (.ins (L.cls c) dx vs) ∧ FsR K L α H fs vs ∧ c < L.nc := by
  unfold insAt at e
  split at e
  · split at e
    · rename_i n' c' fs' eo
      cases e
      obtain ⟨a, ha, rfl⟩ := rd.ref
      obtain ⟨a', ha', dx, vs, hv, q, z⟩ := r.at eo
      rw [ha] at ha'; cases ha'
      exact ⟨rfl, eo, a, dx, vs, ha, rfl, hv, q, z⟩
    · cases e
  · cases e
theorem fs_look {K : PySem.W.Frag} {α : List Addr} {H : Hp} {fs : List (Nat × D)} {vs : List (Str × V)} (h : FsR K L α H fs vs) (i : Nat) : OptR K α H (look fs i) (vs.lookup (L.nm i)) := by
  induction h with
  | nil => rfl
  | @cons p q ps qs hp _ ih =>
    obtain ⟨a, b⟩ := q
    have e1 : a = L.nm p.1 := hp.1
    subst e1
    unfold look
    by_cases e : p.1 = i
    · rw [decide_eq_true e]
      have eb : (L.nm i == L.nm p.1) = true := beq_iff_eq.mpr (by rw [e])
      simp only [List.lookup, eb]
      exact ⟨b, rfl, hp.2⟩
    · rw [decide_eq_false e]
      have eb : (L.nm i == L.nm p.1) = false := beq_eq_false_iff_ne.mpr fun z => e (L.inj _ _ z.symm)
      simp only [List.lookup, eb]
      exact ih
theorem fs_put {K : PySem.W.Frag} {α : List Addr} {H : Hp} {fs : List (Nat × D)} {vs : List (Str × V)} (h : FsR K L α H fs vs) (i : Nat) {d : D} {v : V} (r : Rep K α H d v) : FsR K L α H (put fs i d) (putF (L.nm i) v vs) := by
  induction h with
  | nil => exact .cons ⟨rfl, r⟩ .nil
  | @cons p q ps qs hp t ih =>
    obtain ⟨a, b⟩ := q
    have e1 : a = L.nm p.1 := hp.1
    subst e1
    rw [put_cons]
    show FsR K L α H _ (if L.nm p.1 = L.nm i then (L.nm p.1, v) :: qs else (L.nm p.1, b) :: putF (L.nm i) v qs)
    by_cases e : p.1 = i
    · rw [if_pos e, if_pos (by rw [e])]
      exact .cons ⟨rfl, r⟩ t
    · rw [if_neg e, if_neg fun z => e (L.inj _ _ z)]
      exact .cons ⟨rfl, hp.2⟩ ih
def gFld (i : Nat) : D → Mem → Res D := fun d M => match insAt M d with
  | some (_, _, fs) => okD M (look fs i)
  | none => .bad
/-- what the written part says of all own classes -/
structure FldOk (K : PySem.W.Frag) (L : Lay) (i : Nat) : Prop where
  cl : ∀ c, c < L.nc → Cls K (L.cls c)
  na : ∀ c, c < L.nc → NoAttr K (L.cls c) (L.nm i)
theorem fe_fld {i : Nat} {nm : Str} (T : FldOk X.K L i) (hn : L.nm i = nm) (he : FE X L W o fo) (hb : attributeBase o nm X.env (eval o X.env) = eval o X.env := by rfl) : FE X L W (.Attribute o nm pos) (dOp1 (gFld i) fo) := peImp (pe_fld he hb) fun σ H Q ⟨α, M, s, r, sl, h⟩ =>
  ⟨α, M, s, r, sl, (PostR.bind (R := Rep _) h).imp fun x H1 ⟨dx, α1, M1, l1, r1, rx, h1⟩ => by
    dsimp only at h1
    unfold gFld at h1
    cases e : insAt M1 dx with
    | none => rw [e] at h1; exact h1.elim
    | some q =>
      obtain ⟨n, c, fs⟩ := q
      rw [e] at h1
      obtain ⟨_, _, a, ddx, vs, ha, rfl, hv, hf, hc⟩ := insAt_rep r1 e rx
      have z := fs_look hf i
      cases el : look fs i with
      | none => simp only [el] at h1; exact h1.elim
      | some d =>
        simp only [el] at h1
        rw [el] at z
        obtain ⟨u, e1, ru⟩ := z
        subst hn
        exact ⟨a, _, ddx, vs, u, rfl, hv, T.cl c hc, T.na c hc, e1, PostR.pure h1 r1 ru⟩⟩
/-- the store with the field i of the instance at n set -/
def setFld (M : Mem) (d : D) (i : Nat) (v : D) : Option Mem := match insAt M d with
  | some (n, c, fs) => (match decide (fs.length < 1000) with
    | true => some (M.set n (.ins c (put fs i v)))
    | false => none)
  | none => none
def sFldF (i : Nat) (fo fv : EF) : SF := fun s M => (fv s M).toS s fun v M1 => (fo s M1).toS s fun o M2 => match setFld M2 o i v with
  | some M3 => .nx s M3
  | none => .bad
theorem FsR.length {K : PySem.W.Frag} {α : List Addr} {H : Hp} {fs : List (Nat × D)} {vs : List (Str × V)} (h : FsR K L α H fs vs) : fs.length = vs.length := Paired.length h
theorem fs_fld {i : Nat} {nm : Str} {pos' : Pos} {v : Expr} {fv : EF} (T : FldOk X.K L i) (hn : L.nm i = nm) (ho : FE X L W o fo) (hv : FE X L W v fv) (hs : swapsWith v (some (.Attribute o nm pos')) pos.line X.env = pure false := by rfl) : FS X L W (.Assign [.Attribute o nm pos'] v pos) (sFldF i fo fv) :=
  psImp (ps_fld ho hv hs) fun D σ H ⟨α, M, s, r, sl, h⟩ => ⟨α, M, s, r, sl, (PostR.toS (R := Rep _) sl h).imp fun y H1 ⟨dy, α1, M1, l1, r1, ry, h1⟩ =>
    ⟨α1, M1, s, r1, sl.le l1, (PostR.toS (R := Rep _) (sl.le l1) h1).imp fun x H2 ⟨dx, α2, M2, l2, r2, rx, h2⟩ => by
      dsimp only at h2
      unfold setFld at h2
      cases e : insAt M2 dx with
      | none => simp only [e] at h2; exact h2.elim
      | some q =>
        obtain ⟨n, c, fs⟩ := q
        simp only [e] at h2
        obtain ⟨_, eo, a, ddx, vs, ha, rfl, hvs, hf, hc⟩ := insAt_rep r2 e rx
        cases el : decide (fs.length < 1000) with
        | false => rw [el] at h2; exact h2.elim
        | true =>
          rw [el] at h2
          subst hn
          have hm : a ∈ α2 := List.mem_of_getElem? ha
          have le : Le α2 H2 α2 (upd H2 a (.ins (L.cls c) ddx (putF (L.nm i) y vs))) := Le.write hm hvs trivial
          refine ⟨a, _, ddx, vs, rfl, hvs, T.cl c hc, T.na c hc, by rw [← hf.length]; exact dt el, ?_⟩
          exact h2 α2 _ σ le (r2.write (o := .ins c (put fs i dy)) ha ⟨ddx, _, upd_same, fs_put (hf.le le) i ((ry.le l2).le le), hc⟩) (((sl.le l1).le l2).le le)⟩⟩
/-- o.f += e -/
def sFldAugF (i : Nat) (g : D → D → Mem → Res D) (fo fv : EF) : SF := fun s M => (fo s M).toS s fun o M1 => (gFld i o M1).toS s fun z M2 => (fv s M2).toS s fun v M3 => (g z v M3).toS s fun y M4 => match setFld M4 o i y with
  | some M5 => .nx s M5
  | none => .bad
/-! ### methods -/
def gMeth (c j n : Nat) (S : List D → Mem → Res D) (gD : List D → List D → List D) (o : D) (fa : AF) : EF := fun s M => match insAt M o with
  | some (_, c', fs) => (match decide (c' = c), look fs j with
    | true, none => (fa s M).bind fun xs M1 => lenIs n xs (S (gD (o :: xs) []) M1)
    | _, _ => .bad)
  | none => .bad
def dMeth (c j n : Nat) (S : List D → Mem → Res D) (gD : List D → List D → List D) (fo : EF) (fa : AF) : EF := fun s M => (fo s M).bind fun o M1 => gMeth c j n S gD o fa s M1
theorem meth_go {c j : Nat} {fa : AF} {σ : L2.St} {H : Hp} {Q : VK} (hc : c < L.nc → Cls X.K (L.cls c)) (hj : L.nm j = m) (h : LE X.K L W (dMeth c j n S gD fo fa) σ H Q) :
    LE X.K L W fo σ H fun x H1 => ∃ a dx fs, x = .ref a ∧ H1 a = some (.ins (L.cls c) dx fs) ∧ Cls X.K (L.cls c) ∧ fs.lookup m = none ∧ LA X.K L W fa σ H1 fun vs H2 => vs.length = n ∧ ∃ α M ds o, Rel X.K L α M H2 ∧ Rep X.K α H2 o (.ref a) ∧ Reps X.K α H2 ds vs ∧ PostR X.K L (Rep X.K) (S (gD (o :: ds) []) M) α H2 Q (fun c d H' => W c d σ H') := by
  obtain ⟨α, M, s, r, sl, h⟩ := h
  refine ⟨α, M, s, r, sl, (PostR.bind (R := Rep _) h).imp fun x H1 ⟨dx, α1, M1, l1, r1, rx, h1⟩ => ?_⟩
  dsimp only at h1
  unfold gMeth at h1
  cases e : insAt M1 dx with
  | none => simp only [e] at h1; exact h1.elim
  | some q =>
    obtain ⟨n', c', fs⟩ := q
    simp only [e] at h1
    split at h1
    · rename_i e1 e2
      have ec : c' = c := dt e1
      subst ec
      obtain ⟨_, eo, a, ddx, vs, ha, rfl, hvs, hf, hcn⟩ := insAt_rep r1 e rx
      have z := fs_look hf j
      rw [e2] at z
      subst hj
      refine ⟨a, ddx, vs, rfl, hvs, hc hcn, z, α1, M1, s, r1, sl.le l1, (PostR.bind (R := Reps _) h1).imp fun xs H2 ⟨ds, α2, M2, l2, r2, rs, h2⟩ => ?_⟩
      obtain ⟨n1, h2⟩ := lenIs_post h2
      exact ⟨rs.length.symm.trans n1, α2, M2, ds, dx, r2, rx.le l2, rs, h2⟩
    · exact h1.elim
theorem fe_meth {c j : Nat} {pl : Sem Bool} (hc : c < L.nc → Cls X.K (L.cls c)) (hj : L.nm j = m) (hm : Meth X.K (L.cls c) m f) (F : FnOk X.prog X.w X.K X.mg X.base (L2.CX X.prog X.w) k f fd ps (spF X.K L S)) (hr : Room k X.A) (tk : Takes X W) (hb : KBn X.K fd ps (n + 1) [] g gV) (hG : GRel X.K gD gV)
    (he : FE X L W o fo) (ha : FA X L W (e :: es) fa)
    (hst : starEach (e :: es) X.env = (false, eval e X.env) :: starEach es X.env := by rfl) (hpl : (backTo pos (starEach es X.env)).any (·.1) = false := by rfl)
    (ht : eval (.Call (.Attribute o m apos) (e :: es) [] pos) X.env = (do
      let ov ← eval o X.env
      standAt apos.atName
      let (f, first) ← holding [ov] (getMethod ov m pl)
      callWith pos f first (backTo pos (starEach (e :: es) X.env)) (backToKw pos (keywordEach [] X.env))) := by rfl) : FE X L W (.Call (.Attribute o m apos) (e :: es) [] pos) (dMeth c j n S gD fo fa) := by
  refine ⟨fun pins s σ H Q I h => ?_⟩
  refine PySem.W.methodCall_KW (pl := pl) (thn (he.run pins s σ H _ I (meth_go hc hj h)) fun u s1 ⟨x, H1, I1, rx, a, dx, fs, ex, ea, cl, l, q⟩ => ?_) ht
  subst ex
  obtain rfl : u = Value.ref a := rx
  refine getmeth_ok I1 ea cl hm l ?_
  refine PySem.W.callWith_K (first := [.ref a]) (h₀ := X.base) I.ok.mod.kin hm.kp (thn (ha.run pos pins s1 σ H1 _ I1 q) fun us s2 ⟨vs, H2, I2, rv, n1, α, M, ds, od, r2, ro, rs, h2⟩ => ⟨I2.kIn, ?_⟩) hst hpl
  exact run_g (us := .ref a :: us) (ws := []) (vs := .ref a :: vs) (zs := []) F hr hb tk I2 (.cons rfl rv) .nil (by rw [List.length_cons, n1]) rfl ⟨α, M, _, r2, hG.to (reps_cons ro rs) reps_nil, h2⟩
theorem fe_meth0 {c j : Nat} {pl : Sem Bool} (hc : c < L.nc → Cls X.K (L.cls c)) (hj : L.nm j = m) (hm : Meth X.K (L.cls c) m f) (F : FnOk X.prog X.w X.K X.mg X.base (L2.CX X.prog X.w) k f fd ps (spF X.K L S)) (hr : Room k X.A) (tk : Takes X W) (hb : KBn X.K fd ps 1 [] g gV) (hG : GRel X.K gD gV)
    (he : FE X L W o fo)
    (ht : eval (.Call (.Attribute o m apos) [] [] pos) X.env = (do
      let ov ← eval o X.env
      standAt apos.atName
      let (f, first) ← holding [ov] (getMethod ov m pl)
      callWith pos f first (backTo pos (starEach [] X.env)) (backToKw pos (keywordEach [] X.env))) := by rfl) : FE X L W (.Call (.Attribute o m apos) [] [] pos) (dMeth c j 0 S gD fo dNil) := by
  refine ⟨fun pins s σ H Q I h => ?_⟩
  refine PySem.W.methodCall_KW (pl := pl) (thn (he.run pins s σ H _ I (meth_go hc hj h)) fun u s1 ⟨x, H1, I1, rx, a, dx, fs, ex, ea, cl, l, q⟩ => ?_) ht
  subst ex
  obtain rfl : u = Value.ref a := rx
  refine getmeth_ok I1 ea cl hm l ?_
  obtain ⟨α0, M0, sd, r0, sl, h0⟩ := q
  obtain ⟨n1, α, M, ds, od, r2, ro, rs, h2⟩ := PostR.pure (R := Reps _) h0 r0 reps_nil
  refine PySem.W.callWith_K0 (first := [.ref a]) I1.kIn hm.kp ?_
  exact run_g (us := [.ref a]) (ws := []) (vs := [.ref a]) (zs := []) F hr hb tk I1 (.cons rfl .nil) .nil rfl rfl ⟨α, M, _, r2, hG.to (reps_cons ro rs) reps_nil, h2⟩
/-! ### C(e, .., k = v, ..): the instance, then its __init__ -/
def gMake (c : Nat) (S : List D → Mem → Res D) (gD : List D → List D → List D) (xs zs : List D) : Mem → Res D := fun M => (S (gD (.ref M.length :: xs) zs) (M ++ [.ins c []])).bind fun v M1 => match v with
  | .non => .ok (.ref M.length) M1
  | _ => .bad
def dMake (c n m : Nat) (S : List D → Mem → Res D) (gD : List D → List D → List D) (fa fk : AF) : EF := fun s M => (fa s M).bind fun xs M1 => (fk s M1).bind fun zs M2 => lenIs n xs (lenIs m zs (gMake c S gD xs zs M2))
theorem make_rel {K : PySem.W.Frag} {α : List Addr} {M : Mem} {H : Hp} {c : Nat} (hc : c < L.nc) (r : Rel K L α M H) {x dx : Addr} (hx : H x = none) (hd : H dx = none) (ne : dx ≠ x) :
    Le α H (α ++ [x]) (upd (upd H dx (.own x)) x (.ins (L.cls c) dx [])) ∧ Rel K L (α ++ [x]) (M ++ [.ins c []]) (upd (upd H dx (.own x)) x (.ins (L.cls c) dx [])) := by
  have nd : dx ∉ α := fun hm => by
    obtain ⟨u, hu, _⟩ := r.mem hm
    rw [hd] at hu; cases hu
  have l1 : Le α H α (upd H dx (.own x)) := by
    refine ⟨⟨[], by simp, by simp⟩, fun a o h _ => ?_, fun a h => ?_, fun a xs h => ?_, fun a o xs h => ?_⟩
    · rw [upd_ne (ne_of_none h hd)]; exact h
    · by_cases q : a = dx
      · rw [q, upd_same]; exact fun z => nomatch z
      · rw [upd_ne q]; exact h
    · rw [upd_ne (ne_of_none h hd)]; exact h
    · rw [upd_ne (ne_of_none h hd)]; exact h
  have r1 : Rel K L α M (upd H dx (.own x)) := ⟨r.len, r.nd, fun i o a h1 h2 => (r.ob i o a h1 h2).stay l1 r (by
    obtain ⟨u, hu, _⟩ := (r.ob i o a h1 h2).ours
    rw [upd_ne (ne_of_none hu hd)]) fun _ _ h => h⟩
  have hx1 : upd H dx (.own x) x = none := by rw [upd_ne (Ne.symm ne)]; exact hx
  exact ⟨l1.trans (Le.new hx1), r1.new (o := .ins c []) hx1 ⟨dx, [], upd_same, .nil, hc⟩⟩
theorem make_go {c : Nat} {fd : FuncData} (hc : c < L.nc) (M : Mk X.K (L.cls c) f) (F : FnOk X.prog X.w X.K X.mg X.base (L2.CX X.prog X.w) k f fd ps (spF X.K L S)) (hr : Room (k + 1) X.A) (hb : KBn X.K fd ps (n + 1) ks g gV) (hG : GRel X.K gD gV) (tk : Takes X W)
    {pins : List (Addr × Obj)} {σ : L2.St} {H : Hp} {s : Shared} {Q : VK} {us ws : List Value} {vs zs : List V} {α : List Addr} {Me : Mem} {ds es : List D} (I : Inv X pins σ H s) (rv : Vals vs us) (rz : Vals zs ws) (r : Rel X.K L α Me H) (rs : Reps X.K α H ds vs) (re : Reps X.K α H es zs) (l1 : ds.length = n) (l2 : es.length = ks.length)
    (h : PostR X.K L (Rep X.K) (gMake c S gD ds es Me) α H Q (fun c d H' => W c d σ H')) : wpAny (model X.prog X.w) X.A (call (.ref (L.cls c)) us (ks.zip ws)) (EP X pins σ Q) X.xe s := by
  have hx : H (s.heap.objs.size + 1) = none := I.hok.fresh (Nat.le_succ _)
  have hd : H s.heap.objs.size = none := I.hok.fresh (Nat.le_refl _)
  have ne : s.heap.objs.size ≠ s.heap.objs.size + 1 := Nat.ne_of_lt (Nat.lt_succ_self _)
  obtain ⟨le, r2⟩ := make_rel hc r hx hd ne
  have I2 := Inv.made (C := L.cls c) I
  have r1 : Vals (V.ref (s.heap.objs.size + 1) :: vs) (Value.ref (s.heap.objs.size + 1) :: us) := .cons rfl rv
  have n1 : (Value.ref (s.heap.objs.size + 1) :: us).length = n + 1 := by rw [List.length_cons, ← rv.length, ← rs.length, l1]
  have n2 : ws.length = ks.length := by rw [← rz.length, ← re.length, l2]
  have self : Rep X.K (α ++ [s.heap.objs.size + 1]) (upd (upd H s.heap.objs.size (.own (s.heap.objs.size + 1))) (s.heap.objs.size + 1) (.ins (L.cls c) s.heap.objs.size [])) (.ref Me.length) (.ref (s.heap.objs.size + 1)) := rep_ref (by rw [← r.len]; simp)
  have hsp : spF X.K L S (gV (V.ref (s.heap.objs.size + 1) :: vs) zs) (upd (upd H s.heap.objs.size (.own (s.heap.objs.size + 1))) (s.heap.objs.size + 1) (.ins (L.cls c) s.heap.objs.size [])) (fun v H3 => v = .non ∧ Q (.ref (s.heap.objs.size + 1)) H3) (WE W σ) := by
    refine ⟨_, _, _, r2, hG.to (reps_cons self (rs.le le)) (re.le le), ?_⟩
    have h1 := PostR.le le h
    unfold gMake at h1
    refine (PostR.bind (R := Rep _) h1).imp fun v H3 ⟨dv, α3, M3, l3, r3, rv3, h3⟩ => ?_
    dsimp only at h3
    cases dv <;> try exact h3.elim
    exact ⟨rv3.non, PostR.pure h3 r3 (self.le l3)⟩
  refine wpAny_call (make_map (f := f) I.kIn M.makes M.init (beq_iff_eq.mp M.fn) (codeAny_mono (F.run _ X.stack _ _ ⟨Value.ref (s.heap.objs.size + 1) :: us, ks.zip ws⟩ (g (Value.ref (s.heap.objs.size + 1) :: us) ws) _ _ (WE W σ) (hr.make (L.cls c) us (ks.zip ws))
    (I2.env0.make (L.cls c) us (ks.zip ws)) (hb.to _ _ ws I2.kIn n1 n2) (hb.rel r1 rz) hsp) fun r s' hq' => ?_))
  cases r with
  | error e => exact passAt tk σ pins _ _ e s' I2 hq'
  | ok fl =>
    cases fl <;> try exact False.elim hq'
    obtain ⟨v, H', I3, rv, ev, q3⟩ := I2.after hq'
    subst ev
    exact ⟨rv, ⟨V.ref (s.heap.objs.size + 1), H', I3, rfl, q3⟩⟩
theorem fe_makeK {c : Nat} (hc : c < L.nc) (M : Mk X.K (L.cls c) f) (F : FnOk X.prog X.w X.K X.mg X.base (L2.CX X.prog X.w) k f fd ps (spF X.K L S)) (hr : Room (k + 1) X.A) (tk : Takes X W) (hg : Gl X x) (hm : X.mg x = some (.ref (L.cls c))) (hb : KBn X.K fd ps (n + 1) ks g gV) (hG : GRel X.K gD gV) (ha : FA X L W (e :: es) fa) (hkw : FK X L W kws fk)
    (hall : (backToKw pos (keywordEach kws X.env)).all (·.1.isSome) = true := by rfl) (hks : (backToKw pos (keywordEach kws X.env)).filterMap (·.1) = ks := by rfl) (hdb : (x == ("__debug__" : Str)) = false := by decide)
    (he : starEach (e :: es) X.env = (false, eval e X.env) :: starEach es X.env := by rfl) (hpl : ((backTo pos (starEach (e :: es) X.env)).any (·.1) || (backToKw pos (keywordEach kws X.env)).any (·.1.isNone)) = false := by rfl) :
    FE X L W (.Call (.Name x p) (e :: es) kws pos) (dMake c n ks.length S gD fa fk) := by
  refine ⟨fun pins s σ H Q I ⟨α, Me, sd, r, sl, h⟩ => ?_⟩
  refine wpAny_Call_Name_kw (ld_glob I hg hm ?_ hdb)
  refine PySem.W.callWith_KW (h₀ := X.base) I.ok.mod.kin M.kp hall (thn (ha.run pos pins s σ H _ I ⟨α, Me, sd, r, sl, (PostR.bind (R := Reps _) h).imp fun xs H1 q => q⟩) fun us s1 ⟨vs, H1, I1, rv, q⟩ => ?_) hpl he
  obtain ⟨ds, α1, M1, l1, r1, rs, h1⟩ := q
  refine thn (hkw.run pos pins s1 σ H1 _ I1 ⟨α1, M1, sd, r1, sl.le l1, (PostR.bind (R := Reps _) h1).imp fun xs H1 q => q⟩) fun ws s2 ⟨zs, H2, I2, rz, q⟩ => ⟨I2.kIn, ?_⟩
  obtain ⟨es', α2, M2, l2, r2, re, h2⟩ := q
  obtain ⟨n1, h2⟩ := lenIs_post h2
  obtain ⟨n2, h2⟩ := lenIs_post h2
  rw [hks]
  exact make_go (us := us) (ws := ws) hc M F hr hb hG tk I2 rv rz r2 (rs.le l2) re n1 n2 h2
theorem fe_make {c : Nat} (hc : c < L.nc) (M : Mk X.K (L.cls c) f) (F : FnOk X.prog X.w X.K X.mg X.base (L2.CX X.prog X.w) k f fd ps (spF X.K L S)) (hr : Room (k + 1) X.A) (tk : Takes X W) (hg : Gl X x) (hm : X.mg x = some (.ref (L.cls c))) (hb : KBn X.K fd ps (n + 1) [] g gV) (hG : GRel X.K gD gV) (ha : FA X L W (e :: es) fa)
    (hdb : (x == ("__debug__" : Str)) = false := by decide)
    (he : starEach (e :: es) X.env = (false, eval e X.env) :: starEach es X.env := by rfl) (hpl : (backTo pos (starEach es X.env)).any (·.1) = false := by rfl) :
    FE X L W (.Call (.Name x p) (e :: es) [] pos) (dMake c n 0 S gD fa dNil) := by
  refine ⟨fun pins s σ H Q I ⟨α, Me, sd, r, sl, h⟩ => ?_⟩
  refine wpAny_Call_Name_kw (ld_glob I hg hm ?_ hdb)
  refine PySem.W.callWith_K (h₀ := X.base) I.ok.mod.kin M.kp (thn (ha.run pos pins s σ H _ I ⟨α, Me, sd, r, sl, (PostR.bind (R := Reps _) h).imp fun xs H1 q => q⟩) fun us s1 ⟨vs, H1, I1, rv, q⟩ => ⟨I1.kIn, ?_⟩) he hpl
  obtain ⟨ds, α1, M1, l1, r1, rs, h1⟩ := q
  obtain ⟨n1, h1⟩ := lenIs_post h1
  obtain ⟨_, h1⟩ := lenIs_post h1
  exact make_go (us := us) (ws := []) (ks := []) hc M F hr hb hG tk I1 rv .nil r1 rs reps_nil n1 rfl h1
end
end Fl

namespace Fl
open PySem PySem.Spec L2
/-! ### targets -/
/-- the slots at is alone are changed -/
def Own (is : List Nat) (σ σ' : L2.St) : Prop := σ'.length = σ.length ∧ ∀ j, j ∉ is → σ'[j]? = σ[j]?
theorem Own.refl (is : List Nat) (σ : L2.St) : Own is σ σ := ⟨rfl, fun _ _ => rfl⟩
theorem Own.set {is : List Nat} {σ : L2.St} {i : Nat} {v : Option V} (h : i ∈ is) : Own is σ (σ.set i v) := ⟨by rw [List.length_set], fun j hj => by
  have ne : i ≠ j := fun z => hj (by rw [← z]; exact h)
  rw [List.getElem?_set_ne ne]⟩
theorem Own.trans {is : List Nat} {a b c : L2.St} (h : Own is a b) (h' : Own is b c) : Own is a c := ⟨h'.1.trans h.1, fun j hj => (h'.2 j hj).trans (h.2 j hj)⟩
theorem Own.wipe {is : List Nat} {σ σ' : L2.St} (h : Own is (wipe σ is) σ') : L2.wipe σ' is = L2.wipe σ is := by
  have hl : σ'.length = σ.length := h.1.trans (wipe_length σ is)
  have key : ∀ (τ : L2.St) (ks : List Nat) (j : Nat), j ∈ ks → j < τ.length → (L2.wipe τ ks)[j]? = some none := by
    intro τ ks
    induction ks with
    | nil => intro j hj; cases hj
    | cons v vs ih =>
      intro j hj hlt
      unfold L2.wipe
      by_cases e : v = j
      · subst e
        rw [List.getElem?_set_self (by rw [wipe_length]; exact hlt)]
      · rw [List.getElem?_set_ne e]
        rcases List.mem_cons.mp hj with q | q
        · exact absurd q.symm e
        · exact ih j q hlt
  refine List.ext_getElem? fun j => ?_
  by_cases hj : j ∈ is
  · by_cases hlt : j < σ.length
    · rw [key σ' is j hj (by omega), key σ is j hj hlt]
    · rw [List.getElem?_eq_none (by rw [wipe_length]; omega), List.getElem?_eq_none (by rw [wipe_length]; omega)]
  · rw [wipe_out hj, h.2 j hj]
abbrev GF := D → Sl → Mem → Res Sl
abbrev GsF := List D → Sl → Option Sl
abbrev RSl (K : PySem.W.Frag) (is : List Nat) (σ : L2.St) : List Addr → Hp → Sl → L2.St → Prop := fun α H s σ' => Slots K α H s σ' ∧ Own is σ σ'
def LG (K : PySem.W.Frag) (L : Lay) (W : WX) (is : List Nat) (f : GF) : TG := fun v σ H Q => ∃ α M s d, Rel K L α M H ∧ Slots K α H s σ ∧ Rep K α H d v ∧ PostR K L (RSl K is σ) (f d s M) α H (fun σ' H' => Own is σ σ' → Q σ' H') (fun c d H' => W c d σ H')
def LGs (K : PySem.W.Frag) (L : Lay) (is : List Nat) (f : GsF) : TGs := fun vs σ H Q => ∃ α M s ds s2, Rel K L α M H ∧ Slots K α H s σ ∧ Reps K α H ds vs ∧ f ds s = some s2 ∧ ∀ σ', Slots K α H s2 σ' → Own is σ σ' → Q σ' H
abbrev FG (X : Cx) (L : Lay) (W : WX) (is : List Nat) (tg : Expr) (f : GF) : Prop := PG X tg (LG X.K L W is f)
abbrev FGs (X : Cx) (L : Lay) (is : List Nat) (ts : List Expr) (f : GsF) : Prop := PGs X ts (LGs X.K L is f)
def gN (i : Nat) : GF := fun d s M => .ok (s.set i (some d)) M
def gsNil : GsF := fun ds s => match ds with
  | [] => some s
  | _ => none
def gsCons (i : Nat) (r : GsF) : GsF := fun ds s => match ds with
  | d :: ds => r ds (s.set i (some d))
  | _ => none
def gT (n : Nat) (r : GsF) : GF := fun d s M => match d with
  | .tup ds => (match decide (ds.length = n), r ds s with
    | true, some s2 => .ok s2 M
    | _, _ => .bad)
  | _ => .bad
section
variable {X : Cx} {L : Lay} {W : WX} {is : List Nat} {pos : Pos}
theorem pgImp {e : Expr} {t t' : TG} (h : PG X e t) (i : ∀ v σ H Q, t' v σ H Q → t v σ H Q) : PG X e t' := ⟨fun pins s σ H v u Q I r q => h.run pins s σ H v u Q I r (i v σ H Q q)⟩
theorem pgsImp {e : List Expr} {t t' : TGs} (h : PGs X e t) (i : ∀ v σ H Q, t' v σ H Q → t v σ H Q) : PGs X e t' := ⟨fun pins s σ H v u Q I r q => h.run pins s σ H v u Q I r (i v σ H Q q)⟩
theorem fg_name {i : Nat} {x : Str} (hm : i ∈ is) (hN : X.N.Nodup) (hi : X.N[i]? = some x) (hx : Loc X.env.scope x) (hf : X.fn x = true ∨ X.env.scope.names.lookup x = some .local := by first | exact .inl rfl | exact .inr rfl | assumption) : FG X L W is (.Name x pos) (gN i) :=
  pgImp (pg_name hN hi hx hf) fun v σ H Q ⟨α, M, s, d, r, sl, rd, h⟩ => PostR.pure h r ⟨sl.set i rd, Own.set hm⟩ (Own.set hm)
theorem fgs_nil : FGs X L is [] gsNil := pgsImp pgs_nil fun vs σ H Q ⟨α, M, s, ds, s2, r, sl, rd, e, h⟩ => by
  cases ds with
  | nil => cases e; exact ⟨rd.nil, h σ sl (Own.refl _ _)⟩
  | cons a b => cases e
theorem fgs_cons {i : Nat} {x : Str} {es : List Expr} {f : GsF} (hm : i ∈ is) (hN : X.N.Nodup) (hi : X.N[i]? = some x) (hx : Loc X.env.scope x) (h2 : FGs X L is es f) (hf : X.fn x = true ∨ X.env.scope.names.lookup x = some .local := by first | exact .inl rfl | exact .inr rfl | assumption)
    (hs : (assignEach (.Name x pos :: es) X.env).map (·.2) = assign (.Name x pos) X.env :: (assignEach es X.env).map (·.2) := by rfl) : FGs X L is (.Name x pos :: es) (gsCons i f) :=
  pgsImp (pgs_cons (pg_name hN hi hx hf) h2 hs) fun vs σ H Q ⟨α, M, s, ds, s2, r, sl, rd, e, h⟩ => by
    cases ds with
    | nil => cases e
    | cons d ds =>
      obtain ⟨v, vs', rfl, h1, h3⟩ := rd.cons
      exact ⟨v, vs', rfl, α, M, _, ds, s2, r, sl.set i h1, h3, e, fun σ' q o => h σ' q ((Own.set hm).trans o)⟩
theorem fg_tup {es : List Expr} {k n : Nat} {f : GsF} (hc : X.calm = true) (h : FGs X L is es f) (hn : (assignEach es X.env).length = n := by rfl) (hst : (assignEach es X.env).findIdx? (·.1) = none := by rfl) : FG X L W is (.Tuple es k pos) (gT n f) :=
  pgImp (pg_tup hc h hn hst) fun v σ H Q ⟨α, M, s, d, r, sl, rd, q⟩ => by
    cases d <;> try exact q.elim
    rename_i ds
    unfold gT at q
    dsimp only at q
    split at q
    · rename_i s2 e1 e2
      obtain ⟨t, vs, rfl, ht, hr⟩ := rd.tup
      exact ⟨t, vs, rfl, ht.sq, by rw [← hr.length]; exact dt e1, α, M, s, ds, s2, r, sl, hr, e2, fun σ' h1 o => PostR.pure q r ⟨h1, o⟩ o⟩
    · exact q.elim
/-- x = e to any target -/
def sAsg (f : EF) (g : GF) : SF := fun s M => (f s M).toS s fun d M1 => (g d s M1).toS s fun s2 M2 => .nx s2 M2
theorem fs_asg {tg e : Expr} {f : EF} {g : GF} (he : FE X L W e f) (hg : FG X L W is tg g) (hs : swapsWithSole [tg] e pos.line X.env = pure false := by rfl) (hw : swappedStores [tg] e X.env = pure none := by rfl)
    (h1 : (assignEach [tg] X.env).map (·.2) = [assign tg X.env] := by rfl) : FS X L W (.Assign [tg] e pos) (sAsg f g) := psImp (ps_asg he hg hs hw h1) fun D σ H ⟨α, M, s, r, sl, q⟩ =>
  ⟨α, M, s, r, sl, (PostR.toS (R := Rep _) sl q).imp fun x H1 ⟨dx, α1, M1, l1, r1, rx, h1⟩ =>
    ⟨α1, M1, s, dx, r1, sl.le l1, rx, (PostR.toS (R := RSl _ is σ) (sl.le l1) h1).imp fun σ' H2 ⟨s2, α2, M2, l2, r2, ⟨q1, q2⟩, h2⟩ _ => h2 α2 H2 σ' (Le.refl _ _) r2 q1⟩⟩
end
/-! ### what is walked -/
/-- at turn i: the next item, the end, or nothing that is told -/
abbrev ItF := Nat → Mem → Option (Option D)
def ItAt (K : PySem.W.Frag) (L : Lay) (α : List Addr) (H : Hp) (M : Mem) (J : It) (i : Nat) : Option (Option D) → Prop
  | none => True
  | some none => J.stop i H
  | some (some d) => J.go i H ∧ ∀ x H2, J.yld i H x H2 → Le α H α H2 ∧ Rel K L α M H2 ∧ Rep K α H2 d x
def RIt (K : PySem.W.Frag) (L : Lay) : List Addr → Hp → ItF × Nat → It → Prop := fun α H nx J => ∀ i α' H' M', Le α H α' H' → Rel K L α' M' H' → ItAt K L α' H' M' J i (nx.1 i M')
theorem RIt.le {K : PySem.W.Frag} {L : Lay} {α α' : List Addr} {H H' : Hp} {nx : ItF × Nat} {J : It} (l : Le α H α' H') (h : RIt K L α H nx J) : RIt K L α' H' nx J := fun i α2 H2 M2 l2 r2 => h i α2 H2 M2 (l.trans l2) r2
abbrev IF := Sl → Mem → Res (ItF × Nat)
def LI (K : PySem.W.Frag) (L : Lay) (W : WX) (f : IF) : TI := fun σ H R => ∃ α M s, Rel K L α M H ∧ Slots K α H s σ ∧ PostR K L (RIt K L) (f s M) α H R (fun c d H' => W c d σ H')
abbrev FI (X : Cx) (L : Lay) (W : WX) (tg iter : Expr) (f : IF) : Prop := PI X tg iter (LI X.K L W f)
def nxL (n : Nat) : ItF := fun i M => match listAt M n with
  | some ds => some ds[i]?
  | none => none
def nxT (ds : List D) : ItF := fun i _ => some ds[i]?
def nxR (lo : Int) (n : Nat) : ItF := fun i _ => match decide (i < n) with
  | true => some (some (.int (lo + i)))
  | false => some none
/-- over a list or a tuple -/
def iSeq (f : EF) : IF := fun s M => (f s M).bind fun d M1 => match d with
  | .tup ds => .ok (nxT ds, ds.length + 1) M1
  | .ref n => (match listAt M1 n with
    | some ds => .ok (nxL n, ds.length + 1) M1
    | none => .bad)
  | _ => .bad
def iRng1 (a : AF) : IF := fun s M => (a s M).bind fun ds M1 => match ds with
  | [.int j] => (match decide (-(2 ^ 62) ≤ j ∧ j < 2 ^ 62) with
    | true => .ok (nxR 0 j.toNat, j.toNat + 1) M1
    | false => .bad)
  | _ => .bad
def iRng2 (a : AF) : IF := fun s M => (a s M).bind fun ds M1 => match ds with
  | [.int i, .int j] => (match decide (-(2 ^ 62) ≤ i ∧ i < 2 ^ 62 ∧ -(2 ^ 62) ≤ j ∧ j < 2 ^ 62) with
    | true => .ok (nxR i (j - i).toNat, (j - i).toNat + 1) M1
    | false => .bad)
  | _ => .bad
section
variable {X : Cx} {L : Lay} {W : WX} {pos : Pos} {tg e : Expr} {f : EF}
theorem piImp {t t' : TI} (h : PI X tg e t) (i : ∀ σ H Q, t' σ H Q → t σ H Q) : PI X tg e t' := ⟨fun pins s σ H Q I q => h.run pins s σ H Q I (i σ H Q q)⟩
/-- a record newly laid is ours to walk -/
theorem own_it {X : Cx} {pins : List (Addr × Obj)} {σ : L2.St} {H : Hp} {s : Shared} (I : L2.Inv X pins σ H s) : ∀ b ∈ [s.heap.objs.size], FpOk X pins H b := fun b hb => by
  rw [List.mem_singleton.mp hb]
  exact I.fpOk (Nat.le_refl _) I.fresh
theorem it_seq {X : Cx} {tg : Expr} {pins : List (Addr × Obj)} {σ : L2.St} {H : Hp} {s : Shared} {a : Addr} {xs : List V} {R : It → Hp → Prop} (I : L2.Inv X pins σ H s)
    (h : (SqL X.K H a xs ∧ R (Itl X.K a) H) ∨ (SqT X.K H a xs ∧ R (Itt X.K a) H)) : wpAny (model X.prog X.w) X.A (pyIter (.ref a)) (PIE X pins σ tg R) X.xe s := by
  have keep : ∀ (o : Obj) b u, s.heap.get? b = some u → (s.heap.push o).get? b = some u := fun o b u e => Heap.get?_push_of_some o e
  rcases h with ⟨hq, q⟩ | ⟨hq, q⟩
  · obtain ⟨its, _, p, _⟩ := I.list hq
    exact wpAny_pyIter_list p.isList ⟨_, _, _, _, H, rfl, I.kept (t' := s.toks) (keep _),
      turn_list a s.heap.objs.size, ⟨_, Heap.get?_push_size _ rfl, rfl, rfl⟩, own_it I, q⟩
  · obtain ⟨its, _, p, _⟩ := I.tuple hq
    have p' : s.heap.IsTuple a its.toArray := p
    exact wpAny_pyIter_tuple p' ⟨_, _, _, _, H, rfl, I.kept (t' := s.toks) (keep _),
      turn_tuple a s.heap.objs.size, ⟨_, Heap.get?_push_size _ rfl, rfl, rfl⟩, own_it I, q⟩
theorem fi_seq (he : FE X L W e f) : FI X L W tg e (iSeq f) := ⟨fun pins s σ H R I ⟨α, M, sd, r, sl, h⟩ => by
  refine thn (he.run pins s σ H _ I ⟨α, M, sd, r, sl, PostR.bind (R := Rep _) h⟩) fun v s1 ⟨x, H1, I1, rx, ⟨dx, α1, M1, l1, r1, rd, h1⟩⟩ => ?_
  dsimp only at h1
  split at h1
  · rename_i ds
    obtain ⟨t, vs, rfl, ht, hr⟩ := rd.tup
    cases rx
    refine it_seq I1 (.inr ⟨ht.sq, PostR.pure (R := RIt _ _) h1 r1 fun i α' H' M' l' r' => ?_⟩)
    have ht' := (ht.le l').sq
    have hr' := hr.le l'
    show ItAt X.K L α' H' M' (Itt X.K t) i (some ds[i]?)
    cases e1 : ds[i]? with
    | none => exact ⟨vs, ht', by rw [← hr'.length]; exact List.getElem?_eq_none_iff.mp e1⟩
    | some d =>
      obtain ⟨v, e2, rv⟩ := hr'.at e1
      refine ⟨⟨vs, v, ht', e2⟩, fun x H2 y => ?_⟩
      obtain ⟨rfl, y⟩ := y
      have e3 := y vs ht'
      rw [e2] at e3; cases e3
      exact ⟨Le.refl _ _, r', rv⟩
  · rename_i n
    split at h1
    · rename_i ds e0
      obtain ⟨a, ha, rfl⟩ := rd.ref
      obtain ⟨a', vs, ha', hv, hr⟩ := r1.list e0
      rw [ha] at ha'; cases ha'
      cases rx
      refine it_seq I1 (.inl ⟨.of hv, PostR.pure (R := RIt _ _) h1 r1 fun i α' H' M' l' r' => ?_⟩)
      show ItAt X.K L α' H' M' (Itl X.K a) i (nxL n i M')
      unfold nxL
      cases e1 : listAt M' n with
      | none => trivial
      | some es =>
        obtain ⟨a2, us, ha2, hu, hr2⟩ := r'.list e1
        rw [l'.get ha] at ha2; cases ha2
        show ItAt X.K L α' H' M' (Itl X.K a) i (some es[i]?)
        cases e2 : es[i]? with
        | none => exact ⟨us, .of hu, by rw [← hr2.length]; exact List.getElem?_eq_none_iff.mp e2⟩
        | some d =>
          obtain ⟨v, e3, rv⟩ := hr2.at e2
          refine ⟨⟨us, v, .of hu, e3⟩, fun x H2 y => ?_⟩
          obtain ⟨rfl, y⟩ := y
          have e4 := y us (.of hu)
          rw [e3] at e4; cases e4
          exact ⟨Le.refl _ _, r', rv⟩
    · exact h1.elim
  · exact h1.elim⟩
theorem rng_it {K : PySem.W.Frag} {α : List Addr} {H : Hp} {lo : Int} {n m : Nat} : RIt K L α H (nxR lo n, m) (Itr lo n) := fun i α' H' M' l' r' => by
  show ItAt K L α' H' M' (Itr lo n) i (nxR lo n i M')
  unfold nxR
  by_cases c : i < n
  · rw [decide_eq_true c]
    refine ⟨c, fun x H2 y => ?_⟩
    obtain ⟨rfl, rfl⟩ := y
    exact ⟨Le.refl _ _, r', rep_int⟩
  · rw [decide_eq_false c]
    exact Nat.le_of_not_lt c
theorem fi_rng1 {a : Expr} {fa : AF} {p : Pos} (hg : Gl X "range") (hm : X.mg "range" = none) (ha : FA X L W [a] fa) (hs : starEach [a] X.env = [(false, eval a X.env)] := by rfl) : FI X L W tg (.Call (.Name "range" p) [a] [] pos) (iRng1 fa) :=
  piImp (pi_range1 hg hm ha hs) fun σ H R ⟨α, M, s, r, sl, h⟩ => ⟨α, M, s, r, sl, (PostR.bind (R := Reps _) h).imp fun vs H1 ⟨ds, α1, M1, l1, r1, rs, h1⟩ => by
    dsimp only at h1
    split at h1
    · split at h1
      · rename_i c
        obtain ⟨x, rfl, rx⟩ := rs.one
        exact ⟨_, congrArg (fun z => [z]) rx.int, (dt c).1, (dt c).2, PostR.pure (R := RIt _ _) h1 r1 rng_it⟩
      · exact h1.elim
    · exact h1.elim⟩
theorem fi_rng2 {a b : Expr} {fa : AF} {p : Pos} (hg : Gl X "range") (hm : X.mg "range" = none) (ha : FA X L W [a, b] fa) (hs : starEach [a, b] X.env = [(false, eval a X.env), (false, eval b X.env)] := by rfl) (hs2 : starEach [b] X.env = [(false, eval b X.env)] := by rfl) :
    FI X L W tg (.Call (.Name "range" p) [a, b] [] pos) (iRng2 fa) :=
  piImp (pi_range2 hg hm ha hs hs2) fun σ H R ⟨α, M, s, r, sl, h⟩ => ⟨α, M, s, r, sl, (PostR.bind (R := Reps _) h).imp fun vs H1 ⟨ds, α1, M1, l1, r1, rs, h1⟩ => by
    dsimp only at h1
    split at h1
    · split at h1
      · rename_i c
        obtain ⟨x, y, rfl, rx, ry⟩ := rs.two
        have e1 := rx.int
        have e2 := ry.int
        subst e1 e2
        exact ⟨_, _, rfl, dt c, PostR.pure (R := RIt _ _) h1 r1 rng_it⟩
      · exact h1.elim
    · exact h1.elim⟩
end
/-! ### for -/
def sForL (nx : ItF) (g : GF) (body : SF) : Nat → Nat → SF
  | 0, _, _, _ => .bad
  | k + 1, i, s, M => match nx i M with
    | none => .bad
    | some none => .nx s M
    | some (some d) => (g d s M).toS s fun s1 M1 => match body s1 M1 with
      | .nx s2 M2 => sForL nx g body k (i + 1) s2 M2
      | .ct s2 M2 => sForL nx g body k (i + 1) s2 M2
      | .bk s2 M2 => .nx s2 M2
      | .rt d M2 => .rt d M2
      | .exc c f s2 M2 => .exc c f s2 M2
      | .bad => .bad
def sFor (fi : IF) (g : GF) (body : SF) : SF := fun s M => (fi s M).toS s fun nx M1 => sForL nx.1 g body nx.2 0 s M1
section
variable {X : Cx} {L : Lay} {W : WX} {pos : Pos} {tg iter : Expr} {body : List Stmt} {fi : IF} {g : GF} {fb : SF} {is : List Nat}
theorem fs_for (hp : PassesOwn (model X.prog X.w) X.A X.env X.xe) (hc : X.calm = true) (hi : FI X L W tg iter fi) (hg : FG X L W is tg g) (hb : FSs X L W body fb) (hs : ∀ x, foldedSetIterable iter X.env x = pure x := by intro _; rfl) : FS X L W (.For tg iter body [] pos) (sFor fi g fb) :=
  psImp (ps_for hp hc hi hg hb hs) fun D σ H ⟨α, M, s, r, sl, h⟩ => ⟨α, M, s, r, sl, (PostR.toS (R := RIt _ _) sl h).imp fun J H1 ⟨nx, α1, M1, l1, r1, it, h1⟩ => by
    refine ⟨fun i m σ H => ∃ α M s, Rel X.K L α M H ∧ Slots X.K α H s σ ∧ RIt X.K L α H nx J ∧ PostS X.K L W D α H (sForL nx.1 g fb m i s M), ⟨nx.2, α1, M1, s, r1, sl.le l1, it, h1⟩, ?_⟩
    rintro i m σ H ⟨α, M, s, r, sl, it, h⟩
    cases m with
    | zero => exact h.elim
    | succ k =>
      have q := it i α H M (Le.refl _ _) r
      unfold sForL at h
      cases e : nx.1 i M with
      | none => rw [e] at h; exact h.elim
      | some o =>
        rw [e] at h q
        cases o with
        | none => exact .inl ⟨q, h α H σ (Le.refl _ _) r sl⟩
        | some d =>
          obtain ⟨q1, q2⟩ := q
          refine .inr ⟨q1, fun σ H => ∃ α M s, Rel X.K L α M H ∧ Slots X.K α H s σ ∧ RIt X.K L α H nx J ∧ PostS X.K L W D α H (sForL nx.1 g fb k (i + 1) s M), fun σ' H' z => ⟨k, Nat.lt_succ_self _, z⟩, fun x H2 y => ?_⟩
          obtain ⟨l2, r2, rd⟩ := q2 x H2 y
          dsimp only at h
          have h' := PostS.le l2 h
          refine ⟨α, M, s, d, r2, sl.le l2, rd, (PostR.toS (R := RSl _ is σ) (sl.le l2) h').imp fun σ' H3 ⟨s1, α3, M3, l3, r3, ⟨q3, _⟩, h3⟩ _ => ?_⟩
          refine ⟨α3, M3, s1, r3, q3, ?_⟩
          have it3 := (it.le l2).le l3
          dsimp only at h3
          cases eb : fb s1 M3 with
          | nx s2 M2 => rw [eb] at h3; exact fun α' H' σ' l r' sl' => ⟨α', M2, s2, r', sl', it3.le l, PostS.le l h3⟩
          | ct s2 M2 => rw [eb] at h3; exact fun α' H' σ' l r' sl' => ⟨α', M2, s2, r', sl', it3.le l, PostS.le l h3⟩
          | bk s2 M2 => rw [eb] at h3; exact h3
          | rt d M2 => rw [eb] at h3; exact h3
          | exc c f s2 M2 => rw [eb] at h3; exact h3
          | bad => rw [eb] at h3; exact h3⟩
end
/-! ### while -/
def sWhileL (c : TF) (body : SF) : Nat → SF
  | 0, _, _ => .bad
  | k + 1, s, M => (c s M).toS s fun b M1 => match b with
    | false => .nx s M1
    | true => match body s M1 with
      | .nx s2 M2 => sWhileL c body k s2 M2
      | .ct s2 M2 => sWhileL c body k s2 M2
      | .bk s2 M2 => .nx s2 M2
      | .rt d M2 => .rt d M2
      | .exc c f s2 M2 => .exc c f s2 M2
      | .bad => .bad
section
variable {X : Cx} {L : Lay} {W : WX} {pos : Pos} {c : Expr} {body : List Stmt} {fc : TF} {fb : SF}
theorem fs_while (n : Nat) (hp : PassesOwn (model X.prog X.w) X.A X.env X.xe) (hc : FT X L W c fc) (hb : FSs X L W body fb) : FS X L W (.While c body [] pos) (sWhileL fc fb n) :=
  psImp (ps_while hp hc hb) fun D σ H ⟨α, M, s, r, sl, h⟩ => by
    refine ⟨fun m σ H => ∃ α M s, Rel X.K L α M H ∧ Slots X.K α H s σ ∧ PostS X.K L W D α H (sWhileL fc fb m s M), ⟨n, α, M, s, r, sl, h⟩, ?_⟩
    clear h sl r s M α
    rintro m σ H ⟨α, M, s, r, sl, h⟩
    cases m with
    | zero => exact h.elim
    | succ k =>
      unfold sWhileL at h
      refine ⟨α, M, s, r, sl, (PostR.toS (R := RB) sl h).imp fun b H1 ⟨b', α1, M1, l1, r1, e, h1⟩ => ?_⟩
      subst e
      cases b' with
      | false => exact iteF (h1 α1 H1 σ (Le.refl _ _) r1 (sl.le l1))
      | true =>
        refine iteT ⟨fun σ H => ∃ α M s, Rel X.K L α M H ∧ Slots X.K α H s σ ∧ PostS X.K L W D α H (sWhileL fc fb k s M), fun σ' H' z => ⟨k, Nat.lt_succ_self _, z⟩, α1, M1, s, r1, sl.le l1, ?_⟩
        dsimp only at h1
        cases eb : fb s M1 with
        | nx s2 M2 => rw [eb] at h1; exact fun α' H' σ' l r' sl' => ⟨α', M2, s2, r', sl', PostS.le l h1⟩
        | ct s2 M2 => rw [eb] at h1; exact fun α' H' σ' l r' sl' => ⟨α', M2, s2, r', sl', PostS.le l h1⟩
        | bk s2 M2 => rw [eb] at h1; exact h1
        | rt d M2 => rw [eb] at h1; exact h1
        | exc c f s2 M2 => rw [eb] at h1; exact h1
        | bad => rw [eb] at h1; exact h1
end
/-! ### list comprehensions -/
def wipeD (s : Sl) : List Nat → Sl
  | [] => s
  | v :: vs => (wipeD s vs).set v none
theorem Slots.wipe {K : PySem.W.Frag} {α : List Addr} {H : Hp} {s : Sl} {σ : L2.St} (h : Slots K α H s σ) : ∀ is : List Nat, Slots K α H (wipeD s is) (L2.wipe σ is)
  | [] => h
  | v :: vs => (Slots.wipe h vs).del v none
/-- what is raised within a comprehension's block is not told of -/
def Res.noX {A : Type} (r : Res A) : Res A := match r with
  | .ok a M => .ok a M
  | _ => .bad
def lcL (nx : ItF) (g : GF) (tt : TF) (te : EF) (s : Sl) : Nat → Nat → Mem → Res (List D)
  | 0, _, _ => .bad
  | k + 1, i, M => match nx i M with
    | none => .bad
    | some none => .ok [] M
    | some (some d) => (g d s M).noX.bind fun s1 M1 => (tt s1 M1).noX.bind fun b M2 => match b with
      | true => (te s1 M2).noX.bind fun y M3 => (lcL nx g tt te s k (i + 1) M3).bind fun ys M4 => .ok (y :: ys) M4
      | false => lcL nx g tt te s k (i + 1) M2
def dLc (fi : IF) (g : GF) (tt : TF) (te : EF) (is : List Nat) : EF := fun s M => (fi s M).bind fun nx M1 => match decide (nx.2 ≤ sizeLine) with
  | true => (lcL nx.1 g tt te (wipeD s is) nx.2 0 M1).bind fun ys M2 => .ok (.ref M2.length) (M2 ++ [.lst ys])
  | false => .bad
def LTs (K : PySem.W.Frag) (L : Lay) (W : WX) (f : TF) : TT := LT K L W f
abbrev FTs (X : Cx) (L : Lay) (W : WX) (es : List Expr) (f : TF) : Prop := PTs X es (LT X.K L W f)
def tYesF : TF := fun _ M => .ok true M
abbrev W0 : WX := fun _ _ _ _ => False
section
variable {X : Cx} {L : Lay} {W : WX}
theorem ptsImp {e : List Expr} {t t' : TT} (h : PTs X e t) (i : ∀ σ H Q, t' σ H Q → t σ H Q) : PTs X e t' := ⟨fun pins s σ H Q I q => h.run pins s σ H Q I (i σ H Q q)⟩
theorem fts_nil : FTs X L W [] tYesF := ptsImp pts_nil fun σ H Q ⟨α, M, s, r, sl, h⟩ => PostR.pure h r rfl
theorem fts_one {c : Expr} {f : TF} (h : FT X L W c f) : FTs X L W [c] f := pts_one h
theorem nox_bind {K : PySem.W.Frag} {A B C B' : Type} {R : List Addr → Hp → A → B → Prop} {R' : List Addr → Hp → C → B' → Prop} {r : Res A} {g : A → Mem → Res C} {α α0 : List Addr} {H H0 : Hp} {Q : B' → Hp → Prop} {w : W3} (h : PostR K L R' (r.noX.bind g) α0 H0 Q w) (w' : W3) :
    PostR K L R r α H (Then K L R α H fun a M1 _ _ => PostR K L R' (g a M1) α0 H0 Q w) w' := by
  cases r with
  | ok a M => exact fun α1 H1 b l r1 rr => ⟨a, α1, M, l, r1, rr, h⟩
  | exc c f M => exact False.elim h
  | bad => exact False.elim h
/-- an object of ours that is not a place of the store changes: what is told of the store stays -/
theorem out_lw {α : List Addr} {H : Hp} {p : Addr} {o : HO} {xs : List V} (h : H p = some (.lst xs)) : Lw α H α (upd H p o) :=
  ⟨⟨[], by simp⟩, fun a ys e => by
    have ne : a ≠ p := fun z => by rw [z, h] at e; cases e
    rw [upd_ne ne]; exact e, fun a q ys e => by
    have ne : a ≠ p := fun z => by rw [z, h] at e; cases e
    rw [upd_ne ne]; exact e⟩
theorem out_le {α α' : List Addr} {H H' : Hp} {p : Addr} {o : HO} (l : Le α H α' H') (n : H p = none) (hp : p ∉ α') : Le α H α' (upd H' p o) := by
  refine ⟨l.ext, fun a u h hn => ?_, fun a h => ?_, fun a ys h => ?_, fun a q ys h => ?_⟩
  · rw [upd_ne (ne_of_none h n)]; exact l.keep a u h hn
  · by_cases e : a = p
    · rw [e, upd_same]; exact fun z => nomatch z
    · rw [upd_ne e]; exact l.dom a h
  · rw [upd_ne (ne_of_none h n)]; exact l.tups a ys h
  · rw [upd_ne (ne_of_none h n)]; exact l.rols a q ys h
theorem out_rel {K : PySem.W.Frag} {α : List Addr} {M : Mem} {H : Hp} {p : Addr} {o : HO} {xs : List V} (r : Rel K L α M H) (h : H p = some (.lst xs)) (hp : p ∉ α) : Rel K L α M (upd H p o) :=
  ⟨r.len, r.nd, fun i x a h1 h2 => (r.ob i x a h1 h2).stayW (out_lw h) (by rw [upd_ne (fun z => hp (by rw [← z]; exact List.mem_of_getElem? h2))]) (fun dd fs _ e => by
    have ne : dd ≠ p := fun z => by rw [z, h] at e; cases e
    rw [upd_ne ne]; exact e) fun _ _ z => z⟩
/-- D is told of at last -/
theorem out_in {K : PySem.W.Frag} {α : List Addr} {M : Mem} {H : Hp} {p : Addr} {xs : List V} {ds : List D} (r : Rel K L α M H) (h : H p = some (.lst xs)) (hp : p ∉ α) (q : Reps K α H ds xs) : Rel K L (α ++ [p]) (M ++ [.lst ds]) H := by
  have lw : Lw α H (α ++ [p]) H := ⟨⟨[p], rfl⟩, fun _ _ e => e, fun _ _ _ e => e⟩
  refine ⟨by rw [List.length_append, List.length_append, r.len]; rfl, List.nodup_append.mpr ⟨r.nd, by simp, fun a ha b hb => by rw [List.mem_singleton.mp hb]; exact fun z => hp (by rw [← z]; exact ha)⟩, fun i x a h1 h2 => ?_⟩
  by_cases hi : i < M.length
  · rw [List.getElem?_append_left hi] at h1
    rw [List.getElem?_append_left (by rw [r.len]; exact hi)] at h2
    have q' := r.ob i x a h1 h2
    cases x with
    | exc c f =>
      obtain ⟨cls, d, e1, e2, e3⟩ := q'
      refine ⟨cls, d, e1, e2.lw lw (fun _ _ _ z => z), fun dd ed hm => ?_⟩
      rcases List.mem_append.mp hm with z | z
      · exact e3 dd ed z
      · have ep := List.mem_singleton.mp z
        have e4 := e2.2
        cases f with
        | none => rw [e4] at ed; cases ed
        | some pf =>
          obtain ⟨d2, v, e5, e6, _⟩ := e4
          rw [ed] at e5; cases e5
          rw [ep, h] at e6; cases e6
    | lst ds => obtain ⟨vs, e1, e2⟩ := q'; exact ⟨vs, e1, e2.lw lw⟩
    | dk ds => obtain ⟨vs, e1, e2⟩ := q'; exact ⟨vs, e1, e2.lw lw⟩
    | dt ds => obtain ⟨vs, e1, e2⟩ := q'; exact ⟨vs, e1, e2.lw lw⟩
    | fk ds => obtain ⟨o, vs, e1, e2⟩ := q'; exact ⟨o, vs, e1, e2.lw lw⟩
    | ft ds => obtain ⟨o, vs, e1, e2⟩ := q'; exact ⟨o, vs, e1, e2.lw lw⟩
    | ins c fs => obtain ⟨dx, vs, e1, e2, e3⟩ := q'; exact ⟨dx, vs, e1, e2.lw lw, e3⟩
  · rw [List.getElem?_append_right (by omega)] at h1
    rw [List.getElem?_append_right (by rw [r.len]; omega), r.len] at h2
    have e : i - M.length = 0 := by
      cases z : i - M.length with
      | zero => rfl
      | succ k => rw [z] at h1; simp at h1
    rw [e] at h1 h2
    have e1 : MO.lst ds = x := by simpa using h1
    have e2 : p = a := by simpa using h2
    subst e1 e2
    exact ⟨xs, h, q.lw lw⟩
theorem bind_bind {A B C : Type} (r : Res A) (f : A → Mem → Res B) (g : B → Mem → Res C) : (r.bind f).bind g = r.bind fun a M => (f a M).bind g := by cases r <;> rfl
theorem lc_go {K : PySem.W.Frag} {fi : IF} {g : GF} {tt : TF} {te : EF} {is : List Nat} {σ : L2.St} {H : Hp} {Q : VK} (h : LE K L W (dLc fi g tt te is) σ H Q) : tLc (LI K L W fi) (LG K L W0 is g) (LT K L W0 tt) (LE K L W0 te) is σ H Q := by
  obtain ⟨α, M, s, r, sl, h⟩ := h
  refine ⟨α, M, s, r, sl, (PostR.bind (R := RIt _ _) h).imp fun J H1 ⟨nx, α1, M1, l1, r1, it, h1⟩ D hD => ?_⟩
  dsimp only at h1
  split at h1
  · rename_i hz
    have hz := dt hz
    have sl1 := (sl.le l1).wipe is
    have nd : D ∉ α1 := fun hm => by
      obtain ⟨u, hu, _⟩ := r1.mem hm
      rw [hD] at hu; cases hu
    -- what holds between two turns
    refine ⟨fun i m H => ∃ α M acc accV, i + m = nx.2 ∧ acc.length ≤ i ∧ Le α1 H1 α H ∧ Rel K L α M H ∧ H D = some (.lst accV) ∧ D ∉ α ∧ Reps K α H acc accV ∧
      PostR K L (Rep K) ((lcL nx.1 g tt te (wipeD s is) m i M).bind fun ys M2 => .ok (.ref M2.length) (M2 ++ [.lst (acc ++ ys)])) α1 H1 Q (fun c d H' => W c d σ H'), ⟨nx.2, ?_⟩, ?_⟩
    · have rT : Rel K L α1 M1 (upd H1 D (.lst [])) := ⟨r1.len, r1.nd, fun i x a e1 e2 => by
        obtain ⟨u, hu, _⟩ := (r1.ob i x a e1 e2).ours
        refine (r1.ob i x a e1 e2).stayW ⟨⟨[], by simp⟩, fun a ys e => by rw [upd_ne (ne_of_none e hD)]; exact e, fun a q ys e => by rw [upd_ne (ne_of_none e hD)]; exact e⟩ (by rw [upd_ne (ne_of_none hu hD)]) (fun dd fs _ e => by rw [upd_ne (ne_of_none e hD)]; exact e) fun _ _ z => z⟩
      exact ⟨α1, M1, [], [], by omega, Nat.le_refl _, out_le (Le.refl _ _) hD nd, rT, upd_same, nd, reps_nil, h1⟩
    · rintro i m H ⟨α, M, acc, accV, hn, hl, le, r, hH, ndα, hacc, hp⟩
      cases m with
      | zero => exact hp.elim
      | succ k =>
        have q := it i α H M le r
        unfold lcL at hp
        cases e : nx.1 i M with
        | none => rw [e] at hp; exact hp.elim
        | some o =>
          rw [e] at hp q
          cases o with
          | none =>
            refine .inl ⟨q, ?_⟩
            have hp' : PostR K L (Rep K) (.ok (.ref M.length) (M ++ [.lst (acc ++ [])])) α1 H1 Q (fun c d H' => W c d σ H') := hp
            rw [List.append_nil] at hp'
            obtain ⟨β, eβ, fβ⟩ := le.ext
            have le2 : Le α1 H1 (α ++ [D]) H := ⟨⟨β ++ [D], by rw [eβ, List.append_assoc], fun b hb => by
              rcases List.mem_append.mp hb with z | z
              · exact fβ b z
              · rw [List.mem_singleton.mp z]; exact hD⟩, le.keep, le.dom, le.tups, le.rols⟩
            exact hp' _ H _ le2 (out_in r hH ndα hacc) (rep_ref (by rw [← r.len]; simp))
          | some d =>
            obtain ⟨q1, q2⟩ := q
            refine .inr ⟨q1, fun H => ∃ α M acc accV, (i + 1) + k = nx.2 ∧ acc.length ≤ i + 1 ∧ Le α1 H1 α H ∧ Rel K L α M H ∧ H D = some (.lst accV) ∧ D ∉ α ∧ Reps K α H acc accV ∧
              PostR K L (Rep K) ((lcL nx.1 g tt te (wipeD s is) k (i + 1) M).bind fun ys M2 => .ok (.ref M2.length) (M2 ++ [.lst (acc ++ ys)])) α1 H1 Q (fun c d H' => W c d σ H'), fun H' z => ⟨k, Nat.lt_succ_self _, z⟩, fun x H2 y => ?_⟩
            obtain ⟨lx, r2, rd⟩ := q2 x H2 y
            have le2 := le.trans lx
            -- D under a step of ours
            have keepD : ∀ {α α' : List Addr} {H H' : Hp} {M' : Mem}, Le α H α' H' → Rel K L α' M' H' → H D = some (.lst accV) → D ∉ α → H' D = some (.lst accV) ∧ D ∉ α' := fun {α α' H H' M'} l r' e n => by
              refine ⟨l.keep _ _ e n, fun hm => ?_⟩
              obtain ⟨β, eβ, fβ⟩ := l.ext
              rw [eβ] at hm
              rcases List.mem_append.mp hm with z | z
              · exact n z
              · rw [fβ D z] at e; cases e
            obtain ⟨hH2, nd2⟩ := keepD lx r2 hH ndα
            dsimp only at hp
            rw [bind_bind] at hp
            refine ⟨α, M, wipeD s is, d, r2, sl1.le le2, rd, (nox_bind (R := RSl K is (L2.wipe σ is)) hp _).imp fun σ2 H3 ⟨s1, α3, M3, l3, r3, ⟨q3, q4⟩, h3⟩ _ => ⟨q4.wipe, ?_⟩⟩
            obtain ⟨hH3, nd3⟩ := keepD l3 r3 hH2 nd2
            have le3 := le2.trans l3
            dsimp only at h3
            rw [bind_bind] at h3
            refine ⟨α3, M3, s1, r3, q3, (nox_bind (R := RB) h3 _).imp fun b H4 ⟨b', α4, M4, l4, r4, eb, h4⟩ => ?_⟩
            obtain ⟨hH4, nd4⟩ := keepD l4 r4 hH3 nd3
            have le4 := le3.trans l4
            subst eb
            dsimp only at h4
            cases b' with
            | false => exact iteF ⟨α4, M4, acc, accV, by omega, by omega, le4, r4, hH4, nd4, ((hacc.le lx).le l3).le l4, h4⟩
            | true =>
              refine iteT ?_
              dsimp only at h4
              rw [bind_bind] at h4
              refine ⟨α4, M4, s1, r4, q3.le l4, (nox_bind (R := Rep K) h4 _).imp fun y H5 ⟨dy, α5, M5, l5, r5, ry, h5⟩ => ?_⟩
              obtain ⟨hH5, nd5⟩ := keepD l5 r5 hH4 nd4
              have le5 := le4.trans l5
              have hacc5 := (((hacc.le lx).le l3).le l4).le l5
              refine ⟨accV, hH5, ?_, α5, M5, acc ++ [dy], accV ++ [y], by omega, by rw [List.length_append, List.length_singleton]; omega, out_le le5 hD nd5, out_rel r5 hH5 nd5, upd_same, nd5, (hacc5.append (reps_cons ry reps_nil)).lw (out_lw hH5), ?_⟩
              · rw [← hacc5.length]; omega
              · dsimp only at h5
                rw [bind_bind] at h5
                have ea : ∀ ys : List Fl.D, acc ++ [dy] ++ ys = acc ++ (dy :: ys) := fun ys => by simp
                simp only [ea]
                exact h5
  · exact h1.elim
theorem fe_lc {elt tg iter : Expr} {ifs : List Expr} {scope : Scope} {own : List (Str × Nat)} {pos : Pos} {fi : IF} {g : GF} {tt : TF} {te : EF} {is : List Nat} (hc : X.calm = true) (hN : X.N.Nodup) (hi : FI X L W tg iter fi) (ok : BlkOk X.N X.env.scope scope own) (ei : own.map (·.2) = is)
    (hg : ∀ (s : Shared) (H : Hp) (C : Addr) (cl : List (Str × Addr)) (fp : List Addr), FG (X.blk s H scope (compEnvC scope cl C X.env) fp) L W0 is tg g) (ht : ∀ (s : Shared) (H : Hp) (C : Addr) (cl : List (Str × Addr)) (fp : List Addr), FTs (X.blk s H scope (compEnvC scope cl C X.env) fp) L W0 ifs tt)
    (he : ∀ (s : Shared) (H : Hp) (C : Addr) (cl : List (Str × Addr)) (fp : List Addr), FE (X.blk s H scope (compEnvC scope cl C X.env) fp) L W0 elt te) (hs : ∀ x, foldedSetIterable iter X.env x = pure x := by intro _; rfl) :
    FE X L W (.ListComp elt [⟨tg, iter, ifs, 0⟩] scope pos) (dLc fi g tt te is) := by
  subst ei
  exact peImp (pe_lc hc hN hi ok hg ht he hs) fun σ H Q h => lc_go h
theorem fs_setLc {i : Nat} {y : Str} {py : Pos} {elt tg iter : Expr} {ifs : List Expr} {scope : Scope} {own : List (Str × Nat)} {pos spos : Pos} {fi : IF} {g : GF} {tt : TF} {te : EF} {is : List Nat} (hc : X.calm = true) (hN : X.N.Nodup) (hy : X.N[i]? = some y) (hyl : X.env.scope.names.lookup y = some .local)
    (hsw : swapsWith (.ListComp elt [⟨tg, iter, ifs, 0⟩] scope pos) (some (.Name y py)) spos.line X.env = pure true) (hi : FI X L W tg iter fi) (ok : BlkOk X.N X.env.scope scope own) (ei : own.map (·.2) = is)
    (hg : ∀ (s : Shared) (H : Hp) (C : Addr) (cl : List (Str × Addr)) (fp : List Addr), FG (X.blk s H scope (compEnvC scope cl C X.env) fp) L W0 is tg g) (ht : ∀ (s : Shared) (H : Hp) (C : Addr) (cl : List (Str × Addr)) (fp : List Addr), FTs (X.blk s H scope (compEnvC scope cl C X.env) fp) L W0 ifs tt)
    (he : ∀ (s : Shared) (H : Hp) (C : Addr) (cl : List (Str × Addr)) (fp : List Addr), FE (X.blk s H scope (compEnvC scope cl C X.env) fp) L W0 elt te) (hs : ∀ x, foldedSetIterable iter X.env x = pure x := by intro _; rfl) :
    FS X L W (.Assign [.Name y py] (.ListComp elt [⟨tg, iter, ifs, 0⟩] scope pos) spos) (sSet i (dLc fi g tt te is)) := by
  subst ei
  refine psImp (ps_setLc hc hN hy hyl hsw hi ok hg ht he hs) fun D σ H ⟨α, M, s, r, sl, h⟩ => lc_go ⟨α, M, s, r, sl, ?_⟩
  exact (PostR.toS (R := Rep _) sl h).imp fun x H1 ⟨dx, α1, M1, l1, r1, rx, h1⟩ => h1 α1 H1 _ (Le.refl _ _) r1 ((sl.le l1).set i rx)
end
end Fl

namespace Fl
open PySem PySem.Spec L2
open PyProof.Rows (envOfC)
/-! ### a def -/
def startD (n : Nat) (ds : List D) : Sl := ds.map some ++ List.replicate (n - ds.length) none
theorem start_slots {K : PySem.W.Frag} {α : List Addr} {H : Hp} {N : List Str} {ds : List D} {vs : List V} (h : Reps K α H ds vs) : Slots K α H (startD N.length ds) (L2.start N vs) := by
  have hl := h.length
  unfold startD L2.start
  refine ⟨by rw [List.length_append, List.length_append, List.length_map, List.length_map, List.length_replicate, List.length_replicate, hl], fun i d e => ?_⟩
  by_cases hi : i < ds.length
  · rw [List.getElem?_append_left (by rw [List.length_map]; exact hi), List.getElem?_map] at e
    rw [List.getElem?_append_left (by rw [List.length_map]; omega), List.getElem?_map]
    cases q : ds[i]? with
    | none => rw [q] at e; cases e
    | some x =>
      rw [q] at e
      have e' : x = d := Option.some.inj (Option.some.inj e)
      subst e'
      obtain ⟨v, e1, r⟩ := h.at q
      exact ⟨v, by rw [e1]; rfl, r⟩
  · rw [List.getElem?_append_right (by rw [List.length_map]; omega), List.getElem?_replicate] at e
    split at e <;> cases e
section
variable {P : Program} {w : World} {K : PySem.W.Frag} {L : Lay} {mg : Str → Option Value} {base : Heap} {x qual : Str} {params : Arguments} {body : List Stmt} {scope : Scope} {dvs : List V} {kws : List (Str × V)} {f : Addr} {fd : FuncData} {N ps : List Str} {k : Nat} {S : List D → Mem → Res D} {fb : SF}
abbrev WD (E : XK) : WX := fun cls d _ H => E cls d H
theorem def_ok (F : FunD K x qual params body scope dvs kws f fd) (sc : FnScope N ps scope) (ar : Arity ps.length S)
    (hb : ∀ (cdv : Value) (A : Around) (outer : List Env) (s : Shared) (H : Hp) (E : XK), Room k (A.deeper (envOfC qual scope s.heap.objs.size f cdv)) → Takes (cxOf (L2.CX P w) P w K mg base N qual scope f cdv A outer s H E) (WD E) →
      PassesOwn (model P w) (A.deeper (envOfC qual scope s.heap.objs.size f cdv)) (envOfC qual scope s.heap.objs.size f cdv) (cxOf (L2.CX P w) P w K mg base N qual scope f cdv A outer s H E).xe →
      FSs (cxOf (L2.CX P w) P w K mg base N qual scope f cdv A outer s H E) L (WD E) body fb)
    (hS : ∀ ds M, ds.length = ps.length → S ds M = (fb (startD N.length ds) M).fin) : FnOk P w K mg base (L2.CX P w) (k + 1) f fd ps (spF K L S) := by
  refine F.ok sc (spF_len ar) fun cdv A outer s H vs Q E hr h => ⟨_, hb cdv A outer s H E hr (takes_of rfl rfl rfl rfl) (passes_of rfl), ?_⟩
  have hl := spF_len ar _ _ _ _ h
  obtain ⟨α, M, ds, r, rs, p⟩ := h
  refine ⟨α, M, _, r, start_slots rs, ?_⟩
  rw [hS ds M (rs.length.trans hl)] at p
  cases e : fb (startD N.length ds) M with
  | nx s1 M1 => rw [e] at p; exact fun α' H' σ l r' _ => p α' H' .non l r' rep_non
  | rt d M1 => rw [e] at p; exact p
  | bk s1 M1 => rw [e] at p; exact p.elim
  | ct s1 M1 => rw [e] at p; exact p.elim
  | exc c f s1 M1 => rw [e] at p; exact fun α' H' σ cls d l r' _ => p α' H' cls d l r'
  | bad => rw [e] at p; exact p.elim
end
theorem FnOk.imp' {P : Program} {w : World} {K : PySem.W.Frag} {L : Lay} {mg : Str → Option Value} {base : Heap} {CX : CXT} {k : Nat} {f : Addr} {fd : FuncData} {ps : List Str} {S S' : List D → Mem → Res D} (F : FnOk P w K mg base CX k f fd ps (spF K L S))
    (h : ∀ ds M, S' ds M = .bad ∨ S' ds M = S ds M) : FnOk P w K mg base CX k f fd ps (spF K L S') := F.imp fun vs H Q E ⟨α, M, ds, r, rs, p⟩ => ⟨α, M, ds, r, rs, by
  rcases h ds M with e | e
  · rw [e] at p; exact p.elim
  · rw [e] at p; exact p⟩
/-! ### something new that is no place of the store -/
section
variable {K : PySem.W.Frag} {L : Lay} {α α' : List Addr} {M : Mem} {H H' : Hp}
theorem Le.add {p : Addr} {o : HO} (n : H p = none) : Le α H α (upd H p o) := by
  refine ⟨⟨[], by simp, by simp⟩, fun a u h _ => ?_, fun a h => ?_, fun a xs h => ?_, fun a q xs h => ?_⟩
  · rw [upd_ne (ne_of_none h n)]; exact h
  · by_cases q : a = p
    · rw [q, upd_same]; exact fun z => nomatch z
    · rw [upd_ne q]; exact h
  · rw [upd_ne (ne_of_none h n)]; exact h
  · rw [upd_ne (ne_of_none h n)]; exact h
theorem Rel.add (r : Rel K L α M H) {p : Addr} {ho : HO} (n : H p = none) : Rel K L α M (upd H p ho) := by
  refine ⟨r.len, r.nd, fun i o a h1 h2 => (r.ob i o a h1 h2).stay (Le.add n) r ?_ fun _ _ h => h⟩
  obtain ⟨u, hu, _⟩ := (r.ob i o a h1 h2).ours
  rw [upd_ne (ne_of_none hu n)]
end
/-! ### raise -/
def sRaise (c : Nat) : SF := fun s M => .exc c none s M
def sRaise1 (c i : Nat) (fa : EF) : SF := fun s M => (fa s M).toS s fun d M1 => .exc c (some (i, d)) s M1
/-- what the written part says of an error's class without own __init__ -/
structure ExK (K : PySem.W.Frag) (mg : Str → Option Value) (x : Str) (C : Addr) : Prop where
  gC : mg x = some (.ref C)
  ex : PySem.W.excIn K C [.type "ValueError", .type "Exception", .type "BaseException", .type "object"] "ValueError.__new__" = true
  kp : PySem.W.keepIn K (.ref C) = true
  sb : PySem.W.subIn K (.ref C) (.type "BaseException") = some true
  ty : PySem.W.typeIn K (.ref C) = some (.type "type")
/-- of one whose __init__ stores its one field -/
structure ExF (K : PySem.W.Frag) (C fI : Addr) (f : Str) : Prop where
  o : OexC K C
  no : PySem.W.findIn K (.ref C) f = some none
  iC : PySem.W.findIn K (.ref C) "__init__" = some (some (.ref fI))
  tI : PySem.W.typeIn K (.ref fI) = some (.type "function")
/-- its __init__ -/
def spXI (K : PySem.W.Frag) (f : Str) : Sp := fun vs H Q _ => ∃ (a C : Addr) (y : V), vs = [.ref a, y] ∧ OexC K C ∧ PySem.W.findIn K (.ref C) f = some none ∧ H a = some (exo a C none) ∧
  ∀ dx, H dx = none → dx ≠ a → Q .non (upd (upd H dx (exd dx [(f, y)])) a (exo a C (some dx)))
section
variable {X : Cx} {L : Lay} {W : WX} {x m : Str} {j : Nat} {p p2 p3 pos : Pos} {e : Expr} {f : EF}
theorem fs_raise {c : Nat} (hc : X.calm = true) (tk : Takes X W) (T : ExK X.K X.mg x (L.cls c)) (hg : Gl X x) (hdb : (x == ("__debug__" : Str)) = false := by decide) : FS X L W (.Raise (some (.Call (.Name x p) [.Constant (.str m) j p2] [] p3)) none pos) (sRaise c) :=
  psImp (ps_raise hc tk (pmk_own PySem.F.excBase_ValueError T.ex T.gC T.kp (raises_own T.sb T.ty) hg hdb)) fun D σ H ⟨α, M, s, r, sl, h⟩ => h α H σ _ _ (Le.refl _ _) r sl ⟨rfl, rfl⟩
theorem fs_raise1 {c i k : Nat} {fI : Addr} {fd : FuncData} {ps : List Str} {fn : Str} (hc : X.calm = true) (tk : Takes X W) (T : ExF X.K (L.cls c) fI fn) (hn : L.nm i = fn) (F1 : FnOk X.prog X.w X.K X.mg X.base CX0 k fI fd ps (spXI X.K fn)) (hr : Room (k + 1) X.A) (hb : Binds X.K fd ps []) (hg : Gl X x) (hm : X.mg x = some (.ref (L.cls c)))
    (ha : FE X L W e f) (hdb : (x == ("__debug__" : Str)) = false := by decide) (he : starEach [e] X.env = (false, eval e X.env) :: starEach [] X.env := by rfl) : FS X L W (.Raise (some (.Call (.Name x p) [e] [] p3)) none pos) (sRaise1 c i f) :=
  psImp (ps_raise hc tk (pmk_oex T.o T.iC T.tI F1 hr hb .nil pass0 hg hm (pa_cons ha pa_nil he) hdb he rfl)) fun D σ H ⟨α, M, s, r, sl, h⟩ =>
    ⟨α, M, s, r, sl, (PostR.toS (R := Rep _) sl h).imp fun v H1 ⟨d, α1, M1, l1, r1, rd, h1⟩ => ⟨by show 1 ≤ 1000; decide, fun a hna => ⟨a, L.cls c, v, rfl, T.o, T.no, upd_same, fun dx hdx ne => by
      have hd1 : H1 dx = none := by rw [upd_ne ne] at hdx; exact hdx
      have e1 : upd (del (upd (upd (upd H1 a (exo a (L.cls c) none)) dx (exd dx [(fn, v)])) a (exo a (L.cls c) (some dx))) a) dx (.xd [(fn, v)]) = upd H1 dx (.xd [(fn, v)]) := by
        funext b
        by_cases q : b = dx
        · rw [q, upd_same, upd_same]
        · rw [upd_ne q, upd_ne q]
          by_cases q2 : b = a
          · rw [q2, del_same, hna]
          · rw [del_ne q2, upd_ne q2, upd_ne q, upd_ne q2]
      refine ⟨rfl, dx, _, upd_same, by rw [upd_ne ne, upd_same], hd1, ?_⟩
      rw [e1]
      subst hn
      exact h1 α1 _ σ _ _ (Le.add hd1) (r1.add hd1) ((sl.le l1).le (Le.add hd1)) ⟨rfl, dx, v, rfl, upd_same, rd.le (Le.add hd1)⟩⟩⟩⟩
end
end Fl

namespace Fl
open PySem PySem.Spec L2
/-! ### an object that stands already is told of from here on -/
section
variable {X : Cx} {pins : List (Addr × Obj)} {σ : L2.St} {H : Hp} {s : Shared} {a : Addr} {o : HO} {oe : Obj} {vs : Array Value}
theorem Inv.track (I : L2.Inv X pins σ H s) (he : s.heap.get? a = some oe) (hd : oe.data = .fields vs) (na : H a = none) (n0 : X.s_0.heap.get? a = none) (nL : a ≠ X.env.locals) (np : ∀ p ∈ X.pn ++ pins, p.1 ≠ a) (ob : ObjOk X.prog X.w (upd H a o) s.heap a o) : L2.Inv X pins σ (upd H a o) s := by
  have ne0 : ∀ b ob, X.s_0.heap.get? b = some ob → b ≠ a := fun b ob e z => by rw [z, n0] at e; cases e
  have neC : ∀ x c, X.env.cells.lookup x = some c → c ≠ a := fun x c e z => by
    obtain ⟨v, oc, h1, h2⟩ := I.cell x c e
    rw [z, he] at h1; cases h1
    rw [hd] at h2; cases h2
  refine { ok := I.ok, os := I.os, bare := I.bare, loc := I.loc, cell := I.cell, len := I.len, base := ?_, free := ?_, freeC := ?_, pin := ?_, hok := ?_ }
  · exact ⟨I.base.keep, I.base.slot, fun b ob e n hx => by rw [upd_ne (ne0 b ob e)]; exact I.base.free b ob e n hx, I.base.there,
      fun b xs e => by rw [upd_ne (ne_of_none (I.base.tups b xs e) na)]; exact I.base.tups b xs e,
      fun b ob u e => by rw [upd_ne (ne_of_none (I.base.frzs b ob u e) na)]; exact I.base.frzs b ob u e,
      fun b ps e => by
        obtain ⟨m, q⟩ := I.base.tbls b ps e
        exact ⟨m, by rw [upd_ne (ne_of_none q na)]; exact q⟩⟩
  · rw [upd_ne (Ne.symm nL)]; exact I.free
  · intro x c e
    rw [upd_ne (neC x c e)]; exact I.freeC x c e
  · intro p hp
    obtain ⟨h1, h2, h3⟩ := I.pin p hp
    exact ⟨h1, by rw [upd_ne (np p hp)]; exact h2, h3⟩
  · intro b u e
    by_cases hb : b = a
    · subst hb
      rw [upd_same] at e; cases e
      exact ob
    · rw [upd_ne hb] at e
      exact (I.hok b u e).stay (fun _ _ _ q => q) (fun c q => by rw [upd_ne (ne_of_none q na)]; exact q) fun c xs q => by rw [upd_ne (ne_of_none q na)]; exact q
end
theorem exH_ok {P : Program} {w : World} {H : Hp} {h : Heap} {a : Addr} {cls : Value} {d : Option Addr} {oe : Obj} {vs : Array Value} (he : h.get? a = some oe) (hz : Zc cls d oe) (hd : oe.data = .fields vs) : ObjOk P w H h a (ExH cls d a) :=
  ⟨⟨oe, vs, he, hz, hd⟩, ⟨oe, he⟩, fun _ _ ⟨o, v, q, r⟩ k => ⟨o, v, k o q, r⟩⟩
/-! ### try: body, then clauses with a name each -/
/-- a clause: which classes it takes, the slot of its name, what its suite does -/
abbrev Clause := (Nat → Option Bool) × Nat × SF
def unname (i : Nat) : SR → SR
  | .nx s M => .nx (s.set i none) M
  | .bk s M => .bk (s.set i none) M
  | .ct s M => .ct (s.set i none) M
  | .rt d M => .rt d M
  | _ => .bad
def handle : List Clause → Nat → Option (Nat × D) → SF
  | [], c, f, s, M => .exc c f s M
  | (tab, i, su) :: r, c, f, s, M => match tab c with
    | some true => unname i (su (s.set i (some (.ref M.length))) (M ++ [.exc c f]))
    | some false => handle r c f s M
    | none => .bad
def sTry (fb : SF) (cl : List Clause) : SF := fun s M => match fb s M with
  | .exc c f s1 M1 => handle cl c f s1 M1
  | r => r
/-- an except suite's context -/
abbrev sx (X : Cx) (a : Addr) : Cx := { X with A := X.A.mark (some (.ref a)), calm := false, xe := fun _ _ => False }
inductive HdF (X : Cx) (L : Lay) : List ExceptHandler → List Clause → Prop
  | nil : HdF X L [] []
  | cons {x n : Str} {cv : Value} {i : Nat} {tab : Nat → Option Bool} {su : SF} {b₀ : Stmt} {suite : List Stmt} {np pos' : Pos} {hds : List ExceptHandler} {l : List Clause} (hc : Names X x cv) (hi : X.N[i]? = some n) (hln : X.env.kindOf n = some .local)
      (ht : ∀ c b, tab c = some b → PySem.W.exmOne X.K (.ref (L.cls c)) cv = some b) (hsu : ∀ a : Addr, FSs (sx X a) L W0 (b₀ :: suite) su) (r : HdF X L hds l) :
      HdF X L (.ExceptHandler (some (.Name x np)) (some n) (b₀ :: suite) pos' :: hds) ((tab, i, su) :: l)
/-- what is wanted of an error of the body -/
def wTry (K : PySem.W.Frag) (L : Lay) (W : WX) (cl : List Clause) (D : Ends) : WX := fun cls d σ H => ∃ c f s α M, Rel K L α M H ∧ Slots K α H s σ ∧ XRep K L α H c f cls d ∧ PostS K L W D α H (handle cl c f s M)
theorem sx_ok {X : Cx} (ok : X.Ok) (a : Addr) : (sx X a).Ok :=
  { mod := ok.mod, kind := ok.kind, glob := ok.glob, blt := ok.blt, above := ok.above, inj := ok.inj, has := ok.has, cab := ok.cab, hd := fun z => Bool.noConfusion z, frames := ok.frames, stk := ok.stk, exf := ok.exf, bs := ok.bs, bsz := ok.bsz, noex := ok.noex, exfs := ok.exfs, funs := ok.funs, frf := ok.frf }
theorem Inv.sx {X : Cx} {pins : List (Addr × Obj)} {σ : L2.St} {H : Hp} {s : Shared} (I : L2.Inv X pins σ H s) (a : Addr) : L2.Inv (sx X a) pins σ H s :=
  { ok := sx_ok I.ok a, os := I.os, bare := I.bare, base := I.base, loc := I.loc, cell := I.cell, free := I.free, freeC := I.freeC, pin := I.pin, hok := I.hok, len := I.len }
theorem Inv.unsx {X : Cx} {pins : List (Addr × Obj)} {σ : L2.St} {H : Hp} {s : Shared} {a : Addr} (ok : X.Ok) (I : L2.Inv (Fl.sx X a) pins σ H s) : L2.Inv X pins σ H s :=
  { ok := ok, os := I.os, bare := I.bare, base := I.base, loc := I.loc, cell := I.cell, free := I.free, freeC := I.freeC, pin := I.pin, hok := I.hok, len := I.len }
section
variable {X : Cx} {L : Lay} {W : WX} {body : List Stmt} {h₀ : ExceptHandler} {hds : List ExceptHandler} {cl : List Clause} {pos : Pos} {fb : SF}
theorem fs_try (hs : X.stack = X.env :: X.outer) (hf : X.env.frame = some X.env.locals) (hex : X.ex = []) (hN : X.N.Nodup) (tk : Takes X W)
    (hb : ∀ (W' : WX) (pn : List (Addr × Obj)) (xe : Value → Shared → Prop), Takes (X.tr pn xe) W' → PassesOwn (model X.prog X.w) X.A X.env xe → FSs (X.tr pn xe) L W' body fb)
    (hh : HdF X L (h₀ :: hds) cl) : FS X L W (.Try body (h₀ :: hds) [] [] pos) (sTry fb cl) := by
  refine ⟨fun pins s0 σ0 H0 D I ⟨α, M, sd, r, sl, h⟩ => ?_⟩
  have ok := I.ok
  have hfr : X.A.frames = some (X.env :: X.outer) := ok.frames.trans (congrArg some hs)
  -- the body's reading, with the wish of the clauses
  have hbody : LS X.K L (wTry X.K L W cl D) fb D σ0 H0 := by
    refine ⟨α, M, sd, r, sl, ?_⟩
    unfold sTry at h
    cases e : fb sd M with
    | exc c f s1 M1 => rw [e] at h; exact fun α' H' σ cls d l r' sl' x => ⟨c, f, s1, α', M1, r', sl', x, PostS.le l h⟩
    | nx s1 M1 => rw [e] at h; exact h
    | bk s1 M1 => rw [e] at h; exact h
    | ct s1 M1 => rw [e] at h; exact h
    | rt d M1 => rw [e] at h; exact h
    | bad => rw [e] at h; exact h
  refine wpAny_Try_except (wpAny_mono ((hb (wTry X.K L W cl D) (X.pn ++ pins) (fun e s₁ => wpAny (model X.prog X.w) X.A (noteFrame e X.env) (fun _ s₂ => wpAny (model X.prog X.w) X.A (setFlight e none) (fun _ s₃ =>
    wpAny (model X.prog X.w) X.A (handleBy e X.env (h₀ :: hds)) (SP X pins D) X.xe s₃) X.xe s₂) X.xe s₁) (fun u s' xx => ?_) PassesOwn.looking).run [] s0 σ0 H0 D (I.toTry _) hbody) (fun f s1 hsp => ?_) (fun e s1 he => he))
  · -- an error
    obtain ⟨a, B, sI, pins', σ, H, cls, d, rfl, J', nb, up, sky, na, os, ag, c, f, s1, α1, M1, r1, sl1, x1, h1⟩ := xx
    have J : L2.Inv X pins σ H sI := J'.ofTry ok
    have sky' : Sky B (X.env :: X.outer) a (Zc cls d) X.env.locals s'.heap := hs ▸ sky
    refine Sky.land (s := s') (env := X.env) Zc.steady hfr hf sky' fun h3 fl3 up3 => ?_
    have J3 : L2.Inv X pins σ H { s' with heap := h3 } := J.landed nb fl3.1 (up.trans up3) os ag
    obtain ⟨oe3, vs3, he3, hz3, hd3⟩ := fl3.there
    -- the error's object is none of the frames, and new
    have nfr : a ∉ frs (X.env :: X.outer) := fun hm => by
      obtain ⟨_, o', e', hnf⟩ := fl3.2.2.1.mem hm
      rw [he3] at e'; cases e'
      exact hnf _ hd3
    have nL : a ≠ X.env.locals := fun z => nfr (List.mem_filterMap.mpr ⟨X.env, List.mem_cons_self, hf.trans (congrArg some z.symm)⟩)
    have nI : sI.heap.get? a = none := by
      cases e : sI.heap.get? a with
      | none => rfl
      | some o =>
        have q := nb a o e (by rw [hs]; exact nfr)
        rw [fl3.2.1] at q; cases q
    have n0 : X.s_0.heap.get? a = none := by
      cases e : X.s_0.heap.get? a with
      | none => rfl
      | some o =>
        obtain ⟨o', q⟩ := J.base.there a o e (by rw [hex]; exact fun z => nomatch z)
        rw [nI] at q; cases q
    have np : ∀ p ∈ X.pn ++ pins, p.1 ≠ a := fun p hp z => by
      have q := (J.pin p hp).1
      rw [z, nI] at q; cases q
    -- clause by clause
    have go : ∀ {hds' : List ExceptHandler} {l' : List Clause}, HdF X L hds' l' → PostS X.K L W D α1 H (handle l' c f s1 M1) → wpAny (model X.prog X.w) X.A (handleBy (.ref a) X.env hds') (SP X pins D) X.xe { s' with heap := h3 } := by
      intro hds' l' hk
      induction hk with
      | nil =>
        intro hp
        refine wpAny_handleBy_nil ?_
        obtain ⟨_, _, _, oe, vs, T, oT, ts', he, _, hd, hv1, _⟩ := id fl3
        have fin : wpAny (model X.prog X.w) X.A (setFlight (.ref a) X.env.frame) (fun _ s4 => wpAny (model X.prog X.w) X.A (throw (.ref a) : Sem Flow) (SP X pins D) X.xe s4) X.xe { s' with heap := h3 } := by
          rw [hf]
          exact HandSPX.setFlight_upZ fl3 fun h4 hh4 up4 => wpAny_throw (tk _ _ ⟨a, B, sI, pins, σ, H, cls, d, rfl, J, nb, (up.trans up3).trans up4, .inr (.inr (hs ▸ hh4)), na, os, ag, hp α1 H σ cls d (Le.refl _ _) r1 sl1 x1⟩)
        unfold PySem.passOn
        refine wpAny_bind (wpAny_field he hd hv1 ?_)
        rw [if_neg (show ¬ ((Value.ref T == Value.none) = true) from fun z => by simp at z)]
        first
          | exact wpAny_bind fin
          | exact wpAny_bind (wpAny_pure (wpAny_bind fin))
      | @cons x n cv i tab su b₀ suite np' pos' hds2 l2 hc hi hln ht hsu _ ih =>
        intro hp
        unfold handle at hp
        cases et : tab c with
        | none => rw [et] at hp; exact hp.elim
        | some b =>
          rw [et] at hp
          have hb1 : PySem.W.exmOne X.K cls cv = some b := by rw [x1.1]; exact ht c b et
          have S3 := Inv.sx J3 a
          have LT : PySem.W.Looks (model X.prog X.w) h3 (typeOf (.ref a)) cls := fun A Q E s k q => wpAny_typeOf_ref (k _ _ he3) (hz3.1 ▸ q)
          have LM := PySem.W.exm_one (M := model X.prog X.w) J3.kIn LT hb1
          have test : ∀ {Q : Value → Shared → Prop} {E : Value → Shared → Prop}, Q cv { s' with heap := h3 } → wpAny (model X.prog X.w) (X.A.mark (some (.ref a))) (eval (.Name x np') X.env) Q E { s' with heap := h3 } := fun {Q E} q => by
            obtain ⟨hg, hdbg, hm⟩ := hc
            rcases hm with hm | ⟨hm, hv, hnn⟩
            · exact ld_glob (X := Fl.sx X a) S3 hg hm q hdbg
            · exact ld_blt (X := Fl.sx X a) S3 hg hm hv q hnn hdbg
          refine wpAny_handleBy_cons (codeAny_handlers_test (test (LM.here ?_))) (fun q => nomatch q)
          cases b with
          | false => exact ih hp
          | true =>
            refine codeAny_handlers_suite_as (HandSPX.lands_againZ fl3 fun h4 fl4 up4 => ?_)
            have J4 : L2.Inv X pins σ H { s' with heap := h4 } := J.landed nb fl4.1 ((up.trans up3).trans up4) os ag
            obtain ⟨oe4, vs4, he4, hz4, hd4⟩ := fl4.there
            have T4 : L2.Inv X pins σ (upd H a (ExH cls d a)) { s' with heap := h4 } := Inv.track J4 he4 hd4 na n0 nL np (exH_ok he4 hz4 hd4)
            have out := x1.out r1
            have rx : Rel X.K L (α1 ++ [a]) (M1 ++ [.exc c f]) (upd H a (ExH cls d a)) := r1.new (o := .exc c f) na ⟨cls, d, upd_same, x1.lw (Le.new na).lw (fun dd fs _ q => by rw [upd_ne (ne_of_none q na)]; exact q), fun dd ed hm => by
              rcases List.mem_append.mp hm with z | z
              · exact out dd ed z
              · have x2 := x1.2
                cases f with
                | none => rw [x2] at ed; cases ed
                | some pf =>
                  obtain ⟨d2, v, e2, hd2, _⟩ := x2
                  rw [ed] at e2; cases e2
                  rw [List.mem_singleton.mp z, na] at hd2; cases hd2⟩
            have lx : Le α1 H (α1 ++ [a]) (upd H a (ExH cls d a)) := Le.new na
            have rr : Rep X.K (α1 ++ [a]) (upd H a (ExH cls d a)) (.ref M1.length) (.ref a) := rep_ref (by rw [← r1.len]; simp)
            refine store_ok (X := Fl.sx X a) (v := .ref a) (Inv.sx T4 a) hN hi (.inl hln) rfl (fun s5 S5 => ?_) (.inr hln)
            -- the ends of the suite
            have end_ : ∀ {σ6 : L2.St} {H6 : Hp} {s6 : Shared} {Q : Shared → Prop}, L2.Inv (Fl.sx X a) pins σ6 H6 s6 → (∀ s7, L2.Inv X pins (σ6.set i none) H6 s7 → Q s7) →
                wpAny (model X.prog X.w) X.A (do bindName X.env n .none; unbindBehindTheSuite X.env n pos') (fun _ s7 => Q s7) X.xe s6 := fun S6 hq => gone_ok (Inv.unsx ok S6) hN hi hln hq
            have hq := PostS.le lx hp
            refine wpAny_mono ((hsu a).run pins s5 _ _ { nx := fun σ' H' => D.nx (σ'.set i none) H', rt := D.rt, bk := fun σ' H' => D.bk (σ'.set i none) H', ct := fun σ' H' => D.ct (σ'.set i none) H' } S5 ⟨_, _, _, rx, (sl1.le lx).set i rr, ?_⟩) (fun fl s6 hsp => ?_) (fun _ _ z => z.elim)
            · cases es : su (s1.set i (some (.ref M1.length))) (M1 ++ [.exc c f]) with
              | nx s2 M2 => simp only [es] at hq; exact fun α' H' σ' l r' sl' => hq α' H' _ l r' (sl'.del i none)
              | bk s2 M2 => simp only [es] at hq; exact fun α' H' σ' l r' sl' => hq α' H' _ l r' (sl'.del i none)
              | ct s2 M2 => simp only [es] at hq; exact fun α' H' σ' l r' sl' => hq α' H' _ l r' (sl'.del i none)
              | rt d M2 => simp only [es] at hq; exact hq
              | exc c f s2 M2 => simp only [es] at hq; exact hq.elim
              | bad => simp only [es] at hq; exact hq.elim
            · cases fl with
              | next => obtain ⟨σ6, H6, S6, q6⟩ := hsp; exact end_ S6 fun s7 J7 => ⟨_, _, J7, q6⟩
              | brk => obtain ⟨σ6, H6, S6, q6⟩ := hsp; exact end_ S6 fun s7 J7 => ⟨_, _, J7, q6⟩
              | cont => obtain ⟨σ6, H6, S6, q6⟩ := hsp; exact end_ S6 fun s7 J7 => ⟨_, _, J7, q6⟩
              | ret u => obtain ⟨v6, σ6, H6, S6, r6, q6⟩ := hsp; exact end_ S6 fun s7 J7 => ⟨_, _, _, J7, r6, q6⟩
    exact go hh h1
  · -- no error
    cases f with
    | next => obtain ⟨σ', H', J', q⟩ := hsp; exact wpAny_execs_nil ⟨σ', H', J'.ofTry ok, q⟩
    | brk => obtain ⟨σ', H', J', q⟩ := hsp; exact ⟨σ', H', J'.ofTry ok, q⟩
    | cont => obtain ⟨σ', H', J', q⟩ := hsp; exact ⟨σ', H', J'.ofTry ok, q⟩
    | ret u => obtain ⟨v, σ', H', J', r, q⟩ := hsp; exact ⟨v, σ', H', J'.ofTry ok, r, q⟩
end
end Fl

namespace Fl
open PySem PySem.Spec L2
/-! ### isinstance -/
inductive TyK where
  | non | bl | int | str | tup | lst | dct | ins (c : Nat) | exc (c : Nat)
def tyO (M : Mem) (n : Nat) : Option TyK := match M[n]? with
  | some (.lst _) => some .lst
  | some (.dk _) => some .dct
  | some (.dt _) => some .dct
  | some (.fk _) => some .dct
  | some (.ins c _) => some (.ins c)
  | some (.exc c _) => some (.exc c)
  | _ => none
def tyK (M : Mem) : D → Option TyK
  | .non => some .non
  | .bl _ => some .bl
  | .int _ => some .int
  | .str _ => some .str
  | .tup _ => some .tup
  | .rol _ => some .lst
  | .ref n => tyO M n
def tyVal (L : Lay) : TyK → Value
  | .non => .type "NoneType"
  | .bl => .type "bool"
  | .int => .type "int"
  | .str => .type "str"
  | .tup => .type "tuple"
  | .lst => .type "list"
  | .dct => .type "dict"
  | .ins c => .ref (L.cls c)
  | .exc c => .ref (L.cls c)
/-- what the written part says of an own class, for isinstance -/
structure InsF (K : PySem.W.Frag) (C : Addr) : Prop where
  cl : Cls K C
  ha : PySem.W.findIn K (.ref C) "__class__" = some (some (.builtin "object.__class__"))
  hn : PySem.W.specialIn K (.builtin "object.__class__") "__get__" = some (some (.builtin "getset_descriptor.__get__"))
  ht : PySem.W.takesIn K (.builtin "object.__class__") = some true
  hm : PySem.W.mroIn K C (.type "object") = some true
def gIsi (tab : TyK → Option Bool) : D → Mem → Res D := fun d M => okB M ((tyK M d).bind tab)
theorem tyX_of {K : PySem.W.Frag} {L : Lay} {α : List Addr} {M : Mem} {H : Hp} {d : D} {v : V} {k : TyK} (r : Rel K L α M H) (e : tyK M d = some k) (rd : Rep K α H d v) (hne : ∀ c, k ≠ .exc c) (hi : ∀ c, k = .ins c → InsF K (L.cls c)) : TyX K H v (tyVal L k) := by
  cases d with
  | non => cases e; rw [rd.non]; exact .base .non
  | bl b => cases e; rw [rd.bl]; exact .base (.bl b)
  | int b => cases e; rw [rd.int]; exact .base (.int b)
  | str b => cases e; rw [rd.str]; exact .base (.str b)
  | tup ds =>
    cases e
    obtain ⟨t, vs, rfl, ht, _⟩ := rd.tup
    rcases ht with ht | ⟨_, o, its, n, h1, h2, _⟩
    · exact .base (.tup ht)
    · exact .kTuple h1 h2
  | rol ds =>
    cases e
    obtain ⟨t, vs, rfl, ht, _⟩ := rd.rol
    rcases ht with ⟨o, ht⟩ | ⟨o, its, n, h1, h2, _⟩
    · exact .base (.frz ht)
    · exact .kList h1 h2
  | ref n =>
    obtain ⟨a, ha, rfl⟩ := rd.ref
    have e' : tyO M n = some k := e
    clear e
    have e := e'
    unfold tyO at e
    split at e
    · rename_i eo
      cases e
      obtain ⟨a', ha', vs, hv, _⟩ := r.at eo
      rw [ha] at ha'; cases ha'
      exact .base (.lst hv)
    · rename_i eo
      cases e
      obtain ⟨a', ha', vs, hv, _⟩ := r.at eo
      rw [ha] at ha'; cases ha'
      exact .base (.dK hv)
    · rename_i eo
      cases e
      obtain ⟨a', ha', vs, hv, _⟩ := r.at eo
      rw [ha] at ha'; cases ha'
      exact .base (.dT hv)
    · rename_i eo
      cases e
      obtain ⟨a', ha', o, vs, hv, _⟩ := r.at eo
      rw [ha] at ha'; cases ha'
      exact .fDict hv
    · rename_i c fs eo
      cases e
      obtain ⟨a', ha', dx, vs, hv, _⟩ := r.at eo
      rw [ha] at ha'; cases ha'
      obtain ⟨h1, h2, h3, h4, h5⟩ := hi c rfl
      exact .base (.ins hv h1 h2 h3 h4 h5)
    · cases e
      exact absurd rfl (hne _)
    · cases e
/-- .. of an error's class -/
structure XcF (K : PySem.W.Frag) (C : Addr) : Prop where
  cl : (PySem.W.clsIn K C).isSome = true
  ga : PySem.W.findIn K (.ref C) "__getattribute__" = some (some (.builtin "BaseException.__getattribute__"))
  gg : PySem.W.findIn K (.ref C) "__getattr__" = some none
  sb : PySem.W.subIn K (.ref C) (.type "BaseException") = some true
  ha : PySem.W.findIn K (.ref C) "__class__" = some (some (.builtin "object.__class__"))
  hn : PySem.W.specialIn K (.builtin "object.__class__") "__get__" = some (some (.builtin "getset_descriptor.__get__"))
  ht : PySem.W.takesIn K (.builtin "object.__class__") = some true
  hm : PySem.W.mroIn K C (.type "object") = some true
structure TabOk (K : PySem.W.Frag) (L : Lay) (tab : TyK → Option Bool) (cv : Value) : Prop where
  kit : ∀ k b, tab k = some b → PySem.W.kitOne K (tyVal L k) cv = some b
  ins : ∀ c b, tab (.ins c) = some b → InsF K (L.cls c)
  exc : ∀ c b, tab (.exc c) = some b → XcF K (L.cls c)
/-- an error of the class at C stands at a -/
def ErrAt (H : Hp) (a C : Addr) : Prop := ∃ d, H a = some (ExH (.ref C) d a) ∧ (d = none ∨ ∃ dd fs, d = some dd ∧ H dd = some (.xd fs))
theorem err_inst {X : Cx} {pins : List (Addr × Obj)} {σ : L2.St} {H : Hp} {s : Shared} {a C : Addr} (I : L2.Inv X pins σ H s) (h : ErrAt H a C) : ∃ (ox : Obj) (od : Option Obj), PySem.W.InstAt s.heap a ox C od := by
  obtain ⟨d, ha, hd⟩ := h
  obtain ⟨⟨oe, vs, he, hz, hdat⟩, _⟩ := I.hok a _ ha
  have nc : PySem.W.notCls oe := by unfold PySem.W.notCls; rw [hdat]
  rcases hd with rfl | ⟨dd, fs, rfl, hdd⟩
  · exact ⟨oe, none, he, hz.1, nc, by rw [hz.2]; trivial⟩
  · obtain ⟨mA, hns, _⟩ := (show ObjOk X.prog X.w H s.heap dd (.xd fs) from I.hok dd _ hdd)
    obtain ⟨od, ho, _⟩ := lookIn_ns hns
    exact ⟨oe, some od, he, hz.1, nc, by rw [hz.2]; exact ho⟩
/-- isinstance(x, c), x perhaps an error -/
def rIsiX (K : PySem.W.Frag) : List V → Hp → VK → Prop := fun xs H Q => ∃ (x c : V) (t u : Value) (b : Bool), xs = [x, c] ∧ ClsV c u ∧ (TyX K H x t ∨ ∃ a C, x = .ref a ∧ t = .ref C ∧ ErrAt H a C ∧ XcF K C) ∧ PySem.W.kitOne K t u = some b ∧ Q (.bl b) H
theorem call_isiX {X : Cx} : CallR X (.builtin "isinstance") (rIsiX X.K) := fun pins s σ H xs us Q I r h => by
  obtain ⟨x, c, t, u, b, rfl, k, ty, e, q⟩ := h
  rcases ty with ty | ⟨a, C, rfl, rfl, er, T⟩
  · exact call_isi pins s σ H _ us Q I r ⟨x, c, t, u, b, rfl, k, ty, e, q⟩
  · obtain ⟨u1, u2, rfl, r1, r2⟩ := vals2 r
    have e2 := k.eq r2
    subst e2
    obtain rfl : u1 = Value.ref a := r1
    obtain ⟨ox, od, J⟩ := err_inst I er
    exact PySem.W.kia_one (PySem.W.kitx_exc T.cl T.ga T.gg T.sb T.ha T.hn T.ht T.hm) I.kIn J e (fun z => nomatch z) fun tk => ⟨.bl b, H, I.tok tk, rfl, q⟩
section
variable {X : Cx} {L : Lay} {W : WX} {e : Expr} {f : EF} {pos : Pos}
theorem isi_go {K : PySem.W.Frag} {tab : TyK → Option Bool} {cv : Value} {c : V} (T : TabOk K L tab cv) (hcv : ClsV c cv) {σ : L2.St} {H : Hp} {Q : VK} (h : LE K L W (dOp1 (gIsi tab) f) σ H Q) :
    LE K L W f σ H fun x H1 => rIsiX K [x, c] H1 Q := by
  obtain ⟨α, M, s, r, sl, h⟩ := h
  refine ⟨α, M, s, r, sl, (PostR.bind (R := Rep K) h).imp fun x H1 ⟨dx, α1, M1, l1, r1, rx, h1⟩ => ?_⟩
  dsimp only at h1
  unfold gIsi at h1
  cases ek : tyK M1 dx with
  | none => rw [ek] at h1; exact h1.elim
  | some k =>
    rw [ek] at h1
    cases eb : tab k with
    | none =>
      have z : (some k).bind tab = none := eb
      rw [z] at h1; exact h1.elim
    | some b =>
      have z : (some k).bind tab = some b := eb
      rw [z] at h1
      refine ⟨x, c, tyVal L k, cv, b, rfl, hcv, ?_, T.kit k b eb, PostR.pure h1 r1 rep_bl⟩
      by_cases hx : ∃ c, k = .exc c
      · obtain ⟨c', rfl⟩ := hx
        refine .inr ?_
        cases dx <;> try (cases ek; done)
        rename_i n
        obtain ⟨a, ha, rfl⟩ := rx.ref
        have ek' : tyO M1 n = some (.exc c') := ek
        unfold tyO at ek'
        split at ek' <;> try (cases ek'; done)
        rename_i c2 f2 eo
        cases ek'
        obtain ⟨a', ha', cls, d, e1, e2, _⟩ := r1.at eo
        rw [ha] at ha'; cases ha'
        have e3 := e2.1
        subst e3
        refine ⟨a, L.cls c', rfl, rfl, ⟨d, e1, ?_⟩, T.exc c' b eb⟩
        have e4 := e2.2
        cases f2 with
        | none => exact .inl e4
        | some p => obtain ⟨dd, v, z1, z2, _⟩ := e4; exact .inr ⟨dd, _, z1, z2⟩
      · exact .inl (tyX_of r1 ek rx (fun c z => hx ⟨c, z⟩) fun c z => by subst z; exact T.ins c b eb)
/-- isinstance(e, T), T a built-in class by its name -/
theorem fe_isi {tab : TyK → Option Bool} {n : Str} {T : String} {p q : Pos} (ho : TabOk X.K L tab (.type T)) (hg : Gl X "isinstance") (hm : X.mg "isinstance" = none) (hg2 : Gl X n) (hm2 : X.mg n = none) (hv2 : bootBuiltins n = some (.type T)) (he : FE X L W e f)
    (hs : starEach [e, .Name n q] X.env = (false, eval e X.env) :: starEach [.Name n q] X.env := by rfl) (hs2 : starEach [.Name n q] X.env = (false, eval (.Name n q) X.env) :: starEach [] X.env := by rfl) (hn : n ≠ "__name__" := by decide) (hd : (n == ("__debug__" : Str)) = false := by decide)
    (hpl : (backTo pos (starEach [.Name n q] X.env)).any (·.1) = false := by rfl) : FE X L W (.Call (.Name "isinstance" p) [e, .Name n q] [] pos) (dOp1 (gIsi tab) f) :=
  ⟨fun pins s σ H Q I h => (pe_callB call_isiX hg hm (by decide +kernel) (pa_cons he (pa_cons (pe_bltn (v := .ty T) (u := .type T) hg2 hm2 hv2 rfl hn hd) pa_nil hs2) hs) (by decide) (by decide) hs hpl).run pins s σ H Q I (by
    obtain ⟨α, M, sd, r, sl, h⟩ := isi_go ho (.ty T) h
    exact ⟨α, M, sd, r, sl, h.imp fun x H1 q1 => q1⟩)⟩
/-- isinstance(e, C), C an own class -/
theorem fe_isiC {tab : TyK → Option Bool} {n : Str} {C : Addr} {p q : Pos} (ho : TabOk X.K L tab (.ref C)) (hg : Gl X "isinstance") (hm : X.mg "isinstance" = none) (hg2 : Gl X n) (hm2 : X.mg n = some (.ref C)) (he : FE X L W e f)
    (hs : starEach [e, .Name n q] X.env = (false, eval e X.env) :: starEach [.Name n q] X.env := by rfl) (hs2 : starEach [.Name n q] X.env = (false, eval (.Name n q) X.env) :: starEach [] X.env := by rfl) (hd : (n == ("__debug__" : Str)) = false := by decide)
    (hpl : (backTo pos (starEach [.Name n q] X.env)).any (·.1) = false := by rfl) : FE X L W (.Call (.Name "isinstance" p) [e, .Name n q] [] pos) (dOp1 (gIsi tab) f) :=
  ⟨fun pins s σ H Q I h => (pe_callB call_isiX hg hm (by decide +kernel) (pa_cons he (pa_cons (pe_glob (v := .ref C) hg2 hm2 rfl hd) pa_nil hs2) hs) (by decide) (by decide) hs hpl).run pins s σ H Q I (by
    obtain ⟨α, M, sd, r, sl, h⟩ := isi_go ho (.own C) h
    exact ⟨α, M, sd, r, sl, h.imp fun x H1 q1 => q1⟩)⟩
end
def tabInt : TyK → Option Bool
  | .int => some true | .bl => some true | .ins _ => none | .exc _ => none | _ => some false
def tabBool : TyK → Option Bool
  | .bl => some true | .ins _ => none | .exc _ => none | _ => some false
def tabStr : TyK → Option Bool
  | .str => some true | .ins _ => none | .exc _ => none | _ => some false
def tabTup : TyK → Option Bool
  | .tup => some true | .ins _ => none | .exc _ => none | _ => some false
def tabLst : TyK → Option Bool
  | .lst => some true | .ins _ => none | .exc _ => none | _ => some false
theorem tab_by {K : PySem.W.Frag} {L : Lay} {tab : TyK → Option Bool} {T : String} (hi : ∀ c, tab (.ins c) = none) (hx : ∀ c, tab (.exc c) = none)
    (h : tab .non = kitB "NoneType" T ∧ tab .bl = kitB "bool" T ∧ tab .int = kitB "int" T ∧ tab .str = kitB "str" T ∧ tab .tup = kitB "tuple" T ∧ tab .lst = kitB "list" T ∧ tab .dct = kitB "dict" T) : TabOk K L tab (.type T) := by
  obtain ⟨h1, h2, h3, h4, h5, h6, h7⟩ := h
  refine ⟨fun k b e => ?_, fun c b e => ?_, fun c b e => by rw [hx] at e; cases e⟩
  · cases k with
    | non => exact kit_ty (h1 ▸ e)
    | bl => exact kit_ty (h2 ▸ e)
    | int => exact kit_ty (h3 ▸ e)
    | str => exact kit_ty (h4 ▸ e)
    | tup => exact kit_ty (h5 ▸ e)
    | lst => exact kit_ty (h6 ▸ e)
    | dct => exact kit_ty (h7 ▸ e)
    | ins c => rw [hi] at e; cases e
    | exc c => rw [hx] at e; cases e
  · rw [hi] at e; cases e
section
variable {K : PySem.W.Frag} {L : Lay}
theorem tabInt_ok : TabOk K L tabInt (.type "int") := tab_by (fun _ => rfl) (fun _ => rfl) (by decide +kernel)
theorem tabBool_ok : TabOk K L tabBool (.type "bool") := tab_by (fun _ => rfl) (fun _ => rfl) (by decide +kernel)
theorem tabStr_ok : TabOk K L tabStr (.type "str") := tab_by (fun _ => rfl) (fun _ => rfl) (by decide +kernel)
theorem tabTup_ok : TabOk K L tabTup (.type "tuple") := tab_by (fun _ => rfl) (fun _ => rfl) (by decide +kernel)
theorem tabLst_ok : TabOk K L tabLst (.type "list") := tab_by (fun _ => rfl) (fun _ => rfl) (by decide +kernel)
end
end Fl

namespace Fl
open PySem PySem.Spec L2
/-! ### names of the module -/
section
variable {X : Cx} {L : Lay} {W : WX} {x : Str} {pos : Pos}
theorem fe_glob {i : Int} {t : Tok} (hg : Gl X x) (hm : X.mg x = some (.int i t)) (hd : (x == ("__debug__" : Str)) = false := by decide) : FE X L W (.Name x pos) (dC (.int i)) :=
  peImp (pe_glob (v := .int i) hg hm ⟨t, rfl⟩ hd) fun σ H Q ⟨α, M, s, r, sl, h⟩ => PostR.pure h r rep_int
end
/-! ### o[i] = v -/
def setIx (M : Mem) (o i v : D) : Option Mem := match o with
  | .ref n => (match M[n]? with
    | some (.lst ds) => (match i with
      | .int k => (match ixF ds.length k with
        | some j => some (M.set n (.lst (ds.set j v)))
        | none => none)
      | _ => none)
    | some (.dk kvs) => (match keyOf i, decide (kvs.length < sizeLine) with
      | some k, true => some (M.set n (.dk (put kvs k v)))
      | _, _ => none)
    | some (.dt kvs) => (match keysOf i, decide (kvs.length < sizeLine) with
      | some k, true => some (M.set n (.dt (put kvs k v)))
      | _, _ => none)
    | _ => none)
  | _ => none
def rFP (K : PySem.W.Frag) (L : Lay) : TSet := fun o i v H Q => ∃ α M od id vd M', Rel K L α M H ∧ Rep K α H od o ∧ Rep K α H id i ∧ Rep K α H vd v ∧ setIx M od id vd = some M' ∧ ∀ H', Le α H α H' → Rel K L α M' H' → Q H'
theorem Inv.dkNd {X : Cx} {pins : List (Addr × Obj)} {σ : L2.St} {H : Hp} {s : Shared} {a : Addr} {kvs : List (Key × V)} (I : L2.Inv X pins σ H s) (h : H a = some (.dK kvs)) : (kvs.map (·.1)).Nodup := by
  obtain ⟨z, hd, vs, rel, dd⟩ := dk_rd I.hok (.inl h)
  have all : ∀ {l : List (Key × V)} {m : List (Key × Value)}, KV l m → l.map (·.1) = m.map (·.1) := by
    intro l m q
    induction q with
    | nil => rfl
    | cons p _ ih => rw [List.map_cons, List.map_cons, p.1, ih]
  rw [all rel]
  obtain ⟨o, es, c, _, _, _, _, _, q⟩ := dd
  exact q
theorem Inv.dtNd {X : Cx} {pins : List (Addr × Obj)} {σ : L2.St} {H : Hp} {s : Shared} {a : Addr} {kvs : List (List Key × V)} (I : L2.Inv X pins σ H s) (h : H a = some (.dT kvs)) : (kvs.map (·.1)).Nodup := by
  obtain ⟨z, hd, vs, rel, dd⟩ := dt_rd I.hok (.inl h)
  have all : ∀ {l : List (List Key × V)} {m : List (List Key × Addr × Value)}, KT H l m → l.map (·.1) = m.map (·.1) := by
    intro l m q
    induction q with
    | nil => rfl
    | cons p _ ih => rw [List.map_cons, List.map_cons, p.1, ih]
  rw [all rel]
  obtain ⟨o, es, c, _, _, _, _, _, q⟩ := dd
  exact q
section
variable {X : Cx} {L : Lay} {W : WX} {is : List Nat} {pos : Pos}
theorem p_set (hu : X.A.units + 1 < cLine) : PSet X (rFP X.K L) := by
  intro pins s σ H o i v ov iv u Q I ro ri rv h
  obtain ⟨α, M, od, id, vd, M', r, qo, qi, qv, e, q⟩ := h
  unfold setIx at e
  split at e
  · rename_i n
    obtain ⟨a, ha, rfl⟩ := qo.ref
    have hm : a ∈ α := List.mem_of_getElem? ha
    split at e
    · rename_i ds eo
      obtain ⟨a', ha', vs, hv, hr⟩ := r.at eo
      rw [ha] at ha'; cases ha'
      split at e
      · rename_i k
        split at e
        · rename_i j ej
          cases e
          have ei := qi.int
          subst ei
          have le : Le α H α (upd H a (.lst (vs.set j v))) := Le.write hm hv trivial
          rw [ixF_eq, hr.length] at ej
          exact set_list pins s σ H _ _ _ _ _ _ Q I ro ri rv ⟨a, vs, k, j, rfl, rfl, hv, ej, q _ le (r.write (o := .lst _) ha ⟨_, upd_same, (hr.le le).set j (qv.le le)⟩)⟩
        · cases e
      · cases e
    · rename_i kvs eo
      obtain ⟨a', ha', vs, hv, hr⟩ := r.at eo
      rw [ha] at ha'; cases ha'
      split at e
      · rename_i k ek el
        cases e
        obtain ⟨e1, _⟩ := keyOf_rep ek qi
        subst e1
        have le : Le α H α (upd H a (.dK (putK vs k v))) := Le.write hm hv trivial
        exact set_dict hu pins s σ H _ _ _ _ _ _ Q I ro ri rv ⟨a, _, rfl, DPut.k hv (by rw [← hr.length]; exact dt el), q _ le (r.write (o := .dk _) ha ⟨_, upd_same, KvR.put (hr.le le) (Inv.dkNd I hv) (qv.le le)⟩)⟩
      · cases e
    · rename_i kvs eo
      obtain ⟨a', ha', vs, hv, hr⟩ := r.at eo
      rw [ha] at ha'; cases ha'
      split at e
      · rename_i k ek el
        cases e
        obtain ⟨t, e1, et, _⟩ := keysOf_rep ek qi
        subst e1
        have le : Le α H α (upd H a (.dT (putK vs k v))) := Le.write hm hv trivial
        exact set_dict hu pins s σ H _ _ _ _ _ _ Q I ro ri rv ⟨a, _, rfl, DPut.t hv et (by rw [← hr.length]; exact dt el), q _ le (r.write (o := .dt _) ha ⟨_, upd_same, KvR.put (hr.le le) (Inv.dtNd I hv) (qv.le le)⟩)⟩
      · cases e
    · cases e
  · cases e
def gIxSet (fo fi : EF) : GF := fun d s M => (fo s M).bind fun o M1 => (fi s M1).bind fun i M2 => match setIx M2 o i d with
  | some M3 => .ok s M3
  | none => .bad
theorem fg_sub {o i : Expr} {fo fi : EF} (hu : X.A.units + 70 < cLine) (ho : FE X L W o fo) (hi : FE X L W i fi)
    (ha : ∀ v, assign (.Subscript o i pos) X.env v = (do
      let ov ← holding [v] (eval o X.env)
      let iv ← holding [v, ov] (eval i X.env)
      standAt pos
      holding [v, ov, iv] (setItem ov iv v)
      release [v, ov, iv] []) := by intro _; rfl) : FG X L W is (.Subscript o i pos) (gIxSet fo fi) :=
  ⟨fun pins s σ H v u Q I rv ⟨α, M, sd, d, r, sl, rd, h⟩ => (pg_sub ho hi (p_set (L := L) (by omega)) ha).run pins s σ H v u Q I rv ⟨α, M, sd, r, sl, (PostR.bind (R := Rep _) h).imp fun x H1 ⟨dx, α1, M1, l1, r1, rx, h1⟩ =>
    ⟨α1, M1, sd, r1, sl.le l1, (PostR.bind (R := Rep _) h1).imp fun y H2 ⟨dy, α2, M2, l2, r2, ry, h2⟩ => by
      dsimp only at h2
      split at h2
      · rename_i M3 e3
        exact ⟨α2, M2, dx, dy, d, M3, r2, rx.le l2, ry, (rd.le l1).le l2, e3, fun H' l r' => h2 α2 H' σ l r' ⟨((sl.le l1).le l2).le l, Own.refl _ _⟩ (Own.refl _ _)⟩
      · exact h2.elim⟩⟩⟩
/-! ### o[i] op= e -/
def IpF (X : Cx) (L : Lay) (op : Operator) (g : D → D → Mem → Res D) : Prop := ∀ w, PIp X op (rF2 X.K L g w)
theorem ip_case {op : Operator} {r : TIp} (h : ∀ x y H Q, r x y H Q → ∃ r', PIp X op r' ∧ r' x y H Q) : PIp X op r := fun pins s σ H x y v u Q I rx ry q => by
  obtain ⟨r', h1, h2⟩ := h x y H Q q
  exact h1 pins s σ H x y v u Q I rx ry h2
def gIAdd : D → D → Mem → Res D
  | .int i, .int j, M => .ok (.int (i + j)) M
  | _, _, _ => .bad
theorem i_add : IpF X L .Add gIAdd := fun w => ip_case fun x y H Q ⟨α, M, dx, dy, r, rx, ry, h⟩ => by
  unfold gIAdd at h
  split at h
  · exact ⟨_, ip_add, _, _, rx.int, ry.int, PostR.pure h r rep_int⟩
  · exact h.elim
theorem i_sub : IpF X L .Sub gSub := fun w => ip_case fun x y H Q ⟨α, M, dx, dy, r, rx, ry, h⟩ => by
  unfold gSub at h
  split at h
  · exact ⟨_, ip_sub, _, _, rx.int, ry.int, PostR.pure h r rep_int⟩
  · exact h.elim
/-- o[i] of a list or a dict, by values -/
def rGetV (K : PySem.W.Frag) : V → V → Hp → VK → Prop := fun x y H Q => (∃ a vs k v, x = .ref a ∧ y = .int k ∧ H a = some (.lst vs) ∧ atI vs k = some v ∧ Q v H) ∨ ∃ a v, x = .ref a ∧ DGet H a y (some v) ∧ Q v H
theorem p_getV (hu : X.A.units + 1 < cLine) : PGet X (rGetV X.K) := by
  intro pins s σ H x y ov iv Q I ro ri h
  rcases h with ⟨a, vs, k, v, rfl, rfl, hv, e, q⟩ | ⟨a, v, rfl, g, q⟩
  · cases ro
    obtain ⟨t, rfl⟩ := ri
    obtain ⟨its, n, r, ho, hz⟩ := I.lst hv
    have pl : PySem.IsL s.heap a its.toArray n := ho
    unfold atI at e
    cases hj : ixN vs.length k with
    | none => rw [hj] at e; cases e
    | some j =>
      rw [hj] at e
      have e : vs[j]? = some v := e
      obtain ⟨u, hu1, ru⟩ := r.get e
      obtain ⟨h1, h2, h3, h4⟩ := ixN_seq hj
      have hl := r.length
      have hn := line63
      by_cases h0 : 0 ≤ k
      · have hk : k.toNat = j := by
          rw [seqIndex_of h0 h4] at h1
          exact Option.some.inj h1
        exact wpAny_getItem_list (PySem.IsL.isList pl) h0 (by omega) (by rw [hk]; simpa using hu1) ⟨v, H, I, ru, q⟩
      · have hk : (k + (vs.length : Int)).toNat = j := by
          rw [seqIndex_neg (by omega) h3] at h1
          exact Option.some.inj h1
        exact wpAny_getItem_list_neg (PySem.IsL.isList pl) (by omega) (by rw [List.size_toArray, ← hl]; exact h3) (by omega) (by rw [List.size_toArray, ← hl, hk]; simpa using hu1) ⟨v, H, I, ru, q⟩
  · cases ro
    exact d_getItem hu I g ri fun w' s' I' rw' => ⟨v, H, I', rw', q⟩
/-- what stands at o[i] of a list of ours or a dict -/
def getIx (M : Mem) (o i : D) : Option D := match o with
  | .ref n => (match listAt M n with
    | some ds => (match i with
      | .int k => itemAt ds k
      | _ => none)
    | none => (match dictLook M n i with
      | some (some d) => some d
      | _ => none))
  | _ => none
def sIxAug (fo fi fe : EF) (g : D → D → Mem → Res D) : SF := fun s M => (fo s M).toS s fun o M1 => (fi s M1).toS s fun i M2 => match getIx M2 o i with
  | some x => (fe s M2).toS s fun y M3 => (g x y M3).toS s fun z M4 => (match setIx M4 o i z with
    | some M5 => .nx s M5
    | none => .bad)
  | none => .bad
theorem getIx_rep {α : List Addr} {M : Mem} {H : Hp} {od id xd : D} {o i : V} (r : Rel X.K L α M H) (ro : Rep X.K α H od o) (ri : Rep X.K α H id i) (e : getIx M od id = some xd) {Q : VK} (q : ∀ v, Rep X.K α H xd v → Q v H) : rGetV X.K o i H Q := by
  unfold getIx at e
  split at e
  · rename_i n
    split at e
    · rename_i ds e1
      split at e
      · rename_i k
        obtain ⟨a, ha, rfl⟩ := ro.ref
        obtain ⟨a', vs, ha', hv, hr⟩ := r.list e1
        rw [ha] at ha'; cases ha'
        obtain ⟨v, e2, rv⟩ := itemAt_rep hr e
        exact .inl ⟨a, vs, k, v, rfl, ri.int, hv, e2, q v rv⟩
      · cases e
    · split at e
      · rename_i d e2
        cases e
        obtain ⟨a, ov, rfl, g, u, rfl, ru⟩ := dictLook_rep r e2 ro ri
        exact .inr ⟨a, u, rfl, g, q u ru⟩
      · cases e
  · cases e
theorem fs_ixAug {o i e : Expr} {fo fi fe : EF} {op : Operator} {g : D → D → Mem → Res D} {tpos : Pos} (hu : X.A.units + 70 < cLine) (ho : FE X L W o fo) (hi : FE X L W i fi) (he : FE X L W e fe) (hp : IpF X L op g)
    (ha : ∀ ov iv new, augStore i ov iv new = (do holding [new, ov, iv] (setItem ov iv new); release [new, ov, iv] []; pure .next) := by intros; rfl) : FS X L W (.AugAssign (.Subscript o i tpos) op e pos) (sIxAug fo fi fe g) :=
  ⟨fun pins s σ H D I ⟨α, M, sd, r, sl, h⟩ => (ps_augS ho hi (p_getV (by omega)) he (hp (fun c d H' => W c d σ H')) (p_set (L := L) (by omega)) ha).run pins s σ H D I ⟨α, M, sd, r, sl, (PostR.toS (R := Rep _) sl h).imp fun x H1 ⟨dx, α1, M1, l1, r1, rx, h1⟩ =>
    ⟨α1, M1, sd, r1, sl.le l1, (PostR.toS (R := Rep _) (sl.le l1) h1).imp fun y H2 ⟨dy, α2, M2, l2, r2, ry, h2⟩ => by
      dsimp only at h2
      split at h2
      · rename_i xd ex
        refine getIx_rep r2 (rx.le l2) ry ex fun v rv => ?_
        have sl2 := (sl.le l1).le l2
        refine ⟨α2, M2, sd, r2, sl2, (PostR.toS (R := Rep _) sl2 h2).imp fun z H3 ⟨dz, α3, M3, l3, r3, rz, h3⟩ => ?_⟩
        refine ⟨α3, M3, xd, dz, r3, rv.le l3, rz, (PostR.toS (R := Rep _) (sl2.le l3) h3).imp fun z2 H4 ⟨dz2, α4, M4, l4, r4, rz2, h4⟩ => ?_⟩
        dsimp only at h4
        split at h4
        · rename_i M5 e5
          exact ⟨α4, M4, dx, dy, dz2, M5, r4, ((rx.le l2).le l3).le l4, (ry.le l3).le l4, rz2, e5, fun H' l r' => h4 α4 H' σ l r' (((sl2.le l3).le l4).le l)⟩
        · exact h4.elim
      · exact h2.elim⟩⟩⟩
/-- x op= e, a name -/
def sAug (i : Nat) (fe : EF) (g : D → D → Mem → Res D) : SF := fun s M => match s[i]? with
  | some (some x) => (fe s M).toS s fun y M1 => (g x y M1).toS s fun z M2 => .nx (s.set i (some z)) M2
  | _ => .bad
theorem fs_aug {i : Nat} {x : Str} {e : Expr} {fe : EF} {op : Operator} {g : D → D → Mem → Res D} {pos' : Pos} (hN : X.N.Nodup) (hi : X.N[i]? = some x) (hx : Loc X.env.scope x) (he : FE X L W e fe) (ho : IpF X L op g) (hf : X.fn x = true ∨ X.env.scope.names.lookup x = some .local := by first | exact .inl rfl | exact .inr rfl | assumption) :
    FS X L W (.AugAssign (.Name x pos') op e pos) (sAug i fe g) :=
  ⟨fun pins s σ H D I ⟨α, M, sd, r, sl, h⟩ => (ps_aug hN hi hx he (ho (fun c d H' => W c d σ H')) hf).run pins s σ H D I (by
    unfold sAug at h
    split at h
    · rename_i xd ex
      obtain ⟨v, e1, rv⟩ := sl.2 i xd ex
      refine ⟨v, e1, α, M, sd, r, sl, (PostR.toS (R := Rep _) sl h).imp fun y H1 ⟨dy, α1, M1, l1, r1, ry, h1⟩ => ?_⟩
      exact ⟨α1, M1, xd, dy, r1, rv.le l1, ry, (PostR.toS (R := Rep _) (sl.le l1) h1).imp fun z H2 ⟨dz, α2, M2, l2, r2, rz, h2⟩ => h2 α2 H2 _ (Le.refl _ _) r2 (((sl.le l1).le l2).set i rz)⟩
    · exact h.elim)⟩
end
end Fl

namespace Fl
open PySem PySem.Spec L2
/-! ### methods of lists, dicts, texts -/
def rFM (K : PySem.W.Frag) (L : Lay) (g : D → List D → Mem → Res D) (w : W3) : V → List V → Hp → VK → Prop := fun x xs H Q => ∃ α M d ds, Rel K L α M H ∧ Rep K α H d x ∧ Reps K α H ds xs ∧ PostR K L (Rep K) (g d ds M) α H Q w
def MtF (X : Cx) (L : Lay) (id : String) (g : D → List D → Mem → Res D) : Prop := ∀ w, MtR X id (rFM X.K L g w)
def TyOk (K : PySem.W.Frag) (L : Lay) (T : String) (ty : D → Mem → Bool) : Prop := ∀ α M H d v, Rel K L α M H → Rep K α H d v → ty d M = true → tyV K T v H
def dBm (ty : D → Mem → Bool) (g : D → List D → Mem → Res D) (fo : EF) (fa : AF) : EF := fun s M => (fo s M).bind fun x M1 => match ty x M1 with
  | true => (fa s M1).bind fun ds M2 => g x ds M2
  | false => .bad
def tyLst : D → Mem → Bool := fun d M => match d with
  | .ref n => (listAt M n).isSome
  | .rol _ => true
  | _ => false
def tyDct : D → Mem → Bool := fun d M => match d with
  | .ref n => (match M[n]? with
    | some (.dk _) => true
    | some (.dt _) => true
    | _ => false)
  | _ => false
def tyStr : D → Mem → Bool := fun d _ => match d with
  | .str _ => true
  | _ => false
section
variable {X : Cx} {L : Lay} {W : WX} {o e : Expr} {es : List Expr} {fo : EF} {fa : AF} {name : Str} {apos cpos : Pos} {T id : String} {ty : D → Mem → Bool} {g : D → List D → Mem → Res D}
theorem tyLst_ok : TyOk X.K L "list" tyLst := fun α M H d v r rd h => by
  unfold tyLst at h
  split at h
  · rename_i n
    cases e : listAt M n with
    | none => rw [e] at h; cases h
    | some ds =>
      obtain ⟨a, ha, rfl⟩ := rd.ref
      obtain ⟨a', vs, ha', hv, hr⟩ := r.list e
      rw [ha] at ha'; cases ha'
      exact .inl ⟨rfl, vs, .of hv⟩
  · obtain ⟨t, vs, rfl, ht, _⟩ := rd.rol
    exact .inl ⟨rfl, vs, ht.sq⟩
  · cases h
theorem tyDct_ok : TyOk X.K L "dict" tyDct := fun α M H d v r rd h => by
  unfold tyDct at h
  split at h
  · rename_i n
    obtain ⟨a, ha, rfl⟩ := rd.ref
    split at h
    · rename_i kvs eo
      obtain ⟨a', ha', vs, hv, hr⟩ := r.at eo
      rw [ha] at ha'; cases ha'
      exact .inr (.inr (.inl ⟨rfl, .inl ⟨_, hv⟩⟩))
    · rename_i kvs eo
      obtain ⟨a', ha', vs, hv, hr⟩ := r.at eo
      rw [ha] at ha'; cases ha'
      exact .inr (.inr (.inl ⟨rfl, .inr ⟨_, hv⟩⟩))
    · cases h
  · cases h
theorem tyStr_ok : TyOk X.K L "str" tyStr := fun α M H d v r rd h => by
  unfold tyStr at h
  split at h
  · rw [rd.str]; rfl
  · cases h
theorem fe_bm (pa : PlainAttrs T) (slot : Slot T name id) (hty : typeOf (.builtin id) = pure (.type "method_descriptor")) (ht : TyOk X.K L T ty) (hm : MtF X L id g) (ho : FE X L W o fo) (ha : FA X L W (e :: es) fa)
    (hbase : attributeBase o name X.env (eval o X.env) = eval o X.env := by rfl)
    (hfew : ((backTo cpos (starEach (e :: es) X.env)).all (fun x => !x.1) && (backToKw cpos (keywordEach [] X.env)).all (fun x => x.1.isSome)
      && decide ((e :: es).length + ([] : List Keyword).length + (if ([] : List Keyword).isEmpty then 0 else 1) < 30)) = true := by rfl)
    (hline : (apos.endLine == cpos.line) = true := by rfl) (hs : starEach (e :: es) X.env = (false, eval e X.env) :: starEach es X.env := by rfl) (hplain : (backTo cpos (starEach es X.env)).any (·.1) = false := by rfl) :
    FE X L W (.Call (.Attribute o name apos) (e :: es) [] cpos) (dBm ty g fo fa) :=
  ⟨fun pins s σ H Q I ⟨α, M, sd, r, sl, h⟩ => (pe_bm pa slot hty (hm (fun c d H' => W c d σ H')) ho ha hbase hfew hline hs hplain).run pins s σ H Q I ⟨α, M, sd, r, sl, (PostR.bind (R := Rep _) h).imp fun x H1 ⟨dx, α1, M1, l1, r1, rx, h1⟩ => by
    dsimp only at h1
    cases et : ty dx M1 with
    | false => rw [et] at h1; exact h1.elim
    | true =>
      rw [et] at h1
      exact ⟨ht α1 M1 H1 dx x r1 rx et, α1, M1, sd, r1, sl.le l1, (PostR.bind (R := Reps _) h1).imp fun xs H2 ⟨ds, α2, M2, l2, r2, rs, h2⟩ => ⟨α2, M2, dx, ds, r2, rx.le l2, rs, h2⟩⟩⟩⟩
theorem fe_bm0 (pa : PlainAttrs T) (slot : Slot T name id) (hty : typeOf (.builtin id) = pure (.type "method_descriptor")) (ht : TyOk X.K L T ty) (hm : MtF X L id g) (ho : FE X L W o fo)
    (hbase : attributeBase o name X.env (eval o X.env) = eval o X.env := by rfl) (hline : (apos.endLine == cpos.line) = true := by rfl) : FE X L W (.Call (.Attribute o name apos) [] [] cpos) (dBm ty g fo dNil) :=
  ⟨fun pins s σ H Q I ⟨α, M, sd, r, sl, h⟩ => (pe_bm0 pa slot hty (hm (fun c d H' => W c d σ H')) ho hbase hline).run pins s σ H Q I ⟨α, M, sd, r, sl, (PostR.bind (R := Rep _) h).imp fun x H1 ⟨dx, α1, M1, l1, r1, rx, h1⟩ => by
    dsimp only at h1
    cases et : ty dx M1 with
    | false => rw [et] at h1; exact h1.elim
    | true =>
      rw [et] at h1
      exact ⟨ht α1 M1 H1 dx x r1 rx et, α1, M1, dx, [], r1, rx, reps_nil, h1⟩⟩⟩
theorem mt_case {r : V → List V → Hp → VK → Prop} (h : ∀ x xs H Q, r x xs H Q → ∃ r', MtR X id r' ∧ r' x xs H Q) : MtR X id r := fun pins s σ H x xs v us Q I rx rxs q => by
  obtain ⟨r', h1, h2⟩ := h x xs H Q q
  exact h1 pins s σ H x xs v us Q I rx rxs h2
/-! lists -/
def gAppend : D → List D → Mem → Res D := fun d as M => match d, as with
  | .ref n, [y] => (match listAt M n with
    | some ds => (match decide (ds.length < sizeLine) with
      | true => .ok .non (M.set n (.lst (ds ++ [y])))
      | false => .bad)
    | none => .bad)
  | _, _ => .bad
theorem m_append : MtF X L "list.append" gAppend := fun w => mt_case fun x xs H Q ⟨α, M, d, ds, r, rx, rs, h⟩ => by
  unfold gAppend at h
  split at h
  · split at h
    · rename_i es e1
      split at h
      · rename_i c
        obtain ⟨a, ha, rfl⟩ := rx.ref
        obtain ⟨a', vs, ha', hv, hr⟩ := r.list e1
        rw [ha] at ha'; cases ha'
        obtain ⟨y, rfl, ry⟩ := rs.one
        have le : Le α H α (upd H a (.lst (vs ++ [y]))) := Le.write (List.mem_of_getElem? ha) hv trivial
        exact ⟨_, mt_append, a, vs, y, rfl, rfl, hv, by rw [← hr.length]; exact dt c, h _ _ _ le (r.write (o := .lst _) ha ⟨_, upd_same, (hr.le le).append (reps_cons (ry.le le) reps_nil)⟩) rep_non⟩
      · exact h.elim
    · exact h.elim
  · exact h.elim
def gPopAt : D → List D → Mem → Res D := fun d as M => match d, as with
  | .ref n, [.int i] => (match listAt M n with
    | some ds => (match ixF ds.length i with
      | some j => (match ds[j]? with
        | some y => .ok y (M.set n (.lst (ds.eraseIdx j)))
        | none => .bad)
      | none => .bad)
    | none => .bad)
  | _, _ => .bad
def rPopIx : V → List V → Hp → VK → Prop := fun x vs H Q => ∃ l xs i k y, x = .ref l ∧ vs = [.int i] ∧ H l = some (.lst xs) ∧ ixN xs.length i = some k ∧ xs[k]? = some y ∧ Q y (upd H l (.lst (xs.eraseIdx k)))
theorem mt_popIx : MtR X "list.pop" rPopIx := fun pins s σ H x xs v us Q I rx rxs ⟨l, ys, i, k, y, e1, e2, hv, ek, ey, q⟩ => by
  obtain ⟨z, _⟩ := I.lstM hv
  obtain ⟨h1, h2, h3, h4⟩ := ixN_seq ek
  have hn := line63
  exact mt_popAt pins s σ H x xs v us Q I rx rxs ⟨l, ys, i, k, y, e1, e2, hv, by omega, by omega, h1, ey, q⟩
theorem m_popAt : MtF X L "list.pop" gPopAt := fun w => mt_case fun x xs H Q ⟨α, M, d, ds, r, rx, rs, h⟩ => by
  unfold gPopAt at h
  split at h
  · split at h
    · rename_i es e1
      split at h
      · rename_i j ej
        split at h
        · rename_i y ey
          obtain ⟨a, ha, rfl⟩ := rx.ref
          obtain ⟨a', vs, ha', hv, hr⟩ := r.list e1
          rw [ha] at ha'; cases ha'
          obtain ⟨z, rfl, rz⟩ := rs.one
          have ez := rz.int
          subst ez
          rw [ixF_eq, hr.length] at ej
          obtain ⟨v, ev, rv⟩ := hr.at ey
          have le : Le α H α (upd H a (.lst (vs.eraseIdx j))) := Le.write (List.mem_of_getElem? ha) hv trivial
          exact ⟨_, mt_popIx, a, vs, _, j, v, rfl, rfl, hv, ej, ev, h _ _ _ le (r.write (o := .lst _) ha ⟨_, upd_same, (hr.le le).erase j⟩) (rv.le le)⟩
        · exact h.elim
      · exact h.elim
    · exact h.elim
  · exact h.elim
def gInsert : D → List D → Mem → Res D := fun d as M => match d, as with
  | .ref n, [.int i, y] => (match listAt M n with
    | some ds => (match decide (ds.length < sizeLine ∧ 0 ≤ i ∧ i < 1073741824) with
      | true => .ok .non (M.set n (.lst (ds.take i.toNat ++ [y] ++ ds.drop i.toNat)))
      | false => .bad)
    | none => .bad)
  | _, _ => .bad
theorem m_insert : MtF X L "list.insert" gInsert := fun w => mt_case fun x xs H Q ⟨α, M, d, ds, r, rx, rs, h⟩ => by
  unfold gInsert at h
  split at h
  · rename_i n i y0
    split at h
    · rename_i es e1
      split at h
      · rename_i c
        obtain ⟨c1, c2, c3⟩ := dt c
        obtain ⟨a, ha, rfl⟩ := rx.ref
        obtain ⟨a', vs, ha', hv, hr⟩ := r.list e1
        rw [ha] at ha'; cases ha'
        obtain ⟨z, y, rfl, rz, ry⟩ := rs.two
        have ez := rz.int
        subst ez
        have le : Le α H α (upd H a (.lst (vs.take i.toNat ++ [y] ++ vs.drop i.toNat))) := Le.write (List.mem_of_getElem? ha) hv trivial
        exact ⟨_, mt_insert, a, vs, _, y, rfl, rfl, hv, by rw [← hr.length]; exact c1, c2, by omega, h _ _ _ le (r.write (o := .lst _) ha ⟨_, upd_same, (((hr.le le).take _).append (reps_cons (ry.le le) reps_nil)).append ((hr.le le).drop _)⟩) rep_non⟩
      · exact h.elim
    · exact h.elim
  · exact h.elim
/-! data in lists -/
def findAt (ps : List PyData) (p : PyData) : Option Nat := match ps with
  | [] => none
  | z :: r => match PyData.eqv z p with
    | true => some 0
    | false => (findAt r p).map (· + 1)
theorem findAt_ok : ∀ {ps : List PyData} {p : PyData} {j : Nat}, findAt ps p = some j → ∃ z, ps[j]? = some z ∧ PyData.eqv z p = true ∧ ∀ (m : Nat) (z' : PyData), m < j → ps[m]? = some z' → PyData.eqv z' p = false
  | [], p, j, h => by cases h
  | z :: r, p, j, h => by
    unfold findAt at h
    cases e : PyData.eqv z p with
    | true =>
      rw [e] at h; cases h
      exact ⟨z, rfl, e, fun m z' hm _ => absurd hm (Nat.not_lt_zero m)⟩
    | false =>
      rw [e] at h
      dsimp only at h
      cases e2 : findAt r p with
      | none => rw [e2] at h; cases h
      | some i =>
        rw [e2] at h; cases h
        obtain ⟨z2, h1, h2, h3⟩ := findAt_ok e2
        refine ⟨z2, by simpa using h1, h2, fun m z' hm hz => ?_⟩
        cases m with
        | zero => simp at hz; rw [← hz]; exact e
        | succ m => exact h3 m z' (Nat.lt_of_succ_lt_succ hm) (by simpa using hz)
/-- the data of a list and of a thing, both of a shape that can be looked through -/
def twoPy (M : Mem) (x : D) (ds : List D) : Option (PyData × List PyData) := match toPy M 9 x, allSome (toPy M 8) ds with
  | some a, some bs => (match SeqAt.shaped a && SeqAt.shaped (.list bs) with
    | true => some (a, bs)
    | false => none)
  | _, _ => none
theorem twoPy_dp {M : Mem} {α : List Addr} {H : Hp} {dx : D} {ds : List D} {x : V} {vs : List V} {a : PyData} {bs : List PyData} (r : Rel X.K L α M H) (h : twoPy M dx ds = some (a, bs)) (rx : Rep X.K α H dx x) (ry : Reps X.K α H ds vs) :
    Dp X.K H x a ∧ DpAll X.K H vs bs ∧ SeqAt.shaped a = true ∧ SeqAt.shaped (.list bs) = true := by
  unfold twoPy at h
  split at h
  · rename_i a' bs' e1 e2
    split at h
    · rename_i c
      cases h
      exact ⟨toPy_dp r 9 dx x a e1 rx, allSome_dp (toPy_dp r 8) ds vs bs e2 ry, (Bool.and_eq_true_iff.mp c).1, (Bool.and_eq_true_iff.mp c).2⟩
    · cases h
  · cases h
def gIndex : D → List D → Mem → Res D := fun d as M => match seqOf M d, as with
  | some ds, [y] => (match twoPy M y ds with
    | some (p, ps) => (match findAt ps p with
      | some j => .ok (.int j) M
      | none => .bad)
    | none => .bad)
  | _, _ => .bad
theorem Rep.lstAt {α : List Addr} {M : Mem} {H : Hp} (r : Rel X.K L α M H) {d : D} {v : V} {ds : List D} (h : Rep X.K α H d v) (hs : seqOf M d = some ds) (ht : tyLst d M = true) : ∃ a vs, v = .ref a ∧ SqL X.K H a vs ∧ Reps X.K α H ds vs := by
  cases d <;> try (cases hs; done)
  · cases ht
  · cases hs
    obtain ⟨t, vs, e, ht, hr⟩ := h.rol
    exact ⟨t, vs, e, ht.sq, hr⟩
  · obtain ⟨a, ha, e⟩ := h.ref
    obtain ⟨a', vs, ha', hv, hr⟩ := r.list hs
    rw [ha] at ha'; cases ha'
    exact ⟨a, vs, e, .of hv, hr⟩
def onLst (g : D → List D → Mem → Res D) : D → List D → Mem → Res D := fun d as M => match tyLst d M with
  | true => g d as M
  | false => .bad
theorem m_index (hu : X.A.units + 70 < cLine) : MtF X L "list.index" (onLst gIndex) := fun w => mt_case fun x xs H Q ⟨α, M, d, ds, r, rx, rs, h⟩ => by
  unfold onLst at h
  split at h
  · rename_i ht
    unfold gIndex at h
    split at h
    · rename_i es y e1
      split at h
      · rename_i p ps ep
        split at h
        · rename_i j ej
          obtain ⟨a, vs, rfl, hs, hr⟩ := Rep.lstAt r rx e1 ht
          obtain ⟨y', rfl, ry⟩ := rs.one
          obtain ⟨h1, h2, h3, h4⟩ := twoPy_dp r ep ry hr
          obtain ⟨z, z1, z2, z3⟩ := findAt_ok ej
          exact ⟨_, mt_indexD (by omega), a, y', p, ps, j, z, rfl, rfl, .lst hs h2, h1, h4, h3, z1, z2, z3, PostR.pure h r rep_int⟩
        · exact h.elim
      · exact h.elim
    · exact h.elim
  · exact h.elim
def rCntD (K : PySem.W.Frag) : V → List V → Hp → VK → Prop := fun x xs H Q => ∃ (a : Addr) (y : V) (d : PyData) (vs : List V) (ds : List PyData), x = V.ref a ∧ xs = [y] ∧ SqL K H a vs ∧ DpAll K H vs ds ∧ Dp K H y d ∧
  SeqAt.shaped (.list ds) = true ∧ SeqAt.shaped d = true ∧ Q (.int (ds.countP fun z => PyData.eqv z d : Nat)) H
theorem mt_countD (hu : X.A.units + 65 < cLine) : MtR X "list.count" (rCntD X.K) := by
  intro pins s σ H x xs v us Q I rx rxs h
  obtain ⟨a, y, d, vs, ds, rfl, rfl, hs, ha, hy, sl, sd, q⟩ := h
  cases rx
  obtain ⟨uy, rfl, ry⟩ := rxs.one
  obtain ⟨bs, r1⟩ := Dp.reads I d y uy hy ry
  have hxs : PyData.canLayAll0 ds = true := SeqAt.canLay_of_shaped sl
  have hroom : X.A.units + 1 + min (PyData.depthAll ds) d.depth < cLine := PyProof.Rows.room_in_shaped sd hu
  obtain ⟨its, rv, ⟨⟨cls, dd, data, sls⟩, n, ho, hc, hdn, hdt⟩, hlen⟩ := I.list hs
  simp only at hc hdt
  subst hc hdt
  obtain ⟨as, h4⟩ := Dp.readsAll I ds _ its ha rv
  have h4' : ReadsAll s.heap its.toArray.toList ds as := h4
  refine call_meets PySem.F.slot_list_count ⟨_, ho, rfl⟩ PySem.F.entry_list_count (PySem.F.args_list_count_2 _ _)
    (SeqAt.list_countAt a its.toArray n dd sls uy (fun u => PyData.eqv (SeqAt.readOf s.heap u) d)) ⟨ho, SeqAt.items_eqAt (vs := its.toArray) h4' r1 hxs (SeqAt.canLay_of_shaped sd) hroom, ?_⟩
  have ec : its.toArray.toList.countP (fun u => PyData.eqv (SeqAt.readOf s.heap u) d) = ds.countP fun z => PyData.eqv z d := by
    rw [← SeqAt.readsAll_map ds its as hxs h4, List.countP_map]
    rfl
  refine ⟨.int (ds.countP fun z => PyData.eqv z d : Nat), H, I.tok _, ⟨s.toks, ?_⟩, q⟩
  rw [ec]
def gCount : D → List D → Mem → Res D := fun d as M => match seqOf M d, as with
  | some ds, [y] => (match twoPy M y ds with
    | some (p, ps) => .ok (.int (ps.countP fun z => PyData.eqv z p : Nat)) M
    | none => .bad)
  | _, _ => .bad
theorem m_count (hu : X.A.units + 70 < cLine) : MtF X L "list.count" (onLst gCount) := fun w => mt_case fun x xs H Q ⟨α, M, d, ds, r, rx, rs, h⟩ => by
  unfold onLst at h
  split at h
  · rename_i ht
    unfold gCount at h
    split at h
    · rename_i es y e1
      split at h
      · rename_i p ps ep
        obtain ⟨a, vs, rfl, hs, hr⟩ := Rep.lstAt r rx e1 ht
        obtain ⟨y', rfl, ry⟩ := rs.one
        obtain ⟨h1, h2, h3, h4⟩ := twoPy_dp r ep ry hr
        exact ⟨_, mt_countD (by omega), a, y', p, vs, ps, rfl, rfl, hs, h2, h1, h4, h3, PostR.pure h r rep_int⟩
      · exact h.elim
    · exact h.elim
  · exact h.elim
def rRemD (K : PySem.W.Frag) : V → List V → Hp → VK → Prop := fun x xs H Q => ∃ (a : Addr) (y : V) (d : PyData) (vs : List V) (ds : List PyData) (j : Nat) (z : PyData), x = V.ref a ∧ xs = [y] ∧ H a = some (.lst vs) ∧ DpAll K H vs ds ∧ Dp K H y d ∧
  SeqAt.shaped (.list ds) = true ∧ SeqAt.shaped d = true ∧ ds[j]? = some z ∧ PyData.eqv z d = true ∧ (∀ (m : Nat) (z' : PyData), m < j → ds[m]? = some z' → PyData.eqv z' d = false) ∧ Q .non (upd H a (.lst (vs.eraseIdx j)))
theorem mt_removeD (hu : X.A.units + 65 < cLine) : MtR X "list.remove" (rRemD X.K) := by
  intro pins s σ H x xs v us Q I rx rxs h
  obtain ⟨a, y, d, vs, ds, j, z, rfl, rfl, hv, ha, hy, sl, sd, hz, hzj, hno, q⟩ := h
  cases rx
  obtain ⟨uy, rfl, ry⟩ := rxs.one
  obtain ⟨bs, r1⟩ := Dp.reads I d y uy hy ry
  have hxs : PyData.canLayAll0 ds = true := SeqAt.canLay_of_shaped sl
  have hroom : X.A.units + 1 + min (PyData.depthAll ds) d.depth < cLine := PyProof.Rows.room_in_shaped sd hu
  obtain ⟨zl, its, n, rv, hl, ho⟩ := I.lstM hv
  obtain ⟨as, h4⟩ := Dp.readsAll I ds _ its ha rv
  have h4' : ReadsAll s.heap its.toArray.toList ds as := h4
  have hn : its.length = ds.length := SeqAt.ReadsAll.length ds its as h4
  have hmap : its.map (SeqAt.readOf s.heap) = ds := SeqAt.readsAll_map ds its as hxs h4
  obtain ⟨hjd, _⟩ := List.getElem?_eq_some_iff.mp hz
  have hjl : j < its.length := by omega
  have hj : j < its.toArray.size := by simpa using hjl
  have at_ : ∀ (m : Nat) (hm : m < its.toArray.size) (z' : PyData), ds[m]? = some z' → SeqAt.readOf s.heap its.toArray[m] = z' := by
    intro m hm z' hz'
    have hml : m < its.length := by simpa using hm
    rw [← hmap, List.getElem?_map, List.getElem?_eq_getElem hml] at hz'
    have e1 : SeqAt.readOf s.heap its[m] = z' := Option.some.inj (show some (SeqAt.readOf s.heap its[m]) = some z' from hz')
    simpa using e1
  refine call_meets PySem.F.slot_list_remove ⟨_, ho, rfl⟩ PySem.F.entry_list_remove (PySem.F.args_list_remove_2 _ _)
    (SeqAt.list_removeAt a its.toArray n none #[] uy (fun u => PyData.eqv (SeqAt.readOf s.heap u) d) j hj ?_ ?_ (by rw [List.size_toArray]; omega)) ⟨ho, SeqAt.items_eqAt (vs := its.toArray) h4' r1 hxs (SeqAt.canLay_of_shaped sd) hroom, ?_⟩
  · show PyData.eqv (SeqAt.readOf s.heap its.toArray[j]) d = true
    rw [at_ j hj z hz]; exact hzj
  · intro m hm hmj
    have hmd : m < ds.length := by omega
    show PyData.eqv (SeqAt.readOf s.heap its.toArray[m]) d = false
    rw [at_ m hm _ (List.getElem?_eq_getElem hmd)]
    exact hno m _ hmj (List.getElem?_eq_getElem hmd)
  · refine ⟨.non, _, I.lset (its' := its.eraseIdx j) (t' := s.toks) hv ho ?_ (rv.eraseIdx j) ?_, rfl, q⟩
    · show its.toArray.eraseIdxIfInBounds j = (its.eraseIdx j).toArray
      rw [List.eraseIdxIfInBounds_toArray]
    · have z2 := len_erase vs j
      omega
def gRemove : D → List D → Mem → Res D := fun d as M => match d, as with
  | .ref n, [y] => (match listAt M n with
    | some ds => (match twoPy M y ds with
      | some (p, ps) => (match findAt ps p with
        | some j => .ok .non (M.set n (.lst (ds.eraseIdx j)))
        | none => .bad)
      | none => .bad)
    | none => .bad)
  | _, _ => .bad
theorem m_remove (hu : X.A.units + 70 < cLine) : MtF X L "list.remove" gRemove := fun w => mt_case fun x xs H Q ⟨α, M, d, ds, r, rx, rs, h⟩ => by
  unfold gRemove at h
  split at h
  · split at h
    · rename_i es e1
      split at h
      · rename_i p ps ep
        split at h
        · rename_i j ej
          obtain ⟨a, ha, rfl⟩ := rx.ref
          obtain ⟨a', vs, ha', hv, hr⟩ := r.list e1
          rw [ha] at ha'; cases ha'
          obtain ⟨y', rfl, ry⟩ := rs.one
          obtain ⟨h1, h2, h3, h4⟩ := twoPy_dp r ep ry hr
          obtain ⟨z, z1, z2, z3⟩ := findAt_ok ej
          have le : Le α H α (upd H a (.lst (vs.eraseIdx j))) := Le.write (List.mem_of_getElem? ha) hv trivial
          exact ⟨_, mt_removeD (by omega), a, y', p, vs, ps, j, z, rfl, rfl, hv, h2, h1, h4, h3, z1, z2, z3, h _ _ _ le (r.write (o := .lst _) ha ⟨_, upd_same, (hr.le le).erase j⟩) rep_non⟩
        · exact h.elim
      · exact h.elim
    · exact h.elim
  · exact h.elim
end
end Fl

namespace Fl
open PySem PySem.Spec L2
/-! ### a op b op' c -/
def dChain (g g' : D → D → Mem → Res D) (fa fb fc : EF) : EF := fun s M => (fa s M).bind fun x M1 => (fb s M1).bind fun y M2 => (g x y M2).bind fun k M3 => match k with
  | .bl true => (fc s M3).bind fun z M4 => g' y z M4
  | .bl false => .ok (.bl false) M3
  | _ => .bad
section
variable {X : Cx} {L : Lay} {W : WX} {a b c : Expr} {fa fb fc : EF} {pos : Pos} {op op' : CmpOp} {g g' : D → D → Mem → Res D}
theorem chain_go {K : PySem.W.Frag} {σ : L2.St} {H : Hp} {Q : VK} (h : LE K L W (dChain g g' fa fb fc) σ H Q) : tChain (rF2 K L g (fun c d H' => W c d σ H')) (rF2 K L g' (fun c d H' => W c d σ H')) (LE K L W fa) (LE K L W fb) (LE K L W fc) σ H Q := by
  obtain ⟨α, M, s, r, sl, h⟩ := h
  refine ⟨α, M, s, r, sl, (PostR.bind (R := Rep K) h).imp fun x H1 ⟨dx, α1, M1, l1, r1, rx, h1⟩ => ?_⟩
  refine ⟨α1, M1, s, r1, sl.le l1, (PostR.bind (R := Rep K) h1).imp fun y H2 ⟨dy, α2, M2, l2, r2, ry, h2⟩ => ?_⟩
  refine ⟨α2, M2, dx, dy, r2, rx.le l2, ry, (PostR.bind (R := Rep K) h2).imp fun z H3 ⟨dz, α3, M3, l3, r3, rz, h3⟩ => ?_⟩
  dsimp only at h3
  cases dz <;> try exact h3.elim
  rename_i k
  refine ⟨k, rz.bl, ?_⟩
  cases k with
  | false => exact iteF (PostR.pure h3 r3 rep_bl)
  | true =>
    refine iteT ⟨α3, M3, s, r3, ((sl.le l1).le l2).le l3, (PostR.bind (R := Rep K) h3).imp fun u H4 ⟨du, α4, M4, l4, r4, ru, h4⟩ => ?_⟩
    exact ⟨α4, M4, dy, du, r4, (ry.le l3).le l4, ru, h4⟩
theorem fe_chain (ho : Op2 X L (compareOp op) g) (ho' : Op2 X L (compareOp op') g') (ha : FE X L W a fa) (hb : FE X L W b fb) (hc : FE X L W c fc) (hm : lastMarks [op, op'] [b, c] = false := by with_unfolding_all rfl) :
    FE X L W (.Compare a [op, op'] [b, c] pos) (dChain g g' fa fb fc) :=
  ⟨fun pins s σ H Q I h => (pe_chain (ho (fun c d H' => W c d σ H')) (ho' (fun c d H' => W c d σ H')) ha hb hc hm).run pins s σ H Q I (chain_go h)⟩
theorem ft_chain (ho : Op2 X L (compareOp op) g) (ho' : Op2 X L (compareOp op') g') (ha : FE X L W a fa) (hb : FE X L W b fb) (hc : FE X L W c fc) (hm : lastMarks [op, op'] [b, c] = false := by with_unfolding_all rfl) :
    FT X L W (.Compare a [op, op'] [b, c] pos) (tVal (dChain g g' fa fb fc)) :=
  ⟨fun pins s σ H Q I h => (pt_chain (ho (fun c d H' => W c d σ H')) (ho' (fun c d H' => W c d σ H')) ha hb hc hm).run pins s σ H Q I (chain_go (tval_go h))⟩
end
/-! ### f-strings -/
abbrev JF := Str → Sl → Mem → Res Str
abbrev RS : List Addr → Hp → Str → Str → Prop := fun _ _ a b => a = b
def LJ (K : PySem.W.Frag) (L : Lay) (W : WX) (f : JF) (acc : Str) (σ : L2.St) (H : Hp) (Q : Str → Hp → Prop) : Prop := ∃ α M s, Rel K L α M H ∧ Slots K α H s σ ∧ PostR K L RS (f acc s M) α H Q (fun c d H' => W c d σ H')
def FJ (X : Cx) (L : Lay) (W : WX) (es : List Expr) (f : JF) : Prop := ∃ ts, PJ X es ts ∧ ∀ acc σ H Q, LJ X.K L W f acc σ H Q → tJs ts acc σ H Q
def dFmt (fe : EF) : EF := fun s M => (fe s M).bind fun x M1 => match x with
  | .str y => (match decide (y.length ≤ sizeLine) with
    | true => .ok (.str y) M1
    | false => .bad)
  | .int i => (match decide (i.natAbs.log2 < 1920) with
    | true => .ok (.str (toString i)) M1
    | false => .bad)
  | _ => .bad
def jNil : JF := fun acc _ M => .ok acc M
def jCons (fe : EF) (f : JF) : JF := fun acc s M => (fe s M).bind fun x M1 => match x with
  | .str y => (match decide ((acc ++ y).length ≤ sizeLine) with
    | true => f (acc ++ y) s M1
    | false => .bad)
  | _ => .bad
def dJoin (f : JF) : EF := fun s M => (f Str.empty s M).bind fun t M1 => .ok (.str t) M1
section
variable {X : Cx} {L : Lay} {W : WX} {e v1 v2 : Expr} {es : List Expr} {fe : EF} {f : JF} {pos : Pos}
theorem fe_fmt (he : FE X L W e fe) : FE X L W (.FormattedValue e (-1) none pos) (dFmt fe) := peImp (pe_fmt he) fun σ H Q ⟨α, M, s, r, sl, h⟩ =>
  ⟨α, M, s, r, sl, (PostR.bind (R := Rep _) h).imp fun x H1 ⟨dx, α1, M1, l1, r1, rx, h1⟩ => by
    dsimp only at h1
    cases dx <;> try exact h1.elim
    · rename_i i
      cases e : decide (i.natAbs.log2 < 1920) with
      | false => simp only [e] at h1; exact h1.elim
      | true => simp only [e] at h1; exact .inr ⟨i, rx.int, dt e, PostR.pure h1 r1 rep_str⟩
    · rename_i y
      cases e : decide (y.length ≤ sizeLine) with
      | false => simp only [e] at h1; exact h1.elim
      | true => simp only [e] at h1; exact .inl ⟨y, rx.str, dt e, PostR.pure h1 r1 rep_str⟩⟩
theorem fj_nil : FJ X L W [] jNil := ⟨[], .nil, fun acc σ H Q ⟨α, M, s, r, sl, h⟩ => PostR.pure (R := RS) h r rfl⟩
theorem fj_cons (he : FE X L W e fe) (hr : FJ X L W es f) : FJ X L W (e :: es) (jCons fe f) := by
  obtain ⟨ts, p, q⟩ := hr
  refine ⟨_, .cons he p, fun acc σ H Q ⟨α, M, s, r, sl, h⟩ => ?_⟩
  refine ⟨α, M, s, r, sl, (PostR.bind (R := Rep _) h).imp fun x H1 ⟨dx, α1, M1, l1, r1, rx, h1⟩ => ?_⟩
  dsimp only at h1
  cases dx <;> try exact h1.elim
  rename_i y
  cases e : decide ((acc ++ y).length ≤ sizeLine) with
  | false => simp only [e] at h1; exact h1.elim
  | true => simp only [e] at h1; exact ⟨y, rx.str, dt e, q _ _ _ _ ⟨α1, M1, s, r1, sl.le l1, h1⟩⟩
theorem fe_join (h : FJ X L W (v1 :: v2 :: es) f) : FE X L W (.JoinedStr (v1 :: v2 :: es) pos) (dJoin f) := by
  obtain ⟨ts, p, q⟩ := h
  exact peImp (pe_joined p) fun σ H Q ⟨α, M, s, r, sl, h⟩ => q _ _ _ _ ⟨α, M, s, r, sl, (PostR.bind (R := RS) h).imp fun x H1 ⟨dx, α1, M1, l1, r1, rx, h1⟩ => PostR.pure (R := Rep _) h1 r1 (by subst rx; exact rep_str)⟩
/-! ### xs[::-1] -/
def gRev : D → Mem → Res D := fun d M => match tyLst d M, seqOf M d with
  | true, some ds => .ok (.ref M.length) (M ++ [.lst ds.reverse])
  | _, _ => .bad
theorem fe_rev {k : Nat} {p1 p2 p3 : Pos} (he : FE X L W e fe) : FE X L W (.Subscript e (.Slice none none (some (.UnaryOp .USub (.Constant (.int 1) k p1) p2)) p3) pos) (dOp1 gRev fe) := peImp (pe_revL he) fun σ H Q ⟨α, M, s, r, sl, h⟩ =>
  ⟨α, M, s, r, sl, (PostR.bind (R := Rep _) h).imp fun x H1 ⟨dx, α1, M1, l1, r1, rx, h1⟩ => by
    dsimp only at h1
    unfold gRev at h1
    split at h1
    · rename_i ds e1 e2
      obtain ⟨a, vs, rfl, hs, hr⟩ := Rep.lstAt r1 rx e2 e1
      exact ⟨a, vs, rfl, hs, fun p hp => h1 _ _ _ (Le.new hp) (r1.new (o := .lst _) hp ⟨_, upd_same, (hr.le (Le.new hp)).reverse⟩) (rep_ref (by rw [← r1.len]; simp))⟩
    · exact h1.elim⟩
end
end Fl

namespace Fl
open PySem PySem.Spec L2
/-! ### get, setdefault -/
def isDictD (M : Mem) : D → Bool
  | .ref n => isDict M n
  | _ => false
def lookD (M : Mem) (o k : D) : Option (Option D) := match o with
  | .ref n => dictLook M n k
  | _ => none
def dGet1 (fo fk : EF) : EF := fun s M => (fo s M).bind fun o M1 => match isDictD M1 o with
  | true => (fk s M1).bind fun k M2 => (match lookD M2 o k with
    | some (some d) => .ok d M2
    | some none => .ok .non M2
    | none => .bad)
  | false => .bad
def dGet2 (fo fk fx : EF) : EF := fun s M => (fo s M).bind fun o M1 => match isDictD M1 o with
  | true => (fk s M1).bind fun k M2 => (fx s M2).bind fun x M3 => (match lookD M3 o k with
    | some (some d) => .ok d M3
    | some none => .ok x M3
    | none => .bad)
  | false => .bad
def dSetd (fo fk fx : EF) : EF := fun s M => (fo s M).bind fun o M1 => match isDictD M1 o with
  | true => (fk s M1).bind fun k M2 => (fx s M2).bind fun x M3 => (match lookD M3 o k with
    | some (some d) => .ok d M3
    | some none => (match setIx M3 o k x with
      | some M4 => .ok x M4
      | none => .bad)
    | none => .bad)
  | false => .bad
section
variable {K : PySem.W.Frag} {L : Lay} {α : List Addr} {M : Mem} {H : Hp}
theorem isDict_at (r : Rel K L α M H) {d : D} {v : V} (h : isDictD M d = true) (rd : Rep K α H d v) : ∃ a, v = .ref a ∧ IsD H a := by
  unfold isDictD at h
  split at h
  · obtain ⟨a, ha, rfl⟩ := rd.ref
    refine ⟨a, rfl, ?_⟩
    unfold isDict at h
    split at h
    · rename_i kvs e
      obtain ⟨a', ha', vs, hv, _⟩ := r.at e
      rw [ha] at ha'; cases ha'
      exact .inl ⟨vs, .inl hv⟩
    · rename_i kvs e
      obtain ⟨a', ha', o, vs, hv, _⟩ := r.at e
      rw [ha] at ha'; cases ha'
      exact .inl ⟨vs, .inr ⟨o, hv⟩⟩
    · rename_i kvs e
      obtain ⟨a', ha', vs, hv, _⟩ := r.at e
      rw [ha] at ha'; cases ha'
      exact .inr ⟨vs, .inl hv⟩
    · rename_i kvs e
      obtain ⟨a', ha', o, vs, hv, _⟩ := r.at e
      rw [ha] at ha'; cases ha'
      exact .inr ⟨vs, .inr ⟨o, hv⟩⟩
    · cases h
  · cases h
theorem lookD_rep (r : Rel K L α M H) {d k : D} {x v : V} {o : Option D} (h : lookD M d k = some o) (rd : Rep K α H d x) (rk : Rep K α H k v) : ∃ a ov, x = .ref a ∧ DGet H a v ov ∧ OptR K α H o ov := by
  unfold lookD at h
  split at h
  · exact dictLook_rep r h rd rk
  · cases h
end
section
variable {X : Cx} {L : Lay} {W : WX} {o e f : Expr} {apos cpos : Pos} {fo fk fx : EF}
theorem fe_get1 (hu : X.A.units + 70 < cLine) (ho : FE X L W o fo) (he : FE X L W e fk)
    (base : attributeBase o "get" X.env (eval o X.env) = eval o X.env := by rfl)
    (few : ((backTo cpos (starEach [e] X.env)).all (fun x => !x.1) && (backToKw cpos (keywordEach [] X.env)).all (fun x => x.1.isSome) && decide (([e] : List Expr).length + ([] : List Keyword).length + (if ([] : List Keyword).isEmpty then 0 else 1) < 30)) = true := by rfl)
    (line : (apos.endLine == cpos.line) = true := by rfl) (trees : backTo cpos (starEach [e] X.env) = [(false, eval e X.env)] := by rfl) :
    FE X L W (.Call (.Attribute o "get" apos) [e] [] cpos) (dGet1 fo fk) := peImp (pe_dget1 (by omega) ho he ⟨base, few, line, trees⟩) fun σ H Q ⟨α, M, s, r, sl, h⟩ =>
  ⟨α, M, s, r, sl, (PostR.bind (R := Rep _) h).imp fun x H1 ⟨dx, α1, M1, l1, r1, rx, h1⟩ => by
    dsimp only at h1
    cases ed : isDictD M1 dx with
    | false => rw [ed] at h1; exact h1.elim
    | true =>
      rw [ed] at h1
      obtain ⟨a, rfl, hd⟩ := isDict_at r1 ed rx
      refine ⟨a, rfl, hd, α1, M1, s, r1, sl.le l1, (PostR.bind (R := Rep _) h1).imp fun y H2 ⟨dy, α2, M2, l2, r2, ry, h2⟩ => ?_⟩
      dsimp only at h2
      cases el : lookD M2 dx dy with
      | none => rw [el] at h2; exact h2.elim
      | some q =>
        rw [el] at h2
        obtain ⟨a', ov, e1, g, z⟩ := lookD_rep r2 el (rx.le l2) ry
        cases e1
        cases q with
        | none =>
          have z : ov = none := z
          subst z
          exact ⟨_, g, PostR.pure h2 r2 rep_non⟩
        | some d =>
          obtain ⟨u, rfl, ru⟩ := z
          exact ⟨_, g, PostR.pure h2 r2 ru⟩⟩
theorem fe_get2 (hu : X.A.units + 70 < cLine) (ho : FE X L W o fo) (he : FE X L W e fk) (hf : FE X L W f fx)
    (base : attributeBase o "get" X.env (eval o X.env) = eval o X.env := by rfl)
    (few : ((backTo cpos (starEach [e, f] X.env)).all (fun x => !x.1) && (backToKw cpos (keywordEach [] X.env)).all (fun x => x.1.isSome) && decide (([e, f] : List Expr).length + ([] : List Keyword).length + (if ([] : List Keyword).isEmpty then 0 else 1) < 30)) = true := by rfl)
    (line : (apos.endLine == cpos.line) = true := by rfl) (trees : backTo cpos (starEach [e, f] X.env) = [(false, eval e X.env), (false, eval f X.env)] := by rfl) :
    FE X L W (.Call (.Attribute o "get" apos) [e, f] [] cpos) (dGet2 fo fk fx) := peImp (pe_dget2 (by omega) ho he hf ⟨base, few, line, trees⟩) fun σ H Q ⟨α, M, s, r, sl, h⟩ =>
  ⟨α, M, s, r, sl, (PostR.bind (R := Rep _) h).imp fun x H1 ⟨dx, α1, M1, l1, r1, rx, h1⟩ => by
    dsimp only at h1
    cases ed : isDictD M1 dx with
    | false => rw [ed] at h1; exact h1.elim
    | true =>
      rw [ed] at h1
      obtain ⟨a, rfl, hd⟩ := isDict_at r1 ed rx
      refine ⟨a, rfl, hd, α1, M1, s, r1, sl.le l1, (PostR.bind (R := Rep _) h1).imp fun y H2 ⟨dy, α2, M2, l2, r2, ry, h2⟩ => ?_⟩
      refine ⟨α2, M2, s, r2, (sl.le l1).le l2, (PostR.bind (R := Rep _) h2).imp fun y3 H3 ⟨dz, α3, M3, l3, r3, rz, h3⟩ => ?_⟩
      dsimp only at h3
      cases el : lookD M3 dx dy with
      | none => rw [el] at h3; exact h3.elim
      | some q =>
        rw [el] at h3
        obtain ⟨a', ov, e1, g, z⟩ := lookD_rep r3 el ((rx.le l2).le l3) (ry.le l3)
        cases e1
        cases q with
        | none =>
          have z : ov = none := z
          subst z
          exact ⟨_, g, PostR.pure h3 r3 rz⟩
        | some d =>
          obtain ⟨u, rfl, ru⟩ := z
          exact ⟨_, g, PostR.pure h3 r3 ru⟩⟩
end
/-! setdefault of any dict of ours -/
section
variable {X : Cx} {pins : List (Addr × Obj)} {σ : L2.St} {H : Hp} {s : Shared} {a : Addr} {y v : V} {u r : Value} {A : Around} {E : Value → Shared → Prop}
theorem d_setdA {o : Option V} {Q : Value → Shared → Prop} (hu : A.units + 1 < cLine) (I : L2.Inv X pins σ H s) (g : DGet H a y o) (ry : RelV y u) (rv : RelV v r)
    (h1 : ∀ w, o = some w → ∀ (w' : Value) (s' : Shared), L2.Inv X pins σ H s' → RelV w w' → Q w' s')
    (h2 : o = none → ∃ H', DPut H a y v H' ∧ ∀ (w' : Value) (s' : Shared), L2.Inv X pins σ H' s' → RelV v w' → Q w' s') :
    wpAny (model X.prog X.w) A (call (.builtin "dict.setdefault") [.ref a, u, r]) Q E s := by
  cases o with
  | none =>
    obtain ⟨H', p, h2⟩ := h2 rfl
    rcases p with ⟨kvs, k, e, rfl, hl, rfl⟩ | ⟨kvs, k, b, e, rfl, eb, hl, rfl⟩
    · rcases g with ⟨kvs', k', e', ey, l⟩ | ⟨kvs', k', b', e', ey, eb', l⟩
      · have ek := kV_inj ey
        subst ek
        have e2 : kvs' = kvs := by
          rcases e' with q | ⟨o, q⟩
          · rw [e] at q; cases q; rfl
          · rw [e] at q; cases q
        subst e2
        exact d_setd I e ry rv hl (fun w hw => by rw [hw] at l; cases l) fun _ w' s' I' rw' => h2 w' s' I' rw'
      · rcases e' with q | ⟨o, q⟩ <;> (rw [e] at q; cases q)
    · cases (show u = Value.ref b from ry)
      rcases g with ⟨kvs', k', e', ey, l⟩ | ⟨kvs', k', b', e', ey, eb', l⟩
      · rcases e' with q | ⟨o, q⟩ <;> (rw [e] at q; cases q)
      · cases ey
        rw [eb] at eb'
        have ek : k.map kV = k'.map kV := by
          have z := Option.some.inj eb'
          injection z
        have ek2 : k = k' := kVs_inj ek
        subst ek2
        have e2 : kvs' = kvs := by
          rcases e' with q | ⟨o, q⟩
          · rw [e] at q; cases q; rfl
          · rw [e] at q; cases q
        subst e2
        obtain ⟨z, hd, xs, rel, dd⟩ := dt_of I.hok e
        have hz : xs.length ≤ sizeLine := by rw [← Paired.length rel]; exact z
        have hl2 : (putK kvs' k v).length ≤ sizeLine := by have := length_putK kvs' k v; omega
        have q := rel.val k
        rw [← l] at q
        have qn : atKey xs k = none := by
          cases qa : atKey xs k with
          | none => rfl
          | some p => rw [qa] at q; exact (show False from q).elim
        refine call_setdefault_heap (hsz := hz) (tupleKind_room_in1 hu) (key_of I.hok eb) hd dd (fun p hp => by rw [qn] at hp; cases hp) fun _ h' dd' hs => h2 _ _ ?_ rv
        obtain ⟨q, es, ep, hq, g2, g3, g4, _, g5⟩ := dd'
        refine d_write I (by rw [e]; exact True.intro) hs ⟨q, hq⟩ ⟨hl2, hd, _, (rel.put k eb rv).keeps fun c ys ec => ?_, q, es, ep, hq, g2, g3, g4, g5⟩
        rw [upd_ne (ne_of ec e (fun z => nomatch z))]
        exact ec
  | some w =>
    rcases g with ⟨kvs, k, e, ey, l⟩ | ⟨kvs, k, b, e, ey, eb, l⟩
    · subst ey
      obtain ⟨z, hd, vs, rel, dd⟩ := dk_rd I.hok e
      have hz : vs.length ≤ sizeLine := by rw [← rel.length]; exact z
      obtain ⟨w', hw, rw'⟩ := RelO.some_of (v := w) (o := valueAt vs k) (by rw [l]; exact rel.val k)
      refine call_meetsIn PySem.F.slot_dict_setdefault dd.typeIs PySem.F.entry_dict_setdefault (PySem.F.args_dict_setdefault_3 _ _ _) (kt_meets_setdefault (mixKind X.prog X.w) a (kV_is ry) hd r) ⟨vs, dd, hz, fun v' hv => ?_, fun hn => by rw [hn] at hw; cases hw⟩
      rw [hw] at hv; cases hv
      exact h1 w rfl _ _ (I.tok _) rw'
    · subst ey
      cases (show u = Value.ref b from ry)
      obtain ⟨z, hd, xs, rel, dd⟩ := dt_rd I.hok e
      have hz : xs.length ≤ sizeLine := by rw [← Paired.length rel]; exact z
      obtain ⟨w', hw, rw'⟩ := RelO.some_of (v := w) (o := (atKey xs k).map (·.2)) (by rw [l]; exact rel.val k)
      obtain ⟨p, hp, hp2⟩ := Option.map_eq_some_iff.mp hw
      refine call_setdefault_heap (hsz := hz) (tupleKind_room_in1 hu) (key_of I.hok eb) hd dd (fun p' hp' => ?_) fun hn => by rw [hp] at hn; cases hn
      rw [hp] at hp'; cases hp'
      rw [hp2]
      exact h1 w rfl _ _ (I.tok _) rw'
end
theorem setIx_put {X : Cx} {pins : List (Addr × Obj)} {σ : L2.St} {s : Shared} {L : Lay} {α : List Addr} {M M' : Mem} {H : Hp} {od kd vd : D} {a : Addr} {y v : V} {q : Option D} (I : L2.Inv X pins σ H s) (r : Rel X.K L α M H) (el : lookD M od kd = some q) (qo : Rep X.K α H od (.ref a)) (qi : Rep X.K α H kd y) (qv : Rep X.K α H vd v)
    (e : setIx M od kd vd = some M') : ∃ H', DPut H a y v H' ∧ Le α H α H' ∧ Rel X.K L α M' H' := by
  unfold setIx at e
  split at e
  · rename_i n
    obtain ⟨a', ha, z⟩ := qo.ref
    cases z
    have hm : a ∈ α := List.mem_of_getElem? ha
    split at e
    · rename_i ds eo
      have z : dictLook M n kd = some q := el
      unfold dictLook at z
      rw [eo] at z; cases z
    · rename_i kvs eo
      obtain ⟨a', ha', vs, hv, hr⟩ := r.at eo
      rw [ha] at ha'; cases ha'
      split at e
      · rename_i k ek el
        cases e
        obtain ⟨e1, _⟩ := keyOf_rep ek qi
        subst e1
        have le : Le α H α (upd H a (.dK (putK vs k v))) := Le.write hm hv trivial
        exact ⟨_, DPut.k hv (by rw [← hr.length]; exact dt el), le, r.write (o := .dk _) ha ⟨_, upd_same, KvR.put (hr.le le) (Inv.dkNd I hv) (qv.le le)⟩⟩
      · cases e
    · rename_i kvs eo
      obtain ⟨a', ha', vs, hv, hr⟩ := r.at eo
      rw [ha] at ha'; cases ha'
      split at e
      · rename_i k ek el
        cases e
        obtain ⟨t, e1, et, _⟩ := keysOf_rep ek qi
        subst e1
        have le : Le α H α (upd H a (.dT (putK vs k v))) := Le.write hm hv trivial
        exact ⟨_, DPut.t hv et (by rw [← hr.length]; exact dt el), le, r.write (o := .dt _) ha ⟨_, upd_same, KvR.put (hr.le le) (Inv.dtNd I hv) (qv.le le)⟩⟩
      · cases e
    · cases e
  · cases e
section
variable {X : Cx} {L : Lay} {W : WX} {o e f : Expr} {apos cpos : Pos} {fo fk fx : EF}
theorem fe_setd (hu : X.A.units + 70 < cLine) (ho : FE X L W o fo) (he : FE X L W e fk) (hf : FE X L W f fx)
    (base : attributeBase o "setdefault" X.env (eval o X.env) = eval o X.env := by rfl)
    (few : ((backTo cpos (starEach [e, f] X.env)).all (fun x => !x.1) && (backToKw cpos (keywordEach [] X.env)).all (fun x => x.1.isSome) && decide (([e, f] : List Expr).length + ([] : List Keyword).length + (if ([] : List Keyword).isEmpty then 0 else 1) < 30)) = true := by rfl)
    (line : (apos.endLine == cpos.line) = true := by rfl) (trees : backTo cpos (starEach [e, f] X.env) = [(false, eval e X.env), (false, eval f X.env)] := by rfl) :
    FE X L W (.Call (.Attribute o "setdefault" apos) [e, f] [] cpos) (dSetd fo fk fx) := by
  refine ⟨fun pins s σ H Q I ⟨α, M, sd, r, sl, h⟩ => ?_⟩
  refine wpAny_Call_method base few line PySem.F.plainAttrs_dict PySem.F.slot_dict_setdefault PySem.F.type_dict_setdefault (thn (ho.run pins s σ H _ I ⟨α, M, sd, r, sl, PostR.bind (R := Rep _) h⟩) fun u s1 ⟨x, H1, I1, rx, dx, α1, M1, l1, r1, rd, h1⟩ => ?_)
  dsimp only at h1
  cases ed : isDictD M1 dx with
  | false => rw [ed] at h1; exact h1.elim
  | true =>
    rw [ed] at h1
    obtain ⟨a, rfl, hd⟩ := isDict_at r1 ed rd
    obtain rfl : u = Value.ref a := rx
    obtain ⟨t1, t2, _⟩ := isD_at I1 hd
    refine ⟨t1, t2, ?_⟩
    rw [trees]
    have sl1 := sl.le l1
    refine Calls.callWith_builtin rfl (Calls.evalArgs_plain (Calls.spliced_cons (thn (he.run pins s1 σ H1 _ I1 ⟨α1, M1, sd, r1, sl1, PostR.bind (R := Rep _) h1⟩) fun iv s2 ⟨y, H2, I2, ry, dy, α2, M2, l2, r2, rdy, h2⟩ =>
      Calls.spliced_cons (thn (hf.run pins s2 σ H2 _ I2 ⟨α2, M2, sd, r2, sl1.le l2, PostR.bind (R := Rep _) h2⟩) fun fv s3 ⟨z, H3, I3, rz, dz, α3, M3, l3, r3, rdz, h3⟩ => Calls.spliced_nil ?_))))
    dsimp only at h3
    cases el : lookD M3 dx dy with
    | none => rw [el] at h3; exact h3.elim
    | some q =>
      rw [el] at h3
      have rd3 := (rd.le l2).le l3
      have ry3 := rdy.le l3
      obtain ⟨a', ov, e1, g, oz⟩ := lookD_rep r3 el rd3 ry3
      cases e1
      refine d_setdA (by omega) I3 g ry rz (fun w hw w' s' I' rw' => ?_) fun hn => ?_
      · cases q with
        | none =>
          have oz : ov = none := oz
          rw [oz] at hw; cases hw
        | some d =>
          obtain ⟨u2, rfl, ru⟩ := oz
          cases hw
          exact ⟨w, H3, I', rw', PostR.pure h3 r3 ru⟩
      · cases q with
        | some d =>
          obtain ⟨u2, rfl, ru⟩ := oz
          cases hn
        | none =>
          dsimp only at h3
          cases es : setIx M3 dx dy dz with
          | none => rw [es] at h3; exact h3.elim
          | some M4 =>
            rw [es] at h3
            obtain ⟨H', hp, hq⟩ := setIx_put I3 r3 el rd3 ry3 rdz es
            exact ⟨H', hp, fun w' s' I' rw' => ⟨z, H', I', rw', h3 α3 H' z hq.1 hq.2 (rdz.le hq.1)⟩⟩
end
end Fl

namespace Fl
open PySem PySem.Spec L2 PyProof.Rows
/-! ### set(l), l a list of ints -/
abbrev fset (w : World) : Obj := { cls := .type "set", dict := none, data := .set #[] 0 (.fresh 0 0 (!w.params.followText "set-order")) }
section
variable {P : Program} {w : World} {A : Around} {E : Value → Shared → Prop} {s : Shared}
theorem set_of_ints {l : Addr} {its : Array Value} (ns : List Int) {Q : Value → Shared → Prop} (hh : A.handled = none) (hl : s.heap.IsList l its) (hit : IntsAre its.toList ns) (hb : ns.length + 1 < scanBound)
    (h : ∀ (g : Heap) (tk c : Nat), SetR w g s.heap.objs.size (fun j => decide (j ∈ ns)) c → c ≤ ns.length → (∀ b o, s.heap.get? b = some o → g.get? b = some o) → Q (.ref s.heap.objs.size) { s with heap := g, toks := tk }) :
    wpAny (model P w) A (call (.type "set") [.ref l]) Q E s := by
  have hz : its.size = ns.length := by have q := IntsAre.length hit; rw [Array.length_toList] at q; exact q
  obtain ⟨c, tl, hmro⟩ := F.called_set.mro
  have m1 := F.called_set.made
  have m2 := F.called_set.sub
  refine wpAny_call (codeAny_of_tree ?_); show wpAny _ _ (callAny (.type "set") _) _ _ _
  refine wpAny_pure ⟨Code.quiet_builtin _ (by decide +kernel), ?_⟩
  refine codeAny_builtin F.entry_type_call ?_
  rw [Around.under_plain (weight_type_call_type "set" [.ref l] []) rfl]
  have h1 := F.called_set.notType
  have h2 := F.called_set.canCreate
  have hct := F.typeCall_set_1 (.ref l)
  repeat (any_goals (first | assumption | wp_step))
  refine codeAny_mono (code_set_led1 (.ref l) (E := E) (Q₁ := fun ob t₁ => ob = .ref s.heap.objs.size ∧ t₁ = { s with heap := s.heap.push (fset w) }) ⟨rfl, rfl⟩) fun r t₁ hr => ?_
  cases r with
  | error e => exact hr
  | ok fl =>
    cases fl with
    | ret ob =>
      obtain ⟨rfl, rfl⟩ := hr
      have hS : (s.heap.push (fset w)).get? s.heap.objs.size = some (fset w) := Heap.get?_push_size _ rfl
      have hT : Shared.TypeIs { s with heap := s.heap.push (fset w) } (.ref s.heap.objs.size) "set" := ⟨_, hS, rfl⟩
      have i1 := F.called_set.init.lookup
      have i2 := F.called_set.init.bind (.ref s.heap.objs.size)
      repeat (any_goals (first | assumption | wp_step))
      refine codeAny_mono (codeAny_call_builtin (R := wants (fun r t₂ => r = .none ∧ ∃ g tk c, t₂ = { s with heap := g, toks := tk } ∧ SetR w g s.heap.objs.size (fun j => decide (j ∈ ns)) c ∧ c ≤ ns.length ∧
          (∀ b o, s.heap.get? b = some o → g.get? b = some o)) E) F.called_set.init.plain F.entry_set_init (check_set_init_1 hT ?_)) fun r₂ t₂ hr₂ => ?_
      · obtain ⟨⟨oc, od, odt, osl⟩, hol, hcl, nl, hdl⟩ := hl
        simp only at hcl hdl
        subst hcl hdl
        have hol' : (s.heap.push (fset w)).get? l = some { cls := .type "list", dict := od, data := .seq its nl, slots := osl } := Heap.get?_push_of_some _ hol
        have k1 := F.sub_list_set
        have k2 := F.sub_list_frozenset
        have k3 : (Value.type "list" == Value.type "dict") = false := by decide
        have hl1 : (s.heap.push (fset w)).IsList l its := ⟨_, hol', rfl, nl, rfl⟩
        unfold Builtin.«set.__init__» noKeywords Builtin.Frozenset.updateFrom
        generalize hPI : pyIter = PI
        wp_walk
        subst hPI
        refine wpAny_pyIter_list hl1 (wpAny_bind (wpAny_runValue ?_))
        have hlS : l < s.heap.objs.size := Heap.lt_size hol
        have hh3 : A.in1.in1.in1.handled = none := by simp [hh]
        have z1 : (s.heap.push (fset w)).objs.size = s.heap.objs.size + 1 := Heap.size_push ..
        have hne : l ≠ (s.heap.push (fset w)).objs.size := by rw [z1]; exact Nat.ne_of_lt (Nat.lt_succ_of_lt hlS)
        have hSf : s.heap.objs.size ∉ [(s.heap.push (fset w)).objs.size, l] := by
          rw [z1]; intro q
          rcases List.mem_cons.mp q with e | e
          · exact absurd e (Nat.ne_of_lt (Nat.lt_succ_self _))
          · exact absurd (List.mem_singleton.mp e) (Nat.ne_of_gt hlS)
        have hval : ∀ (i : Nat) (v : Value), its[i]? = some v → ∃ k t, ns[i]? = some k ∧ v = .int k t := fun i v hv => by
          have hi : i < ns.length := by rw [← hz]; exact (Array.getElem?_eq_some_iff.mp hv).1
          obtain ⟨t, e⟩ := IntsAre.int_at hit i v (by rw [Array.getElem?_toList]; exact hv)
          exact ⟨ns[i], t, List.getElem?_eq_getElem hi, by rw [e, List.getD_eq_getElem?_getD, List.getElem?_eq_getElem hi]; rfl⟩
        refine set_update_ints ((Walks.list hh3 _ l hne its).toS) s.heap.objs.size hSf ns hz hb hval (its.size - 0) 0 _ (by omega) (Nat.zero_le _) ⟨⟨_, Heap.get?_push_size _ rfl, rfl, rfl⟩, (hl1.push _)⟩
          ⟨0, Nat.le_refl 0, setR_new_at (Heap.get?_push_of_some _ hS)⟩ fun s' c' hm hc' hS' => ?_
        obtain ⟨g, g2, d', tk', os'⟩ := s'
        have eg : g2 = s.gens := hm.gens
        have ed : d' = s.drawn := hm.drawn
        have eo : os' = s.os := hm.os
        subst eg ed eo
        show wpAny _ _ _ _ _ _
        refine wpAny_pure ?_
        show wpAny _ _ (ret Value.none) _ _ _
        rw [hz] at hc'
        refine wpAny_pure ⟨rfl, g, tk', c', rfl, hS', hc', fun b o e => ?_⟩
        have b0 : b < s.heap.objs.size := Heap.lt_size e
        exact hm.heap b o (fun q => by
          rw [z1] at q
          rcases List.mem_cons.mp q with e | q
          · exact absurd e (Nat.ne_of_lt b0)
          · exact absurd (List.mem_singleton.mp q) (Nat.ne_of_lt (Nat.lt_succ_of_lt b0))) (Heap.get?_push_of_some _ (Heap.get?_push_of_some _ e))
      · cases r₂ with
        | error e => exact hr₂
        | ok fl₂ =>
          cases fl₂ with
          | ret r =>
            obtain ⟨rfl, g, tk, c', rfl, hS', hc', hk'⟩ := hr₂
            repeat (any_goals (first | assumption | wp_step))
            exact h _ _ _ hS' hc' hk'
          | _ => exact hr₂.elim
    | _ => exact hr.elim
end
end Fl

namespace Fl
open PySem PySem.Spec L2
/-! ### sorting, as plain functions -/
def insS {A : Type} (le : A → A → Bool) (x : A) : List A → List A
  | [] => [x]
  | y :: r => match le x y with
    | true => x :: y :: r
    | false => y :: insS le x r
def isortS {A : Type} (le : A → A → Bool) : List A → List A
  | [] => []
  | x :: r => insS le x (isortS le r)
section
variable {A : Type} {le : A → A → Bool}
theorem insS_perm (x : A) : ∀ l : List A, (insS le x l).Perm (x :: l)
  | [] => List.Perm.refl _
  | y :: r => by
    unfold insS
    split
    · exact List.Perm.refl _
    · exact ((insS_perm x r).cons y).trans (List.Perm.swap x y r)
theorem isortS_perm : ∀ l : List A, (isortS le l).Perm l
  | [] => List.Perm.refl _
  | x :: r => by
    unfold isortS
    exact (insS_perm x _).trans ((isortS_perm r).cons x)
theorem insS_sorted (h : PySem.W.TotalLe le) (x : A) : ∀ l : List A, l.Pairwise (fun a b => le a b = true) → (insS le x l).Pairwise (fun a b => le a b = true)
  | [], _ => List.pairwise_singleton _ _
  | y :: r, hp => by
    unfold insS
    split
    · rename_i c
      refine List.pairwise_cons.mpr ⟨fun z hz => ?_, hp⟩
      rcases List.mem_cons.mp hz with e | e
      · rw [e]; exact c
      · exact h.trans _ _ _ c ((List.pairwise_cons.mp hp).1 z e)
    · rename_i c
      have c2 : le y x = true := (h.total x y).resolve_left (by rw [c]; exact Bool.false_ne_true)
      refine List.pairwise_cons.mpr ⟨fun z hz => ?_, insS_sorted h x r (List.pairwise_cons.mp hp).2⟩
      rcases List.mem_cons.mp ((insS_perm x r).mem_iff.mp hz) with e | e
      · rw [e]; exact c2
      · exact (List.pairwise_cons.mp hp).1 z e
theorem isortS_sorted (h : PySem.W.TotalLe le) : ∀ l : List A, (isortS le l).Pairwise (fun a b => le a b = true)
  | [] => List.Pairwise.nil
  | x :: r => insS_sorted h x _ (isortS_sorted h r)
theorem insS_filter (h : PySem.W.TotalLe le) (c x : A) : ∀ l : List A, (insS le x l).filter (PySem.W.sameRank le c) = (x :: l).filter (PySem.W.sameRank le c)
  | [] => rfl
  | y :: r => by
    unfold insS
    split
    · rfl
    · rename_i e
      have ih := insS_filter h c x r
      rw [List.filter_cons (x := y), ih, List.filter_cons (x := x), List.filter_cons (x := x), List.filter_cons (x := y)]
      cases hx : PySem.W.sameRank le c x with
      | false => simp
      | true =>
        cases hy : PySem.W.sameRank le c y with
        | false => simp
        | true =>
          unfold PySem.W.sameRank at hx hy
          rw [Bool.and_eq_true] at hx hy
          have z := h.trans _ _ _ hx.2 hy.1
          rw [e] at z; cases z
theorem isortS_filter (h : PySem.W.TotalLe le) (c : A) : ∀ l : List A, (isortS le l).filter (PySem.W.sameRank le c) = l.filter (PySem.W.sameRank le c)
  | [] => rfl
  | x :: r => by
    unfold isortS
    rw [insS_filter h, List.filter_cons, List.filter_cons, isortS_filter h c r]
theorem isortS_merge (h : PySem.W.TotalLe le) (l : List A) : isortS le l = l.mergeSort le := PySem.W.sort_unique h (isortS_sorted h l) fun c => isortS_filter h c l
theorem sorted_eq {l m : List Int} (h : l.Pairwise (· ≤ ·)) (h2 : m.Pairwise (· ≤ ·)) (p : l.Perm m) : l = m := by
  induction l generalizing m with
  | nil => exact (List.Perm.nil_eq p)
  | cons x l ih =>
    cases m with
    | nil => exact absurd p.length_eq (by simp)
    | cons y m =>
      have e : x = y := by
        have a := (p.mem_iff (a := x)).mp List.mem_cons_self
        have b := (p.mem_iff (a := y)).mpr List.mem_cons_self
        have a1 : y ≤ x := by
          rcases List.mem_cons.mp a with q | q
          · omega
          · exact (List.pairwise_cons.mp h2).1 x q
        have b1 : x ≤ y := by
          rcases List.mem_cons.mp b with q | q
          · omega
          · exact (List.pairwise_cons.mp h).1 y q
        omega
      subst e
      rw [ih (List.pairwise_cons.mp h).2 (List.pairwise_cons.mp h2).2 ((List.perm_cons x).mp p)]
end
def leI (a b : Int) : Bool := decide (a ≤ b)
theorem leI_total : PySem.W.TotalLe leI := ⟨fun a b c h1 h2 => by unfold leI at *; rw [decide_eq_true_iff] at *; omega, fun a b => by unfold leI; rw [decide_eq_true_iff, decide_eq_true_iff]; omega⟩
def sortI (ns : List Int) : List Int := isortS leI ns
theorem sortI_sorted (ns : List Int) : (sortI ns).Pairwise (· ≤ ·) := (isortS_sorted leI_total ns).imp fun h => of_decide_eq_true h
theorem sortI_perm (ns : List Int) : (sortI ns).Perm ns := isortS_perm ns
/-- without repeats -/
def nubI : List Int → List Int
  | [] => []
  | x :: r => match r.contains x with
    | true => nubI r
    | false => x :: nubI r
theorem nubI_mem : ∀ (l : List Int) (k : Int), k ∈ nubI l ↔ k ∈ l
  | [], k => Iff.rfl
  | x :: r, k => by
    unfold nubI
    split
    · rename_i c
      rw [nubI_mem r k, List.mem_cons]
      constructor
      · exact .inr
      · rintro (e | e)
        · rw [e]; simpa using c
        · exact e
    · rw [List.mem_cons, nubI_mem r k, List.mem_cons]
theorem nubI_nodup : ∀ l : List Int, (nubI l).Nodup
  | [] => List.nodup_nil
  | x :: r => by
    unfold nubI
    split
    · exact nubI_nodup r
    · rename_i c
      exact List.nodup_cons.mpr ⟨fun h => by rw [nubI_mem] at h; simp [h] at c, nubI_nodup r⟩
theorem nubI_len (l : List Int) : (nubI l).length ≤ l.length := by
  induction l with
  | nil => exact Nat.le_refl _
  | cons x r ih =>
    unfold nubI
    split
    · simp; omega
    · simp; exact ih
def sortNub (ns : List Int) : List Int := sortI (nubI ns)
theorem nodup_perm {A : Type} [DecidableEq A] : ∀ {l m : List A}, l.Nodup → m.Nodup → (∀ k, k ∈ l ↔ k ∈ m) → l.Perm m := fun h1 h2 h => (List.perm_ext_iff_of_nodup h1 h2).mpr h
theorem sortNub_eq {ns l : List Int} (h : l.Pairwise (· < ·)) (hm : ∀ k, k ∈ l ↔ k ∈ ns) : l = sortNub ns := by
  refine sorted_eq (h.imp fun h => Int.le_of_lt h) (sortI_sorted _) (nodup_perm (h.imp fun h => Int.ne_of_lt h) ((sortI_perm _).nodup_iff.mpr (nubI_nodup ns)) fun k => ?_)
  unfold sortNub
  rw [hm, (sortI_perm _).mem_iff, nubI_mem]
/-! ### sorted(set(x)) -/
def dSortSet (fe : EF) : EF := fun s M => (fe s M).bind fun d M1 => match seqOf M1 d with
  | some ds => (match intsOf ds with
    | some ns => (match decide (ns.length < 64) with
      | true => .ok (.ref M1.length) (M1 ++ [.lst ((sortNub ns).map .int)])
      | false => .bad)
    | none => .bad)
  | none => .bad
def dLenSet (fe : EF) : EF := fun s M => (fe s M).bind fun d M1 => match d with
  | .ref n => (match listAt M1 n with
    | some ds => (match intsOf ds with
      | some ns => (match decide (ns.length < 64) with
        | true => .ok (.int (nubI ns).length) M1
        | false => .bad)
      | none => .bad)
    | none => .bad)
  | _ => .bad
theorem seqInts {K : PySem.W.Frag} {L : Lay} {α : List Addr} {M : Mem} {H : Hp} (r : Rel K L α M H) {d : D} {v : V} {ds : List D} {ns : List Int} (h : Rep K α H d v) (hs : seqOf M d = some ds) (hi : intsOf ds = some ns) : ∃ a, v = .ref a ∧ (SqL K H a (ns.map V.int) ∨ SqT K H a (ns.map V.int)) := by
  obtain ⟨a, vs, rfl, hq, hr⟩ := h.seq r hs
  rw [intsOf_map hi] at hr
  rw [hr.ints] at hq
  exact ⟨a, rfl, hq⟩
section
variable {X : Cx} {L : Lay} {W : WX} {e : Expr} {fe : EF} {p p2 q pos : Pos}
theorem setO_keys {w : World} {h : Heap} {a : Addr} {ns : List Int} {c : Nat} (R : SetR w h a (fun j => decide (j ∈ ns)) c) : c = (nubI ns).length := by
  obtain ⟨o, es, ep, t, ho, hex, hd, g, nd, hm, hb, hf, hn, hr, hl⟩ := R
  have pm : (es.toList.map L2.keyOf).Perm (nubI ns) := nodup_perm nd (nubI_nodup ns) fun k => by rw [nubI_mem, ← hm k, decide_eq_true_iff]
  have z := pm.length_eq
  rw [List.length_map, Array.length_toList] at z
  omega
theorem fe_sortSet (hc : X.calm = true) (hg : Gl X "sorted") (hm : X.mg "sorted" = none) (hg2 : Gl X "set") (hm2 : X.mg "set" = none) (he : FE X L W e fe)
    (na : starEach [e] X.env = (false, eval e X.env) :: starEach [] X.env := by rfl) : FE X L W (.Call (.Name "sorted" p) [.Call (.Name "set" p2) [e] [] q] [] pos) (dSortSet fe) := by
  refine ⟨fun pins s σ H Q I ⟨α, M, sd, r, sl, h⟩ => ?_⟩
  refine PyProof.Rows.Call_ (ld_blt I hg hm PyProof.Rows.boot_sorted ?_)
  refine PyProof.Rows.callWith_builtin1 (PyProof.Rows.args_cons ?_ rfl) rfl rfl
  refine PyProof.Rows.Call_ (ld_blt I hg2 hm2 PyProof.Rows.boot_set ?_)
  refine PyProof.Rows.callWith_type1 (PyProof.Rows.args_cons (thn (he.run pins s σ H _ I ⟨α, M, sd, r, sl, PostR.bind (R := Rep _) h⟩) fun v s1 ⟨x, H1, I1, rx, dx, α1, M1, l1, r1, rd, h1⟩ => PyProof.Rows.args_nil ?_) na) na rfl
  dsimp only at h1
  split at h1
  · rename_i ds e1
    split at h1
    · rename_i ns e2
      split at h1
      · rename_i c
        have c := dt c
        obtain ⟨a, rfl, hq⟩ := seqInts r1 rd e1 e2
        cases rx
        have hb : ns.length + 1 < scanBound := by unfold scanBound; omega
        have fin : ∀ (g : Heap) (tk c : Nat), SetR X.w g s1.heap.objs.size (fun j => decide (j ∈ ns)) c → c ≤ ns.length → (∀ b o, s1.heap.get? b = some o → g.get? b = some o) →
            wpAny (model X.prog X.w) X.A (spliced (backTo pos (starEach [] X.env))) (fun vs s₂ => wpAny (model X.prog X.w) X.A (call (.builtin "sorted") (Value.ref s1.heap.objs.size :: vs)) (EP X pins σ Q) X.xe s₂) X.xe { s1 with heap := g, toks := tk } := fun g tk c' hS hc' hk => by
          refine PyProof.Rows.args_nil ?_
          have hn : H1 s1.heap.objs.size = none := I1.hok.fresh (Nat.le_refl _)
          have I2 : L2.Inv X pins σ (upd H1 s1.heap.objs.size (SetO X.w s1.heap.objs.size (fun j => decide (j ∈ ns)) c')) { s1 with heap := g, toks := tk } := I1.laid (t' := tk) hk (Nat.le_refl _) (setO_new hS)
          refine cr_sortedSet hc pins _ σ _ [.ref s1.heap.objs.size] _ Q I2 (.cons rfl .nil) ⟨_, _, c', rfl, upd_same, by omega, fun ms p hp hms _ hpn => ?_⟩
          have em := sortNub_eq (ns := ns) hp fun k => by rw [hms k, decide_eq_true_iff]
          rw [em]
          exact h1 _ _ _ ((Le.add hn).trans (Le.new hpn)) ((r1.add hn).new (o := .lst _) hpn ⟨_, upd_same, reps_int⟩) (rep_ref (by rw [← r1.len]; simp))
        rcases hq with hq | hq
        · obtain ⟨its, rv, pl, hz⟩ := I1.list hq
          exact set_of_ints ns (I1.ok.hd hc) pl.isList (by simpa using rv.ints) hb fin
        · obtain ⟨its, rv, pl, hz⟩ := I1.tuple hq
          exact call_set_tupI ns (I1.ok.hd hc) pl (by simpa using rv.ints) hb fin
      · exact h1.elim
    · exact h1.elim
  · exact h1.elim
theorem fe_lenSet (hc : X.calm = true) (hg : Gl X "len") (hm : X.mg "len" = none) (hg2 : Gl X "set") (hm2 : X.mg "set" = none) (he : FE X L W e fe)
    (na : starEach [e] X.env = (false, eval e X.env) :: starEach [] X.env := by rfl) : FE X L W (.Call (.Name "len" p) [.Call (.Name "set" p2) [e] [] q] [] pos) (dLenSet fe) := by
  refine ⟨fun pins s σ H Q I ⟨α, M, sd, r, sl, h⟩ => ?_⟩
  refine PyProof.Rows.Call_ (ld_blt I hg hm PySem.boot_len ?_)
  refine PyProof.Rows.callWith_builtin1 (PyProof.Rows.args_cons ?_ rfl) rfl rfl
  refine PyProof.Rows.Call_ (ld_blt I hg2 hm2 PyProof.Rows.boot_set ?_)
  refine PyProof.Rows.callWith_type1 (PyProof.Rows.args_cons (thn (he.run pins s σ H _ I ⟨α, M, sd, r, sl, PostR.bind (R := Rep _) h⟩) fun v s1 ⟨x, H1, I1, rx, dx, α1, M1, l1, r1, rd, h1⟩ => PyProof.Rows.args_nil ?_) na) na rfl
  dsimp only at h1
  split at h1
  · rename_i n
    split at h1
    · rename_i ds e1
      split at h1
      · rename_i ns e2
        split at h1
        · rename_i c
          have c := dt c
          obtain ⟨a, rfl, hq⟩ := ints_at r1 e1 e2 rd
          cases rx
          have hb : ns.length + 1 < scanBound := by unfold scanBound; omega
          obtain ⟨its, rv, pl, hz⟩ := I1.list hq
          refine set_of_ints ns (I1.ok.hd hc) pl.isList (by simpa using rv.ints) hb fun g tk c' hS hc' hk => PyProof.Rows.args_nil ?_
          have ec := setO_keys hS
          obtain ⟨o, es, ep, t, ho, hex, hd, _, _, _, _, hf, hn, _⟩ := hS
          have I2 : L2.Inv X pins σ H1 { s1 with heap := g, toks := tk } := I1.kept hk
          refine call_len_set ho hex hd hf (by omega) ⟨.int (nubI ns).length, H1, I2.tok _, ⟨_, by rw [hn, ec]⟩, PostR.pure h1 r1 rep_int⟩
        · exact h1.elim
      · exact h1.elim
    · exact h1.elim
  · exact h1.elim
end
end Fl

namespace Fl
open PySem PySem.Spec L2 PyProof.Rows
/-! ### t[::-1] of a tuple -/
section
variable {prog : Program} {w : World} {A : Around} {E : Value → Shared → Prop} {s : Shared}
theorem adjust_back (n : Nat) : Builtin.Slice.sliceAdjust none none (-1) (n : Int) = ((n : Int) - 1, -1) := by
  unfold Builtin.Slice.sliceAdjust
  simp
theorem places_back (n : Nat) : Builtin.Slice.slicePlaces ((n : Int) - 1) (-1) (-1) = n := by
  unfold Builtin.Slice.slicePlaces
  have h1 : ¬ (((-1 : Int)) > 0) := by omega
  rw [if_neg h1]
  by_cases h : ((n : Int) - 1) > -1
  · rw [if_pos h]
    have e : - (-1 : Int) = 1 := rfl
    rw [e, Int.ediv_one]; omega
  · rw [if_neg h]; omega
theorem pick_back (xs : Array Value) : ((List.range xs.size).filterMap fun (m : Nat) => xs[(((xs.size : Int) - 1) + (m : Int) * (-1)).toNat]?).toArray = xs.toList.reverse.toArray := by
  have e : ∀ k, k ≤ xs.size → ((List.range k).filterMap fun (m : Nat) => xs[(((xs.size : Int) - 1) + (m : Int) * (-1)).toNat]?) = xs.toList.reverse.take k := by
    intro k
    induction k with
    | zero => intro _; simp
    | succ k ih =>
      intro hk
      have hi : (((xs.size : Int) - 1) + (k : Int) * (-1)).toNat = xs.size - 1 - k := by omega
      have hlt : xs.size - 1 - k < xs.size := by omega
      rw [List.range_succ, List.filterMap_append, ih (by omega), List.take_add_one]
      congr 1
      have hr : xs.toList.reverse[k]? = some xs[xs.size - 1 - k] := by
        rw [List.getElem?_reverse (by simp; omega), Array.length_toList, Array.getElem?_toList, Array.getElem?_eq_getElem hlt]
      have e2 : xs[(((xs.size : Int) - 1) + (k : Int) * (-1)).toNat]? = some xs[xs.size - 1 - k] := by rw [hi, Array.getElem?_eq_getElem hlt]
      simp only [List.filterMap_cons, List.filterMap_nil, e2, hr, Option.toList_some]
  rw [e xs.size (Nat.le_refl _), List.take_of_length_le (by simp)]
theorem getItem_tuple_back {t sl : Addr} {its : Array Value} {u : Tok} {Q : Value → Shared → Prop} (ht : IsTup s.heap t its) (hs : s.heap.IsSliceOf sl .none .none (.int (-1) u))
    (h : Q (.ref s.heap.objs.size) { s with heap := s.heap.push { cls := .type "tuple", data := .seq its.toList.reverse.toArray } })
    (hsz : its.size ≤ sizeLine) : wpAny (model prog w) A (getItem (.ref t) (.ref sl)) Q E s := by
  have ok : sizeOk (.seq its.toList.reverse.toArray) := by
    show its.toList.reverse.toArray.size ≤ sizeLine
    rw [List.size_toArray, List.length_reverse, Array.length_toList]; exact hsz
  obtain ⟨os, hos, hcs, hds⟩ := id hs
  have hTs : s.TypeIs (.ref sl) "slice" := ⟨os, hos, hcs⟩
  unfold getItem
  try with_reducible refine wpAny_holding ?_
  first | refine wpAny_bind (wpAny_pure ?_) | skip
  refine wpAny_bind (wpAny_sequenceKey ht.typeIs (by decide) (wpAny_bind (wpAny_callSpecial?_slot (name := Str.ofString "__getitem__") ht.typeIs PyProof.Rows.slot_tuple_getitem (wpAny_call_entry PyProof.Rows.slot_tuple_getitem ht.typeIs entry_tuple_getitem ?_ (args_tuple_getitem _ _)))))
  show wpAny _ _ (Builtin.Tuple.tupleItemsOf (.ref t) >>= _) _ _ s
  refine wpAny_bind (tupleItemsOf_ ht (wpAny_bind (wpAny_typeOf hTs ?_)))
  rw [if_pos (by decide)]
  have ap : ∀ {Q : Int × Int × Nat → Shared → Prop}, Q ((its.size : Int) - 1, -1, its.size) s → wpAny (model prog w) A.in1 (Builtin.Slice.sliceApplied (.ref sl) (pure (its.size : Int))) Q E s := fun {Q} q => by
    unfold Builtin.Slice.sliceApplied Builtin.Slice.sliceFields
    refine wpAny_bind (wpAny_bind (wpAny_field hos hds (x := .none) rfl (wpAny_bind (wpAny_field hos hds (x := .none) rfl (wpAny_bind (wpAny_field hos hds (x := .int (-1) u) rfl (wpAny_pure ?_)))))))
    refine wpAny_bind (PyProof.Rows.slicePart_int ?_)
    show wpAny _ _ (if ((-1 : Int) == 0) = true then _ else _) _ _ s
    rw [if_neg (by decide)]
    refine wpAny_bind (PyProof.Rows.slicePart_none (wpAny_bind (PyProof.Rows.slicePart_none (wpAny_bind (wpAny_pure ?_)))))
    show wpAny _ _ (match Builtin.Slice.sliceAdjust none none (-1) (its.size : Int) with | (lo, hi) => pure (lo, (-1 : Int), Builtin.Slice.slicePlaces lo hi (-1))) _ _ s
    rw [adjust_back its.size]
    show wpAny _ _ (pure ((its.size : Int) - 1, (-1 : Int), Builtin.Slice.slicePlaces ((its.size : Int) - 1) (-1) (-1))) _ _ s
    rw [places_back]
    exact wpAny_pure q
  refine wpAny_bind (ap ?_)
  have hno : ¬ ((((its.size : Int) - 1) == 0 && (-1 : Int) == 1 && its.size == its.size) = true) := by simp
  show wpAny _ _ (if (((its.size : Int) - 1) == 0 && (-1 : Int) == 1 && its.size == its.size) = true then _ else _) _ _ s
  rw [if_neg hno, pick_back]
  first
    | exact wpAny_bind (m := Builtin.Tuple.tupleExact _) (wpAny_newObj_type (wpAny_pure ⟨_, rfl, wpAny_pure h⟩) ok)
    | exact wpAny_bind (m := Builtin.Tuple.tupleExact _) (wpAny_newObj_type (wpAny_bind (wpAny_pure (wpAny_pure ⟨_, rfl, wpAny_pure h⟩))) ok)
    | exact wpAny_bind (wpAny_bind (m := Builtin.Tuple.tupleExact _) (wpAny_newObj_type (wpAny_pure (wpAny_pure ⟨_, rfl, wpAny_pure h⟩)) ok))
    | exact wpAny_bind (wpAny_bind (m := Builtin.Tuple.tupleExact _) (wpAny_newObj_type (wpAny_pure ⟨_, rfl, wpAny_pure h⟩) ok))
end
def gRevT : D → Mem → Res D := fun d M => match d with
  | .tup (x :: xs) => .ok (.tup (x :: xs).reverse) M
  | _ => .bad
section
variable {X : Cx} {L : Lay} {W : WX} {e : Expr} {fe : EF}
theorem fe_revT {k : Nat} {p1 p2 p3 pos : Pos} (he : FE X L W e fe) : FE X L W (.Subscript e (.Slice none none (some (.UnaryOp .USub (.Constant (.int 1) k p1) p2)) p3) pos) (dOp1 gRevT fe) := by
  refine ⟨fun pins s σ H Q I ⟨α, M, sd, r, sl, h⟩ => ?_⟩
  refine PyProof.Rows.Subscript_ (thn (he.run pins s σ H _ I ⟨α, M, sd, r, sl, PostR.bind (R := Rep _) h⟩) fun v s1 ⟨x, H1, I1, rx, dx, α1, M1, l1, r1, rd, h1⟩ => ?_)
  dsimp only at h1
  unfold gRevT at h1
  split at h1
  · rename_i y ys
    obtain ⟨a, vs, rfl, ht, hr⟩ := rd.tup
    cases rx
    have hst : PO X (some (.UnaryOp .USub (.Constant (.int 1) k p1) p2)) (tPart (tUn (rU fun i => .int (-i)) (tC (.int 1)))) := po_some (pe_un un_neg pe_int)
    refine wpAny_Slice (thn (po_none.run pins s1 σ H1 (fun o H2 => o = none ∧ H2 = H1) I1 ⟨rfl, rfl⟩) fun vl s2 ⟨l, H2, I2, pl, el, e2⟩ => ?_)
    subst el e2
    refine thn (po_none.run pins s2 σ H2 (fun o H3 => o = none ∧ H3 = H2) I2 ⟨rfl, rfl⟩) fun vu s3 ⟨u, H3, I3, pu, eu, e3⟩ => ?_
    subst eu e3
    refine thn (hst.run pins s3 σ H3 (fun o H4 => o = some (-1) ∧ H4 = H3) I3 ⟨1, rfl, -1, rfl, rfl, rfl⟩) fun vs' s4 ⟨o, H4, I4, ps, eo, e4⟩ => ?_
    subst eo e4
    cases pl; cases pu
    cases ps with
    | int _ tk =>
      have I5 : L2.Inv X pins σ H4 { s4 with heap := s4.heap.push { cls := .type "slice", data := .fields #[.none, .none, .int (-1) tk] } } := I4.kept (t' := s4.toks) fun b ob q => Heap.get?_push_of_some _ q
      obtain ⟨its, rv, hti, hz⟩ := I5.tuple ht.sq
      show wpAny (model X.prog X.w) X.A (subscriptTail e (.Slice none none (some (.UnaryOp .USub (.Constant (.int 1) k p1) p2)) p3) (.ref a) (.ref s4.heap.objs.size)) (EP X pins σ Q) X.xe { s4 with heap := s4.heap.push { cls := .type "slice", data := .fields #[.none, .none, .int (-1) tk] } }
      refine PyProof.Rows.tail_any (ops := [.ref a, .ref s4.heap.objs.size]) hti.typeIs (PyProof.Rows.slot_tuple_getitem.lookup) ?_ (by with_unfolding_all rfl)
      refine getItem_tuple_back hti (Heap.IsSliceOf.new _ _ _ _) ?_ (by rw [List.size_toArray, ← rv.length]; exact hz)
      have hn := I5.hok.fresh (Nat.le_refl _)
      refine ⟨.ref _, _, I5.laid (t' := s4.toks) (o := .tup vs.reverse) (fun b ob q => Heap.get?_push_of_some _ q) (Nat.le_refl _) ⟨by rw [List.length_reverse]; exact hz, _, rv.reverse, IsTup.new _ _⟩, rfl, ?_⟩
      exact h1 α1 _ _ (Le.tup hn) (r1.tup hn) (rep_tup upd_same (hr.le (Le.tup hn)).reverse)
  · exact h1.elim
/-! ### tuple(range(n)) -/
def dTupRg (fe : EF) : EF := fun s M => (fe s M).bind fun d M1 => match d with
  | .int n => (match decide (0 ≤ n ∧ n ≤ 16777216) with
    | true => .ok (.tup ((List.range n.toNat).map fun i => .int (i : Nat))) M1
    | false => .bad)
  | _ => .bad
theorem fe_tupRg {p p2 q pos : Pos} (hc : X.calm = true) (hg : Gl X "tuple") (hm : X.mg "tuple" = none) (hg2 : Gl X "range") (hm2 : X.mg "range" = none) (he : FE X L W e fe)
    (na : starEach [e] X.env = (false, eval e X.env) :: starEach [] X.env := by rfl) (nb : starEach [Expr.Call (.Name "range" p2) [e] [] q] X.env = (false, eval (Expr.Call (.Name "range" p2) [e] [] q) X.env) :: starEach [] X.env := by rfl) :
    FE X L W (.Call (.Name "tuple" p) [.Call (.Name "range" p2) [e] [] q] [] pos) (dTupRg fe) := peImp (pe_tupRg hc hg hm (prg_1 hg2 hm2 he na) nb) fun σ H Q ⟨α, M, s, r, sl, h⟩ =>
  ⟨α, M, s, r, sl, (PostR.bind (R := Rep _) h).imp fun x H1 ⟨dx, α1, M1, l1, r1, rx, h1⟩ => by
    dsimp only at h1
    split at h1
    · rename_i n
      split at h1
      · rename_i c
        obtain ⟨c1, c2⟩ := dt c
        refine ⟨n, rx.int, RgOk.of_le (by omega) c2 (by omega) c1, fun p hp => ?_⟩
        refine h1 α1 _ _ (Le.tup hp) (r1.tup hp) (rep_tup upd_same ?_)
        have e1 : (List.range n.toNat).map (fun i => D.int (i : Nat)) = (((List.range n.toNat).map fun i => ((i : Nat) : Int)).map D.int) := by rw [List.map_map]; rfl
        have e2 : rgV 0 n = (((List.range n.toNat).map fun i => ((i : Nat) : Int)).map V.int) := by
          unfold rgV
          rw [List.map_map, Int.sub_zero]
          exact List.map_congr_left fun i _ => by simp
        rw [e1, e2]
        exact reps_int
      · exact h1.elim
    · exact h1.elim⟩
end
/-! ### sorted(xs), xs data that can be compared -/
def leP : D × PyData → D × PyData → Bool := PySem.W.dataLe false (fun b : D × PyData => b.2)
def alikeB (ps : List PyData) : Bool := ps.all fun p => ps.all fun q => PySem.W.alike p q
def isTupP : PyData → Bool
  | .tuple (_ :: _) => true
  | _ => false
def notTupP : PyData → Bool
  | .none => false
  | .tuple _ => false
  | _ => true
def sortOkB (ps : List PyData) : Bool := alikeB ps && ((ps.all isTupP || ps.all notTupP) && ps.all fun p => decide (p.depth < 60))
def sortP (ds : List D) (ps : List PyData) : List D := (isortS leP (ds.zip ps)).map (·.1)
def lstOf (M : Mem) : D → Option (List D)
  | .rol ds => some ds
  | .ref n => listAt M n
  | _ => none
theorem Rep.lstOf {K : PySem.W.Frag} {L : Lay} {α : List Addr} {M : Mem} {H : Hp} (r : Rel K L α M H) {d : D} {v : V} {ds : List D} (h : Rep K α H d v) (hs : lstOf M d = some ds) : ∃ a vs, v = .ref a ∧ SqL K H a vs ∧ Reps K α H ds vs := by
  cases d <;> try (cases hs; done)
  · cases hs
    obtain ⟨t, vs, e, ht, hr⟩ := h.rol
    exact ⟨t, vs, e, ht.sq, hr⟩
  · obtain ⟨a, ha, e⟩ := h.ref
    obtain ⟨a', vs, ha', hv, hr⟩ := r.list hs
    rw [ha] at ha'; cases ha'
    exact ⟨a, vs, e, .of hv, hr⟩
def gSorted : List D → Mem → Res D
  | [d], M => (match lstOf M d with
    | some ds => (match allSome (toPy M 8) ds with
      | some ps => (match sortOkB ps, decide (ds.length ≤ sizeLine) with
        | true, true => .ok (.ref M.length) (M ++ [.lst (sortP ds ps)])
        | _, _ => .bad)
      | none => .bad)
    | none => (match d with
      | .ref n => (match M[n]? with
        | some (.dk kvs) => (match intsOf (kvs.map fun kv => kD kv.1) with
          | some ns => (match decide (ns.length < 64) with
            | true => .ok (.ref M.length) (M ++ [.lst ((sortI ns).map .int)])
            | false => .bad)
          | none => .bad)
        | some (.fk kvs) => (match intsOf (kvs.map fun kv => kD kv.1) with
          | some ns => (match decide (ns.length < 64) with
            | true => .ok (.ref M.length) (M ++ [.lst ((sortI ns).map .int)])
            | false => .bad)
          | none => .bad)
        | _ => .bad)
      | _ => .bad))
  | _, _ => .bad
theorem allSome_zip {A B : Type} {f : A → Option B} : ∀ {l : List A} {m : List B}, allSome f l = some m → l.length = m.length ∧ ∀ p ∈ l.zip m, f p.1 = some p.2
  | [], m, h => by cases h; exact ⟨rfl, fun p hp => by simp at hp⟩
  | a :: l, m, h => by
    unfold allSome at h
    split at h
    · rename_i b e1
      split at h
      · rename_i bs e2
        cases h
        obtain ⟨h1, h2⟩ := allSome_zip e2
        refine ⟨by simp [h1], fun p hp => ?_⟩
        rcases List.mem_cons.mp (show p ∈ (a, b) :: l.zip bs from hp) with e | e
        · rw [e]; exact e1
        · exact h2 p e
      · cases h
    · cases h
theorem leP_total : PySem.W.TotalLe leP := by
  unfold leP PySem.W.dataLe
  exact PySem.W.sortLe_total _ _ _
/-- each value reads as its tree and its data -/
def SrtR (K : PySem.W.Frag) (α : List Addr) (H : Hp) (u : Value) (b : D × PyData) : Prop := ∃ v, RelV v u ∧ Rep K α H b.1 v
theorem each_of {K : PySem.W.Frag} {α : List Addr} {H : Hp} : ∀ {ds : List D} {ps : List PyData} {vs : List V} {us : List Value}, ds.length = ps.length → Reps K α H ds vs → Vals vs us → PySem.W.EachIs (SrtR K α H) us (ds.zip ps)
  | [], ps, vs, us, hl, hr, hv => by
    have e := hr.nil
    subst e
    cases hv
    exact .nil
  | d :: ds, [], vs, us, hl, hr, hv => by simp at hl
  | d :: ds, p :: ps, vs, us, hl, hr, hv => by
    obtain ⟨x, xs, rfl, h1, h2⟩ := hr.cons
    cases hv with
    | cons a b => exact .cons ⟨x, a, h1⟩ (each_of (by simpa using hl) h2 b)
theorem each_back {K : PySem.W.Frag} {α : List Addr} {H : Hp} : ∀ {us : List Value} {bs : List (D × PyData)}, PySem.W.EachIs (SrtR K α H) us bs → ∃ vs, Vals vs us ∧ Reps K α H (bs.map (·.1)) vs
  | _, _, .nil => ⟨[], .nil, reps_nil⟩
  | _, _, .cons ⟨v, h1, h2⟩ t => by
    obtain ⟨vs, h3, h4⟩ := each_back t
    exact ⟨v :: vs, .cons h1 h3, reps_cons h2 h4⟩
theorem each_imp {A B : Type} {R R' : A → B → Prop} : ∀ {as : List A} {bs : List B}, PySem.W.EachIs R as bs → (∀ a b, b ∈ bs → R a b → R' a b) → PySem.W.EachIs R' as bs
  | _, _, .nil, _ => .nil
  | _, _, .cons h t, k => .cons (k _ _ List.mem_cons_self h) (each_imp t fun a b hb => k a b (List.mem_cons_of_mem _ hb))
section
variable {X : Cx} {L : Lay}
theorem dictInts {K : PySem.W.Frag} {α : List Addr} {H : Hp} {kvs : List (Key × D)} {vs : List (Key × V)} {ns : List Int} (h : KvR K α H kvs vs) (e : intsOf (kvs.map fun kv => kD kv.1) = some ns) : vs.map (·.1) = ns.map Sum.inl := by
  have e1 := intsOf_map e
  clear e
  induction h generalizing ns with
  | nil => cases ns with
    | nil => rfl
    | cons a b => simp at e1
  | @cons p q ps qs hp _ ih =>
    cases ns with
    | nil => simp at e1
    | cons n ns =>
      rw [List.map_cons, List.map_cons] at e1
      injection e1 with a b
      rw [List.map_cons, List.map_cons, ih b, ← hp.1]
      cases hk : p.1 with
      | inl i => rw [hk] at a; injection a with a; rw [a]
      | inr x => rw [hk] at a; cases a
theorem c_sorted (hc : X.calm = true) (hu : X.A.units + 70 < cLine) : CallF X L (.builtin "sorted") gSorted := fun w => call_case fun xs H Q ⟨α, M, ds, r, rx, h⟩ => by
  unfold gSorted at h
  split at h
  · rename_i d
    split at h
    · rename_i ds e
      split at h
      · rename_i ps e2
        split at h
        · rename_i c1 c2
          have c2 := dt c2
          obtain ⟨x, rfl, r1⟩ := rx.one
          obtain ⟨a, vs, rfl, hq, hr⟩ := Rep.lstOf r r1 e
          obtain ⟨hl, hz⟩ := allSome_zip e2
          unfold sortOkB at c1
          rw [Bool.and_eq_true, Bool.and_eq_true] at c1
          obtain ⟨a1, a2, a3⟩ := c1
          refine ⟨fun xs H' Q' => xs = [.ref a] ∧ H' = H ∧ Q' = Q, ?_, rfl, rfl, rfl⟩
          intro pins s σ H' xs us Q' I rvs ⟨ex, eH, eQ⟩
          subst ex eH eQ
          rw [Vals.ref1 rvs]
          have em : (ds.zip ps).map (fun b : D × PyData => b.2) = ps := List.map_snd_zip (by omega)
          have halike : PySem.W.AllAlike ((ds.zip ps).map fun b : D × PyData => b.2) := by
            rw [em]
            intro p hp q hq
            exact List.all_eq_true.mp (List.all_eq_true.mp a1 p hp) q hq
          have hsort : PySem.W.Sortable ((ds.zip ps).map fun b : D × PyData => b.2) := by
            rw [em]
            rw [Bool.or_eq_true] at a2
            rcases a2 with a2 | a2
            · refine .inl fun p hp => ?_
              have z := List.all_eq_true.mp a2 p hp
              unfold isTupP at z
              split at z
              · exact ⟨_, _, rfl⟩
              · cases z
            · refine .inr fun p hp => ?_
              have z := List.all_eq_true.mp a2 p hp
              unfold notTupP at z
              split at z
              · cases z
              · cases z
              · rename_i n1 n2
                exact ⟨n1, n2⟩
          have hlen : (ds.zip ps).length ≤ sizeLine := by rw [List.length_zip]; omega
          have go : ∀ {its : List Value}, Vals vs its → PySem.W.EachIs (fun v b => ∃ as, Reads s.heap v b.2 as) its (ds.zip ps) := fun {its} rv =>
            each_imp (each_of hl hr rv) fun u b hb ⟨v, h1, h2⟩ => Dp.reads I b.2 v u (toPy_dp r 8 b.1 v b.2 (hz b hb) h2) h1
          have fin : ∀ {its : List Value}, Vals vs its → ∀ out : List Value, PySem.W.EachIs (SrtR X.K α H') out ((ds.zip ps).mergeSort (PySem.W.dataLe false fun b : D × PyData => b.2)) →
              EP X pins σ Q' (.ref (s.heap.objs.size + 1)) { s with heap := PyProof.Rows.sortedAll s.heap its out.toArray } := fun {its} rv out ho => by
            obtain ⟨ep, he'⟩ := PyProof.Rows.sortedAll_at s.heap its out.toArray
            obtain ⟨ws, h1, h2⟩ := each_back ho
            have hn : H' (s.heap.objs.size + 1) = none := I.hok.fresh (Nat.le_succ _)
            have e3 : ((ds.zip ps).mergeSort (PySem.W.dataLe false fun b : D × PyData => b.2)).map (·.1) = sortP ds ps := by
              unfold sortP
              rw [isortS_merge leP_total]
              rfl
            rw [e3] at h2
            have hl2 : ws.length ≤ sizeLine := by
              have q := h2.length
              have q2 : (sortP ds ps).length = ds.length := by
                unfold sortP
                rw [List.length_map, (isortS_perm _).length_eq, List.length_zip]; omega
              omega
            refine ⟨.ref _, upd H' (s.heap.objs.size + 1) (.lst ws), I.laid (t' := s.toks) (fun _ _ => PyProof.Rows.sortedAll_old) (Nat.le_succ _) ⟨hl2, out, ep, h1, he'⟩, rfl, ?_⟩
            exact h _ _ _ (Le.new hn) (r.new (o := .lst _) hn ⟨_, upd_same, h2.le (Le.new hn)⟩) (rep_ref (by rw [← r.len]; simp))
          have hdep : ∀ b, b ∈ ds.zip ps → X.A.units + 2 + b.2.depth < cLine := fun b hb => by
            have z := dt (List.all_eq_true.mp a3 b.2 (by rw [← em]; exact List.mem_map_of_mem hb))
            omega
          obtain ⟨its, rv, hL, hsz⟩ := I.list hq
          exact PySem.W.sorted_data hL.isList (each_of hl hr rv) (go rv) halike hsort hlen hdep fun out _ ho => fin rv out ho
        · exact h.elim
      · exact h.elim
    · rename_i e0
      split at h
      · rename_i n
        split at h
        · rename_i kvs eo
          split at h
          · rename_i ns e2
            split at h
            · rename_i c
              obtain ⟨x, rfl, r1⟩ := rx.one
              obtain ⟨a, ha, rfl⟩ := r1.ref
              obtain ⟨a', ha', vs, hv, hr⟩ := r.at eo
              rw [ha] at ha'; cases ha'
              refine ⟨_, call_sortedDI hc, a, vs, ns, rfl, .inl hv, dictInts hr e2, dt c, fun ys p hp hs hn => ?_⟩
              have ey : ys = sortI ns := sorted_eq hs (sortI_sorted _) (hp.trans (sortI_perm _).symm)
              rw [ey]
              exact h _ _ _ (Le.new hn) (r.new (o := .lst _) hn ⟨_, upd_same, reps_int⟩) (rep_ref (by rw [← r.len]; simp))
            · exact h.elim
          · exact h.elim
        · rename_i kvs eo
          split at h
          · rename_i ns e2
            split at h
            · rename_i c
              obtain ⟨x, rfl, r1⟩ := rx.one
              obtain ⟨a, ha, rfl⟩ := r1.ref
              obtain ⟨a', ha', o, vs, hv, hr⟩ := r.at eo
              rw [ha] at ha'; cases ha'
              refine ⟨_, call_sortedDI hc, a, vs, ns, rfl, .inr ⟨o, hv⟩, dictInts hr e2, dt c, fun ys p hp hs hn => ?_⟩
              have ey : ys = sortI ns := sorted_eq hs (sortI_sorted _) (hp.trans (sortI_perm _).symm)
              rw [ey]
              exact h _ _ _ (Le.new hn) (r.new (o := .lst _) hn ⟨_, upd_same, reps_int⟩) (rep_ref (by rw [← r.len]; simp))
            · exact h.elim
          · exact h.elim
        · exact h.elim
      · exact h.elim
  · exact h.elim
end
end Fl

namespace Fl
open PySem PySem.Spec L2 PyProof.Rows
/-! ### t * 1 -/
theorem tuple_mul1 (l : Addr) (its : Array Value) (n : Nat) (dd : Option Addr) (sl : Array (Option Value)) (u : Tok) :
    Meets (Builtin.«tuple.__mul__» ⟨[.ref l, .int 1 u], []⟩) (fun _ R s => s.heap.get? l = some { cls := .type "tuple", dict := dd, data := .seq its n, slots := sl } ∧ R (.ok (.ret (Value.ref l))) s) :=
  .of_wp fun prog w A R s h => by
    obtain ⟨hp, g, d, tk, os⟩ := s
    obtain ⟨hl, h⟩ := h
    have f1 := AutoSeq1.idx_int
    wp_walk using wpAny_loadPart' hl
    repeat (first
      | (refine wpAny_ite_false (decide_eq_false (by simp)) ?_; wp_walk using wpAny_loadPart' hl)
      | (refine wpAny_ite_true (decide_eq_true (by simp)) ?_; wp_walk using wpAny_loadPart' hl))
    exact ⟨_, rfl, h⟩
def gMulX : D → D → Mem → Res D := fun x y M => match x, y with
  | .tup xs, .int k => (match decide (k = 1) with
    | true => .ok (.tup xs) M
    | false => gMul (.tup xs) (.int k) M)
  | _, _ => gMul x y M
section
variable {X : Cx} {L : Lay}
theorem op_rep1 : OpR X (binaryOp .Mult) (fun x y H Q => ∃ l xs, x = .ref l ∧ y = .int 1 ∧ SqT X.K H l xs ∧ Q (.ref l) H) := by
  intro pins s σ H x y v u Q I rx ry h
  obtain ⟨l, xs, rfl, rfl, hT, q⟩ := h
  cases rx
  obtain ⟨t, rfl⟩ := ry
  obtain ⟨its, r, ⟨⟨cls, dd, data, sl⟩, ho, hc, n, hd⟩, hs⟩ := I.tuple hT
  simp only at hc hd
  subst hc hd
  exact wpAny_binaryOp_repeat_ref (T := "tuple") (U := "int") (by decide) ⟨_, ho, rfl⟩ (fun s' => typeIs_int s' 1 t) noFill_tuple_mul F.fills_int_mul F.slot_int_rmul repeat_tuple F.slot_int_index.lookup
    (call_meets F.slot_int_rmul (typeIs_int s 1 t) F.entry_int_rmul (F.args_int_rmul_2 _ _) (int_rmul_tuple 1 t l its.toArray n dd sl)
      ⟨ho, rfl, ⟨_, ho, rfl⟩, call_meets F.slot_tuple_mul ⟨_, ho, rfl⟩ F.entry_tuple_mul (F.args_tuple_mul_2 _ _) (tuple_mul1 l its.toArray n dd sl t) ⟨ho, ⟨.ref l, H, I, rfl, q⟩⟩⟩)
theorem o_mulX : Op2 X L (binaryOp .Mult) gMulX := fun w => op_case fun x y H Q ⟨α, M, dx, dy, r, rx, ry, h⟩ => by
  unfold gMulX at h
  split at h
  · split at h
    · rename_i xs k c
      have c := dt c
      subst c
      obtain ⟨t, vs, e, ht, hr⟩ := rx.tup
      subst e
      exact ⟨_, op_rep1, t, vs, rfl, ry.int, ht.sq, PostR.pure h r rx⟩
    · exact ⟨_, o_mul w, α, M, _, _, r, rx, ry, h⟩
  · exact ⟨_, o_mul w, α, M, _, _, r, rx, ry, h⟩
end
end Fl

namespace Fl
open PySem PySem.Spec L2
theorem hu70 {k : Nat} {A : Around} (hr : Room k A) : A.units + 70 < cLine := by have := hr.un; omega
theorem bb_isinstance : bootBuiltins "isinstance" = some (.builtin "isinstance") := by decide +kernel
theorem bb_len : bootBuiltins "len" = some (.builtin "len") := by decide +kernel
theorem bb_all : bootBuiltins "all" = some (.builtin "all") := by decide +kernel
theorem bb_any : bootBuiltins "any" = some (.builtin "any") := by decide +kernel
theorem bb_sum : bootBuiltins "sum" = some (.builtin "sum") := by decide +kernel
theorem bb_max : bootBuiltins "max" = some (.builtin "max") := by decide +kernel
theorem bb_min : bootBuiltins "min" = some (.builtin "min") := by decide +kernel
theorem bb_sorted : bootBuiltins "sorted" = some (.builtin "sorted") := by decide +kernel
theorem bb_list : bootBuiltins "list" = some (.type "list") := by decide +kernel
theorem bb_tuple : bootBuiltins "tuple" = some (.type "tuple") := by decide +kernel
theorem bb_int : bootBuiltins "int" = some (.type "int") := by decide +kernel
theorem bb_bool : bootBuiltins "bool" = some (.type "bool") := by decide +kernel
theorem bb_str : bootBuiltins "str" = some (.type "str") := by decide +kernel
theorem bb_set : bootBuiltins "set" = some (.type "set") := by decide +kernel
/-! ### a new dict -/
def dNewK : EF := fun _ M => .ok (.ref M.length) (M ++ [.dk []])
def dNewT : EF := fun _ M => .ok (.ref M.length) (M ++ [.dt []])
section
variable {X : Cx} {L : Lay} {W : WX} {pos : Pos}
theorem fe_newK : FE X L W (.Dict [] [] pos) dNewK := peImp pe_dnewK fun σ H Q ⟨α, M, s, r, sl, h⟩ p hp =>
  h _ _ _ (Le.new hp) (r.new (o := .dk []) hp ⟨_, upd_same, .nil⟩) (rep_ref (by rw [← r.len]; simp))
theorem fe_newT : FE X L W (.Dict [] [] pos) dNewT := peImp pe_dnewT fun σ H Q ⟨α, M, s, r, sl, h⟩ p hp =>
  h _ _ _ (Le.new hp) (r.new (o := .dt []) hp ⟨_, upd_same, .nil⟩) (rep_ref (by rw [← r.len]; simp))
end
/-! ### binding -/
section
variable {K : PySem.W.Frag} {x qual : Str} {params : Arguments} {body : List Stmt} {scope : Scope} {kws : List (Str × V)} {f : Addr} {fd : FuncData} {ps : List Str} {n : Nat}
theorem kb_plain (hb : Binds K fd ps []) (hn : n = ps.length) : KBn K fd ps n [] (fun us _ => us) (fun vs _ => vs) :=
  ⟨fun s us ws X l1 l2 => by
    have e : ws = [] := List.length_eq_zero_iff.mp (by simpa using l2)
    subst e
    have q := hb s us X (by rw [List.append_nil, l1, hn])
    rw [List.append_nil] at q
    exact q, fun r _ => r⟩
theorem FunD.kbN (F : FunD K x qual params body scope [] kws f fd) (n : Nat) (ks : List Str) (g : {α : Type} → List α → List α → List α)
    (hrel : ∀ {vs zs : List V} {us ws : List Value}, Vals vs us → Vals zs ws → Vals (g vs zs) (g us ws))
    (h : ∀ (kV doc pm : Value) (an : Option Addr) (cdv ct : Value) (us ws : List Value), us.length = n → ws.length = ks.length → bindArgs (PySem.W.fnOf x qual params body scope .none kV doc pm an cdv ct) ⟨us, ks.zip ws⟩ = pure (ps.zip (g us ws))) :
    KBn K fd ps n ks (fun us ws => g us ws) (fun vs zs => g vs zs) := by
  obtain ⟨oc, od, dV, kV, doc, pm, an, cdv, ct, osl, rfl, lk, hcd, hD, hK⟩ := F.ex
  rcases hD with ⟨_, rfl⟩ | ⟨e, _⟩
  · exact ⟨fun s us ws X l1 l2 => .of_eq (h kV doc pm an cdv ct us ws l1 l2), fun r1 r2 => hrel r1 r2⟩
  · exact absurd rfl e
theorem gr_plain : GRel K (fun xs _ => xs) (fun vs _ => vs) := ⟨fun r _ => r⟩
theorem gr_app : GRel K (fun xs zs => xs ++ zs) (fun vs zs => vs ++ zs) := ⟨fun r r2 => r.append r2⟩
end
end Fl

namespace Fl
open PySem PySem.Spec L2
/-! ### the names of fields and methods -/
def nmL0 : List Str := ["worth", "nexts", "votes", "asked", "stack", "done", "houses", "few", "signers", "first", "liars", "cheats", "board", "rooms", "posts", "issued", "world", "purse", "many", "spent", "got", "owners", "need", "chosen", "house", "may_vote", "hear", "new_votes", "can_settle", "take"]
def nmL1 : List Str := ["go_on", "settle", "state", "load", "sign", "votes_for", "is_paper", "paper", "papers", "honest", "room", "look_liar", "look_purse", "order_to_all", "paper_to_all", "next_number", "ask", "left_at", "cheat", "lie", "signed", "show", "letters", "come", "sums", "settled", "voted", "waits", "is_still", "add"]
def nmL2 : List Str := ["signers_of", "good", "has", "order", "ready", "is_sure", "two_faced"]
def nmList : List Str := nmL0 ++ nmL1 ++ nmL2
def nmOf (i : Nat) : Str := match nmList[i]? with
  | some x => x
  | none => ⟨Array.replicate (i + 100) 46⟩
theorem nmOf_inj : ∀ i j, nmOf i = nmOf j → i = j := by
  have hn : nmList.Nodup := by decide +kernel
  have hs : ∀ x ∈ nmList, x.cps.size < 100 := by decide +kernel
  intro i j h
  unfold nmOf at h
  cases e1 : nmList[i]? with
  | some x =>
    cases e2 : nmList[j]? with
    | some y =>
      simp only [e1, e2] at h
      rw [h, ← e2] at e1
      obtain ⟨hi, _⟩ := List.getElem?_eq_some_iff.mp (e1.trans e2)
      exact (List.getElem?_inj hi hn).mp e1
    | none =>
      simp only [e1, e2] at h
      have z := hs x (List.mem_of_getElem? e1)
      rw [h] at z
      simp at z; omega
  | none =>
    cases e2 : nmList[j]? with
    | some y =>
      simp only [e1, e2] at h
      have z := hs y (List.mem_of_getElem? e2)
      rw [← h] at z
      simp at z; omega
    | none =>
      simp only [e1, e2] at h
      have z : (Array.replicate (i + 100) 46).size = (Array.replicate (j + 100) 46).size := by
        injection h with h; rw [h]
      simp at z; exact z
/-! ### defaults -/
section
variable {K : PySem.W.Frag} {ds : List D} {dv : List V}
theorem gr_dfl (h : ∀ α H, Reps K α H ds dv) : GRel K (fun xs _ => xs ++ ds) (fun vs _ => vs ++ dv) := ⟨fun r _ => r.append (h _ _)⟩
theorem gr_dfe (h : ∀ α H, Reps K α H ds dv) : GRel K (fun xs zs => xs ++ (zs ++ ds)) (fun vs zs => vs ++ (zs ++ dv)) := ⟨fun r z => r.append (z.append (h _ _))⟩
theorem gr_dfm {t : Nat} (h : ∀ α H, Reps K α H ds dv) : GRel K (fun xs zs => xs ++ (zs.take t ++ (ds ++ zs.drop t))) (fun vs zs => vs ++ (zs.take t ++ (dv ++ zs.drop t))) := ⟨fun r z => r.append ((z.take t).append ((h _ _).append (z.drop t)))⟩
end
/-! ### -e -/
def gNeg : D → Mem → Res D := fun d M => match d with
  | .int i => .ok (.int (-i)) M
  | _ => .bad
section
variable {X : Cx} {L : Lay} {W : WX} {pos : Pos} {a : Expr} {fa : EF}
theorem fe_neg (ha : FE X L W a fa) : FE X L W (.UnaryOp .USub a pos) (dOp1 gNeg fa) := peImp (pe_un un_neg ha) fun σ H Q ⟨α, M, s, r, sl, h⟩ =>
  ⟨α, M, s, r, sl, (PostR.bind (R := Rep _) h).imp fun x H1 ⟨dx, α1, M1, l1, r1, rx, h1⟩ => by
    dsimp only at h1
    unfold gNeg at h1
    split at h1
    · exact ⟨_, rx.int, PostR.pure h1 r1 rep_int⟩
    · exact h1.elim⟩
end
/-! ### the law's end -/
theorem law_end {K : PySem.W.Frag} {L : Lay} {S : List D → Mem → Res D} {H : Hp} {a : Addr} {ns : List Int} (h : ∃ M, S [.rol (ns.map .int)] [] = .ok (.bl true) M) (hO : Only H) (hS : SqL K H a (ns.map V.int)) :
    spF K L S [.ref a] H (fun v _ => v = .bl true) fun _ _ _ => False := by
  obtain ⟨M, h⟩ := h
  have ro : RolAt K H a (ns.map V.int) := by
    rcases hS with (hS | ⟨o, hS⟩) | hS
    · rcases hO a with q | ⟨o, xs, q⟩ <;> (rw [hS] at q; cases q)
    · exact .inl ⟨o, hS⟩
    · exact .inr hS
  refine ⟨[], [], [.rol (ns.map .int)], ⟨rfl, List.nodup_nil, fun n o a h => by simp at h⟩, reps_cons (by unfold Rep; exact ⟨a, _, rfl, ro, reps_int⟩) reps_nil, ?_⟩
  rw [h]
  exact fun α' H' v _ _ rv => rv.bl
def CXA (P : Program) : CXT := fun o H s E u s' => ∃ w, L2.CX P w o H s E u s'
theorem FnOk.anyW {P : Program} {w : World} {K : PySem.W.Frag} {mg : Str → Option Value} {base : Heap} {k : Nat} {f : Addr} {fd : FuncData} {ps : List Str} {sp : Sp} (F : FnOk P w K mg base (L2.CX P w) k f fd ps sp) : FnOk P w K mg base (CXA P) k f fd ps sp :=
  ⟨F.len, fun A outer s H args us vs Q E hr he hb hv hs => codeAny_mono (F.run A outer s H args us vs Q E hr he hb hv hs) fun r s' h => by
    cases r with
    | error e => exact ⟨w, h⟩
    | ok fl => cases fl <;> exact h⟩
theorem cxa_none {P : Program} (H : Hp) (s : Shared) (e : Value) (s' : Shared) (h : CXA P [] H s (fun _ _ _ => False) e s') : False := by
  obtain ⟨w, a, B, H', cls, d, _, _, _, _, _, _, _, z⟩ := h
  exact z
end Fl

namespace Fl
open PySem PySem.Spec L2
/-! ### a Hook with further facts -/
abbrev AlX : Type := He.AlD × Bool
def obsX (fa : List He.Fa) (fn : List He.DefD) (xs : List (PySem.W.Frag → Bool)) (K : PySem.W.Frag) : AlX := (He.obsD fa fn K, xs.all fun x => x K)
def obsXG (n : Nat) (fa : List He.Fa) (fn : List He.DefD) (xs : List (PySem.W.Frag → Bool)) (g : Addr → Option Obj) : AlX := obsX fa fn xs (He.frG g (He.asD g n))
def SaysX (fa : List He.Fa) (fn : List He.DefD) (xs : List (PySem.W.Frag → Bool)) (K : PySem.W.Frag) : Prop := He.SaysD fa fn K ∧ ∀ x ∈ xs, x K = true
def hookX (n : Nat) (fa : List He.Fa) (fn : List He.DefD) (xs : List (PySem.W.Frag → Bool)) : PySem.W.Hook where
  α := AlX
  obs := fun s => obsXG n fa fn xs s.heap.get?
  val := fun _ => (He.valD fn, true)
  says := fun _ h => ∃ K : PySem.W.Frag, K.In h ∧ SaysX fa fn xs K
  of := fun _ _ e => ⟨_, He.frG_in, congrArg (fun z : AlX => z.1) e, fun x hx => List.all_eq_true.mp (congrArg (fun z : AlX => z.2) e) x hx⟩
  keeps := fun _ _ _ ⟨K, hK, c⟩ k => ⟨K, PySem.W.Frag.In.keeps hK k, c⟩
theorem obsXG_eq {n : Nat} {fa : List He.Fa} {fn : List He.DefD} {xs : List (PySem.W.Frag → Bool)} {g : Addr → Option Obj} {s : Shared} (h : ∀ a, g a = s.heap.get? a) : obsXG n fa fn xs g = (hookX n fa fn xs).obs s := by
  have e : g = s.heap.get? := funext h
  rw [e]; rfl
/-! ### facts of classes -/
def okO {A : Type} [DecidableEq A] (a b : A) : Bool := decide (a = b)
def insB (K : PySem.W.Frag) (C : Addr) : Bool :=
  (PySem.W.plainGet K C Str.empty && (PySem.W.hasDictIn K C && (PySem.W.plainOver K C && He.eqO (PySem.W.findIn K (.ref C) "__setattr__") (some (some (.builtin "object.__setattr__")))))) &&
  (He.eqO (PySem.W.findIn K (.ref C) "__class__") (some (some (.builtin "object.__class__"))) && (He.eqO (PySem.W.specialIn K (.builtin "object.__class__") "__get__") (some (some (.builtin "getset_descriptor.__get__"))) &&
    (okO (PySem.W.takesIn K (.builtin "object.__class__")) (some true) && okO (PySem.W.mroIn K C (.type "object")) (some true))))
theorem insB_ok {K : PySem.W.Frag} {C : Addr} (h : insB K C = true) : InsF K C := by
  unfold insB at h
  obtain ⟨h1, h2⟩ := He.ba h
  obtain ⟨a1, h1⟩ := He.ba h1
  obtain ⟨a2, h1⟩ := He.ba h1
  obtain ⟨a3, a4⟩ := He.ba h1
  obtain ⟨b1, h2⟩ := He.ba h2
  obtain ⟨b2, h2⟩ := He.ba h2
  obtain ⟨b3, b4⟩ := He.ba h2
  exact ⟨⟨a1, a2, a3, He.eqO_ok a4⟩, He.eqO_ok b1, He.eqO_ok b2, of_decide_eq_true b3, of_decide_eq_true b4⟩
def xcB (K : PySem.W.Frag) (C : Addr) : Bool :=
  ((PySem.W.clsIn K C).isSome && (He.eqO (PySem.W.findIn K (.ref C) "__getattribute__") (some (some (.builtin "BaseException.__getattribute__"))) && (He.eqO (PySem.W.findIn K (.ref C) "__getattr__") (some none) && okO (PySem.W.subIn K (.ref C) (.type "BaseException")) (some true)))) &&
  (He.eqO (PySem.W.findIn K (.ref C) "__class__") (some (some (.builtin "object.__class__"))) && (He.eqO (PySem.W.specialIn K (.builtin "object.__class__") "__get__") (some (some (.builtin "getset_descriptor.__get__"))) &&
    (okO (PySem.W.takesIn K (.builtin "object.__class__")) (some true) && okO (PySem.W.mroIn K C (.type "object")) (some true))))
theorem xcB_ok {K : PySem.W.Frag} {C : Addr} (h : xcB K C = true) : XcF K C := by
  unfold xcB at h
  obtain ⟨h1, h2⟩ := He.ba h
  obtain ⟨a1, h1⟩ := He.ba h1
  obtain ⟨a2, h1⟩ := He.ba h1
  obtain ⟨a3, a4⟩ := He.ba h1
  obtain ⟨b1, h2⟩ := He.ba h2
  obtain ⟨b2, h2⟩ := He.ba h2
  obtain ⟨b3, b4⟩ := He.ba h2
  exact ⟨a1, He.eqO_ok a2, He.eqO_ok a3, of_decide_eq_true a4, He.eqO_ok b1, He.eqO_ok b2, of_decide_eq_true b3, of_decide_eq_true b4⟩
/-! ### the refusals: classes 6 to 17, 6 the base of all -/
def exRow : List Nat := [6, 7, 8, 9, 10, 11, 12, 13, 14, 15, 16, 17]
def exSub (c d : Nat) : Bool := decide (d = 6) || decide (c = d)
def isEx (c : Nat) : Bool := decide (6 ≤ c ∧ c ≤ 17)
theorem isEx_mem {c : Nat} (h : isEx c = true) : c ∈ exRow := by
  have h := of_decide_eq_true h
  unfold exRow
  simp only [List.mem_cons, List.not_mem_nil, or_false]
  omega
/-- all that is asked of the refusals' classes -/
def exB (cls : PySem.W.Frag → Nat → Addr) (K : PySem.W.Frag) : Bool :=
  exRow.all fun c => xcB K (cls K c) && (okO (PySem.W.kitOne K (.ref (cls K c)) (.type "ValueError")) (some true) &&
    exRow.all fun d => okO (PySem.W.exmOne K (.ref (cls K c)) (.ref (cls K d))) (some (exSub c d)) && okO (PySem.W.kitOne K (.ref (cls K c)) (.ref (cls K d))) (some (exSub c d)))
structure ExAll (K : PySem.W.Frag) (L : Lay) : Prop where
  xc : ∀ c, isEx c = true → XcF K (L.cls c)
  ve : ∀ c, isEx c = true → PySem.W.kitOne K (.ref (L.cls c)) (.type "ValueError") = some true
  em : ∀ c d, isEx c = true → isEx d = true → PySem.W.exmOne K (.ref (L.cls c)) (.ref (L.cls d)) = some (exSub c d)
  kt : ∀ c d, isEx c = true → isEx d = true → PySem.W.kitOne K (.ref (L.cls c)) (.ref (L.cls d)) = some (exSub c d)
theorem exB_ok {cls : PySem.W.Frag → Nat → Addr} {K : PySem.W.Frag} {L : Lay} (hL : L.cls = cls K) (h : exB cls K = true) : ExAll K L := by
  unfold exB at h
  have h1 := List.all_eq_true.mp h
  refine ⟨fun c hc => ?_, fun c hc => ?_, fun c d hc hd => ?_, fun c d hc hd => ?_⟩
  all_goals
    rw [hL]
    obtain ⟨a1, a2⟩ := He.ba (h1 c (isEx_mem hc))
    obtain ⟨a2, a3⟩ := He.ba a2
  · exact xcB_ok a1
  · exact of_decide_eq_true a2
  · exact of_decide_eq_true (He.ba (List.all_eq_true.mp a3 d (isEx_mem hd))).1
  · exact of_decide_eq_true (He.ba (List.all_eq_true.mp a3 d (isEx_mem hd))).2
def tabX (d : Nat) : TyK → Option Bool
  | .exc c => (match isEx c with
    | true => some (exSub c d)
    | false => none)
  | _ => none
def tabVE : TyK → Option Bool
  | .exc c => (match isEx c with
    | true => some true
    | false => none)
  | _ => none
def tabC (d : Nat) : Nat → Option Bool := fun c => match isEx c with
  | true => some (exSub c d)
  | false => none
section
variable {K : PySem.W.Frag} {L : Lay}
theorem tabX_ok (T : ExAll K L) (d : Nat) (hd : isEx d = true) : TabOk K L (tabX d) (.ref (L.cls d)) := by
  refine ⟨fun k b e => ?_, fun c b e => (by cases e), fun c b e => ?_⟩
  · cases k <;> try (cases e; done)
    rename_i c
    unfold tabX at e
    cases hc : isEx c with
    | false => simp only [hc] at e; cases e
    | true =>
      simp only [hc] at e
      cases e
      exact T.kt c d hc hd
  · unfold tabX at e
    cases hc : isEx c with
    | false => simp only [hc] at e; cases e
    | true => exact T.xc c hc
theorem tabVE_ok (T : ExAll K L) : TabOk K L tabVE (.type "ValueError") := by
  refine ⟨fun k b e => ?_, fun c b e => (by cases e), fun c b e => ?_⟩
  · cases k <;> try (cases e; done)
    rename_i c
    unfold tabVE at e
    cases hc : isEx c with
    | false => simp only [hc] at e; cases e
    | true =>
      simp only [hc] at e
      cases e
      exact T.ve c hc
  · unfold tabVE at e
    cases hc : isEx c with
    | false => simp only [hc] at e; cases e
    | true => exact T.xc c hc
theorem tabC_ok (T : ExAll K L) (d : Nat) (hd : isEx d = true) : ∀ c b, tabC d c = some b → PySem.W.exmOne K (.ref (L.cls c)) (.ref (L.cls d)) = some b := fun c b e => by
  unfold tabC at e
  cases hc : isEx c with
  | false => simp only [hc] at e; cases e
  | true =>
    simp only [hc] at e
    cases e
    exact T.em c d hc hd
theorem bb_VE : bootBuiltins "ValueError" = some (.type "ValueError") := by decide +kernel
end
theorem exk_of {K : PySem.W.Frag} {mg : Str → Option Value} {x : Str} {C : Addr} (g : mg x = some (.ref C)) (c : (He.Fa.exc x).ok K = true) (hC : He.ga K x = C := by rfl) : ExK K mg x C := by
  obtain ⟨h1, h2, h3, h4⟩ := He.exc_ok c
  subst hC
  exact ⟨g, h1, h2, h3, h4⟩
end Fl

namespace Fl
open PySem
def f__law_town : SF := (sRet (dLst (dCons (dIfE (tVal (dOp2 gNe (dVar 0) (dLst dNil))) (dOpN gList (dCons (dVar 0) dNil)) (dLst (dCons (dC (.int 0)) dNil))) (dCons (dC (.int 0)) dNil))))
def S__law_town : List D → Mem → Res D := fun ds M => match decide (ds.length = 1) with
  | true => (f__law_town (startD 1 ds) M).fin
  | false => .bad
def f_is_whole : SF := (sRet (dAnd (dOp1 (gIsi tabInt) (dVar 0)) (dAnd (dNot (dOp1 (gIsi tabBool) (dVar 0))) (dChain gLe gLe (dVar 1) (dVar 0) (dVar 2)))))
def S_is_whole : List D → Mem → Res D := fun ds M => match decide (ds.length = 3) with
  | true => (f_is_whole (startD 3 ds) M).fin
  | false => .bad
def f_is_order : SF := (sSeq (sIf (tOrF (tNotF (tVal (dOp1 (gIsi tabTup) (dVar 0)))) (tVal (dOp2 gNe (dOpN gLen (dCons (dVar 0) dNil)) (dC (.int 4))))) (sRet (dC (.bl false))) sNext) (sSeq (sAsg (dVar 0) (gT 4 (gsCons 2 (gsCons 3 (gsCons 4 (gsCons 5 gsNil)))))) (sSeq (sIf (tOrF (tNotF (tVal (dCall 3 0 S_is_whole (fun xs _ => xs) (dCons (dVar 2) (dCons (dC (.int 0)) (dCons (dOp2 gSub (dVar 1) (dC (.int 1))) dNil))) dNil))) (tOrF (tNotF (tVal (dCall 3 0 S_is_whole (fun xs _ => xs) (dCons (dVar 4) (dCons (dC (.int 0)) (dCons (dOp2 gSub (dVar 1) (dC (.int 1))) dNil))) dNil))) (tVal (dOp2 gEq (dVar 2) (dVar 4))))) (sRet (dC (.bl false))) sNext) (sRet (dAnd (dCall 3 0 S_is_whole (fun xs _ => xs) (dCons (dVar 3) (dCons (dC (.int 0)) (dCons (dC (.int 99)) dNil))) dNil) (dCall 3 0 S_is_whole (fun xs _ => xs) (dCons (dVar 5) (dCons (dC (.int 1)) (dCons (dC (.int 1000)) dNil))) dNil))))))
def S_is_order : List D → Mem → Res D := fun ds M => match decide (ds.length = 2) with
  | true => (f_is_order (startD 6 ds) M).fin
  | false => .bad
def f_summed : SF := (sSeq (sIf (tOrF (tNotF (tVal (dOp1 (gIsi tabLst) (dVar 0)))) (tNotF (tVal (dOpN gAll (dCons (dLc (iSeq (dVar 0)) (gN 7) tYesF (dCall 1 1 S_is_order (fun xs zs => xs ++ zs) (dCons (dVar 7) dNil) (dCons (dOpN gLen (dCons (dVar 1) dNil)) dNil)) [7]) dNil))))) (sRaise 8) sNext) (sSeq (sSet 2 (dOpN gList (dCons (dVar 1) dNil))) (sSeq (sFor (iSeq (dVar 0)) (gT 4 (gsCons 3 (gsCons 4 (gsCons 5 (gsCons 6 gsNil))))) (sSeq (sIxAug (dVar 2) (dVar 3) (dVar 6) gSub) (sIxAug (dVar 2) (dVar 5) (dVar 6) gIAdd))) (sRet (dVar 2)))))
def S_summed : List D → Mem → Res D := fun ds M => match decide (ds.length = 2) with
  | true => (f_summed (startD 8 ds) M).fin
  | false => .bad
def f__law_draw : SF := (sSeq (sSet 2 (dOp2 gIx (dVar 0) (dC (.int 0)))) (sSeq (sAsg (dOp2 gAdd (dOp2 gIx (dVar 0) (dC (.int 1))) (dC (.int 1))) (gIxSet (dVar 0) (dC (.int 1)))) (sSeq (sSet 3 (dOp2 gMod (dOp2 gIx (dVar 0) (dC (.int 1))) (dOpN gLen (dCons (dVar 2) dNil)))) (sSeq (sSet 4 (dOp2 gIx (dVar 2) (dVar 3))) (sSeq (sIf (tVal (dOp2 gGe (dVar 4) (dC (.int 1000000000000000000)))) (sSeq (sAsg (dOp2 gDiv (dVar 4) (dVar 1)) (gIxSet (dVar 2) (dVar 3))) (sRet (dOp2 gMod (dVar 4) (dVar 1)))) sNext) (sSeq (sSet 5 (dOp2 gMod (dOp2 gAdd (dVar 4) (dOp2 gMulX (dC (.int 104729)) (dOp2 gIx (dVar 0) (dC (.int 1))))) (dC (.int 4294967291)))) (sSeq (sSet 5 (dOp2 gMod (dOp2 gPow (dVar 5) (dC (.int 5))) (dC (.int 4294967279)))) (sRet (dOp2 gMod (dOp2 gDiv (dOp2 gMod (dOp2 gAdd (dOp2 gMulX (dOp2 gDiv (dVar 5) (dC (.int 64))) (dC (.int 69621))) (dVar 5)) (dC (.int 4294967231))) (dC (.int 8))) (dVar 1))))))))))
def S__law_draw : List D → Mem → Res D := fun ds M => match decide (ds.length = 2) with
  | true => (f__law_draw (startD 6 ds) M).fin
  | false => .bad
def f_enough : SF := (sRet (dOp2 gSub (dVar 0) (dVar 1)))
def S_enough : List D → Mem → Res D := fun ds M => match decide (ds.length = 2) with
  | true => (f_enough (startD 2 ds) M).fin
  | false => .bad
def f_in_common : SF := (sSeq (sSet 2 (dOp2 gSub (dOp2 gMulX (dC (.int 2)) (dCall 2 0 S_enough (fun xs _ => xs) (dCons (dVar 0) (dCons (dVar 1) dNil)) dNil)) (dVar 0))) (sRet (dTup (dCons (dVar 2) (dCons (dOp2 gSub (dVar 2) (dVar 1)) dNil)))))
def S_in_common : List D → Mem → Res D := fun ds M => match decide (ds.length = 2) with
  | true => (f_in_common (startD 3 ds) M).fin
  | false => .bad
def f__law_whole : SF := (sRet (dAnd (dOp1 (gIsi tabInt) (dVar 0)) (dNot (dOp1 (gIsi tabBool) (dVar 0)))))
def S__law_whole : List D → Mem → Res D := fun ds M => match decide (ds.length = 1) with
  | true => (f__law_whole (startD 1 ds) M).fin
  | false => .bad
def f__law_pick : SF := (sRet (dOp2 gIx (dVar 1) (dCall 2 0 S__law_draw (fun xs _ => xs) (dCons (dVar 0) (dCons (dOpN gLen (dCons (dVar 1) dNil)) dNil)) dNil)))
def S__law_pick : List D → Mem → Res D := fun ds M => match decide (ds.length = 2) with
  | true => (f__law_pick (startD 2 ds) M).fin
  | false => .bad
def f_look_order : SF := (sIf (tNotF (tVal (dCall 1 1 S_is_order (fun xs zs => xs ++ zs) (dCons (dVar 0) dNil) (dCons (dVar 1) dNil)))) (sRaise 8) sNext)
def S_look_order : List D → Mem → Res D := fun ds M => match decide (ds.length = 2) with
  | true => (f_look_order (startD 2 ds) M).fin
  | false => .bad
def f_place_of : SF := (sSeq (sDrop (dCall 1 0 S_look_order (fun xs _ => xs ++ [(.int 8)]) (dCons (dVar 0) dNil) dNil)) (sRet (dSl (dVar 0) oNone (oSome (dC (.int 2))))))
def S_place_of : List D → Mem → Res D := fun ds M => match decide (ds.length = 1) with
  | true => (f_place_of (startD 1 ds) M).fin
  | false => .bad
def f__law_is : SF := (sRet (dAnd (dOp1 (gIsi tabBool) (dVar 0)) (dOp2 gEq (dVar 0) (dVar 1))))
def S__law_is : List D → Mem → Res D := fun ds M => match decide (ds.length = 2) with
  | true => (f__law_is (startD 2 ds) M).fin
  | false => .bad
def f_clash : SF := (sSeq (sDrop (dCall 1 0 S_look_order (fun xs _ => xs ++ [(.int 8)]) (dCons (dVar 0) dNil) dNil)) (sSeq (sDrop (dCall 1 0 S_look_order (fun xs _ => xs ++ [(.int 8)]) (dCons (dVar 1) dNil) dNil)) (sRet (dAnd (dOp2 gEq (dSl (dVar 0) oNone (oSome (dC (.int 2)))) (dSl (dVar 1) oNone (oSome (dC (.int 2))))) (dOp2 gNe (dVar 0) (dVar 1))))))
def S_clash : List D → Mem → Res D := fun ds M => match decide (ds.length = 2) with
  | true => (f_clash (startD 2 ds) M).fin
  | false => .bad
def f_look_number : SF := (sIf (tNotF (tVal (dCall 3 0 S_is_whole (fun xs _ => xs) (dCons (dVar 0) (dCons (dVar 1) (dCons (dVar 2) dNil))) dNil))) (sRaise 7) sNext)
def S_look_number : List D → Mem → Res D := fun ds M => match decide (ds.length = 3) with
  | true => (f_look_number (startD 3 ds) M).fin
  | false => .bad
def f_checked : SF := (sSeq (sIf (tOrF (tNotF (tVal (dOp1 (gIsi tabTup) (dVar 0)))) (tOrF (tVal (dOp2 gNe (dOpN gLen (dCons (dVar 0) dNil)) (dC (.int 2)))) (tNotF (tVal (dCall 1 1 S_is_order (fun xs zs => xs ++ zs) (dCons (dOp2 gIx (dVar 0) (dC (.int 0))) dNil) (dCons (dVar 3) dNil)))))) (sRet (dC (.bl false))) sNext) (sSeq (sSet 4 (dOp2 gIx (dVar 0) (dC (.int 1)))) (sSeq (sIf (tOrF (tNotF (tVal (dOp1 (gIsi tabTup) (dVar 4)))) (tNotF (tVal (dOpN gAll (dCons (dLc (iSeq (dVar 4)) (gN 6) tYesF (dCall 3 0 S_is_whole (fun xs _ => xs) (dCons (dVar 6) (dCons (dC (.int 0)) (dCons (dOp2 gSub (dVar 1) (dC (.int 1))) dNil))) dNil) [6]) dNil))))) (sRet (dC (.bl false))) sNext) (sSeq (sSet 5 (dOp2 gEq (dSortSet (dVar 4)) (dOpN gList (dCons (dVar 4) dNil)))) (sRet (dAnd (dVar 5) (dOp2 gGe (dOpN gLen (dCons (dVar 4) dNil)) (dCall 2 0 S_enough (fun xs _ => xs) (dCons (dVar 1) (dCons (dVar 2) dNil)) dNil))))))))
def S_checked : List D → Mem → Res D := fun ds M => match decide (ds.length = 4) with
  | true => (f_checked (startD 7 ds) M).fin
  | false => .bad
end Fl

/-! sets of ints by a comprehension (turned from the kit's sets of truth values) -/
namespace Fl
open PySem PySem.Spec PyProof.Rows L2
section
variable {X : Cx}
theorem addI_ok {pn : List (Addr × Obj)} {ρ : L2.St} {H : Hp} {s : Shared} {E : Value → Shared → Prop} {D : Addr} {S : Int → Bool} {n : Nat} {y : Int} {tk0 : Tok} {Q : Value → Shared → Prop} (I : L2.Inv X pn ρ H s) (hD : H D = some (SetO X.w D S n)) (room : n + 1 < scanBound)
    (h : ∀ t', L2.Inv X pn ρ (upd H D (SetO X.w D (fun j => S j || decide (j = y)) (if S y = true then n else n + 1))) t' → Q .none t') : wpAny (model X.prog X.w) X.A (call (.builtin "set.add") [.ref D, .int y tk0]) Q E s := by
  have R := setO_get I hD
  refine setR_add R room fun h' sb new => ?_
  have he : ∃ u, h'.get? D = some u := by
    have ⟨o, _, _, _, ho, _⟩ := new
    exact ⟨o, ho⟩
  exact h _ (I.write (e := D) (t' := s.toks + 1) (by rw [hD]; trivial) (.inl rfl) (fun b u hb hu => (sb.2 b hb).trans hu) he (setO_new new))
def tScI (w : World) (wi : TI) (g : TG) (tt : TT) (te : TE) (vs : List Nat) : TE := fun ρ H Q => wi ρ H fun J G1 => ∀ D, G1 D = none → ∃ W : Nat → Nat → Hp → Prop, (∃ m, W 0 m (upd G1 D (SetO w D (fun _ => false) 0))) ∧ ∀ i m H, W i m H →
  (J.stop i H ∧ Q (.ref D) H) ∨ (J.go i H ∧ ∃ Nx : Hp → Prop, (∀ G', Nx G' → ∃ m', m' < m ∧ W (i + 1) m' G') ∧ ∀ x G', J.yld i H x G' → g x (wipe ρ vs) G' fun ρ2 G2 => wipe ρ2 vs = wipe ρ vs ∧ tt ρ2 G2 fun b G3 =>
    if b = true then te ρ2 G3 fun y G4 => ∃ (c : Int) (S : Int → Bool) (n : Nat), y = .int c ∧ G4 D = some (SetO w D S n) ∧ n + 1 < scanBound ∧ Nx (upd G4 D (SetO w D (fun j => S j || decide (j = c)) (if S c = true then n else n + 1))) else Nx G3)
theorem scI_core {pn : List (Addr × Obj)} {s : Shared} {ρ : L2.St} {H : Hp} {Q : VK} {elt tg iter : Expr} {ifs : List Expr} {scope : Scope} {own : List (Str × Nat)} {pos pos' : Pos} {wi : TI} {g : TG} {tt : TT} {te : TE} {use : Option (Value → Sem Unit)} {Qf : Value → Shared → Prop}
    (hc : X.calm = true) (hN : X.N.Nodup) (I : L2.Inv X pn ρ H s) (hi : PI X tg iter wi) (ok : BlkOk X.N X.env.scope scope own)
    (hg : ∀ (s : Shared) (H : Hp) (C : Addr) (cl : List (Str × Addr)) (fp : List Addr), PG (X.blk s H scope (compEnvC scope cl C X.env) fp) tg g) (ht : ∀ (s : Shared) (H : Hp) (C : Addr) (cl : List (Str × Addr)) (fp : List Addr), PTs (X.blk s H scope (compEnvC scope cl C X.env) fp) ifs tt)
    (he : ∀ (s : Shared) (H : Hp) (C : Addr) (cl : List (Str × Addr)) (fp : List Addr), PE (X.blk s H scope (compEnvC scope cl C X.env) fp) elt te) (hs : ∀ x, foldedSetIterable iter X.env x = pure x)
    (h : tScI X.w wi g tt te (own.map (·.2)) ρ H Q)
    (hRR : ∀ D C t' m G', L2.Inv X pn ρ G' t' → Q (.ref D) G' → t'.heap.Ns C m → FpOk X pn G' C → compPost (model X.prog X.w) X.A X.xe use Qf (.ref D) C (.ok .next) t') :
    wpAny (model X.prog X.w) X.A (comprehension (.SetComp elt [⟨tg, iter, ifs, 0⟩] scope pos) scope X.env pos' (newSet (.type "set")) false (eval iter X.env) use) Qf X.xe s := by
  have hfree : ∀ y ∈ scope.names, y.2 = .free → ∃ c, X.env.cells.lookup y.1 = some c := fun y hy e => by
    rcases ok.free y hy e with k | k
    · exact I.ok.has _ (.inl k)
    · exact I.ok.has _ (.inr k)
  refine wpAny_comprehension_free (use := use) rfl hs (closure_ok hfree) ok.kind (fun y hy e => by rw [ok.uniq y hy, e])
    (thn (hi.run pn s ρ H _ I h) fun xv t1 hx => thn hx fun itv t2 h2 => ?_)
  obtain ⟨it, fp, tn, J, G2, e, J2, T, sg2, f2, q⟩ := h2
  subst e
  refine PpSet.newSet_ok (newEnv_comp ?_)
  generalize hD : t2.heap.objs.size = D
  have hDn : G2 D = none := J2.hok.fresh (Nat.le_of_eq hD)
  obtain ⟨W, ⟨m0, w0⟩, turn⟩ := q D hDn
  -- the new list
  generalize hs3 : ({ t2 with heap := t2.heap.push { cls := .type "set", dict := none, data := .set #[] 0 (.fresh 0 0 (!X.w.params.followText "set-order")) } } : Shared) = t3
  have J3 : L2.Inv X pn ρ (upd G2 D (SetO X.w D (fun _ => false) 0)) t3 := by
    rw [← hs3]
    refine J2.laid (t' := t2.toks) (fun b o e => Heap.get?_push_of_some _ e) (Nat.le_of_eq hD) ?_
    rw [← hD]
    exact setO_new (setR_fresh X.w)
  have h3 : t3.heap = t2.heap.push { cls := .type "set", dict := none, data := .set #[] 0 (.fresh 0 0 (!X.w.params.followText "set-order")) } := by rw [← hs3]
  have sz : ∀ b ∈ fp, b < t2.heap.objs.size := fun b hb => by
    obtain ⟨o, e, _⟩ := T.obj _ _ sg2 b hb
    exact Heap.lt_size e
  have f3 : ∀ b ∈ fp, FpOk X pn (upd G2 D (SetO X.w D (fun _ => false) 0)) b ∧ b < t3.heap.objs.size := fun b hb => by
    have hlt := sz b hb
    refine ⟨⟨?_, (f2 b hb).2⟩, by rw [h3, Heap.size_push]; exact Nat.lt_succ_of_lt hlt⟩
    rw [upd_ne (by rw [← hD]; exact Nat.ne_of_lt hlt)]
    exact (f2 b hb).1
  have sg3 : tn 0 t3.heap := T.keep _ _ _ sg2 fun b _ o e => by rw [h3]; exact Heap.get?_push_of_some _ e
  have J4 := block_start J3 ok hN f3
  have pg := hg t3 (upd G2 D (SetO X.w D (fun _ => false) 0)) t3.heap.objs.size (cellsFrom (t3.heap.objs.size + 1) scope.names (cloFrom X.env.cells scope.names [])) fp
  have pt := ht t3 (upd G2 D (SetO X.w D (fun _ => false) 0)) t3.heap.objs.size (cellsFrom (t3.heap.objs.size + 1) scope.names (cloFrom X.env.cells scope.names [])) fp
  have pe := he t3 (upd G2 D (SetO X.w D (fun _ => false) 0)) t3.heap.objs.size (cellsFrom (t3.heap.objs.size + 1) scope.names (cloFrom X.env.cells scope.names [])) fp
  show codeAny _ _ (.compStart (.SetComp elt [⟨tg, iter, ifs, 0⟩] scope pos) 0 (.ref it) (.ref D) (compEnvC scope (cellsFrom (t3.heap.objs.size + 1) scope.names (cloFrom X.env.cells scope.names [])) t3.heap.objs.size X.env)) (compPost (model X.prog X.w) X.A X.xe use Qf (.ref D) t3.heap.objs.size) { t3 with heap := pushCells (t3.heap.push { cls := .type "dict", data := .dict #[] }) scope.names }
  have nfp : ∀ b ∈ fp, (upd G2 D (SetO X.w D (fun _ => false) 0)) b = none := fun b hb => (f3 b hb).1.1
  generalize hce : compEnvC scope (cellsFrom (t3.heap.objs.size + 1) scope.names (cloFrom X.env.cells scope.names [])) t3.heap.objs.size X.env = ce at J4 pg pt pe ⊢
  have cL : ce.locals = t3.heap.objs.size := by subst hce; rfl
  generalize hH3 : upd G2 D (SetO X.w D (fun _ => false) 0) = G3 at J3 J4 pg pt pe w0 nfp f3
  generalize hs4 : ({ t3 with heap := pushCells (t3.heap.push { cls := .type "dict", data := .dict #[] }) scope.names } : Shared) = t4 at J4 ⊢
  have sg4 : tn 0 t4.heap := T.keep _ _ _ sg3 fun b _ o e => by rw [← hs4]; exact pushCells_keeps _ _ _ _ (Heap.get?_push_of_some _ e)
  have stat : ∀ {ρ' : L2.St} {G' : Hp} {t' : Shared}, L2.Inv (X.blk t3 G3 scope ce fp) [] ρ' G' t' → (∀ b ∈ fp, G' b = none) → ∀ b ∈ fp, FpOk (X.blk t3 G3 scope ce fp) [] G' b := fun {ρ' G' t'} I' hn b hb =>
    ⟨hn b hb, (I'.ok.exf b hb).1, I'.ok.exfs b hb, .inl hb, fun x c e => (I'.ok.exf b hb).2 x c e, fun p hp => absurd (show p ∈ ([] : List (Addr × Obj)) ++ [] from hp) (by simp)⟩
  have loop : codeAny (model X.prog X.w) X.A (.compLoop (.SetComp elt [⟨tg, iter, ifs, 0⟩] scope pos) 0 (.ref it) (.ref D) ce) (compPost (model X.prog X.w) X.A X.xe use Qf (.ref D) t3.heap.objs.size) t4 := by
    refine PpSet.compLoopS_any (fun n t' => ∃ i G', L2.Inv (X.blk t3 G3 scope ce fp) [] (wipe ρ (own.map (·.2))) G' t' ∧ tn i t'.heap ∧ (∀ b ∈ fp, G' b = none) ∧ W i n G') ?_ m0 ⟨0, G3, J4, sg4, nfp, w0⟩
    rintro n t5 ⟨i, G5, J5, sg5, n5, w5⟩
    rcases turn i n G5 w5 with ⟨stop, qq⟩ | ⟨go, Nx, hNx, step⟩
    · have td := T.done (X.blk t3 G3 scope ce fp) rfl rfl rfl hc i [] t5 _ G5 (fun _ _ => False) J5 (stat J5 n5) sg5 stop
      refine thnF td fun r t6 ⟨hr, J6⟩ => ?_
      subst hr
      -- back in the def's context
      have J7 : L2.Inv X pn ρ G5 t6 := J3.call' (ch := fp) J6.os J6.base J6.hok J6.bare fun b hb => ⟨(f3 b hb).1.2.2.2.1, (f3 b hb).1.2.1, (f3 b hb).1.2.2.2.2.1, (f3 b hb).1.2.2.2.2.2⟩
      have nC : G5 t3.heap.objs.size = none := by
        have z : G5 ce.locals = none := J6.free
        rw [cL] at z
        exact z
      obtain ⟨m, hn, _⟩ := J6.loc
      have hn : t6.heap.Ns ce.locals m := hn
      rw [cL] at hn
      exact hRR D t3.heap.objs.size t6 m G5 J7 qq hn (J3.fpOk (Nat.le_refl _) nC)
    · have ti := T.item (X.blk t3 G3 scope ce fp) rfl rfl rfl hc i [] t5 _ G5 (fun _ _ => False) J5 (stat J5 n5) sg5 go
      refine thnF ti fun r t6 ⟨u, hr, h6⟩ => ?_
      subst hr
      refine thnF h6 fun _ t7 ⟨x, G7, J7, r7, y7, sg7, n7⟩ => ?_
      have J7' := J7.pinned (stat J7 n7) (T.obj _ _ sg7)
      refine thnF (pg.run _ t7 _ G7 x u _ J7' r7 (step x G7 y7)) fun _ t8 ⟨ρ8, G8, J8, hw8, q8⟩ => ?_
      refine thnF (pt.run _ t8 ρ8 G8 _ J8 q8) fun b t9 ⟨G9, J9, q9⟩ => ?_
      -- the turn's end
      have fin : ∀ {t' : Shared} {G' : Hp}, L2.Inv (X.blk t3 G3 scope ce fp) ([] ++ pinsAt fp t7.heap) ρ8 G' t' → Nx G' → ∃ m, m < n ∧ ∃ i G', L2.Inv (X.blk t3 G3 scope ce fp) [] (wipe ρ (own.map (·.2))) G' t' ∧ tn i t'.heap ∧ (∀ b ∈ fp, G' b = none) ∧ W i m G' := fun {t' G'} I' nx => by
        obtain ⟨m', hm, w'⟩ := hNx G' nx
        have pin' : ∀ b ∈ fp, ∀ o, t7.heap.get? b = some o → t'.heap.get? b = some o ∧ G' b = none := fun b hb o e =>
          let z := I'.pin (b, o) (List.mem_append_right _ (List.mem_append_right _ (mem_pinsAt hb e)))
          ⟨z.1, z.2.1⟩
        have hl : (wipe ρ (own.map (·.2))).length = ρ8.length := by rw [← hw8, wipe_length]
        refine ⟨m', hm, i + 1, G', (I'.unpinned (pins := [])).weak hl (fun j v e => ?_), T.keep _ _ _ sg7 fun b hb o e => (pin' b hb o e).1, fun b hb => ?_, w'⟩
        · rw [← hw8] at e
          exact (wipe_some e).1
        · obtain ⟨o, e, _⟩ := T.obj _ _ sg7 b hb
          exact (pin' b hb o e).2
      cases b with
      | false =>
        simp only [Bool.false_eq_true, if_false] at q9 ⊢
        exact fin J9 q9
      | true =>
        simp only [if_true] at q9 ⊢
        refine thnF (pe.run _ t9 ρ8 G9 _ J9 q9) fun z t10 ⟨yv, H10, J10, r10, cb, S0, n0, ey, hD10, hz10, nx⟩ => ?_
        subst ey
        obtain ⟨tk1, rfl⟩ := r10
        exact addI_ok (X := X.blk t3 G3 scope ce fp) J10 hD10 hz10 fun t11 J11 => fin J11 nx
  exact PpSet.codeAny_compStart_set loop (T.self X.A 0 _ _ _ sg4 loop)

theorem pe_scI {elt tg iter : Expr} {ifs : List Expr} {scope : Scope} {own : List (Str × Nat)} {pos : Pos} {wi : TI} {g : TG} {tt : TT} {te : TE} (hc : X.calm = true) (hN : X.N.Nodup) (hi : PI X tg iter wi) (ok : BlkOk X.N X.env.scope scope own)
    (hg : ∀ (s : Shared) (G : Hp) (C : Addr) (cl : List (Str × Addr)) (fp : List Addr), PG (X.blk s G scope (compEnvC scope cl C X.env) fp) tg g) (ht : ∀ (s : Shared) (G : Hp) (C : Addr) (cl : List (Str × Addr)) (fp : List Addr), PTs (X.blk s G scope (compEnvC scope cl C X.env) fp) ifs tt)
    (he : ∀ (s : Shared) (G : Hp) (C : Addr) (cl : List (Str × Addr)) (fp : List Addr), PE (X.blk s G scope (compEnvC scope cl C X.env) fp) elt te) (hs : ∀ x, foldedSetIterable iter X.env x = pure x) :
    PE X (.SetComp elt [⟨tg, iter, ifs, 0⟩] scope pos) (tScI X.w wi g tt te (own.map (·.2))) := by
  refine ⟨fun pn s ρ H Q I h => ?_⟩
  rw [PpSet.eval_SetComp]
  refine scI_core hc hN I hi ok hg ht he hs h fun D C t' m G' I' q hn f => ⟨m, hn, fun h'' sb => ?_⟩
  obtain ⟨f0, f1, f2, f3, f4, f5⟩ := f
  exact ⟨.ref D, G', I'.turned (t' := t'.toks) (fun b o hb e => (sb.2 b hb).trans e) f0 f1 f3 f4 f5, rfl, q⟩
end
/-! ### sorted({.. for .. in .. if ..}) of numbers -/
def lcI (nx : ItF) (g : GF) (tt : TF) (te : EF) (s : Sl) : Nat → Nat → Mem → Res (List Int)
  | 0, _, _ => .bad
  | k + 1, i, M => match nx i M with
    | none => .bad
    | some none => .ok [] M
    | some (some d) => (g d s M).noX.bind fun s1 M1 => (tt s1 M1).noX.bind fun b M2 => match b with
      | true => (te s1 M2).noX.bind fun y M3 => (match y with
        | .int z => (lcI nx g tt te s k (i + 1) M3).bind fun ys M4 => .ok (z :: ys) M4
        | _ => .bad)
      | false => lcI nx g tt te s k (i + 1) M2
def finI (ns : List Int) (M : Mem) : Res D := match decide (ns.length < 64) with
  | true => .ok (.ref M.length) (M ++ [.lst ((sortNub ns).map .int)])
  | false => .bad
def dSortSc (fi : IF) (g : GF) (tt : TF) (te : EF) (is : List Nat) : EF := fun s M => (fi s M).bind fun nx M1 => match decide (nx.2 ≤ 1000) with
  | true => (lcI nx.1 g tt te (wipeD s is) nx.2 0 M1).bind finI
  | false => .bad
section
variable {X : Cx} {L : Lay} {W : WX}
theorem outs_lw {w : World} {α : List Addr} {H : Hp} {p : Addr} {o : HO} {S : Int → Bool} {c : Nat} (h : H p = some (SetO w p S c)) : Lw α H α (upd H p o) :=
  ⟨⟨[], by simp⟩, fun a ys e => by
    have ne : a ≠ p := fun z => by rw [z, h] at e; cases e
    rw [upd_ne ne]; exact e, fun a q ys e => by
    have ne : a ≠ p := fun z => by rw [z, h] at e; cases e
    rw [upd_ne ne]; exact e⟩
theorem outs_rel {K : PySem.W.Frag} {w : World} {α : List Addr} {M : Mem} {H : Hp} {p : Addr} {o : HO} {S : Int → Bool} {c : Nat} (r : Rel K L α M H) (h : H p = some (SetO w p S c)) (hp : p ∉ α) : Rel K L α M (upd H p o) :=
  ⟨r.len, r.nd, fun i x a h1 h2 => (r.ob i x a h1 h2).stayW (outs_lw h) (by rw [upd_ne (fun z => hp (by rw [← z]; exact List.mem_of_getElem? h2))]) (fun dd fs _ e => by
    have ne : dd ≠ p := fun z => by rw [z, h] at e; cases e
    rw [upd_ne ne]; exact e) fun _ _ z => z⟩
theorem mem_push {acc : List Int} {k : Int} {c : Nat} {w : World} {D : Addr} : SetO w D (fun j => (fun j => decide (j ∈ acc)) j || decide (j = k)) c = SetO w D (fun j => decide (j ∈ acc ++ [k])) c := by
  congr 1
  funext j
  simp
theorem scI_go {K : PySem.W.Frag} {w : World} {fi : IF} {g : GF} {tt : TF} {te : EF} {is : List Nat} {ρ : L2.St} {H : Hp} {Q : VK} (h : LE K L W (dSortSc fi g tt te is) ρ H Q) :
    tScI w (LI K L W fi) (LG K L W0 is g) (LT K L W0 tt) (LE K L W0 te) is ρ H fun v H' => ∃ D ns c, v = .ref D ∧ H' D = some (SetO w D (fun j => decide (j ∈ ns)) c) ∧ c ≤ ns.length ∧ ns.length < 64 ∧
      ∃ α M H0 α0 w', D ∉ α ∧ Le α0 H0 α H' ∧ Rel K L α M H' ∧ PostR K L (Rep K) (finI ns M) α0 H0 Q w' := by
  obtain ⟨α, M, s, r, sl, h⟩ := h
  refine ⟨α, M, s, r, sl, (PostR.bind (R := RIt _ _) h).imp fun J H1 ⟨nx, α1, M1, l1, r1, it, h1⟩ D hD => ?_⟩
  dsimp only at h1
  split at h1
  · rename_i hz
    have hz := dt hz
    have sl1 := (sl.le l1).wipe is
    have nd : D ∉ α1 := fun hm => by
      obtain ⟨u, hu, _⟩ := r1.mem hm
      rw [hD] at hu; cases hu
    refine ⟨fun i m H => ∃ α M acc c, i + m = nx.2 ∧ acc.length ≤ i ∧ Le α1 H1 α H ∧ Rel K L α M H ∧ H D = some (SetO w D (fun j => decide (j ∈ acc)) c) ∧ c ≤ acc.length ∧ D ∉ α ∧
      PostR K L (Rep K) ((lcI nx.1 g tt te (wipeD s is) m i M).bind fun ys M2 => finI (acc ++ ys) M2) α1 H1 Q (fun c d H' => W c d ρ H'), ⟨nx.2, ?_⟩, ?_⟩
    · refine ⟨α1, M1, [], 0, by omega, Nat.le_refl _, out_le (Le.refl _ _) hD nd, r1.add hD, ?_, Nat.le_refl _, nd, h1⟩
      rw [upd_same]
      congr 2
    · rintro i m H ⟨α, M, acc, c, hn, hl, le, r, hH, hcl, ndα, hp⟩
      cases m with
      | zero => exact hp.elim
      | succ k =>
        have q := it i α H M le r
        unfold lcI at hp
        cases e : nx.1 i M with
        | none => rw [e] at hp; exact hp.elim
        | some o =>
          rw [e] at hp q
          cases o with
          | none =>
            have hp' : PostR K L (Rep K) (finI (acc ++ []) M) α1 H1 Q (fun c d H' => W c d ρ H') := hp
            rw [List.append_nil] at hp'
            have h64 : acc.length < 64 := by
              unfold finI at hp'
              split at hp'
              · rename_i z; exact dt z
              · exact hp'.elim
            exact .inl ⟨q, D, acc, c, rfl, hH, hcl, h64, α, M, H1, α1, _, ndα, le, r, hp'⟩
          | some d =>
            obtain ⟨q1, q2⟩ := q
            refine .inr ⟨q1, fun H => ∃ α M acc c, (i + 1) + k = nx.2 ∧ acc.length ≤ i + 1 ∧ Le α1 H1 α H ∧ Rel K L α M H ∧ H D = some (SetO w D (fun j => decide (j ∈ acc)) c) ∧ c ≤ acc.length ∧ D ∉ α ∧
              PostR K L (Rep K) ((lcI nx.1 g tt te (wipeD s is) k (i + 1) M).bind fun ys M2 => finI (acc ++ ys) M2) α1 H1 Q (fun c d H' => W c d ρ H'), fun H' z => ⟨k, Nat.lt_succ_self _, z⟩, fun x H2 y => ?_⟩
            obtain ⟨lx, r2, rd⟩ := q2 x H2 y
            have le2 := le.trans lx
            have keepD : ∀ {α α' : List Addr} {H H' : Hp} {M' : Mem}, Le α H α' H' → Rel K L α' M' H' → H D = some (SetO w D (fun j => decide (j ∈ acc)) c) → D ∉ α → H' D = some (SetO w D (fun j => decide (j ∈ acc)) c) ∧ D ∉ α' := fun {α α' H H' M'} l r' e n => by
              refine ⟨l.keep _ _ e n, fun hm => ?_⟩
              obtain ⟨β, eβ, fβ⟩ := l.ext
              rw [eβ] at hm
              rcases List.mem_append.mp hm with z | z
              · exact n z
              · rw [fβ D z] at e; cases e
            obtain ⟨hH2, nd2⟩ := keepD lx r2 hH ndα
            dsimp only at hp
            rw [bind_bind] at hp
            refine ⟨α, M, wipeD s is, d, r2, sl1.le le2, rd, (nox_bind (R := RSl K is (L2.wipe ρ is)) hp _).imp fun σ2 H3 ⟨s1, α3, M3, l3, r3, ⟨q3, q4⟩, h3⟩ _ => ⟨q4.wipe, ?_⟩⟩
            obtain ⟨hH3, nd3⟩ := keepD l3 r3 hH2 nd2
            have le3 := le2.trans l3
            dsimp only at h3
            rw [bind_bind] at h3
            refine ⟨α3, M3, s1, r3, q3, (nox_bind (R := RB) h3 _).imp fun b H4 ⟨b', α4, M4, l4, r4, eb, h4⟩ => ?_⟩
            obtain ⟨hH4, nd4⟩ := keepD l4 r4 hH3 nd3
            have le4 := le3.trans l4
            subst eb
            dsimp only at h4
            cases b' with
            | false => exact iteF ⟨α4, M4, acc, c, by omega, by omega, le4, r4, hH4, hcl, nd4, h4⟩
            | true =>
              refine iteT ?_
              dsimp only at h4
              rw [bind_bind] at h4
              refine ⟨α4, M4, s1, r4, q3.le l4, (nox_bind (R := Rep K) h4 _).imp fun y H5 ⟨dy, α5, M5, l5, r5, ry, h5⟩ => ?_⟩
              obtain ⟨hH5, nd5⟩ := keepD l5 r5 hH4 nd4
              have le5 := le4.trans l5
              dsimp only at h5
              cases dy <;> try exact h5.elim
              rename_i z
              obtain rfl := ry.int
              refine ⟨z, _, c, rfl, hH5, ?_, α5, M5, acc ++ [z], (if decide (z ∈ acc) = true then c else c + 1), by omega, by rw [List.length_append, List.length_singleton]; omega, out_le le5 hD nd5, outs_rel r5 hH5 nd5, ?_, ?_, nd5, ?_⟩
              · show c + 1 < 4096
                omega
              · rw [upd_same, mem_push]
              · rw [List.length_append, List.length_singleton]
                split <;> omega
              · rw [bind_bind] at h5
                have ea : ∀ ys : List Int, acc ++ [z] ++ ys = acc ++ (z :: ys) := fun ys => by simp
                simp only [ea]
                exact h5
  · exact h1.elim
theorem fe_sortSc {p q pos : Pos} {elt tg iter : Expr} {ifs : List Expr} {scope : Scope} {own : List (Str × Nat)} {fi : IF} {g : GF} {tt : TF} {te : EF} {is : List Nat} (hc : X.calm = true) (hN : X.N.Nodup) (hG : Gl X "sorted") (hM : X.mg "sorted" = none) (hi : FI X L W tg iter fi) (ok : BlkOk X.N X.env.scope scope own) (ei : own.map (·.2) = is)
    (hg : ∀ (s : Shared) (G : Hp) (C : Addr) (cl : List (Str × Addr)) (fp : List Addr), FG (X.blk s G scope (compEnvC scope cl C X.env) fp) L W0 is tg g) (ht : ∀ (s : Shared) (G : Hp) (C : Addr) (cl : List (Str × Addr)) (fp : List Addr), FTs (X.blk s G scope (compEnvC scope cl C X.env) fp) L W0 ifs tt)
    (he : ∀ (s : Shared) (G : Hp) (C : Addr) (cl : List (Str × Addr)) (fp : List Addr), FE (X.blk s G scope (compEnvC scope cl C X.env) fp) L W0 elt te) (hs : ∀ x, foldedSetIterable iter X.env x = pure x := by intro _; rfl)
    (na : starEach [.SetComp elt [⟨tg, iter, ifs, 0⟩] scope q] X.env = (false, eval (.SetComp elt [⟨tg, iter, ifs, 0⟩] scope q) X.env) :: starEach [] X.env := by rfl) :
    FE X L W (.Call (.Name "sorted" p) [.SetComp elt [⟨tg, iter, ifs, 0⟩] scope q] [] pos) (dSortSc fi g tt te is) := by
  subst ei
  refine ⟨fun pn s ρ H Q I h => ?_⟩
  refine PyProof.Rows.Call_ (ld_blt I hG hM PyProof.Rows.boot_sorted ?_)
  refine PyProof.Rows.callWith_builtin1 (PyProof.Rows.args_cons ?_ na) na rfl
  refine thn ((pe_scI hc hN hi ok hg ht he hs).run pn s ρ H _ I (scI_go h)) fun v s1 ⟨x, H1, I1, rx, D, ns, c, ex, hD, hcl, h64, α, M, H0, α0, w', ndα, l1, r1, h1⟩ => ?_
  subst ex
  cases rx
  refine PyProof.Rows.args_nil ?_
  refine cr_sortedSet hc pn _ ρ _ [.ref D] _ Q I1 (.cons rfl .nil) ⟨D, _, c, rfl, hD, by omega, fun ms p hp hms _ hpn => ?_⟩
  have em := sortNub_eq (ns := ns) hp fun k => by rw [hms k, decide_eq_true_iff]
  unfold finI at h1
  rw [decide_eq_true h64] at h1
  rw [em]
  exact h1 _ _ _ (l1.trans (Le.new hpn)) (r1.new (o := .lst _) hpn ⟨_, upd_same, reps_int⟩) (rep_ref (by rw [← r1.len]; simp))
end
end Fl

namespace Fl
open PySem
def f_look_lot : SF := (sSeq (sSet 2 (dAnd (dOp1 (gIsi tabLst) (dVar 1)) (dChain gLe gLe (dC (.int 2)) (dOpN gLen (dCons (dVar 1) dNil)) (dC (.int 8))))) (sSeq (sIf (tOrF (tNotF (tVal (dVar 2))) (tNotF (tVal (dOpN gAll (dCons (dLc (iSeq (dVar 1)) (gN 6) tYesF (dCall 3 0 S_is_whole (fun xs _ => xs) (dCons (dVar 6) (dCons (dC (.int 0)) (dCons (dC (.int 1000)) dNil))) dNil) [6]) dNil))))) (sRaise 9) sNext) (sSeq (sIf (tOrF (tNotF (tVal (dOp1 (gIsi tabLst) (dVar 0)))) (tNotF (tVal (dOpN gAll (dCons (dLc (iSeq (dVar 0)) (gN 4) tYesF (dCall 1 1 S_is_order (fun xs zs => xs ++ zs) (dCons (dVar 4) dNil) (dCons (dOpN gLen (dCons (dVar 1) dNil)) dNil)) [4]) dNil))))) (sRaise 8) sNext) (sSeq (sSet 3 (dLc (iSeq (dVar 0)) (gN 4) tYesF (dSl (dVar 4) oNone (oSome (dC (.int 2)))) [4])) (sIf (tVal (dOpN gAny (dCons (dLc (iSeq (dVar 3)) (gN 5) tYesF (dOp2 gGt (dBm tyLst (onLst gCount) (dVar 3) (dCons (dVar 5) dNil)) (dC (.int 1))) [5]) dNil))) (sRaise 8) sNext)))))
def S_look_lot : List D → Mem → Res D := fun ds M => match decide (ds.length = 2) with
  | true => (f_look_lot (startD 7 ds) M).fin
  | false => .bad
def f_able_ones : SF := (sRet (dOpN gSorted (dCons (dLc (iSeq (dVar 0)) (gN 3) (tAndF (tVal (dOp2 gEq (dOp2 gIx (dVar 3) (dC (.int 1))) (dOp2 gIx (dVar 2) (dOp2 gIx (dVar 3) (dC (.int 0)))))) (tVal (dOp2 gLe (dOp2 gIx (dVar 3) (dC (.int 3))) (dOp2 gIx (dVar 1) (dOp2 gIx (dVar 3) (dC (.int 0))))))) (dVar 3) [3]) dNil)))
def S_able_ones : List D → Mem → Res D := fun ds M => match decide (ds.length = 3) with
  | true => (f_able_ones (startD 4 ds) M).fin
  | false => .bad
def f_row_for : SF := (sSeq (sDrop (dCall 2 0 S_look_lot (fun xs _ => xs) (dCons (dVar 0) (dCons (dVar 1) dNil)) dNil)) (sSeq (sSet 2 (dOpN gList (dCons (dVar 1) dNil))) (sSeq (sSet 4 (dLc (iSeq (dVar 1)) (gN 3) tYesF (dC (.int 0)) [3])) (sSeq (sSet 5 (dLst dNil)) (sSeq (sSet 6 (dCall 3 0 S_able_ones (fun xs _ => xs) (dCons (dVar 0) (dCons (dVar 2) (dCons (dVar 4) dNil))) dNil)) (sSeq (sWhileL (tVal (dOp2 gNe (dVar 6) (dLst dNil))) (sSeq (sAsg (dOp2 gIx (dVar 6) (dC (.int 0))) (gT 4 (gsCons 3 (gsCons 7 (gsCons 8 (gsCons 9 gsNil)))))) (sSeq (sIxAug (dVar 2) (dVar 3) (dVar 9) gSub) (sSeq (sIxAug (dVar 2) (dVar 8) (dVar 9) gIAdd) (sSeq (sIxAug (dVar 4) (dVar 3) (dC (.int 1)) gIAdd) (sSeq (sDrop (dBm tyLst gAppend (dVar 5) (dCons (dOp2 gIx (dVar 6) (dC (.int 0))) dNil))) (sSet 6 (dCall 3 0 S_able_ones (fun xs _ => xs) (dCons (dVar 0) (dCons (dVar 2) (dCons (dVar 4) dNil))) dNil))))))) 100000) (sRet (dVar 5))))))))
def S_row_for : List D → Mem → Res D := fun ds M => match decide (ds.length = 2) with
  | true => (f_row_for (startD 10 ds) M).fin
  | false => .bad
def f_is_row : SF := (sSeq (sDrop (dCall 2 0 S_look_lot (fun xs _ => xs) (dCons (dVar 0) (dCons (dVar 1) dNil)) dNil)) (sSeq (sSet 2 (dOpN gList (dCons (dVar 1) dNil))) (sSeq (sSet 4 (dLc (iSeq (dVar 1)) (gN 3) tYesF (dC (.int 0)) [3])) (sSeq (sFor (iSeq (dVar 0)) (gT 4 (gsCons 3 (gsCons 5 (gsCons 6 (gsCons 7 gsNil))))) (sSeq (sIf (tOrF (tVal (dOp2 gNe (dVar 5) (dOp2 gIx (dVar 4) (dVar 3)))) (tVal (dOp2 gGt (dVar 7) (dOp2 gIx (dVar 2) (dVar 3))))) (sRet (dC (.bl false))) sNext) (sSeq (sIxAug (dVar 2) (dVar 3) (dVar 7) gSub) (sSeq (sIxAug (dVar 2) (dVar 6) (dVar 7) gIAdd) (sIxAug (dVar 4) (dVar 3) (dC (.int 1)) gIAdd))))) (sRet (dC (.bl true)))))))
def S_is_row : List D → Mem → Res D := fun ds M => match decide (ds.length = 2) with
  | true => (f_is_row (startD 8 ds) M).fin
  | false => .bad
def f_left_over : SF := (sSeq (sSet 2 (dCall 1 1 S_row_for (fun xs zs => xs ++ zs) (dCons (dVar 0) dNil) (dCons (dVar 1) dNil))) (sRet (dOpN gSorted (dCons (dLc (iSeq (dVar 0)) (gN 3) (tVal (dOp2 gNotIn (dVar 3) (dVar 2))) (dVar 3) [3]) dNil))))
def S_left_over : List D → Mem → Res D := fun ds M => match decide (ds.length = 2) with
  | true => (f_left_over (startD 4 ds) M).fin
  | false => .bad
def f_wanting : SF := (sSeq (sSet 2 (dCall 1 1 S_row_for (fun xs zs => xs ++ zs) (dCons (dVar 0) dNil) (dCons (dVar 1) dNil))) (sSeq (sSet 3 dNewK) (sSeq (sFor (iSeq (dSortSc (iSeq (dVar 0)) (gN 8) (tVal (dOp2 gNotIn (dVar 8) (dVar 2))) (dOp2 gIx (dVar 8) (dC (.int 0))) [8])) (gN 4) (sSeq (sSet 5 (dOpN gLen (dCons (dLc (iSeq (dVar 2)) (gN 8) (tVal (dOp2 gEq (dOp2 gIx (dVar 8) (dC (.int 0))) (dVar 4))) (dVar 8) [8]) dNil))) (sSeq (sSet 6 (dOp2 gAdd (dOp2 gIx (dVar 1) (dVar 4)) (dOpN gSum (dCons (dLc (iSeq (dVar 2)) (gN 8) (tVal (dOp2 gEq (dOp2 gIx (dVar 8) (dC (.int 2))) (dVar 4))) (dOp2 gIx (dVar 8) (dC (.int 3))) [8]) dNil)))) (sSeq (sAug 6 (dOpN gSum (dCons (dLc (iSeq (dVar 2)) (gN 8) (tVal (dOp2 gEq (dOp2 gIx (dVar 8) (dC (.int 0))) (dVar 4))) (dOp2 gIx (dVar 8) (dC (.int 3))) [8]) dNil)) gSub) (sSeq (sSet 7 (dLc (iSeq (dVar 0)) (gN 8) (tVal (dOp2 gEq (dSl (dVar 8) oNone (oSome (dC (.int 2)))) (dTup (dCons (dVar 4) (dCons (dVar 5) dNil))))) (dOp2 gIx (dVar 8) (dC (.int 3))) [8])) (sAsg (dIfE (tVal (dOp2 gEq (dVar 7) (dLst dNil))) (dTup (dCons (dVar 5) (dCons (dC .non) dNil))) (dTup (dCons (dVar 5) (dCons (dOp2 gSub (dOp2 gIx (dVar 7) (dC (.int 0))) (dVar 6)) dNil)))) (gIxSet (dVar 3) (dVar 4)))))))) (sRet (dVar 3)))))
def S_wanting : List D → Mem → Res D := fun ds M => match decide (ds.length = 2) with
  | true => (f_wanting (startD 9 ds) M).fin
  | false => .bad
end Fl

namespace Fl
open PySem PySem.Spec L2
/-! ### x, y = (a, b), x, y, z = (a, b, c): the names are set in turn -/
def sPar2 (i j : Nat) (a : AF) : SF := fun s M => (a s M).toS s fun ds M1 => match ds with
  | [x, y] => .nx ((s.set i (some x)).set j (some y)) M1
  | _ => .bad
def sPar3 (i j l : Nat) (a : AF) : SF := fun s M => (a s M).toS s fun ds M1 => match ds with
  | [x, y, z] => .nx (((s.set i (some x)).set j (some y)).set l (some z)) M1
  | _ => .bad
section
variable {X : Cx} {L : Lay} {W : WX}
theorem fs_par2 {i j : Nat} {x y : Str} {a b : Expr} {ta : AF} {px py pt pos : Pos} {kt k2 pt2} (hc : X.calm = true) (hN : X.N.Nodup) (hi : X.N[i]? = some x) (hj : X.N[j]? = some y) (hij : i ≠ j)
    (hx : X.env.scope.names.lookup x = some .local) (hy : X.env.scope.names.lookup y = some .local) (ha : FA X L W [a, b] ta)
    (hw : swappedStores [.Tuple [.Name x px, .Name y py] kt pt] (.Tuple [a, b] k2 pt2) X.env = pure (some [x, y]))
    (hs : swapsWithSole [.Tuple [.Name x px, .Name y py] kt pt] (.Tuple [a, b] k2 pt2) pos.line X.env = pure false := by rfl) :
    FS X L W (.Assign [.Tuple [.Name x px, .Name y py] kt pt] (.Tuple [a, b] k2 pt2) pos) (sPar2 i j ta) := psImp (ps_par hc hN hi hj hij hx hy ha hw hs) fun D σ H ⟨α, M, s, r, sl, q⟩ =>
  ⟨α, M, s, r, sl, (PostR.toS (R := Reps _) sl q).imp fun vs H1 ⟨ds, α1, M1, l1, r1, rs, h1⟩ => by
    dsimp only at h1
    split at h1
    · obtain ⟨v, w, e, r1', r2'⟩ := rs.two
      exact ⟨v, w, e, h1 α1 H1 _ (Le.refl _ _) r1 (((sl.le l1).set i r1').set j r2')⟩
    · exact h1.elim⟩
theorem reps_three {K : PySem.W.Frag} {α : List Addr} {H : Hp} {x y z : D} {vs : List V} (h : Reps K α H [x, y, z] vs) : ∃ u v w, vs = [u, v, w] ∧ Rep K α H x u ∧ Rep K α H y v ∧ Rep K α H z w := by
  unfold Reps at h
  obtain ⟨u, us, rfl, h1, h2⟩ := h
  obtain ⟨v, w, rfl, h3, h4⟩ := Reps.two h2
  exact ⟨u, v, w, rfl, h1, h3, h4⟩
theorem fs_par3 {i j l : Nat} {x y z : Str} {a b c : Expr} {ta : AF} {px py pz pt pos : Pos} {kt k2 pt2} (hc : X.calm = true) (hN : X.N.Nodup) (hi : X.N[i]? = some x) (hj : X.N[j]? = some y) (hl : X.N[l]? = some z) (hij : i ≠ j) (hil : i ≠ l) (hjl : j ≠ l)
    (hx : X.env.scope.names.lookup x = some .local) (hy : X.env.scope.names.lookup y = some .local) (hz : X.env.scope.names.lookup z = some .local) (ha : FA X L W [a, b, c] ta)
    (hw : swappedStores [.Tuple [.Name x px, .Name y py, .Name z pz] kt pt] (.Tuple [a, b, c] k2 pt2) X.env = pure (some [x, y, z]))
    (hs : swapsWithSole [.Tuple [.Name x px, .Name y py, .Name z pz] kt pt] (.Tuple [a, b, c] k2 pt2) pos.line X.env = pure false := by rfl) :
    FS X L W (.Assign [.Tuple [.Name x px, .Name y py, .Name z pz] kt pt] (.Tuple [a, b, c] k2 pt2) pos) (sPar3 i j l ta) := psImp (ps_par3 hc hN hi hj hl hij hil hjl hx hy hz ha hw hs) fun D σ H ⟨α, M, s, r, sl, q⟩ =>
  ⟨α, M, s, r, sl, (PostR.toS (R := Reps _) sl q).imp fun vs H1 ⟨ds, α1, M1, l1, r1, rs, h1⟩ => by
    dsimp only at h1
    split at h1
    · obtain ⟨u, v, w, e, r1', r2', r3'⟩ := reps_three rs
      exact ⟨u, v, w, e, h1 α1 H1 _ (Le.refl _ _) r1 ((((sl.le l1).set i r1').set j r2').set l r3')⟩
    · exact h1.elim⟩
end
@[simp] theorem sPar2_ap {i j : Nat} {a : AF} {s : Sl} {M : Mem} : sPar2 i j a s M = (a s M).toS s fun ds M1 => match ds with
  | [x, y] => .nx ((s.set i (some x)).set j (some y)) M1
  | _ => .bad := rfl
@[simp] theorem sPar3_ap {i j l : Nat} {a : AF} {s : Sl} {M : Mem} : sPar3 i j l a s M = (a s M).toS s fun ds M1 => match ds with
  | [x, y, z] => .nx (((s.set i (some x)).set j (some y)).set l (some z)) M1
  | _ => .bad := rfl
end Fl

namespace Fl
open PySem PySem.Spec L2
/-! ### dicts that are alike, their values data -/
def sameD (M : Mem) (x y : D) : Bool := match toPy M 8 x, toPy M 8 y with
  | some a, some b => SeqAt.shaped a && (SeqAt.shaped b && PyData.eqv a b)
  | _, _ => false
def alikeK {κ : Type} [DecidableEq κ] (M : Mem) (ks ls : List (κ × D)) : Bool := decide (ks.length = ls.length) && ks.all fun p => match look ls p.1 with
  | some d => sameD M p.2 d
  | none => false
def dkAt (M : Mem) : D → Option (List (Key × D))
  | .ref n => (match M[n]? with
    | some (.dk kvs) => some kvs
    | _ => none)
  | _ => none
def gEqD : D → D → Mem → Res D := fun x y M => match dkAt M x, dkAt M y with
  | some ks, some ls => (match alikeK M ks ls with
    | true => .ok (.bl true) M
    | false => .bad)
  | _, _ => gEq x y M
def gNeD : D → D → Mem → Res D := fun x y M => match dkAt M x, dkAt M y with
  | some ks, some ls => (match alikeK M ks ls with
    | true => .ok (.bl false) M
    | false => .bad)
  | _, _ => gNe x y M
section
variable {X : Cx} {L : Lay}
theorem dkAt_rep {K : PySem.W.Frag} {α : List Addr} {M : Mem} {H : Hp} {d : D} {v : V} {kvs : List (Key × D)} (r : Rel K L α M H) (h : dkAt M d = some kvs) (rd : Rep K α H d v) : ∃ a vs, v = .ref a ∧ H a = some (.dK vs) ∧ KvR K α H kvs vs := by
  unfold dkAt at h
  split at h
  · split at h
    · rename_i n kvs' e
      cases h
      obtain ⟨a, ha, rfl⟩ := rd.ref
      obtain ⟨a', ha', vs, hv, hr⟩ := r.at e
      rw [ha] at ha'; cases ha'
      exact ⟨a, vs, rfl, hv, hr⟩
    · cases h
  · cases h
theorem hits_data {α : List Addr} {M : Mem} {H : Hp} {A : Around} {pins : List (Addr × Obj)} {σ : L2.St} {s : Shared} (I : Inv X pins σ H s) (r : Rel X.K L α M H) {ls : List (Key × D)} {lv : List (Key × V)} {lu : List (Key × Value)} (hl : KvR X.K α H ls lv) (rl : KV lv lu) (hu : A.in1.units + 64 < cLine) :
    ∀ {ks : List (Key × D)} {kv : List (Key × V)} {ku : List (Key × Value)}, KvR X.K α H ks kv → KV kv ku → (ks.all fun p => match look ls p.1 with | some d => sameD M p.2 d | none => false) = true → PySem.W.KeqHits A.in1 s lu ku true := by
  intro ks kv ku hk
  induction hk generalizing ku with
  | nil => intro h2 _; cases h2; exact .nil
  | @cons p q ps qs hp t ih =>
    intro h2 hall
    unfold KV at h2
    cases h2 with
    | @cons _ q2 _ qs2 hq t2 =>
      rw [List.all_cons, Bool.and_eq_true] at hall
      obtain ⟨h3, h4⟩ := hall
      have e1 : p.1 = q.1 := hp.1
      have e2 : q.1 = q2.1 := hq.1
      cases el : look ls p.1 with
      | none => rw [el] at h3; cases h3
      | some d =>
        rw [el] at h3
        obtain ⟨v, ev, rv⟩ := look_some hl el
        have rr : RelO (some v) (valueAt lu p.1) := by rw [← ev]; exact rl.val p.1
        obtain ⟨y, hy, ry⟩ := rr.some_of
        unfold sameD at h3
        cases ea : toPy M 8 p.2 with
        | none => simp [ea] at h3
        | some a =>
          cases eb : toPy M 8 d with
          | none => simp [ea, eb] at h3
          | some b =>
            simp only [ea, eb, Bool.and_eq_true] at h3
            obtain ⟨s1, s2, s3⟩ := h3
            obtain ⟨as, r1⟩ := Dp.reads I a q.2 q2.2 (toPy_dp r 8 p.2 q.2 a ea hp.2) hq.2
            obtain ⟨bs, r2⟩ := Dp.reads I b v y (toPy_dp r 8 d v b eb rv) ry
            have z := PySem.W.keq_at r1 r2 s1 s2 hu
            rw [s3] at z
            obtain ⟨k, u⟩ := q2
            have e3 : k = p.1 := (e1.trans e2).symm
            subst e3
            show PySem.W.KeqHits A.in1 s lu ((p.1, u) :: qs2) (true && true)
            exact .hit hy z (ih t2 h4)
theorem alikeK_len {M : Mem} {ks ls : List (Key × D)} (h : alikeK M ks ls = true) : ks.length = ls.length ∧ (ks.all fun p => match look ls p.1 with | some d => sameD M p.2 d | none => false) = true := by
  unfold alikeK at h
  rw [Bool.and_eq_true] at h
  exact ⟨of_decide_eq_true h.1, h.2⟩
theorem o_eqD (hu : X.A.units + 70 < cLine) : Op2 X L (compareOp .Eq) gEqD := fun w => by
  intro pins s σ H x y v u Q I rx ry ⟨α, M, dx, dy, r, px, py, h⟩
  unfold gEqD at h
  split at h
  · rename_i ks ls ek el
    split at h
    · rename_i hal
      obtain ⟨hlen, hall⟩ := alikeK_len hal
      obtain ⟨a, vs, rfl, ea, ra⟩ := dkAt_rep r ek px
      obtain ⟨b, ws, rfl, eb, rb⟩ := dkAt_rep r el py
      obtain rfl : v = Value.ref a := rx
      obtain rfl : u = Value.ref b := ry
      obtain ⟨_, ya, va, qa, da⟩ := (show ObjOk X.prog X.w H s.heap a (.dK vs) from I.hok a _ ea)
      obtain ⟨_, yb, vb, qb, db⟩ := (show ObjOk X.prog X.w H s.heap b (.dK ws) from I.hok b _ eb)
      have hl : va.length = vb.length := by rw [← qa.length, ← qb.length, ← ra.length, ← rb.length]; exact hlen
      exact PySem.W.keq_eq (knd := mixKind X.prog X.w) (r := true) ya yb da db (by omega) (fun _ => hits_data I r rb qb (by show X.A.units + 1 + 64 < cLine; omega) ra qa hall) (fin_bl I (PostR.pure h r rep_bl) (by simp [hl]))
    · exact h.elim
  · exact o_eq hu w pins s σ H x y v u Q I rx ry ⟨α, M, dx, dy, r, px, py, h⟩
theorem o_neD (hu : X.A.units + 70 < cLine) : Op2 X L (compareOp .NotEq) gNeD := fun w => by
  intro pins s σ H x y v u Q I rx ry ⟨α, M, dx, dy, r, px, py, h⟩
  unfold gNeD at h
  split at h
  · rename_i ks ls ek el
    split at h
    · rename_i hal
      obtain ⟨hlen, hall⟩ := alikeK_len hal
      obtain ⟨a, vs, rfl, ea, ra⟩ := dkAt_rep r ek px
      obtain ⟨b, ws, rfl, eb, rb⟩ := dkAt_rep r el py
      obtain rfl : v = Value.ref a := rx
      obtain rfl : u = Value.ref b := ry
      obtain ⟨_, ya, va, qa, da⟩ := (show ObjOk X.prog X.w H s.heap a (.dK vs) from I.hok a _ ea)
      obtain ⟨_, yb, vb, qb, db⟩ := (show ObjOk X.prog X.w H s.heap b (.dK ws) from I.hok b _ eb)
      have hl : va.length = vb.length := by rw [← qa.length, ← qb.length, ← ra.length, ← rb.length]; exact hlen
      exact PySem.W.keq_ne (knd := mixKind X.prog X.w) (r := true) ya yb da db (by omega) (fun _ => hits_data I r rb qb (by show X.A.units + 1 + 64 < cLine; omega) ra qa hall) (fin_bl I (PostR.pure h r rep_bl) (by simp [hl]))
    · exact h.elim
  · exact o_ne hu w pins s σ H x y v u Q I rx ry ⟨α, M, dx, dy, r, px, py, h⟩
end
end Fl

namespace Fl
open PySem
def f__law_able : SF := (sRet (dOpN gSorted (dCons (dLc (iSeq (dVar 0)) (gN 3) (tAndF (tVal (dOp2 gEq (dOp2 gIx (dVar 3) (dC (.int 1))) (dOp2 gIx (dVar 2) (dOp2 gIx (dVar 3) (dC (.int 0)))))) (tVal (dOp2 gLe (dOp2 gIx (dVar 3) (dC (.int 3))) (dOp2 gIx (dVar 1) (dOp2 gIx (dVar 3) (dC (.int 0))))))) (dVar 3) [3]) dNil)))
def S__law_able : List D → Mem → Res D := fun ds M => match decide (ds.length = 3) with
  | true => (f__law_able (startD 4 ds) M).fin
  | false => .bad
def f__law_settle : SF := (sSeq (sPar3 4 5 6 (dCons (dOpN gList (dCons (dVar 2) dNil)) (dCons (dOp2 gMulX (dLst (dCons (dC (.int 0)) dNil)) (dOpN gLen (dCons (dVar 2) dNil))) (dCons (dLst dNil) dNil)))) (sSeq (sSet 7 (dCall 3 0 S__law_able (fun xs _ => xs) (dCons (dVar 1) (dCons (dVar 4) (dCons (dVar 5) dNil))) dNil)) (sSeq (sWhileL (tVal (dOp2 gNe (dVar 7) (dLst dNil))) (sSeq (sSet 8 (dIfE (tVal (dVar 3)) (dOp2 gIx (dVar 7) (dC (.int 0))) (dCall 2 0 S__law_pick (fun xs _ => xs) (dCons (dVar 0) (dCons (dVar 7) dNil)) dNil))) (sSeq (sAsg (dOp2 gSub (dOp2 gIx (dVar 4) (dOp2 gIx (dVar 8) (dC (.int 0)))) (dOp2 gIx (dVar 8) (dC (.int 3)))) (gIxSet (dVar 4) (dOp2 gIx (dVar 8) (dC (.int 0))))) (sSeq (sAsg (dOp2 gAdd (dOp2 gIx (dVar 4) (dOp2 gIx (dVar 8) (dC (.int 2)))) (dOp2 gIx (dVar 8) (dC (.int 3)))) (gIxSet (dVar 4) (dOp2 gIx (dVar 8) (dC (.int 2))))) (sSeq (sAsg (dOp2 gAdd (dOp2 gIx (dVar 5) (dOp2 gIx (dVar 8) (dC (.int 0)))) (dC (.int 1))) (gIxSet (dVar 5) (dOp2 gIx (dVar 8) (dC (.int 0))))) (sSeq (sDrop (dBm tyLst gAppend (dVar 6) (dCons (dVar 8) dNil))) (sSet 7 (dCall 3 0 S__law_able (fun xs _ => xs) (dCons (dVar 1) (dCons (dVar 4) (dCons (dVar 5) dNil))) dNil))))))) 100000) (sRet (dTup (dCons (dVar 6) (dCons (dVar 4) (dCons (dVar 5) dNil))))))))
def S__law_settle : List D → Mem → Res D := fun ds M => match decide (ds.length = 4) with
  | true => (f__law_settle (startD 9 ds) M).fin
  | false => .bad
def f__law_fits : SF := (sSeq (sPar2 2 3 (dCons (dOpN gList (dCons (dVar 1) dNil)) (dCons (dOp2 gMulX (dLst (dCons (dC (.int 0)) dNil)) (dOpN gLen (dCons (dVar 1) dNil))) dNil))) (sSeq (sFor (iSeq (dVar 0)) (gT 4 (gsCons 4 (gsCons 5 (gsCons 6 (gsCons 7 gsNil))))) (sSeq (sIf (tOrF (tVal (dOp2 gNe (dVar 5) (dOp2 gIx (dVar 3) (dVar 4)))) (tVal (dOp2 gGt (dVar 7) (dOp2 gIx (dVar 2) (dVar 4))))) (sRet (dC (.bl false))) sNext) (sSeq (sAsg (dOp2 gSub (dOp2 gIx (dVar 2) (dVar 4)) (dVar 7)) (gIxSet (dVar 2) (dVar 4))) (sSeq (sAsg (dOp2 gAdd (dOp2 gIx (dVar 2) (dVar 6)) (dVar 7)) (gIxSet (dVar 2) (dVar 6))) (sAsg (dOp2 gAdd (dVar 5) (dC (.int 1))) (gIxSet (dVar 3) (dVar 4))))))) (sRet (dC (.bl true)))))
def S__law_fits : List D → Mem → Res D := fun ds M => match decide (ds.length = 2) with
  | true => (f__law_fits (startD 8 ds) M).fin
  | false => .bad
def f_law : SF := (sSeq (sSet 1 (dCall 1 0 S__law_town (fun xs _ => xs) (dCons (dVar 0) dNil) dNil)) (sSeq (sSet 2 (dLc (iRng1 (dCons (dOp2 gAdd (dC (.int 2)) (dCall 2 0 S__law_draw (fun xs _ => xs) (dCons (dVar 1) (dCons (dC (.int 3)) dNil)) dNil)) dNil)) (gN 20) tYesF (dCall 2 0 S__law_draw (fun xs _ => xs) (dCons (dVar 1) (dCons (dC (.int 20)) dNil)) dNil) [20])) (sSeq (sSet 3 (dLst dNil)) (sSeq (sFor (iRng1 (dCons (dCall 2 0 S__law_draw (fun xs _ => xs) (dCons (dVar 1) (dCons (dC (.int 14)) dNil)) dNil) dNil)) (gN 4) (sSeq (sSet 5 (dCall 2 0 S__law_draw (fun xs _ => xs) (dCons (dVar 1) (dCons (dOpN gLen (dCons (dVar 2) dNil)) dNil)) dNil)) (sSeq (sSet 6 (dOp2 gAdd (dOpN gLen (dCons (dLc (iSeq (dVar 3)) (gN 21) (tVal (dOp2 gEq (dOp2 gIx (dVar 21) (dC (.int 0))) (dVar 5))) (dVar 21) [21]) dNil)) (dCall 2 0 S__law_pick (fun xs _ => xs) (dCons (dVar 1) (dCons (dLst (dCons (dC (.int 0)) (dCons (dC (.int 0)) (dCons (dC (.int 0)) (dCons (dC (.int 1)) dNil))))) dNil)) dNil))) (sIf (tVal (dOp2 gEq (dLc (iSeq (dVar 3)) (gN 21) (tVal (dOp2 gEq (dSl (dVar 21) oNone (oSome (dC (.int 2)))) (dTup (dCons (dVar 5) (dCons (dVar 6) dNil))))) (dVar 21) [21]) (dLst dNil))) (sSeq (sSet 7 (dOp2 gMod (dOp2 gAdd (dOp2 gAdd (dVar 5) (dC (.int 1))) (dCall 2 0 S__law_draw (fun xs _ => xs) (dCons (dVar 1) (dCons (dOp2 gSub (dOpN gLen (dCons (dVar 2) dNil)) (dC (.int 1))) dNil)) dNil)) (dOpN gLen (dCons (dVar 2) dNil)))) (sDrop (dBm tyLst gInsert (dVar 3) (dCons (dCall 2 0 S__law_draw (fun xs _ => xs) (dCons (dVar 1) (dCons (dOp2 gAdd (dOpN gLen (dCons (dVar 3) dNil)) (dC (.int 1))) dNil)) dNil) (dCons (dTup (dCons (dVar 5) (dCons (dVar 6) (dCons (dVar 7) (dCons (dOp2 gAdd (dC (.int 1)) (dCall 2 0 S__law_draw (fun xs _ => xs) (dCons (dVar 1) (dCons (dC (.int 15)) dNil)) dNil)) dNil))))) dNil))))) sNext)))) (sSeq (sSet 8 (dOpN gList (dCons (dVar 3) dNil))) (sSeq (sAsg (dCall 4 0 S__law_settle (fun xs _ => xs) (dCons (dVar 1) (dCons (dVar 3) (dCons (dVar 2) (dCons (dC (.bl true)) dNil)))) dNil) (gT 3 (gsCons 9 (gsCons 10 (gsCons 11 gsNil))))) (sSeq (sSet 12 (dCall 1 1 S_row_for (fun xs zs => xs ++ zs) (dCons (dVar 3) dNil) (dCons (dVar 2) dNil))) (sSeq (sIf (tOrF (tVal (dOp2 gNe (dVar 12) (dVar 9))) (tOrF (tVal (dOp2 gIsNot (dCall 1 1 S_is_row (fun xs zs => xs ++ zs) (dCons (dVar 12) dNil) (dCons (dVar 2) dNil)) (dC (.bl true)))) (tVal (dOp2 gNe (dVar 3) (dVar 8))))) (sRet (dC (.bl false))) sNext) (sSeq (sAsg (dCall 4 0 S__law_settle (fun xs _ => xs) (dCons (dVar 1) (dCons (dVar 3) (dCons (dVar 2) (dCons (dC (.bl false)) dNil)))) dNil) (gT 3 (gsCons 13 (gsCons 14 (gsCons 15 gsNil))))) (sSeq (sIf (tOrF (tVal (dOp2 gNe (dOpN gSorted (dCons (dVar 13) dNil)) (dOpN gSorted (dCons (dVar 9) dNil)))) (tOrF (tVal (dOp2 gNe (dVar 14) (dVar 10))) (tVal (dOp2 gIsNot (dCall 1 1 S_is_row (fun xs zs => xs ++ zs) (dCons (dVar 13) dNil) (dCons (dVar 2) dNil)) (dC (.bl true)))))) (sRet (dC (.bl false))) sNext) (sSeq (sSet 16 (dOpN gSorted (dCons (dLc (iSeq (dVar 3)) (gN 21) (tVal (dOp2 gNotIn (dVar 21) (dVar 9))) (dVar 21) [21]) dNil))) (sSeq (sSet 17 dNewK) (sSeq (sFor (iSeq (dSortSet (dLc (iSeq (dVar 16)) (gN 21) tYesF (dOp2 gIx (dVar 21) (dC (.int 0))) [21]))) (gN 5) (sSeq (sSet 18 (dLc (iSeq (dVar 3)) (gN 21) (tVal (dOp2 gEq (dSl (dVar 21) oNone (oSome (dC (.int 2)))) (dTup (dCons (dVar 5) (dCons (dOp2 gIx (dVar 11) (dVar 5)) dNil))))) (dOp2 gIx (dVar 21) (dC (.int 3))) [21])) (sAsg (dTup (dCons (dOp2 gIx (dVar 11) (dVar 5)) (dCons (dIfE (tVal (dOp2 gNe (dVar 18) (dLst dNil))) (dOp2 gSub (dOp2 gIx (dVar 18) (dC (.int 0))) (dOp2 gIx (dVar 10) (dVar 5))) (dC .non)) dNil))) (gIxSet (dVar 17) (dVar 5))))) (sSeq (sIf (tOrF (tVal (dOp2 gNe (dCall 1 1 S_left_over (fun xs zs => xs ++ zs) (dCons (dVar 3) dNil) (dCons (dVar 2) dNil)) (dVar 16))) (tVal (dOp2 gNeD (dCall 1 1 S_wanting (fun xs zs => xs ++ zs) (dCons (dVar 3) dNil) (dCons (dVar 2) dNil)) (dVar 17)))) (sRet (dC (.bl false))) sNext) (sSeq (sSet 19 (dOp1 gRev (dVar 13))) (sRet (dOp2 gEq (dCall 1 1 S_is_row (fun xs zs => xs ++ zs) (dCons (dVar 19) dNil) (dCons (dVar 2) dNil)) (dOr (dOp2 gLt (dOpN gLen (dCons (dVar 19) dNil)) (dC (.int 2))) (dCall 2 0 S__law_fits (fun xs _ => xs) (dCons (dVar 19) (dCons (dVar 2) dNil)) dNil)))))))))))))))))))
def S_law : List D → Mem → Res D := fun ds M => match decide (ds.length = 1) with
  | true => (f_law (startD 22 ds) M).fin
  | false => .bad
end Fl

namespace Fl
open PySem
/-! ### the combinators as equations -/
section
variable {A B : Type} {a : A} {M : Mem} {s : Sl} {c : Nat} {f : Option (Nat × D)} {d x y : D}
@[simp] theorem bind_ok (g : A → Mem → Res B) : (Res.ok a M).bind g = g a M := rfl
@[simp] theorem bind_exc (g : A → Mem → Res B) : (Res.exc c f M : Res A).bind g = .exc c f M := rfl
@[simp] theorem bind_bad (g : A → Mem → Res B) : (Res.bad : Res A).bind g = .bad := rfl
@[simp] theorem toS_ok (g : A → Mem → SR) : (Res.ok a M).toS s g = g a M := rfl
@[simp] theorem toS_exc (g : A → Mem → SR) : (Res.exc c f M : Res A).toS s g = .exc c f s M := rfl
@[simp] theorem toS_bad (g : A → Mem → SR) : (Res.bad : Res A).toS s g = .bad := rfl
@[simp] theorem seq_nx (u : SF) : (SR.nx s M).seq u = u s M := rfl
@[simp] theorem seq_rt (u : SF) : (SR.rt d M).seq u = .rt d M := rfl
@[simp] theorem seq_bk (u : SF) : (SR.bk s M).seq u = .bk s M := rfl
@[simp] theorem seq_ct (u : SF) : (SR.ct s M).seq u = .ct s M := rfl
@[simp] theorem seq_exc (u : SF) : (SR.exc c f s M).seq u = .exc c f s M := rfl
@[simp] theorem seq_bad (u : SF) : (SR.bad).seq u = .bad := rfl
@[simp] theorem fin_nx : (SR.nx s M).fin = .ok .non M := rfl
@[simp] theorem fin_rt : (SR.rt d M).fin = .ok d M := rfl
@[simp] theorem fin_exc : (SR.exc c f s M).fin = .exc c f M := rfl
@[simp] theorem noX_ok : (Res.ok a M).noX = .ok a M := rfl
variable {fa fb fc : EF} {ft fu : TF} {t u : SF} {i : Nat}
@[simp] theorem dC_ap : dC d s M = .ok d M := rfl
@[simp] theorem dVar_ap : dVar i s M = match s[i]? with
  | some (some d) => .ok d M
  | _ => .bad := rfl
@[simp] theorem dOp2_ap (g : D → D → Mem → Res D) : dOp2 g fa fb s M = (fa s M).bind fun x M1 => (fb s M1).bind fun y M2 => g x y M2 := rfl
@[simp] theorem dOp1_ap (g : D → Mem → Res D) : dOp1 g fa s M = (fa s M).bind g := rfl
@[simp] theorem dOpN_ap (g : List D → Mem → Res D) (a : AF) : dOpN g a s M = (a s M).bind g := rfl
@[simp] theorem dNil_ap : dNil s M = .ok [] M := rfl
@[simp] theorem dCons_ap (r : AF) : dCons fa r s M = (fa s M).bind fun x M1 => (r s M1).bind fun xs M2 => .ok (x :: xs) M2 := rfl
def isB : D → Mem → Res Bool
  | .bl b, M => .ok b M
  | _, _ => .bad
@[simp] theorem isB_bl {b : Bool} : isB (.bl b) M = .ok b M := rfl
@[simp] theorem tVal_ap : tVal fa s M = (fa s M).bind isB := by
  unfold tVal
  congr 1
  funext x M1
  cases x <;> rfl
@[simp] theorem tNotF_ap : tNotF ft s M = (ft s M).bind fun x M1 => .ok (!x) M1 := rfl
def ifR {A : Type} (b : Bool) (x y : A) : A := match b with
  | true => x
  | false => y
@[simp] theorem ifR_t {A : Type} (x y : A) : ifR true x y = x := rfl
@[simp] theorem ifR_f {A : Type} (x y : A) : ifR false x y = y := rfl
@[simp] theorem tAndF_ap : tAndF ft fu s M = (ft s M).bind fun x M1 => ifR x (fu s M1) (.ok false M1) := by
  unfold tAndF
  congr 1
@[simp] theorem tOrF_ap : tOrF ft fu s M = (ft s M).bind fun x M1 => ifR x (.ok true M1) (fu s M1) := by
  unfold tOrF
  congr 1
@[simp] theorem dAnd_ap : dAnd fa fb s M = (fa s M).bind fun x M1 => (isB x M1).bind fun b M2 => ifR b (fb s M2) (.ok (.bl false) M2) := by
  unfold dAnd
  congr 1
  funext x M1
  cases x <;> try rfl
  rename_i b
  cases b <;> rfl
@[simp] theorem dOr_ap : dOr fa fb s M = (fa s M).bind fun x M1 => (isB x M1).bind fun b M2 => ifR b (.ok (.bl true) M2) (fb s M2) := by
  unfold dOr
  congr 1
  funext x M1
  cases x <;> try rfl
  rename_i b
  cases b <;> rfl
@[simp] theorem dNot_ap : dNot fa s M = (fa s M).bind fun x M1 => (isB x M1).bind fun b M2 => .ok (.bl (!b)) M2 := by
  unfold dNot
  congr 1
  funext x M1
  cases x <;> rfl
@[simp] theorem dIfE_ap : dIfE ft fa fb s M = (ft s M).bind fun x M1 => ifR x (fa s M1) (fb s M1) := by
  unfold dIfE
  congr 1
@[simp] theorem sNext_ap : sNext s M = .nx s M := rfl
@[simp] theorem sSeq_ap : sSeq t u s M = (t s M).seq u := rfl
@[simp] theorem sDrop_ap : sDrop fa s M = (fa s M).toS s fun _ M1 => .nx s M1 := rfl
@[simp] theorem sRet_ap : sRet fa s M = (fa s M).toS s fun d M1 => .rt d M1 := rfl
@[simp] theorem sSet_ap : sSet i fa s M = (fa s M).toS s fun d M1 => .nx (s.set i (some d)) M1 := rfl
@[simp] theorem sIf_ap : sIf ft t u s M = (ft s M).toS s fun b M1 => ifR b (t s M1) (u s M1) := by
  unfold sIf
  congr 1
@[simp] theorem sBrk_ap : sBrk s M = .bk s M := rfl
@[simp] theorem sCont_ap : sCont s M = .ct s M := rfl
@[simp] theorem sRaise_ap : sRaise c s M = .exc c none s M := rfl
@[simp] theorem sRaise1_ap : sRaise1 c i fa s M = (fa s M).toS s fun d M1 => .exc c (some (i, d)) s M1 := rfl
@[simp] theorem sAsg_ap (g : GF) : sAsg fa g s M = (fa s M).toS s fun d M1 => (g d s M1).toS s fun s2 M2 => .nx s2 M2 := rfl
@[simp] theorem gN_ap : gN i d s M = .ok (s.set i (some d)) M := rfl
@[simp] theorem gsNil_ap : gsNil [] s = some s := rfl
@[simp] theorem gsCons_ap (r : GsF) {ds : List D} : gsCons i r (d :: ds) s = r ds (s.set i (some d)) := rfl
@[simp] theorem gT_ap (n : Nat) (r : GsF) {ds : List D} : gT n r (.tup ds) s M = match decide (ds.length = n), r ds s with
  | true, some s2 => .ok s2 M
  | _, _ => .bad := rfl
@[simp] theorem gIxSet_ap : gIxSet fa fb d s M = (fa s M).bind fun o M1 => (fb s M1).bind fun i M2 => match setIx M2 o i d with
  | some M3 => .ok s M3
  | none => .bad := rfl
@[simp] theorem sIxAug_ap (g : D → D → Mem → Res D) : sIxAug fa fb fc g s M = (fa s M).toS s fun o M1 => (fb s M1).toS s fun i M2 => match getIx M2 o i with
  | some x => (fc s M2).toS s fun y M3 => (g x y M3).toS s fun z M4 => (match setIx M4 o i z with
    | some M5 => .nx s M5
    | none => .bad)
  | none => .bad := rfl
@[simp] theorem sAug_ap (g : D → D → Mem → Res D) : sAug i fa g s M = match s[i]? with
  | some (some x) => (fa s M).toS s fun y M1 => (g x y M1).toS s fun z M2 => .nx (s.set i (some z)) M2
  | _ => .bad := rfl
@[simp] theorem lenIs_ap {n : Nat} {l : List D} {r : Res D} : lenIs n l r = match decide (l.length = n) with
  | true => r
  | false => .bad := rfl
@[simp] theorem dCall_ap {n m : Nat} {S : List D → Mem → Res D} {gD : List D → List D → List D} {a k : AF} : dCall n m S gD a k s M = (a s M).bind fun xs M1 => (k s M1).bind fun zs M2 => lenIs n xs (lenIs m zs (S (gD xs zs) M2)) := rfl
@[simp] theorem dTup_ap {a : AF} : dTup a s M = (a s M).bind fun ds M1 => match decide (ds.length ≤ sizeLine) with
  | true => .ok (.tup ds) M1
  | false => .bad := rfl
@[simp] theorem dLst_ap {a : AF} : dLst a s M = (a s M).bind fun ds M1 => match decide (ds.length ≤ sizeLine) with
  | true => .ok (.ref M1.length) (M1 ++ [.lst ds])
  | false => .bad := rfl
@[simp] theorem oNone_ap : oNone s M = .ok none M := rfl
def isI : D → Mem → Res (Option Int)
  | .int i, M => .ok (some i) M
  | _, _ => .bad
@[simp] theorem isI_int {k : Int} : isI (.int k) M = .ok (some k) M := rfl
@[simp] theorem oSome_ap : oSome fa s M = (fa s M).bind isI := by
  unfold oSome
  congr 1
  funext x M1
  cases x <;> rfl
@[simp] theorem dSl_ap (l h : OF) : dSl fa l h s M = (fa s M).bind fun x M1 => (l s M1).bind fun l M2 => (h s M2).bind fun u M3 => gSl x l u M3 := rfl
@[simp] theorem dChain_ap (g g' : D → D → Mem → Res D) : dChain g g' fa fb fc s M = (fa s M).bind fun x M1 => (fb s M1).bind fun y M2 => (g x y M2).bind fun k M3 => (isB k M3).bind fun b M4 => ifR b ((fc s M4).bind fun z M5 => g' y z M5) (.ok (.bl false) M4) := by
  unfold dChain
  congr 1
  funext x M1
  congr 1
  funext y M2
  congr 1
  funext k M3
  cases k <;> try rfl
  rename_i b
  cases b <;> rfl
@[simp] theorem dBm_ap (ty : D → Mem → Bool) (g : D → List D → Mem → Res D) (a : AF) : dBm ty g fa a s M = (fa s M).bind fun x M1 => match ty x M1 with
  | true => (a s M1).bind fun ds M2 => g x ds M2
  | false => .bad := rfl
@[simp] theorem dTupRg_ap : dTupRg fa s M = (fa s M).bind fun d M1 => match d with
  | .int n => (match decide (0 ≤ n ∧ n ≤ 16777216) with
    | true => .ok (.tup ((List.range n.toNat).map fun i => .int (i : Nat))) M1
    | false => .bad)
  | _ => .bad := rfl
@[simp] theorem dSortSet_ap : dSortSet fa s M = (fa s M).bind fun d M1 => match seqOf M1 d with
  | some ds => (match intsOf ds with
    | some ns => (match decide (ns.length < 64) with
      | true => .ok (.ref M1.length) (M1 ++ [.lst ((sortNub ns).map .int)])
      | false => .bad)
    | none => .bad)
  | none => .bad := rfl
@[simp] theorem tYesF_ap : tYesF s M = .ok true M := rfl
end
/-! ### the operators -/
section
variable {M : Mem} {i j : Int} {xs ys : List D} {n : Nat}
@[simp] theorem gAdd_int : gAdd (.int i) (.int j) M = .ok (.int (i + j)) M := rfl
@[simp] theorem gAdd_tup : gAdd (.tup xs) (.tup ys) M = match decide (xs.length + ys.length ≤ sizeLine) with
  | true => .ok (.tup (xs ++ ys)) M
  | false => .bad := rfl
@[simp] theorem gAdd_ref {m : Nat} : gAdd (.ref m) (.ref n) M = match listAt M m, listAt M n with
  | some xs, some ys => newL M (xs ++ ys)
  | _, _ => .bad := rfl
@[simp] theorem gSub_int : gSub (.int i) (.int j) M = .ok (.int (i - j)) M := rfl
@[simp] theorem gIAdd_int : gIAdd (.int i) (.int j) M = .ok (.int (i + j)) M := rfl
@[simp] theorem gLt_int : gLt (.int i) (.int j) M = .ok (.bl (decide (i < j))) M := rfl
@[simp] theorem gLe_int : gLe (.int i) (.int j) M = .ok (.bl (decide (i ≤ j))) M := rfl
@[simp] theorem gGt_int : gGt (.int i) (.int j) M = .ok (.bl (decide (j < i))) M := rfl
@[simp] theorem gGe_int : gGe (.int i) (.int j) M = .ok (.bl (decide (j ≤ i))) M := rfl
@[simp] theorem gNeg_int : gNeg (.int i) M = .ok (.int (-i)) M := rfl
theorem gMulX_int (h : (-(2 ^ 64) < i ∧ i < 2 ^ 64) ∨ (-(2 ^ 64) < j ∧ j < 2 ^ 64)) : gMulX (.int i) (.int j) M = .ok (.int (i * j)) M := by
  show (match decide ((-(2 ^ 64) < i ∧ i < 2 ^ 64) ∨ (-(2 ^ 64) < j ∧ j < 2 ^ 64)) with | true => Res.ok (D.int (i * j)) M | false => Res.bad) = _
  rw [decide_eq_true h]
theorem gDiv_int (h : 0 < j) (h2 : j < 1073741824) : gDiv (.int i) (.int j) M = .ok (.int (i / j)) M := by
  show (match decide (0 < j ∧ j < 1073741824) with | true => Res.ok (D.int (i / j)) M | false => Res.bad) = _
  rw [decide_eq_true ⟨h, h2⟩]
theorem gMod_int (h : 0 < j) : gMod (.int i) (.int j) M = .ok (.int (i % j)) M := by
  show (match decide (0 < j) with | true => Res.ok (D.int (i % j)) M | false => Res.bad) = _
  rw [decide_eq_true h]
theorem gPow_int (h : 0 ≤ j) (h2 : j ≤ 1000000) (h3 : i.natAbs < 2 ^ 64) : gPow (.int i) (.int j) M = .ok (.int (i ^ j.toNat)) M := by
  show (match decide (0 ≤ j ∧ j ≤ 1000000 ∧ i.natAbs < 2 ^ 64) with | true => Res.ok (D.int (i ^ j.toNat)) M | false => Res.bad) = _
  rw [decide_eq_true ⟨h, h2, h3⟩]
theorem itemAt_nat {ds : List D} {k : Nat} (h : k < ds.length) : itemAt ds (k : Int) = ds[k]? := by
  unfold itemAt ixF
  rw [decide_eq_true (by omega : (0 : Int) ≤ k)]
  simp only [decide_eq_true (by omega : (k : Int) < ds.length)]
  rfl
theorem itemAt_int {ds : List D} {i : Int} (h0 : 0 ≤ i) (h : i < ds.length) : itemAt ds i = ds[i.toNat]? := by
  obtain ⟨k, rfl⟩ : ∃ k : Nat, i = k := ⟨i.toNat, by omega⟩
  rw [itemAt_nat (by omega)]; rfl
@[simp] theorem itemAt_0 {a : D} {r : List D} : itemAt (a :: r) 0 = some a := itemAt_nat (k := 0) (by simp)
@[simp] theorem itemAt_1 {a b : D} {r : List D} : itemAt (a :: b :: r) 1 = some b := itemAt_nat (k := 1) (by simp)
@[simp] theorem itemAt_2 {a b c : D} {r : List D} : itemAt (a :: b :: c :: r) 2 = some c := itemAt_nat (k := 2) (by simp)
@[simp] theorem itemAt_3 {a b c d : D} {r : List D} : itemAt (a :: b :: c :: d :: r) 3 = some d := itemAt_nat (k := 3) (by simp)
@[simp] theorem okD_some {d : D} : okD M (some d) = .ok d M := rfl
@[simp] theorem okB_some {b : Bool} : okB M (some b) = .ok (.bl b) M := rfl
@[simp] theorem gIx_tup : gIx (.tup xs) (.int i) M = okD M (itemAt xs i) := rfl
@[simp] theorem gIx_ref {y : D} : gIx (.ref n) y M = match listAt M n with
  | some ds => (match y with
    | .int i => okD M (itemAt ds i)
    | _ => .bad)
  | none => (match dictLook M n y with
    | some (some d) => .ok d M
    | _ => .bad) := rfl
@[simp] theorem gSl_tup {lo hi : Option Int} : gSl (.tup xs) lo hi M = .ok (.tup (cutD xs lo hi)) M := rfl
@[simp] theorem gSl_ref {lo hi : Option Int} : gSl (.ref n) lo hi M = match listAt M n with
  | some ds => .ok (.ref M.length) (M ++ [.lst (cutD ds lo hi)])
  | none => .bad := rfl
@[simp] theorem gIsi_ap {tab : TyK → Option Bool} {d : D} : gIsi tab d M = okB M ((tyK M d).bind tab) := rfl
@[simp] theorem gEq_ap {x y : D} : gEq x y M = okB M (pyEq M x y) := rfl
@[simp] theorem gNe_ap {x y : D} : gNe x y M = okB M ((pyEq M x y).map (!·)) := rfl
@[simp] theorem gIn_ap {x y : D} : gIn x y M = okB M (inB M x y) := rfl
@[simp] theorem gNotIn_ap {x y : D} : gNotIn x y M = okB M ((inB M x y).map (!·)) := rfl
@[simp] theorem gLen_tup : gLen [.tup xs] M = .ok (.int xs.length) M := rfl
@[simp] theorem gLen_ref : gLen [.ref n] M = match listAt M n with
  | some ds => .ok (.int ds.length) M
  | none => .bad := rfl
@[simp] theorem gList_tup : gList [.tup xs] M = .ok (.ref M.length) (M ++ [.lst xs]) := rfl
@[simp] theorem gList_ref : gList [.ref n] M = match listAt M n with
  | some ds => .ok (.ref M.length) (M ++ [.lst ds])
  | none => .bad := rfl
@[simp] theorem gTuple_tup : gTuple [.tup xs] M = .ok (.tup xs) M := rfl
@[simp] theorem gTuple_ref : gTuple [.ref n] M = match listAt M n with
  | some ds => .ok (.tup ds) M
  | none => .bad := rfl
@[simp] theorem gAll_ref : gAll [.ref n] M = match listAt M n with
  | some ds => (match blsOf ds with
    | some ns => .ok (.bl (ns.all id)) M
    | _ => .bad)
  | none => .bad := rfl
@[simp] theorem gAny_ref : gAny [.ref n] M = match listAt M n with
  | some ds => (match blsOf ds with
    | some ns => .ok (.bl (ns.any id)) M
    | _ => .bad)
  | none => .bad := rfl
@[simp] theorem gSum_ref : gSum [.ref n] M = match listAt M n with
  | some ds => (match intsOf ds with
    | some ns => .ok (.int ns.sum) M
    | none => .bad)
  | none => .bad := rfl
theorem intsOf_mk (ns : List Int) : intsOf (ns.map .int) = some ns := by
  induction ns with
  | nil => rfl
  | cons a r ih =>
    unfold intsOf at ih ⊢
    rw [List.map_cons, allSome, ih]
theorem blsOf_mk (ns : List Bool) : blsOf (ns.map .bl) = some ns := by
  induction ns with
  | nil => rfl
  | cons a r ih =>
    unfold blsOf at ih ⊢
    rw [List.map_cons, allSome, ih]
/-! the store -/
theorem listAt_of {ds : List D} (h : M[n]? = some (.lst ds)) : listAt M n = some ds := by
  unfold listAt
  rw [h]
@[simp] theorem listAt_new {ds : List D} : listAt (M ++ [.lst ds]) M.length = some ds := by unfold listAt; simp
theorem listAt_app {T : Mem} {ds : List D} (h : listAt M n = some ds) : listAt (M ++ T) n = some ds := by
  have e := listAt_some h
  refine listAt_of ?_
  rw [List.getElem?_append_left (List.getElem?_eq_some_iff.mp e).1]
  exact e
end
/-! ### things with an equality of their own, as data -/
class Enc (T : Type) where
  enc : T → PyData
  dp : Nat
  eq : ∀ a b : T, PyData.eqv (enc a) (enc b) = true ↔ a = b
  lay : ∀ a : T, PyData.canLay0 (enc a) = true
  dep : ∀ a : T, (enc a).depth ≤ dp
open Enc
theorem Enc.eqv {T : Type} [Enc T] [DecidableEq T] (a b : T) : PyData.eqv (enc a) (enc b) = decide (a = b) := by
  by_cases h : a = b
  · rw [decide_eq_true h]; exact (Enc.eq a b).mpr h
  · rw [decide_eq_false h]
    cases e : PyData.eqv (enc a) (enc b) with
    | false => rfl
    | true => exact absurd ((Enc.eq a b).mp e) h
instance : Enc Int where
  enc := .int
  dp := 0
  eq := fun a b => by simp [PyData.eqv]
  lay := fun a => by simp [PyData.canLay0]
  dep := fun a => by simp [PyData.depth]
instance : Enc Bool where
  enc := .bool
  dp := 0
  eq := fun a b => by simp [PyData.eqv]
  lay := fun a => by simp [PyData.canLay0]
  dep := fun a => by simp [PyData.depth]
section
variable {T : Type} [Enc T]
theorem encs_eq : ∀ a b : List T, PyData.eqvAll (a.map enc) (b.map enc) = true ↔ a = b
  | [], [] => by simp [PyData.eqvAll]
  | [], _ :: _ => by simp [PyData.eqvAll]
  | _ :: _, [] => by simp [PyData.eqvAll]
  | x :: xs, y :: ys => by
    rw [List.map_cons, List.map_cons, PyData.eqvAll, Bool.and_eq_true, Enc.eq, encs_eq xs ys, List.cons.injEq]
theorem encs_lay : ∀ a : List T, PyData.canLayAll0 (a.map enc) = true
  | [] => by simp [PyData.canLayAll0]
  | x :: xs => by rw [List.map_cons, PyData.canLayAll0, Enc.lay, encs_lay xs]; rfl
theorem encs_dep : ∀ a : List T, PyData.depthAll (a.map enc) ≤ Enc.dp T
  | [] => by simp [PyData.depthAll]
  | x :: xs => by
    rw [List.map_cons, PyData.depthAll]
    exact Nat.max_le.mpr ⟨Enc.dep x, encs_dep xs⟩
/-- a list -/
instance : Enc (List T) where
  enc := fun l => .list (l.map enc)
  dp := Enc.dp T + 1
  eq := fun a b => by rw [PyData.eqv]; exact encs_eq a b
  lay := fun a => by rw [PyData.canLay0]; exact encs_lay a
  dep := fun a => by rw [PyData.depth]; exact Nat.succ_le_succ (encs_dep a)
end
/-- a tuple of likes -/
structure Tup (T : Type) where
  its : List T
deriving DecidableEq
instance {T : Type} [Enc T] : Enc (Tup T) where
  enc := fun l => .tuple (l.its.map enc)
  dp := Enc.dp T + 1
  eq := fun a b => by
    rw [PyData.eqv, encs_eq]
    cases a; cases b; simp
  lay := fun a => by rw [PyData.canLay0]; exact encs_lay a.its
  dep := fun a => by rw [PyData.depth]; exact Nat.succ_le_succ (encs_dep a.its)
instance {S T : Type} [Enc S] [Enc T] : Enc (S × T) where
  enc := fun p => .tuple [enc p.1, enc p.2]
  dp := max (Enc.dp S) (Enc.dp T) + 1
  eq := fun a b => by
    simp only [PyData.eqv, PyData.eqvAll, Bool.and_eq_true, Enc.eq, Bool.and_true]
    exact ⟨fun h => Prod.ext h.1 h.2, fun h => by rw [h]; exact ⟨rfl, rfl⟩⟩
  lay := fun a => by simp [PyData.canLay0, PyData.canLayAll0, Enc.lay]
  dep := fun a => by
    simp only [PyData.depth, PyData.depthAll]
    have h1 := Enc.dep a.1
    have h2 := Enc.dep a.2
    omega
theorem Enc.shaped {T : Type} [Enc T] (h : Enc.dp T ≤ 64) (a : T) : SeqAt.shaped (enc a) = true := by
  unfold SeqAt.shaped
  rw [Enc.lay a, Bool.true_and]
  exact decide_eq_true (Nat.le_trans (Enc.dep a) h)
/-- d stands for a in the store -/
def Vw {T : Type} [Enc T] (M : Mem) (k : Nat) (d : D) (a : T) : Prop := toPy M k d = some (enc a)
theorem pyEq_enc {T : Type} [Enc T] [DecidableEq T] {M : Mem} {x y : D} {a b : T} (hx : Vw M 9 x a) (hy : Vw M 9 y b) (h : Enc.dp T ≤ 64 := by decide) : pyEq M x y = some (decide (a = b)) := by
  unfold pyEq
  rw [hx, hy]
  simp only [Enc.shaped h, Bool.and_true, Enc.eqv]
theorem allSome_map {A B C : Type} {f : B → Option C} {g : A → B} {h : A → C} {l : List A} (e : ∀ a ∈ l, f (g a) = some (h a)) : allSome f (l.map g) = some (l.map h) := by
  induction l with
  | nil => rfl
  | cons a r ih =>
    rw [List.map_cons, allSome, e a List.mem_cons_self, ih fun b hb => e b (List.mem_cons_of_mem _ hb)]
    rfl
theorem any_enc {T : Type} [Enc T] [DecidableEq T] (a : T) : ∀ l : List T, ((l.map enc).any fun z => PyData.eqv z (enc a)) = decide (a ∈ l)
  | [] => rfl
  | b :: r => by
    rw [List.map_cons, List.any_cons, any_enc a r, Enc.eqv]
    by_cases h : b = a
    · subst h; simp
    · have h' : ¬ a = b := fun z => h z.symm
      simp [h, h']
theorem pyIn_enc {T : Type} [Enc T] [DecidableEq T] {M : Mem} {x : D} {a : T} {ds : List D} {l : List T} (hx : Vw M 9 x a) (hl : allSome (toPy M 8) ds = some (l.map enc)) (h : Enc.dp T ≤ 63 := by decide) : pyIn M x ds = some (decide (a ∈ l)) := by
  unfold pyIn
  rw [hx, hl]
  have e : SeqAt.shaped (.list (l.map enc)) = true := Enc.shaped (T := List T) (by show Enc.dp T + 1 ≤ 64; omega) l
  simp only [Enc.shaped (Nat.le_succ_of_le h), e, Bool.and_true, any_enc]
/-! views -/
section
variable {M : Mem} {k : Nat}
theorem vw_int (i : Int) : Vw M (k + 1) (.int i) i := rfl
theorem vw_bl (i : Bool) : Vw M (k + 1) (.bl i) i := rfl
theorem toPys_int (ns : List Int) : allSome (toPy M (k + 1)) (ns.map .int) = some (ns.map enc) := allSome_map fun a _ => rfl
theorem vw_ints {n : Nat} {ns : List Int} (h : listAt M n = some (ns.map .int)) : Vw M (k + 2) (.ref n) ns := by
  unfold Vw toPy
  rw [h]
  show (allSome (toPy M (k + 1)) (ns.map .int)).map PyData.list = _
  rw [toPys_int]; rfl
theorem vw_list {T : Type} [Enc T] {n : Nat} {ds : List D} {l : List T} (h : listAt M n = some ds) (hl : allSome (toPy M k) ds = some (l.map enc)) : Vw M (k + 1) (.ref n) l := by
  unfold Vw toPy
  rw [h]
  show (allSome (toPy M k) ds).map PyData.list = _
  rw [hl]; rfl
theorem vw_tup {T : Type} [Enc T] {ds : List D} {l : List T} (hl : allSome (toPy M k) ds = some (l.map enc)) : Vw M (k + 1) (.tup ds) (Tup.mk l) := by
  unfold Vw toPy
  rw [hl]; rfl
end
/-! ### loops -/
/-- r ends well, with Q -/
def Res.To {A : Type} (r : Res A) (Q : A → Mem → Prop) : Prop := ∃ a M, r = .ok a M ∧ Q a M
/-- the general rule of a loop -/
theorem for_ind {nx : ItF} {g : GF} {body : SF} {ds : List D} (P : Nat → Sl → Mem → Prop) (Q : SR → Prop) {s : Sl} {M : Mem} (h0 : P 0 s M)
    (hn : ∀ i s M, i ≤ ds.length → P i s M → nx i M = some ds[i]?)
    (hs : ∀ i d s M, ds[i]? = some d → P i s M → ∃ s1 M1, g d s M = .ok s1 M1 ∧ ((∃ s2 M2, (body s1 M1 = .nx s2 M2 ∨ body s1 M1 = .ct s2 M2) ∧ P (i + 1) s2 M2) ∨ (∃ s2 M2, body s1 M1 = .bk s2 M2 ∧ Q (.nx s2 M2)) ∨ (∃ d M2, body s1 M1 = .rt d M2 ∧ Q (.rt d M2)) ∨ ∃ c f s2 M2, body s1 M1 = .exc c f s2 M2 ∧ Q (.exc c f s2 M2)))
    (he : ∀ s M, P ds.length s M → Q (.nx s M)) : Q (sForL nx g body (ds.length + 1) 0 s M) := by
  have go : ∀ (k i : Nat) (s : Sl) (M : Mem), i + k = ds.length → P i s M → Q (sForL nx g body (k + 1) i s M) := by
    intro k
    induction k with
    | zero =>
      intro i s M hi hp
      unfold sForL
      have e : i = ds.length := by omega
      rw [hn i s M (by omega) hp, e, List.getElem?_eq_none (Nat.le_refl _)]
      rw [e] at hp
      exact he s M hp
    | succ k ih =>
      intro i s M hi hp
      unfold sForL
      have hlt : i < ds.length := by omega
      rw [hn i s M (by omega) hp, List.getElem?_eq_getElem hlt]
      obtain ⟨s1, M1, eg, h⟩ := hs i _ s M (List.getElem?_eq_getElem hlt) hp
      simp only [eg, toS_ok]
      rcases h with ⟨s2, M2, h1, h2⟩ | ⟨s2, M2, h1, h2⟩ | ⟨d, M2, h1, h2⟩ | ⟨c, f, s2, M2, h1, h2⟩
      · have z := ih (i + 1) s2 M2 (by omega) h2
        rcases h1 with h1 | h1 <;> (rw [h1]; exact z)
      · rw [h1]; exact h2
      · rw [h1]; exact h2
      · rw [h1]; exact h2
  exact go ds.length 0 s M (by omega) h0
/-- the rule of a comprehension: ys is what is made of the items before the i-th -/
theorem lc_ind {nx : ItF} {g : GF} {tt : TF} {te : EF} {s : Sl} {ds : List D} (P : Nat → List D → Mem → Prop) {M : Mem} (h0 : P 0 [] M)
    (hn : ∀ i ys M, i ≤ ds.length → P i ys M → nx i M = some ds[i]?)
    (hs : ∀ i d ys M, ds[i]? = some d → P i ys M → ∃ s1 M1 b M2, g d s M = .ok s1 M1 ∧ tt s1 M1 = .ok b M2 ∧ ((b = true ∧ ∃ y M3, te s1 M2 = .ok y M3 ∧ P (i + 1) (ys ++ [y]) M3) ∨ (b = false ∧ P (i + 1) ys M2))) :
    ∃ ys M', lcL nx g tt te s (ds.length + 1) 0 M = .ok ys M' ∧ P ds.length ys M' := by
  have go : ∀ (k i : Nat) (acc : List D) (M : Mem), i + k = ds.length → P i acc M → ∃ ys M', lcL nx g tt te s (k + 1) i M = .ok ys M' ∧ P ds.length (acc ++ ys) M' := by
    intro k
    induction k with
    | zero =>
      intro i acc M hi hp
      have e : i = ds.length := by omega
      refine ⟨[], M, ?_, by rw [List.append_nil, ← e]; exact hp⟩
      unfold lcL
      rw [hn i acc M (by omega) hp, e, List.getElem?_eq_none (Nat.le_refl _)]
    | succ k ih =>
      intro i acc M hi hp
      have hlt : i < ds.length := by omega
      obtain ⟨s1, M1, b, M2, e1, e2, h⟩ := hs i _ acc M (List.getElem?_eq_getElem hlt) hp
      unfold lcL
      rw [hn i acc M (by omega) hp, List.getElem?_eq_getElem hlt]
      simp only [e1, noX_ok, bind_ok, e2]
      rcases h with ⟨rfl, y, M3, e3, h⟩ | ⟨rfl, h⟩
      · obtain ⟨ys, M', e4, h4⟩ := ih (i + 1) (acc ++ [y]) M3 (by omega) h
        refine ⟨y :: ys, M', ?_, by rw [List.append_cons]; exact h4⟩
        simp only [e3, noX_ok, bind_ok, e4]
      · obtain ⟨ys, M', e4, h4⟩ := ih (i + 1) acc M2 (by omega) h
        exact ⟨ys, M', e4, h4⟩
  obtain ⟨ys, M', e, h⟩ := go ds.length 0 [] M (by omega) h0
  exact ⟨ys, M', e, by simpa using h⟩
/-- .. that changes nothing -/
theorem lc_pure {nx : ItF} {g : GF} {tt : TF} {te : EF} {s : Sl} {ds : List D} {M : Mem} (p : D → Bool) (v : D → D) (hn : ∀ i, i ≤ ds.length → nx i M = some ds[i]?)
    (hs : ∀ d ∈ ds, ∃ s1, g d s M = .ok s1 M ∧ tt s1 M = .ok (p d) M ∧ (p d = true → te s1 M = .ok (v d) M)) : lcL nx g tt te s (ds.length + 1) 0 M = .ok ((ds.filter p).map v) M := by
  obtain ⟨ys, M', e, h1, h2⟩ := lc_ind (nx := nx) (g := g) (tt := tt) (te := te) (s := s) (ds := ds) (M := M) (fun i ys M' => M' = M ∧ ys = ((ds.take i).filter p).map v) ⟨rfl, rfl⟩ (fun i ys M' hi ⟨e, _⟩ => by rw [e]; exact hn i hi) fun i d ys M' hd ⟨e, ey⟩ => by
    subst e ey
    obtain ⟨s1, e1, e2, e3⟩ := hs d (List.mem_of_getElem? hd)
    refine ⟨s1, _, p d, _, e1, e2, ?_⟩
    rw [List.take_add_one, hd]
    cases hp : p d with
    | true => exact .inl ⟨rfl, v d, _, e3 hp, rfl, by simp [hp]⟩
    | false => exact .inr ⟨rfl, rfl, by simp [hp]⟩
  rw [e, h1, h2, List.take_length]
theorem nxT_at {ds : List D} {M : Mem} (i : Nat) : nxT ds i M = some ds[i]? := rfl
theorem nxL_at {ds : List D} {M : Mem} {n : Nat} (h : listAt M n = some ds) (i : Nat) : nxL n i M = some ds[i]? := by
  unfold nxL
  rw [h]
theorem nxR_at {lo : Int} {n : Nat} {M : Mem} (i : Nat) (h : i ≤ n) : nxR lo n i M = some ((List.range n).map fun j => D.int (lo + (j : Nat)))[i]? := by
  unfold nxR
  by_cases c : i < n
  · rw [decide_eq_true c]; simp [c]
  · rw [decide_eq_false c]; simp [c]
/-! ### one statement after the other -/
section
variable {t u : SF} {s s1 : Sl} {M M1 : Mem} {d : D} {c : Nat} {f : Option (Nat × D)} {Q : SR → Prop}
theorem go_nx (h : t s M = .nx s1 M1) (k : Q (u s1 M1)) : Q (sSeq t u s M) := by rw [sSeq_ap, h]; exact k
theorem go_rt (h : t s M = .rt d M1) (k : Q (.rt d M1)) : Q (sSeq t u s M) := by rw [sSeq_ap, h]; exact k
theorem go_exc (h : t s M = .exc c f s1 M1) (k : Q (.exc c f s1 M1)) : Q (sSeq t u s M) := by rw [sSeq_ap, h]; exact k
theorem go_end {r : SR} (h : t s M = r) (k : Q r) : Q (t s M) := by rw [h]; exact k
/-- the end of a def -/
def Ret (Q : D → Mem → Prop) (r : SR) : Prop := ∃ d M, r.fin = .ok d M ∧ Q d M
theorem ret_rt {Q : D → Mem → Prop} (h : Q d M) : Ret Q (.rt d M) := ⟨d, M, rfl, h⟩
theorem ret_nx {Q : D → Mem → Prop} (h : Q .non M) : Ret Q (.nx s M) := ⟨.non, M, rfl, h⟩
end
@[simp] theorem ifR_ok {A : Type} {b : Bool} {x y : A} {M : Mem} : ifR b (Res.ok x M) (Res.ok y M) = .ok (ifR b x y) M := by cases b <;> rfl
theorem ifR_cases {A : Type} {b : Bool} {x y : A} {P : A → Prop} (h1 : b = true → P x) (h2 : b = false → P y) : P (ifR b x y) := by
  cases b
  · exact h2 rfl
  · exact h1 rfl
def lstO : Option MO → Option (List D)
  | some (.lst ds) => some ds
  | _ => none
@[simp] theorem lstO_some {ds : List D} : lstO (some (.lst ds)) = some ds := rfl
theorem listAt_eq {M : Mem} {n : Nat} : listAt M n = lstO M[n]? := by
  unfold listAt lstO
  split <;> simp_all
@[simp] theorem listAt_k {M T : Mem} {k : Nat} : listAt (M ++ T) (M.length + k) = lstO T[k]? := by
  rw [listAt_eq, List.getElem?_append_right (by omega)]
  congr 2
  omega
@[simp] theorem listAt_k0 {M T : Mem} : listAt (M ++ T) M.length = lstO T[0]? := listAt_k (k := 0)
@[simp] theorem set_k {M T : Mem} {k : Nat} {o : MO} : (M ++ T).set (M.length + k) o = M ++ T.set k o := by
  rw [List.set_append_right _ _ (by omega)]
  congr 2
  omega
end Fl

namespace Fl
open PySem
theorem le_line {n : Nat} (h : n ≤ 1000) : n ≤ sizeLine := Nat.le_trans h (by decide)
theorem lt_line {n : Nat} (h : n ≤ 1000) : n < sizeLine := Nat.lt_of_le_of_lt h (by decide)
/-! ### the store grows -/
/-- M' has all of M's objects, but those at A -/
structure Fr (A : List Nat) (M M' : Mem) : Prop where
  len : M.length ≤ M'.length
  old : ∀ n, n < M.length → n ∉ A → M'[n]? = M[n]?
theorem Fr.refl {A : List Nat} {M : Mem} : Fr A M M := ⟨Nat.le_refl _, fun _ _ _ => rfl⟩
theorem Fr.trans {A : List Nat} {M M' M'' : Mem} (h : Fr A M M') (h' : Fr A M' M'') : Fr A M M'' := ⟨Nat.le_trans h.len h'.len, fun n hn ha => (h'.old n (Nat.lt_of_lt_of_le hn h.len) ha).trans (h.old n hn ha)⟩
theorem Fr.mono {A B : List Nat} {M M' : Mem} (h : Fr A M M') (s : ∀ n ∈ A, n ∈ B) : Fr B M M' := ⟨h.len, fun n hn ha => h.old n hn fun z => ha (s n z)⟩
theorem Fr.app {A : List Nat} {M T : Mem} : Fr A M (M ++ T) := ⟨by simp, fun n hn _ => List.getElem?_append_left hn⟩
theorem Fr.get {A : List Nat} {M M' : Mem} (h : Fr A M M') {n : Nat} {o : MO} (e : M[n]? = some o) (ha : n ∉ A) : M'[n]? = some o := by
  rw [h.old n (List.getElem?_eq_some_iff.mp e).1 ha]; exact e
theorem Fr.list {A : List Nat} {M M' : Mem} (h : Fr A M M') {n : Nat} {ds : List D} (e : listAt M n = some ds) (ha : n ∉ A) : listAt M' n = some ds := listAt_of (h.get (listAt_some e) ha)
theorem Fr.set {A : List Nat} {M : Mem} {n : Nat} {o : MO} (h : n ∈ A) : Fr A M (M.set n o) := ⟨by simp, fun m _ hm => by rw [List.getElem?_set_ne (fun z => hm (by rw [← z]; exact h))]⟩
/-! ### the draws: the town at 2, its row at 1 -/
structure Town (M : Mem) : Prop where
  ex : ∃ (k : Int) (cells : List Int), M[2]? = some (.lst [.ref 1, .int k]) ∧ M[1]? = some (.lst (cells.map .int)) ∧ cells ≠ [] ∧ 0 ≤ k
theorem Town.fr {A : List Nat} {M M' : Mem} (t : Town M) (h : Fr A M M') (h1 : 1 ∉ A) (h2 : 2 ∉ A) : Town M' := by
  obtain ⟨k, cells, e1, e2, e3⟩ := t.ex
  exact ⟨k, cells, h.get e1 h2, h.get e2 h1, e3⟩
theorem Town.lt {M : Mem} (t : Town M) : 2 < M.length := by
  obtain ⟨k, cells, e1, _⟩ := t.ex
  exact (List.getElem?_eq_some_iff.mp e1).1
theorem sp_town (ns : List Int) (h : ns.length ≤ 63) : ∃ M, S__law_town [.rol (ns.map .int)] [] = .ok (.ref 2) M ∧ Town M ∧ M.length = 3 := by
  unfold S__law_town f__law_town
  have e : pyEq [.lst []] (.rol (ns.map .int)) (.ref 0) = some (decide (ns = [])) := by
    refine pyEq_enc (T := List Int) ?_ (vw_ints (ns := []) rfl)
    unfold Vw toPy
    rw [toPys_int]; rfl
  by_cases hn : ns = []
  · subst hn
    have e' : pyEq [.lst []] (.rol []) (.ref 0) = some true := by simpa using e
    exact ⟨[.lst [], .lst [.int 0], .lst [.ref 1, .int 0]], by simp [startD, e', sizeLine], ⟨0, [0], by simp⟩, rfl⟩
  · exact ⟨[.lst [], .lst (ns.map .int), .lst [.ref 1, .int 0]], by simp [startD, e, sizeLine, hn, gList, seqOf], ⟨0, ns, by simp [hn]⟩, rfl⟩
theorem sp_draw {M : Mem} {m : Int} (t : Town M) (h0 : 0 < m) (h1 : m < 1073741824) : ∃ v M', S__law_draw [.ref 2, .int m] M = .ok (.int v) M' ∧ 0 ≤ v ∧ v < m ∧ Town M' ∧ Fr [1, 2] M M' ∧ M'.length = M.length := by
  obtain ⟨k, cells, e1, e2, hne, hk⟩ := t.ex
  have l2 := t.lt
  have a1 := listAt_of e1
  have a2 := listAt_of e2
  have hl : 0 < cells.length := List.length_pos_iff.mpr hne
  have hlz : (0 : Int) < (cells.length : Int) := by omega
  unfold S__law_draw f__law_draw
  generalize hat : ((k + 1) % (cells.length : Int)) = at_
  have r1 : 0 ≤ at_ := by rw [← hat]; exact Int.emod_nonneg _ (by omega)
  have r2 : at_ < cells.length := by rw [← hat]; exact Int.emod_lt_of_pos _ hlz
  have hcell : itemAt (cells.map D.int) at_ = some (.int cells[at_.toNat]!) := by
    rw [itemAt_int r1 (by rw [List.length_map]; exact r2), List.getElem?_map, List.getElem?_eq_getElem (by omega)]
    simp [getElem!_pos, show at_.toNat < cells.length by omega]
  generalize cells[at_.toNat]! = cell at hcell
  have s1 : setIx M (.ref 2) (.int 1) (.int (k + 1)) = some (M.set 2 (.lst [.ref 1, .int (k + 1)])) := by
    simp [setIx, e1, ixF]
  have b1 : listAt (M.set 2 (.lst [.ref 1, .int (k + 1)])) 2 = some [.ref 1, .int (k + 1)] := listAt_of (by rw [List.getElem?_set_self l2])
  have b2 : listAt (M.set 2 (.lst [.ref 1, .int (k + 1)])) 1 = some (cells.map .int) := listAt_of (by rw [List.getElem?_set_ne (by decide)]; exact e2)
  generalize hB : M.set 2 (.lst [.ref 1, .int (k + 1)]) = B at b1 b2 s1
  have hBl : B.length = M.length := by rw [← hB]; simp
  have B1 : B[1]? = some (.lst (cells.map .int)) := by rw [← hB, List.getElem?_set_ne (by decide)]; exact e2
  have B2 : B[2]? = some (.lst [.ref 1, .int (k + 1)]) := by rw [← hB, List.getElem?_set_self l2]
  have fB : Fr [1, 2] M B := by rw [← hB]; exact Fr.set (by simp)
  have tB : Town B := ⟨k + 1, cells, B2, B1, hne, by omega⟩
  have m1 : gMod (.int (k + 1)) (.int cells.length) B = .ok (.int at_) B := by rw [gMod_int hlz, hat]
  by_cases hc : 1000000000000000000 ≤ cell
  · have s2 : setIx B (.ref 1) (.int at_) (.int (cell / m)) = some (B.set 1 (.lst ((cells.set at_.toNat (cell / m)).map .int))) := by
      have hix : ixF cells.length at_ = some at_.toNat := by
        unfold ixF
        rw [decide_eq_true r1]
        simp only [decide_eq_true r2]
      simp [setIx, B1, hix, List.map_set]
    refine ⟨cell % m, B.set 1 (.lst ((cells.set at_.toNat (cell / m)).map .int)), ?_, Int.emod_nonneg _ (by omega), Int.emod_lt_of_pos _ h0, ⟨k + 1, cells.set at_.toNat (cell / m), ?_, ?_, ?_, by omega⟩, fB.trans (Fr.set (by simp)), by simp [hBl]⟩
    · simp [startD, a1, s1, b1, m1, b2, hcell, hc, gDiv_int h0 h1, s2, gMod_int h0]
    · rw [List.getElem?_set_ne (by decide)]; exact B2
    · rw [List.getElem?_set_self (by omega)]
    · intro z; rw [List.set_eq_nil_iff] at z; exact hne z
  · have q1 : gMulX (.int 104729) (.int (k + 1)) B = .ok (.int (104729 * (k + 1))) B := gMulX_int (.inl (by omega))
    have q2 : gMod (.int (cell + 104729 * (k + 1))) (.int 4294967291) B = .ok (.int ((cell + 104729 * (k + 1)) % 4294967291)) B := gMod_int (by omega)
    generalize hx : (cell + 104729 * (k + 1)) % 4294967291 = x at q2
    have hx0 : 0 ≤ x := by omega
    have hx1 : x < 4294967291 := by omega
    have q3 : gPow (.int x) (.int 5) B = .ok (.int (x ^ 5)) B := gPow_int (by omega) (by omega) (by omega)
    have q4 : gMod (.int (x ^ 5)) (.int 4294967279) B = .ok (.int (x ^ 5 % 4294967279)) B := gMod_int (by omega)
    generalize hy : x ^ 5 % 4294967279 = y at q4
    have q5 : gDiv (.int y) (.int 64) B = .ok (.int (y / 64)) B := gDiv_int (by omega) (by omega)
    have q6 : gMulX (.int (y / 64)) (.int 69621) B = .ok (.int (y / 64 * 69621)) B := gMulX_int (.inr (by omega))
    have q7 : gMod (.int (y / 64 * 69621 + y)) (.int 4294967231) B = .ok (.int ((y / 64 * 69621 + y) % 4294967231)) B := gMod_int (by omega)
    generalize hz : (y / 64 * 69621 + y) % 4294967231 = z at q7
    have q8 : gDiv (.int z) (.int 8) B = .ok (.int (z / 8)) B := gDiv_int (by omega) (by omega)
    have q9 : gMod (.int (z / 8)) (.int m) B = .ok (.int (z / 8 % m)) B := gMod_int h0
    refine ⟨z / 8 % m, B, ?_, Int.emod_nonneg _ (by omega), Int.emod_lt_of_pos _ h0, tB, fB, hBl⟩
    simp [startD, a1, s1, b1, m1, b2, hcell, hc, q1, q2, q3, q4, q5, q6, q7, q8, q9]
end Fl

namespace Fl
open PySem
/-! ### numbers, orders, papers -/
def tyOk : Option TyK → Bool
  | none => false
  | some (.ins _) => false
  | some (.exc _) => false
  | _ => true
/-- neither an own object nor nothing -/
def okTy (M : Mem) (d : D) : Bool := tyOk (tyK M d)
theorem okTy_lst {M : Mem} {n : Nat} {ds : List D} (h : M[n]? = some (.lst ds)) : okTy M (.ref n) = true := by
  show tyOk (tyO M n) = true
  unfold tyO
  rw [h]; rfl
def wholeB (d : D) (lo hi : Int) : Bool := match d with
  | .int i => decide (lo ≤ i) && decide (i ≤ hi)
  | _ => false
theorem sp_is_whole {M : Mem} {d : D} {lo hi : Int} (h : okTy M d = true) : S_is_whole [d, .int lo, .int hi] M = .ok (.bl (wholeB d lo hi)) M := by
  unfold S_is_whole f_is_whole
  unfold okTy at h
  cases d with
  | int i =>
    by_cases c : lo ≤ i <;> simp [startD, tyK, tabInt, tabBool, wholeB, c]
  | ref n =>
    cases e : tyK M (.ref n) with
    | none => rw [e] at h; cases h
    | some k =>
      rw [e] at h
      have z : tyK M (.ref n) = tyO M n := rfl
      rw [z] at e
      have nk : k ≠ .int ∧ k ≠ .bl := by
        unfold tyO at e
        split at e <;> cases e <;> exact ⟨by simp, by simp⟩
      cases k <;> first | (cases h; done) | (exact absurd rfl nk.1) | (exact absurd rfl nk.2) | simp [startD, tyK, e, tabInt, wholeB]
  | _ => simp [startD, tyK, tabInt, tabBool, wholeB]
theorem pyEq_int {M : Mem} {a b : Int} : pyEq M (.int a) (.int b) = some (decide (a = b)) := pyEq_enc (T := Int) (vw_int a) (vw_int b)
theorem pyEq_bl {M : Mem} {a b : Bool} : pyEq M (.bl a) (.bl b) = some (decide (a = b)) := pyEq_enc (T := Bool) (vw_bl a) (vw_bl b)
/-- an order of p purses -/
def isOrd (d : D) (p : Int) : Bool := match d with
  | .tup [.int a, .int b, .int c, .int e] => decide (0 ≤ a ∧ a ≤ p - 1 ∧ 0 ≤ c ∧ c ≤ p - 1 ∧ a ≠ c ∧ 0 ≤ b ∧ b ≤ 99 ∧ 1 ≤ e ∧ e ≤ 1000)
  | _ => false
/-- the items of a tuple are of kinds that are known -/
def itTy (M : Mem) : D → Bool
  | .tup ds => ds.all (okTy M)
  | _ => true
theorem len4 {ds : List D} (h : ds.length = 4) : ∃ a b c e, ds = [a, b, c, e] := by
  match ds, h with
  | [a, b, c, e], _ => exact ⟨a, b, c, e, rfl⟩
theorem wholeB_int {d : D} {lo hi : Int} (h : wholeB d lo hi = true) : ∃ i, d = .int i ∧ lo ≤ i ∧ i ≤ hi := by
  cases d <;> simp [wholeB] at h
  exact ⟨_, rfl, h.1, h.2⟩
theorem isOrd_false {a b c e : D} {p : Int} (h : wholeB a 0 (p - 1) = false ∨ wholeB c 0 (p - 1) = false ∨ wholeB b 0 99 = false ∨ wholeB e 1 1000 = false) : isOrd (.tup [a, b, c, e]) p = false := by
  unfold isOrd
  split
  · rename_i i1 i2 i3 i4 z
    injection z with z
    simp only [List.cons.injEq] at z
    obtain ⟨rfl, rfl, rfl, rfl, _⟩ := z
    simp only [wholeB, Bool.and_eq_false_iff, decide_eq_false_iff_not] at h
    apply decide_eq_false
    omega
  · rfl
theorem sp_is_order {M : Mem} {d : D} {p : Int} (h : okTy M d = true) (hi : itTy M d = true) : S_is_order [d, .int p] M = .ok (.bl (isOrd d p)) M := by
  unfold S_is_order f_is_order
  have notTup : ∀ k, tyK M d = some k → k ≠ .tup → isOrd d p = false → (match decide ([d, D.int p].length = 2) with
      | true => (f_is_order (startD 6 [d, .int p]) M).fin
      | false => .bad) = .ok (.bl (isOrd d p)) M := fun k e hk ho => by
    have hk2 : tabTup k = some false := by
      unfold okTy at h
      rw [e] at h
      cases k <;> first | rfl | (exact absurd rfl hk) | (cases h)
    rw [ho]
    simp [f_is_order, startD, e, hk2]
  cases d with
  | tup ds =>
    by_cases hl : ds.length = 4
    · obtain ⟨a, b, c, e, rfl⟩ := len4 hl
      simp only [itTy, List.all_cons, List.all_nil, Bool.and_true, Bool.and_eq_true] at hi
      obtain ⟨ha, hb, hc, he⟩ := hi
      have w1 := sp_is_whole (lo := 0) (hi := p - 1) ha
      have w2 := sp_is_whole (lo := 0) (hi := p - 1) hc
      have w3 := sp_is_whole (lo := 0) (hi := 99) hb
      have w4 := sp_is_whole (lo := 1) (hi := 1000) he
      have q4 : pyEq M (.int 4) (.int 4) = some true := pyEq_int
      cases x1 : wholeB a 0 (p - 1) with
      | false => simp [startD, tyK, tabTup, q4, w1, x1, isOrd_false (.inl x1)]
      | true =>
        cases x2 : wholeB c 0 (p - 1) with
        | false => simp [startD, tyK, tabTup, q4, w1, w2, x1, x2, isOrd_false (.inr (.inl x2))]
        | true =>
          obtain ⟨i, rfl, i1, i2⟩ := wholeB_int x1
          obtain ⟨j, rfl, j1, j2⟩ := wholeB_int x2
          have q5 : pyEq M (.int i) (.int j) = some (decide (i = j)) := pyEq_int
          by_cases hij : i = j
          · have z : isOrd (.tup [.int i, b, .int j, e]) p = false := by
              unfold isOrd
              split
              · rename_i z
                injection z with z
                simp only [List.cons.injEq, D.int.injEq] at z
                apply decide_eq_false
                omega
              · rfl
            subst hij
            simp [startD, tyK, tabTup, q4, w1, w2, x1, x2, q5, z]
          · cases x3 : wholeB b 0 99 with
            | false => simp [startD, tyK, tabTup, q4, w1, w2, w3, x1, x2, x3, q5, hij, isOrd_false (.inr (.inr (.inl x3)))]
            | true =>
              cases x4 : wholeB e 1 1000 with
              | false => simp [startD, tyK, tabTup, q4, w1, w2, w3, w4, x1, x2, x3, x4, q5, hij, isOrd_false (.inr (.inr (.inr x4)))]
              | true =>
                obtain ⟨k, rfl, k1, k2⟩ := wholeB_int x3
                obtain ⟨l, rfl, l1, l2⟩ := wholeB_int x4
                have z : isOrd (.tup [.int i, .int k, .int j, .int l]) p = true := decide_eq_true ⟨i1, i2, j1, j2, hij, k1, k2, l1, l2⟩
                simp [startD, tyK, tabTup, q4, w1, w2, w3, w4, x1, x2, x3, x4, q5, hij, z]
    · have q4 : pyEq M (.int (ds.length : Nat)) (.int 4) = some false := by
        rw [pyEq_int]
        congr 1
        exact decide_eq_false (by omega)
      have z : isOrd (.tup ds) p = false := by
        unfold isOrd
        split
        · rename_i z
          injection z with z
          subst z
          exact absurd rfl hl
        · rfl
      simp [startD, tyK, tabTup, q4, z]
  | ref n =>
    cases e : tyK M (.ref n) with
    | none => unfold okTy at h; rw [e] at h; cases h
    | some k =>
      refine notTup k e (fun z => ?_) rfl
      subst z
      have z : tyO M n = some .tup := e
      unfold tyO at z
      split at z <;> cases z
  | _ => exact notTup _ rfl (by simp) rfl
theorem sp_enough {M : Mem} {a b : Int} : S_enough [.int a, .int b] M = .ok (.int (a - b)) M := by
  unfold S_enough f_enough
  simp [startD]
theorem sp_is {M : Mem} {a b : Bool} : S__law_is [.bl a, .bl b] M = .ok (.bl (decide (a = b))) M := by
  unfold S__law_is f__law_is
  simp [startD, tyK, tabBool, pyEq_bl]
end Fl

namespace Fl
open PySem
/-- rising, each once -/
abbrev Ris (ns : List Int) : Prop := ns.Pairwise (· < ·)
theorem sortNub_ris (ns : List Int) : Ris (sortNub ns) := by
  have h1 := sortI_sorted (nubI ns)
  have h2 : (sortI (nubI ns)).Nodup := (sortI_perm _).nodup_iff.mpr (nubI_nodup ns)
  unfold sortNub
  refine List.Pairwise.imp₂ ?_ h1 h2
  intro a b h3 h4
  omega
theorem sortNub_mem {ns : List Int} {k : Int} : k ∈ sortNub ns ↔ k ∈ ns := by
  unfold sortNub
  rw [(sortI_perm _).mem_iff, nubI_mem]
theorem sortNub_iff (ns : List Int) : sortNub ns = ns ↔ Ris ns := by
  constructor
  · intro h
    have z := sortNub_ris ns
    rw [h] at z
    exact z
  · intro h
    exact (sortNub_eq h fun k => Iff.rfl).symm
/-- a paper of these houses -/
def isPap (d : D) (h f p : Int) : Bool := match d with
  | .tup [o, .tup ss] => isOrd o p && (ss.all (fun x => wholeB x 0 (h - 1)) && (match intsOf ss with
    | some ns => decide (sortNub ns = ns) && decide (h - f ≤ ns.length)
    | none => false))
  | _ => false
/-- the kinds within are known -/
def papTy (M : Mem) : D → Bool
  | .tup [o, .tup ss] => okTy M o && (itTy M o && (ss.all (okTy M) && decide (ss.length < 64)))
  | .tup [o, s] => okTy M o && (itTy M o && okTy M s)
  | _ => true
theorem all_ints : ∀ {ss : List D} {lo hi : Int}, ss.all (fun x => wholeB x lo hi) = true → ∃ ns : List Int, ss = ns.map .int
  | [], _, _, _ => ⟨[], rfl⟩
  | d :: ds, lo, hi, h => by
    rw [List.all_cons, Bool.and_eq_true] at h
    obtain ⟨i, rfl, _⟩ := wholeB_int h.1
    obtain ⟨ns, rfl⟩ := all_ints h.2
    exact ⟨i :: ns, rfl⟩
theorem len2 {ds : List D} (h : ds.length = 2) : ∃ a b, ds = [a, b] := by
  match ds, h with
  | [a, b], _ => exact ⟨a, b, rfl⟩
theorem sp_checked {M : Mem} {d : D} {h f p : Int} (h1 : okTy M d = true) (h2 : itTy M d = true) (h3 : papTy M d = true) : ∃ M', S_checked [d, .int h, .int f, .int p] M = .ok (.bl (isPap d h f p)) M' ∧ Fr [] M M' := by
  unfold S_checked
  have notTup : ∀ k, tyK M d = some k → k ≠ .tup → isPap d h f p = false → ∃ M', (match decide ([d, D.int h, D.int f, D.int p].length = 4) with
      | true => (f_checked (startD 7 [d, .int h, .int f, .int p]) M).fin
      | false => .bad) = .ok (.bl (isPap d h f p)) M' ∧ Fr [] M M' := fun k e hk ho => by
    have hk2 : tabTup k = some false := by
      unfold okTy at h1
      rw [e] at h1
      cases k <;> first | rfl | (exact absurd rfl hk) | (cases h1)
    rw [ho]
    exact ⟨M, by simp [f_checked, startD, e, hk2], Fr.refl⟩
  cases d with
  | tup ds =>
    by_cases hl : ds.length = 2
    · obtain ⟨o, s, rfl⟩ := len2 hl
      have q2 : pyEq M (.int 2) (.int 2) = some true := pyEq_int
      have ho : okTy M o = true ∧ itTy M o = true := by
        unfold papTy at h3
        split at h3
        · rename_i z; injection z with z; simp only [List.cons.injEq] at z
          obtain ⟨rfl, _⟩ := z
          simp only [Bool.and_eq_true] at h3
          exact ⟨h3.1, h3.2.1⟩
        · rename_i z; injection z with z; simp only [List.cons.injEq] at z
          obtain ⟨rfl, _⟩ := z
          simp only [Bool.and_eq_true] at h3
          exact ⟨h3.1, h3.2.1⟩
        · rename_i z; exact absurd rfl (z _ _)
      have so := sp_is_order (p := p) ho.1 ho.2
      cases xo : isOrd o p with
      | false =>
        refine ⟨M, ?_, Fr.refl⟩
        have z : isPap (.tup [o, s]) h f p = false := by
          unfold isPap
          split
          · rename_i z; injection z with z; simp only [List.cons.injEq] at z
            obtain ⟨rfl, _⟩ := z
            rw [xo]; rfl
          · rfl
        rw [z]
        simp [f_checked, startD, tyK, tabTup, q2, so, xo]
      | true =>
        cases s with
        | tup ss =>
          simp only [papTy, Bool.and_eq_true, decide_eq_true_eq] at h3
          obtain ⟨_, _, ht, hlt⟩ := h3
          have line : ss.length + 1 ≤ sizeLine := le_line (by omega)
          have e1 : lcL (nxT ss) (gN 6) tYesF (dCall 3 0 S_is_whole (fun xs x => xs) (dCons (dVar 6) (dCons (dC (D.int 0)) (dCons (dOp2 gSub (dVar 1) (dC (D.int 1))) dNil))) dNil) [some (.tup [o, .tup ss]), some (.int h), some (.int f), some (.int p), some (.tup ss), none, none] (ss.length + 1) 0 M
              = .ok (ss.map fun x => .bl (wholeB x 0 (h - 1))) M := by
            have z := lc_pure (nx := nxT ss) (g := gN 6) (tt := tYesF) (te := dCall 3 0 S_is_whole (fun xs x => xs) (dCons (dVar 6) (dCons (dC (D.int 0)) (dCons (dOp2 gSub (dVar 1) (dC (D.int 1))) dNil))) dNil)
              (s := [some (.tup [o, .tup ss]), some (.int h), some (.int f), some (.int p), some (.tup ss), none, none]) (ds := ss) (M := M) (fun _ => true) (fun x => .bl (wholeB x 0 (h - 1))) (fun i _ => nxT_at i) fun d hd => ⟨_, rfl, rfl, fun _ => by
                have w := sp_is_whole (lo := 0) (hi := h - 1) (List.all_eq_true.mp ht d hd)
                simp [w]⟩
            rwa [List.filter_eq_self.mpr fun _ _ => rfl] at z
          obtain ⟨bs, hbs⟩ : ∃ bs, bs = ss.map fun x => wholeB x 0 (h - 1) := ⟨_, rfl⟩
          obtain ⟨bd, hbd⟩ : ∃ bd, bd = ss.map fun x => D.bl (wholeB x 0 (h - 1)) := ⟨_, rfl⟩
          rw [← hbd] at e1
          have e2 : blsOf bd = some bs := by
            have := blsOf_mk bs
            rw [hbs, List.map_map] at this
            rw [hbd, hbs]
            exact this
          have e3 : bs.all id = ss.all (fun x => wholeB x 0 (h - 1)) := by rw [hbs, List.all_map]; rfl
          cases xa : ss.all (fun x => wholeB x 0 (h - 1)) with
          | false =>
            refine ⟨_, ?_, Fr.app (T := [.lst bd])⟩
            have z : isPap (.tup [o, .tup ss]) h f p = false := by unfold isPap; simp only [xo, xa]; rfl
            rw [xa] at e3
            rw [z]
            simp [f_checked, startD, tyK, tabTup, q2, so, xo, dLc, iSeq, wipeD, line, e1, e2, e3]
          | true =>
            rw [xa] at e3
            obtain ⟨ns, rfl⟩ := all_ints xa
            have hl2 : ns.length < 64 := by simpa using hlt
            have z : isPap (.tup [o, .tup (ns.map .int)]) h f p = (decide (sortNub ns = ns) && decide (h - f ≤ ns.length)) := by unfold isPap; simp only [xo, xa, intsOf_mk, Bool.true_and]
            have v1 : pyEq (M ++ [.lst bd, .lst ((sortNub ns).map .int), .lst (ns.map .int)]) (.ref (M.length + 1)) (.ref (M.length + 2)) = some (decide (sortNub ns = ns)) := by
              refine pyEq_enc (T := List Int) (vw_ints (listAt_of ?_)) (vw_ints (listAt_of ?_)) <;> simp
            rw [z]
            refine ⟨M ++ [.lst bd, .lst ((sortNub ns).map .int), .lst (ns.map .int)], ?_, Fr.app⟩
            simp only [List.length_map] at line e1
            cases xs : decide (sortNub ns = ns) <;> simp [f_checked, startD, tyK, tabTup, q2, so, xo, dLc, iSeq, wipeD, line, e1, e2, e3, seqOf, intsOf_mk, hl2, v1, xs, sp_enough]
        | ref n =>
          have hs : okTy M (.ref n) = true := by
            simp only [papTy, Bool.and_eq_true] at h3
            exact h3.2.2
          cases e : tyK M (.ref n) with
          | none => unfold okTy at hs; rw [e] at hs; cases hs
          | some k =>
            have hk : tabTup k = some false := by
              unfold okTy at hs
              rw [e] at hs
              have z : tyO M n = some k := e
              unfold tyO at z
              split at z <;> cases z <;> first | rfl | cases hs
            have e' : tyO M n = some k := e
            exact ⟨M, by simp [f_checked, startD, q2, so, xo, e', hk, isPap, tyK, show tabTup .tup = some true from rfl], Fr.refl⟩
        | _ => exact ⟨M, by simp [f_checked, startD, tyK, tabTup, q2, so, xo, isPap], Fr.refl⟩
    · have q2 : pyEq M (.int (ds.length : Nat)) (.int 2) = some false := by
        rw [pyEq_int]
        congr 1
        exact decide_eq_false (by omega)
      have z : isPap (.tup ds) h f p = false := by
        unfold isPap
        split
        · rename_i z
          injection z with z
          subst z
          exact absurd rfl hl
        · rfl
      exact ⟨M, by simp [f_checked, startD, tyK, tabTup, q2, z], Fr.refl⟩
  | ref n =>
    cases e : tyK M (.ref n) with
    | none => unfold okTy at h1; rw [e] at h1; cases h1
    | some k =>
      refine notTup k e (fun z => ?_) rfl
      subst z
      have z : tyO M n = some .tup := e
      unfold tyO at z
      split at z <;> cases z
  | _ => exact notTup _ rfl (by simp) rfl
end Fl

namespace Fl
open PySem
/-! ### orders -/
structure Od where
  p : Int
  n : Int
  g : Int
  m : Int
deriving DecidableEq
def Od.d (o : Od) : D := .tup [.int o.p, .int o.n, .int o.g, .int o.m]
def Od.row (o : Od) : List Int := [o.p, o.n, o.g, o.m]
def Od.ok (o : Od) (k : Int) : Prop := 0 ≤ o.p ∧ o.p ≤ k - 1 ∧ 0 ≤ o.g ∧ o.g ≤ k - 1 ∧ o.p ≠ o.g ∧ 0 ≤ o.n ∧ o.n ≤ 99 ∧ 1 ≤ o.m ∧ o.m ≤ 1000
instance {o : Od} {k : Int} : Decidable (o.ok k) := by unfold Od.ok; infer_instance
theorem Od.ord {o : Od} {k : Int} (h : o.ok k) : isOrd o.d k = true := decide_eq_true h
theorem Od.nord {o : Od} {k : Int} (h : ¬ o.ok k) : isOrd o.d k = false := decide_eq_false h
theorem Od.of {d : D} {k : Int} (h : isOrd d k = true) : ∃ o : Od, d = o.d ∧ o.ok k := by
  unfold isOrd at h
  split at h
  · rename_i a b c e
    exact ⟨⟨a, b, c, e⟩, rfl, of_decide_eq_true h⟩
  · cases h
theorem Od.ty {M : Mem} (o : Od) : okTy M o.d = true := rfl
theorem Od.it {M : Mem} (o : Od) : itTy M o.d = true := rfl
theorem Od.vw {M : Mem} {k : Nat} (o : Od) : Vw M (k + 2) o.d (Tup.mk o.row) := vw_tup (ds := o.row.map .int) (toPys_int o.row)
theorem Od.row_inj {a b : Od} : a.row = b.row ↔ a = b := by
  cases a; cases b
  simp [Od.row]
theorem Od.d_inj {a b : Od} : a.d = b.d ↔ a = b := by
  cases a; cases b
  simp [Od.d]
theorem od_eq {M : Mem} {a b : Od} : pyEq M a.d b.d = some (decide (a = b)) := by
  rw [pyEq_enc (T := Tup Int) (Od.vw a) (Od.vw b)]
  congr 1
  simp [Od.row_inj]
theorem pl_eq {M : Mem} {a b c d : Int} : pyEq M (.tup [.int a, .int b]) (.tup [.int c, .int d]) = some (decide (a = c ∧ b = d)) := by
  rw [pyEq_enc (T := Tup Int) (vw_tup (ds := [.int a, .int b]) (toPys_int [a, b])) (vw_tup (ds := [.int c, .int d]) (toPys_int [c, d]))]
  congr 1
  simp
theorem od_sl {M : Mem} {o : Od} : gSl o.d none (some 2) M = .ok (.tup [.int o.p, .int o.n]) M := rfl
theorem od_cut {o : Od} : cutD [.int o.p, .int o.n, .int o.g, .int o.m] none (some 2) = [.int o.p, .int o.n] := rfl
theorem sp_look_order {M : Mem} {d : D} {p : Int} (h : okTy M d = true) (hi : itTy M d = true) : S_look_order [d, .int p] M = ifR (isOrd d p) (.ok .non M) (.exc 8 none M) := by
  unfold S_look_order f_look_order
  have z := sp_is_order (p := p) h hi
  cases e : isOrd d p <;> simp [startD, z, e]
theorem sp_place {M : Mem} {o : Od} (h : o.ok 8) : S_place_of [o.d] M = .ok (.tup [.int o.p, .int o.n]) M := by
  unfold S_place_of f_place_of
  have z := sp_look_order (p := 8) (Od.ty (M := M) o) (Od.it o)
  rw [Od.ord h] at z
  simp [startD, z, od_sl]
theorem sp_place_x {M : Mem} {d : D} (h : okTy M d = true) (hi : itTy M d = true) (hx : isOrd d 8 = false) : S_place_of [d] M = .exc 8 none M := by
  unfold S_place_of f_place_of
  have z := sp_look_order (p := 8) h hi
  rw [hx] at z
  simp [startD, z]
theorem sp_clash {M : Mem} {a b : Od} (h : a.ok 8) (h' : b.ok 8) : S_clash [a.d, b.d] M = .ok (.bl (decide (a.p = b.p ∧ a.n = b.n ∧ a ≠ b))) M := by
  unfold S_clash f_clash
  have z := sp_look_order (p := 8) (Od.ty (M := M) a) (Od.it a)
  have z' := sp_look_order (p := 8) (Od.ty (M := M) b) (Od.it b)
  rw [Od.ord h] at z
  rw [Od.ord h'] at z'
  by_cases c : a.p = b.p ∧ a.n = b.n
  · simp [startD, z, z', od_sl, pl_eq, c, od_eq]
  · simp [startD, z, z', od_sl, pl_eq, c, od_eq]
    intro h1 h2
    exact absurd ⟨h1, h2⟩ c
theorem sp_clash_x1 {M : Mem} {d e : D} (h : okTy M d = true) (hi : itTy M d = true) (hx : isOrd d 8 = false) : S_clash [d, e] M = .exc 8 none M := by
  unfold S_clash f_clash
  have z := sp_look_order (p := 8) h hi
  rw [hx] at z
  simp [startD, z]
theorem sp_clash_x2 {M : Mem} {d : D} {a : Od} (ha : a.ok 8) (h : okTy M d = true) (hi : itTy M d = true) (hx : isOrd d 8 = false) : S_clash [a.d, d] M = .exc 8 none M := by
  unfold S_clash f_clash
  have z := sp_look_order (p := 8) h hi
  have z' := sp_look_order (p := 8) (Od.ty (M := M) a) (Od.it a)
  rw [hx] at z
  rw [Od.ord ha] at z'
  simp [startD, z, z']
theorem sp_in_common {M : Mem} {a b : Int} : S_in_common [.int a, .int b] M = .ok (.tup [.int (2 * (a - b) - a), .int (2 * (a - b) - a - b)]) M := by
  unfold S_in_common f_in_common
  have z : gMulX (.int 2) (.int (a - b)) M = .ok (.int (2 * (a - b))) M := gMulX_int (.inl (by omega))
  simp [startD, sp_enough, z, sizeLine]
theorem sp_pick {M : Mem} {n : Nat} {ds : List D} (t : Town M) (hn : listAt M n = some ds) (hne : n ≠ 1 ∧ n ≠ 2) (h0 : 0 < ds.length) (h1 : ds.length < 1000000) : ∃ d ∈ ds, ∃ M', S__law_pick [.ref 2, .ref n] M = .ok d M' ∧ Town M' ∧ Fr [1, 2] M M' ∧ M'.length = M.length := by
  obtain ⟨v, M', e, v0, v1, t', f, l⟩ := sp_draw (m := ds.length) t (by omega) (by omega)
  have h := f.list hn (by simp [hne])
  have z : itemAt ds v = some (ds.getD v.toNat .non) := by
    rw [itemAt_int v0 v1, List.getD_eq_getElem?_getD, List.getElem?_eq_getElem (by omega)]; rfl
  refine ⟨ds.getD v.toNat .non, ?_, M', ?_, t', f, l⟩
  · rw [List.getD_eq_getElem?_getD, List.getElem?_eq_getElem (by omega)]
    exact List.getElem_mem _
  · unfold S__law_pick f__law_pick
    simp [startD, hn, e, h, z]
/-! ### sums behind orders -/
def sAt (xs : List Int) (i : Int) : Int := xs.getD i.toNat 0
def mv (xs : List Int) (o : Od) : List Int := (xs.set o.p.toNat (sAt xs o.p - o.m)).set o.g.toNat (sAt (xs.set o.p.toNat (sAt xs o.p - o.m)) o.g + o.m)
def mvs (xs : List Int) (os : List Od) : List Int := os.foldl mv xs
def flow1 (o : Od) (i : Int) : Int := (if o.g = i then o.m else 0) - (if o.p = i then o.m else 0)
def flow (os : List Od) (i : Int) : Int := (os.map (flow1 · i)).sum
theorem mv_len {xs : List Int} {o : Od} : (mv xs o).length = xs.length := by simp [mv]
theorem mvs_len : ∀ {os : List Od} {xs : List Int}, (mvs xs os).length = xs.length
  | [], _ => rfl
  | o :: os, xs => by
    show (mvs (mv xs o) os).length = _
    rw [mvs_len, mv_len]
theorem sAt_set {xs : List Int} {k : Nat} {v i : Int} (hi : 0 ≤ i ∧ i < xs.length) : sAt (xs.set k v) i = if (k : Int) = i then v else sAt xs i := by
  unfold sAt
  simp only [List.getD_eq_getElem?_getD, List.getElem?_set]
  by_cases h : (k : Int) = i
  · rw [if_pos h, if_pos (by omega), if_pos (by omega)]; rfl
  · rw [if_neg h, if_neg (by omega)]
theorem mv_at {xs : List Int} {o : Od} (h : o.ok xs.length) {i : Int} (hi : 0 ≤ i ∧ i < xs.length) : sAt (mv xs o) i = sAt xs i + flow1 o i := by
  obtain ⟨h1, h2, h3, h4, h5, _⟩ := h
  unfold mv flow1
  rw [sAt_set (by simpa using hi), sAt_set (by omega), sAt_set (by omega)]
  have e1 : ((o.g.toNat : Nat) : Int) = o.g := by omega
  have e2 : ((o.p.toNat : Nat) : Int) = o.p := by omega
  rw [e1, e2, if_neg h5]
  by_cases c1 : o.g = i
  · subst c1
    rw [if_pos rfl, if_pos rfl, if_neg h5]
    omega
  · rw [if_neg c1, if_neg c1]
    by_cases c2 : o.p = i
    · subst c2
      rw [if_pos rfl, if_pos rfl]
      omega
    · rw [if_neg c2, if_neg c2]
      omega
theorem mvs_at : ∀ {os : List Od} {xs : List Int}, (∀ o ∈ os, o.ok xs.length) → ∀ {i : Int}, (0 ≤ i ∧ i < xs.length) → sAt (mvs xs os) i = sAt xs i + flow os i
  | [], _, _, _, _ => by simp [mvs, flow]
  | o :: os, xs, h, i, hi => by
    show sAt (mvs (mv xs o) os) i = _
    rw [mvs_at (fun o' ho => by rw [mv_len]; exact h o' (List.mem_cons_of_mem _ ho)) (by rw [mv_len]; exact hi), mv_at (h o List.mem_cons_self) hi]
    show _ = _ + (flow1 o i + flow os i)
    omega
theorem sAt_ext {xs ys : List Int} (hl : xs.length = ys.length) (h : ∀ i : Int, 0 ≤ i ∧ i < xs.length → sAt xs i = sAt ys i) : xs = ys := by
  apply List.ext_getElem hl
  intro k h1 h2
  have z := h k (by omega)
  unfold sAt at z
  simpa [List.getD_eq_getElem?_getD, h1, h2] using z
theorem sum_perm {xs ys : List Int} (h : xs.Perm ys) : xs.sum = ys.sum := by
  induction h with
  | nil => rfl
  | cons a _ ih => rw [List.sum_cons, List.sum_cons, ih]
  | swap a b l => simp only [List.sum_cons]; omega
  | trans _ _ h1 h2 => exact h1.trans h2
theorem flow_perm {os os' : List Od} (h : os.Perm os') (i : Int) : flow os i = flow os' i := sum_perm (h.map _)
theorem mvs_perm {os os' : List Od} (h : os.Perm os') {xs : List Int} (ho : ∀ o ∈ os, o.ok xs.length) : mvs xs os = mvs xs os' := by
  refine sAt_ext (by rw [mvs_len, mvs_len]) fun i hi => ?_
  rw [mvs_len] at hi
  rw [mvs_at ho hi, mvs_at (fun o h' => ho o (h.mem_iff.mpr h')) hi, flow_perm h]
theorem sum_set : ∀ {xs : List Int} {k : Nat} {v : Int}, k < xs.length → (xs.set k v).sum = xs.sum - sAt xs k + v
  | x :: xs, 0, v, _ => by simp [sAt]; omega
  | x :: xs, k + 1, v, h => by
    have z := sum_set (xs := xs) (k := k) (v := v) (by simpa using h)
    have e : sAt (x :: xs) ((k + 1 : Nat) : Int) = sAt xs (k : Int) := by simp [sAt]
    rw [e, List.set_cons_succ, List.sum_cons, List.sum_cons, z]
    omega
theorem mv_sum {xs : List Int} {o : Od} (h : o.ok xs.length) : (mv xs o).sum = xs.sum := by
  obtain ⟨h1, h2, h3, h4, h5, _⟩ := h
  unfold mv
  rw [sum_set (by rw [List.length_set]; omega), sum_set (by omega)]
  have e1 : ((o.g.toNat : Nat) : Int) = o.g := by omega
  have e2 : ((o.p.toNat : Nat) : Int) = o.p := by omega
  rw [e1, e2]
  omega
theorem mvs_sum : ∀ {os : List Od} {xs : List Int}, (∀ o ∈ os, o.ok xs.length) → (mvs xs os).sum = xs.sum
  | [], _, _ => rfl
  | o :: os, xs, h => by
    show (mvs (mv xs o) os).sum = _
    rw [mvs_sum (fun o' ho => by rw [mv_len]; exact h o' (List.mem_cons_of_mem _ ho)), mv_sum (h o List.mem_cons_self)]
theorem itemAt_s {xs : List Int} {i : Int} (h : 0 ≤ i ∧ i < xs.length) : itemAt (xs.map .int) i = some (.int (sAt xs i)) := by
  rw [itemAt_int h.1 (by rw [List.length_map]; exact h.2), List.getElem?_map, List.getElem?_eq_getElem (by omega)]
  unfold sAt
  rw [List.getD_eq_getElem?_getD, List.getElem?_eq_getElem (by omega)]
  rfl
theorem ixF_s {n : Nat} {i : Int} (h : 0 ≤ i ∧ i < n) : ixF n i = some i.toNat := by
  unfold ixF
  rw [decide_eq_true h.1]
  simp only [decide_eq_true h.2]
theorem getIx_s {M : Mem} {n : Nat} {xs : List Int} {i : Int} (hn : listAt M n = some (xs.map .int)) (h : 0 ≤ i ∧ i < xs.length) : getIx M (.ref n) (.int i) = some (.int (sAt xs i)) := by
  simp [getIx, hn, itemAt_s h]
theorem setIx_s {M : Mem} {n : Nat} {xs : List Int} {i v : Int} (hn : M[n]? = some (.lst (xs.map .int))) (h : 0 ≤ i ∧ i < xs.length) : setIx M (.ref n) (.int i) (.int v) = some (M.set n (.lst ((xs.set i.toNat v).map .int))) := by
  simp [setIx, hn, ixF_s h, List.map_set]
theorem blsOf_true (n : Nat) : blsOf (List.replicate n (D.bl true)) = some (List.replicate n true) := by
  rw [← blsOf_mk, List.map_replicate]
theorem sp_summed {M : Mem} {no nb : Nat} {os : List Od} {b : List Int} (ho : M[no]? = some (.lst (os.map Od.d))) (hb : M[nb]? = some (.lst (b.map .int))) (hg : ∀ o ∈ os, o.ok b.length) (hl : os.length < 100000) :
    S_summed [.ref no, .ref nb] M = .ok (.ref (M.length + 1)) (M ++ [.lst (List.replicate os.length (.bl true)), .lst ((mvs b os).map .int)]) := by
  have lo := listAt_of ho
  have lb := listAt_of hb
  have key : Ret (fun d M' => d = .ref (M.length + 1) ∧ M' = M ++ [.lst (List.replicate os.length (.bl true)), .lst ((mvs b os).map .int)]) (f_summed (startD 8 [.ref no, .ref nb]) M) := by
    unfold f_summed
    have c1 : lcL (nxL no) (gN 7) tYesF (dCall 1 1 S_is_order (fun xs zs => xs ++ zs) (dCons (dVar 7) dNil) (dCons (dOpN gLen (dCons (dVar 1) dNil)) dNil)) [some (.ref no), some (.ref nb), none, none, none, none, none, none] (os.length + 1) 0 M = .ok (List.replicate os.length (.bl true)) M := by
      have z := lc_pure (nx := nxL no) (g := gN 7) (tt := tYesF) (te := dCall 1 1 S_is_order (fun xs zs => xs ++ zs) (dCons (dVar 7) dNil) (dCons (dOpN gLen (dCons (dVar 1) dNil)) dNil)) (s := startD 8 [.ref no, .ref nb]) (ds := os.map Od.d) (M := M) (fun _ => true) (fun _ => .bl true) (fun i _ => nxL_at lo i) (fun d hd => by
        obtain ⟨o, h1, rfl⟩ := List.mem_map.mp hd
        refine ⟨_, rfl, rfl, fun _ => ?_⟩
        have z := sp_is_order (p := b.length) (Od.ty (M := M) o) (Od.it o)
        rw [Od.ord (hg o h1)] at z
        simp [startD, lb, z])
      rw [List.length_map] at z
      refine z.trans ?_
      rw [List.filter_eq_self.mpr (by simp), List.map_map]
      exact congrArg (fun x => Res.ok x M) (List.eq_replicate_iff.mpr ⟨by simp, by simp⟩)
    have ty : tyK M (.ref no) = some .lst := by
      show tyO M no = _
      unfold tyO
      rw [ho]
    have l1 : os.length + 1 ≤ sizeLine := Nat.le_trans (by omega) (by decide : 100000 ≤ sizeLine)
    refine go_nx (s1 := startD 8 [.ref no, .ref nb]) (M1 := M ++ [.lst (List.replicate os.length (.bl true))]) ?_ ?_
    · simp only [sIf_ap, tOrF_ap, tNotF_ap, tVal_ap, dOp1_ap, dOpN_ap, dCons_ap, dNil_ap]
      simp [startD, ty, tabLst, dLc, iSeq, lo, wipeD, l1, c1, blsOf_true]
    · have lb2 : listAt (M ++ [.lst (List.replicate os.length (.bl true))]) nb = some (b.map .int) := listAt_app lb
      refine go_nx (by simp [startD, lb2]; exact ⟨rfl, rfl⟩) ?_
      show Ret _ ((sFor _ _ _ _ _).seq _)
      unfold sFor
      have lo2 : ∀ T, listAt (M ++ T) no = some (os.map Od.d) := fun T => listAt_app lo
      simp only [iSeq, dVar_ap, startD, List.append_assoc, List.singleton_append, List.getElem?_cons_zero, List.cons_append, List.getElem?_set, List.set_cons_succ, List.set_cons_zero, bind_ok, lo2, toS_ok]
      refine for_ind (ds := os.map Od.d) (fun i s M' => M' = M ++ [.lst (List.replicate os.length (.bl true)), .lst ((mvs b (os.take i)).map .int)] ∧ ∃ x3 x4 x5 x6, s = [some (.ref no), some (.ref nb), some (.ref (M.length + 1)), x3, x4, x5, x6, none])
        (fun r => Ret (fun d M' => d = .ref (M.length + 1) ∧ M' = M ++ [.lst (List.replicate os.length (.bl true)), .lst ((mvs b os).map .int)]) (r.seq (sRet (dVar 2)))) ⟨by simp [mvs], none, none, none, none, by simp⟩ (fun i s M' hi ⟨e, _⟩ => by rw [e]; exact nxL_at (lo2 _) i) ?_ ?_
      · rintro i x s M' hx ⟨rfl, x3, x4, x5, x6, rfl⟩
        rw [List.getElem?_map] at hx
        cases q : os[i]? with
        | none => rw [q] at hx; cases hx
        | some o =>
          rw [q] at hx
          simp only [Option.map_some, Option.some.injEq] at hx
          subst hx
          have og := hg o (List.mem_of_getElem? q)
          have ht : os.take (i + 1) = os.take i ++ [o] := by rw [List.take_add_one, q]; rfl
          have hm : mvs b (os.take (i + 1)) = mv (mvs b (os.take i)) o := by
            rw [ht]
            simp [mvs, List.foldl_append]
          have hlen : (mvs b (os.take i)).length = b.length := mvs_len
          generalize mvs b (os.take i) = xs at hm hlen
          rw [← hlen] at og
          obtain ⟨h1, h2, h3, h4, h5, _⟩ := og
          refine ⟨_, _, by simp [Od.d]; exact ⟨rfl, rfl⟩, .inl ⟨_, M ++ [.lst (List.replicate os.length (.bl true)), .lst ((mv xs o).map .int)], .inl ?_, ?_, some (.int o.p), some (.int o.n), some (.int o.g), some (.int o.m), rfl⟩⟩
          · have n1 : (M ++ [MO.lst (List.replicate os.length (.bl true)), .lst (xs.map .int)])[M.length + 1]? = some (.lst (xs.map .int)) := by
              rw [List.getElem?_append_right (by omega)]; simp
            have g1 := getIx_s (listAt_of n1) (i := o.p) (by omega)
            have s1 := setIx_s (v := sAt xs o.p - o.m) n1 (i := o.p) (by omega)
            simp only [set_k, List.set_cons_succ, List.set_cons_zero] at s1
            have n2 : (M ++ [MO.lst (List.replicate os.length (.bl true)), .lst ((xs.set o.p.toNat (sAt xs o.p - o.m)).map .int)])[M.length + 1]? = some (.lst ((xs.set o.p.toNat (sAt xs o.p - o.m)).map .int)) := by
              rw [List.getElem?_append_right (by omega)]; simp
            have g2 := getIx_s (listAt_of n2) (i := o.g) (by rw [List.length_set]; omega)
            have s2 := setIx_s (v := sAt (xs.set o.p.toNat (sAt xs o.p - o.m)) o.g + o.m) n2 (i := o.g) (by rw [List.length_set]; omega)
            simp only [set_k, List.set_cons_succ, List.set_cons_zero] at s2
            simp only [sSeq_ap, sIxAug_ap, dVar_ap, List.getElem?_cons_succ, List.getElem?_cons_zero, toS_ok, g1, gSub_int, s1, seq_nx, g2, gIAdd_int, s2]
            rfl
          · rw [hm]
      · rintro s M' ⟨rfl, x3, x4, x5, x6, rfl⟩
        rw [List.length_map, List.take_length]
        exact ret_rt ⟨rfl, rfl⟩
  obtain ⟨d, M', e, rfl, rfl⟩ := key
  unfold S_summed
  simpa using e
end Fl

namespace Fl
open PySem
/-! ### what holds behind statements -/
structure Po where
  n : Sl → Mem → Prop
  b : Sl → Mem → Prop := fun _ _ => False
  c : Sl → Mem → Prop := fun _ _ => False
  r : D → Mem → Prop := fun _ _ => False
  x : Nat → Option (Nat × D) → Sl → Mem → Prop := fun _ _ _ _ => False
def Po.of (q : Po) : SR → Prop
  | .nx s M => q.n s M
  | .bk s M => q.b s M
  | .ct s M => q.c s M
  | .rt d M => q.r d M
  | .exc c f s M => q.x c f s M
  | .bad => False
theorem seq_po {q : Po} {r : SR} {u : SF} (h : Po.of { q with n := fun s M => q.of (u s M) } r) : q.of (r.seq u) := by
  cases r <;> exact h
theorem ret_of {Q : D → Mem → Prop} {r : SR} (h : Po.of { n := fun _ M => Q .non M, r := Q } r) : ∃ d M, r.fin = .ok d M ∧ Q d M := by
  cases r <;> first | exact ⟨_, _, rfl, h⟩ | exact h.elim
theorem Po.imp {q q' : Po} {r : SR} (h : q.of r) (hn : ∀ s M, q.n s M → q'.n s M) (hb : ∀ s M, q.b s M → q'.b s M) (hc : ∀ s M, q.c s M → q'.c s M) (hr : ∀ s M, q.r s M → q'.r s M) (hx : ∀ c f s M, q.x c f s M → q'.x c f s M) : q'.of r := by
  cases r
  · exact hn _ _ h
  · exact hr _ _ h
  · exact hb _ _ h
  · exact hc _ _ h
  · exact hx _ _ _ _ h
  · exact h.elim
/-- the rule of a loop -/
theorem for_po {nx : ItF} {g : GF} {body : SF} {ds : List D} {q : Po} (P : Nat → Sl → Mem → Prop) {s : Sl} {M : Mem} (h0 : P 0 s M) (hn : ∀ i s M, i ≤ ds.length → P i s M → nx i M = some ds[i]?)
    (hs : ∀ i d s M, ds[i]? = some d → P i s M → ∃ s1 M1, g d s M = .ok s1 M1 ∧ Po.of { n := P (i + 1), c := P (i + 1), b := q.n, r := q.r, x := q.x } (body s1 M1))
    (he : ∀ s M, P ds.length s M → q.n s M) : q.of (sForL nx g body (ds.length + 1) 0 s M) := by
  refine for_ind (ds := ds) P q.of h0 hn (fun i d s M hd hp => ?_) he
  obtain ⟨s1, M1, e1, h⟩ := hs i d s M hd hp
  refine ⟨s1, M1, e1, ?_⟩
  cases e : body s1 M1 with
  | nx s2 M2 => rw [e] at h; exact .inl ⟨_, _, .inl rfl, h⟩
  | ct s2 M2 => rw [e] at h; exact .inl ⟨_, _, .inr rfl, h⟩
  | bk s2 M2 => rw [e] at h; exact .inr (.inl ⟨_, _, rfl, h⟩)
  | rt s2 M2 => rw [e] at h; exact .inr (.inr (.inl ⟨_, _, rfl, h⟩))
  | exc c f s2 M2 => rw [e] at h; exact .inr (.inr (.inr ⟨_, _, _, _, rfl, h⟩))
  | bad => rw [e] at h; exact h.elim
section
variable {e : EF} {a : AF} {g : GF} {body u : SF} {s : Sl} {M M0 : Mem} {n : Nat} {ds : List D} {q : Po} {j : Int}
theorem iSeq_L (he : e s M = .ok (.ref n) M0) (hl : listAt M0 n = some ds) : iSeq e s M = .ok (nxL n, ds.length + 1) M0 := by
  unfold iSeq
  rw [he]
  simp only [bind_ok, hl]
theorem iSeq_T (he : e s M = .ok (.tup ds) M0) : iSeq e s M = .ok (nxT ds, ds.length + 1) M0 := by
  unfold iSeq
  rw [he]; rfl
theorem iRng1_R (he : a s M = .ok [.int j] M0) (h0 : 0 ≤ j) (h1 : j < 2 ^ 62) : iRng1 a s M = .ok (nxR 0 j.toNat, j.toNat + 1) M0 := by
  unfold iRng1
  rw [he]
  simp only [bind_ok]
  rw [decide_eq_true (by omega)]
/-- over a list -/
theorem end_forL (P : Nat → Sl → Mem → Prop) (he : e s M = .ok (.ref n) M0) (hl : listAt M0 n = some ds) (h0 : P 0 s M0) (hn : ∀ i s M, P i s M → listAt M n = some ds)
    (hs : ∀ i d s M, ds[i]? = some d → P i s M → ∃ s1 M1, g d s M = .ok s1 M1 ∧ Po.of { n := P (i + 1), c := P (i + 1), b := q.n, r := q.r, x := q.x } (body s1 M1))
    (hk : ∀ s M, P ds.length s M → q.n s M) : q.of (sFor (iSeq e) g body s M) := by
  unfold sFor
  rw [iSeq_L he hl]
  exact for_po P h0 (fun i s M _ hp => nxL_at (hn i s M hp) i) hs hk
theorem end_forT (P : Nat → Sl → Mem → Prop) (he : e s M = .ok (.tup ds) M0) (h0 : P 0 s M0)
    (hs : ∀ i d s M, ds[i]? = some d → P i s M → ∃ s1 M1, g d s M = .ok s1 M1 ∧ Po.of { n := P (i + 1), c := P (i + 1), b := q.n, r := q.r, x := q.x } (body s1 M1))
    (hk : ∀ s M, P ds.length s M → q.n s M) : q.of (sFor (iSeq e) g body s M) := by
  unfold sFor
  rw [iSeq_T he]
  exact for_po P h0 (fun i s M _ hp => nxT_at (M := M) i) hs hk
theorem end_forR (P : Nat → Sl → Mem → Prop) (he : a s M = .ok [.int j] M0) (j0 : 0 ≤ j) (j1 : j < 2 ^ 62) (h0 : P 0 s M0)
    (hs : ∀ (i : Nat) s M, (i : Int) < j → P i s M → ∃ s1 M1, g (.int i) s M = .ok s1 M1 ∧ Po.of { n := P (i + 1), c := P (i + 1), b := q.n, r := q.r, x := q.x } (body s1 M1))
    (hk : ∀ s M, P j.toNat s M → q.n s M) : q.of (sFor (iRng1 a) g body s M) := by
  unfold sFor
  rw [iRng1_R he j0 j1]
  have z := for_po (nx := nxR 0 j.toNat) (g := g) (body := body) (ds := (List.range j.toNat).map fun i => D.int (0 + (i : Nat))) (q := q) (s := s) (M := M0) P h0 (fun i s M hi _ => nxR_at i (by simpa using hi)) (fun i d s M hd hp => by
    rw [List.getElem?_map] at hd
    cases e : (List.range j.toNat)[i]? with
    | none => rw [e] at hd; cases hd
    | some w =>
      have e2 := List.getElem?_eq_some_iff.mp e
      obtain ⟨e3, e4⟩ := e2
      rw [List.getElem_range] at e4
      subst e4
      rw [e] at hd
      simp only [Option.map_some, Int.zero_add, Option.some.injEq] at hd
      subst hd
      rw [List.length_range] at e3
      exact hs i s M (by omega) hp) (by rw [List.length_map, List.length_range]; exact hk)
  rw [List.length_map, List.length_range] at z
  exact z
theorem go_forL (P : Nat → Sl → Mem → Prop) (he : e s M = .ok (.ref n) M0) (hl : listAt M0 n = some ds) (h0 : P 0 s M0) (hn : ∀ i s M, P i s M → listAt M n = some ds)
    (hs : ∀ i d s M, ds[i]? = some d → P i s M → ∃ s1 M1, g d s M = .ok s1 M1 ∧ Po.of { n := P (i + 1), c := P (i + 1), b := fun s M => q.of (u s M), r := q.r, x := q.x } (body s1 M1))
    (hk : ∀ s M, P ds.length s M → q.of (u s M)) : q.of (sSeq (sFor (iSeq e) g body) u s M) :=
  seq_po (end_forL (q := { q with n := fun s M => q.of (u s M) }) P he hl h0 hn hs hk)
theorem go_forT (P : Nat → Sl → Mem → Prop) (he : e s M = .ok (.tup ds) M0) (h0 : P 0 s M0)
    (hs : ∀ i d s M, ds[i]? = some d → P i s M → ∃ s1 M1, g d s M = .ok s1 M1 ∧ Po.of { n := P (i + 1), c := P (i + 1), b := fun s M => q.of (u s M), r := q.r, x := q.x } (body s1 M1))
    (hk : ∀ s M, P ds.length s M → q.of (u s M)) : q.of (sSeq (sFor (iSeq e) g body) u s M) :=
  seq_po (end_forT (q := { q with n := fun s M => q.of (u s M) }) P he h0 hs hk)
theorem go_forR (P : Nat → Sl → Mem → Prop) (he : a s M = .ok [.int j] M0) (j0 : 0 ≤ j) (j1 : j < 2 ^ 62) (h0 : P 0 s M0)
    (hs : ∀ (i : Nat) s M, (i : Int) < j → P i s M → ∃ s1 M1, g (.int i) s M = .ok s1 M1 ∧ Po.of { n := P (i + 1), c := P (i + 1), b := fun s M => q.of (u s M), r := q.r, x := q.x } (body s1 M1))
    (hk : ∀ s M, P j.toNat s M → q.of (u s M)) : q.of (sSeq (sFor (iRng1 a) g body) u s M) :=
  seq_po (end_forR (q := { q with n := fun s M => q.of (u s M) }) P he j0 j1 h0 hs hk)
/-! one statement after the other -/
theorem end_nx {t : SF} {s1 : Sl} {M1 : Mem} (h : t s M = .nx s1 M1) (k : q.n s1 M1) : q.of (t s M) := by rw [h]; exact k
theorem end_ct {t : SF} {s1 : Sl} {M1 : Mem} (h : t s M = .ct s1 M1) (k : q.c s1 M1) : q.of (t s M) := by rw [h]; exact k
theorem end_bk {t : SF} {s1 : Sl} {M1 : Mem} (h : t s M = .bk s1 M1) (k : q.b s1 M1) : q.of (t s M) := by rw [h]; exact k
theorem end_rt {t : SF} {d : D} {M1 : Mem} (h : t s M = .rt d M1) (k : q.r d M1) : q.of (t s M) := by rw [h]; exact k
theorem end_ex {t : SF} {c : Nat} {f : Option (Nat × D)} {s1 : Sl} {M1 : Mem} (h : t s M = .exc c f s1 M1) (k : q.x c f s1 M1) : q.of (t s M) := by rw [h]; exact k
theorem po_if {t : TF} {u v : SF} {b : Bool} (h : t s M = .ok b M0) (ht : b = true → q.of (u s M0)) (hf : b = false → q.of (v s M0)) : q.of (sIf t u v s M) := by
  rw [sIf_ap, h]
  cases b
  · exact hf rfl
  · exact ht rfl
theorem go_if {t : TF} {u v w : SF} {b : Bool} (h : t s M = .ok b M0) (ht : b = true → q.of ((u s M0).seq w)) (hf : b = false → q.of ((v s M0).seq w)) : q.of (sSeq (sIf t u v) w s M) := by
  rw [sSeq_ap, sIf_ap, h]
  cases b
  · exact hf rfl
  · exact ht rfl
end
/-! ### comprehensions -/
section
variable {e te : EF} {a : AF} {g : GF} {tt : TF} {is : List Nat} {s : Sl} {M M0 : Mem} {n k : Nat} {ds : List D} {j : Int}
theorem lc_L (P : Nat → List D → Mem → Prop) (he : e s M = .ok (.ref n) M0) (hl : listAt M0 n = some ds) (hlen : ds.length < 100000) (h0 : P 0 [] M0) (hn : ∀ i ys M, P i ys M → listAt M n = some ds)
    (hs : ∀ i d ys M, ds[i]? = some d → P i ys M → ∃ s1 M1 b M2, g d (wipeD s is) M = .ok s1 M1 ∧ tt s1 M1 = .ok b M2 ∧ ((b = true ∧ ∃ y M3, te s1 M2 = .ok y M3 ∧ P (i + 1) (ys ++ [y]) M3) ∨ (b = false ∧ P (i + 1) ys M2))) :
    ∃ ys M', dLc (iSeq e) g tt te is s M = .ok (.ref M'.length) (M' ++ [.lst ys]) ∧ P ds.length ys M' := by
  obtain ⟨ys, M', e1, h⟩ := lc_ind (nx := nxL n) P h0 (fun i ys M _ hp => nxL_at (hn i ys M hp) i) hs
  refine ⟨ys, M', ?_, h⟩
  unfold dLc
  rw [iSeq_L he hl]
  simp only [bind_ok]
  rw [decide_eq_true (Nat.le_trans (by omega : ds.length + 1 ≤ 100000) (by decide : 100000 ≤ sizeLine))]
  simp only [e1, bind_ok]
theorem lc_T (P : Nat → List D → Mem → Prop) (he : e s M = .ok (.tup ds) M0) (hlen : ds.length < 100000) (h0 : P 0 [] M0)
    (hs : ∀ i d ys M, ds[i]? = some d → P i ys M → ∃ s1 M1 b M2, g d (wipeD s is) M = .ok s1 M1 ∧ tt s1 M1 = .ok b M2 ∧ ((b = true ∧ ∃ y M3, te s1 M2 = .ok y M3 ∧ P (i + 1) (ys ++ [y]) M3) ∨ (b = false ∧ P (i + 1) ys M2))) :
    ∃ ys M', dLc (iSeq e) g tt te is s M = .ok (.ref M'.length) (M' ++ [.lst ys]) ∧ P ds.length ys M' := by
  obtain ⟨ys, M', e1, h⟩ := lc_ind (nx := nxT ds) P h0 (fun i ys M _ hp => nxT_at (M := M) i) hs
  refine ⟨ys, M', ?_, h⟩
  unfold dLc
  rw [iSeq_T he]
  simp only [bind_ok]
  rw [decide_eq_true (Nat.le_trans (by omega : ds.length + 1 ≤ 100000) (by decide : 100000 ≤ sizeLine))]
  simp only [e1, bind_ok]
theorem lc_R (P : Nat → List D → Mem → Prop) (he : a s M = .ok [.int j] M0) (j0 : 0 ≤ j) (j1 : j < 100000) (h0 : P 0 [] M0)
    (hs : ∀ (i : Nat) ys M, (i : Int) < j → P i ys M → ∃ s1 M1 b M2, g (.int i) (wipeD s is) M = .ok s1 M1 ∧ tt s1 M1 = .ok b M2 ∧ ((b = true ∧ ∃ y M3, te s1 M2 = .ok y M3 ∧ P (i + 1) (ys ++ [y]) M3) ∨ (b = false ∧ P (i + 1) ys M2))) :
    ∃ ys M', dLc (iRng1 a) g tt te is s M = .ok (.ref M'.length) (M' ++ [.lst ys]) ∧ P j.toNat ys M' := by
  obtain ⟨ys, M', e1, h⟩ := lc_ind (nx := nxR 0 j.toNat) (g := g) (tt := tt) (te := te) (s := wipeD s is) (ds := (List.range j.toNat).map fun i => D.int (0 + (i : Nat))) (M := M0) P h0 (fun i ys M hi _ => nxR_at i (by simpa using hi)) (fun i d ys M hd hp => by
    rw [List.getElem?_map] at hd
    cases e : (List.range j.toNat)[i]? with
    | none => rw [e] at hd; cases hd
    | some w =>
      have e2 := List.getElem?_eq_some_iff.mp e
      obtain ⟨e3, e4⟩ := e2
      rw [List.getElem_range] at e4
      subst e4
      rw [e] at hd
      simp only [Option.map_some, Int.zero_add, Option.some.injEq] at hd
      subst hd
      rw [List.length_range] at e3
      exact hs i ys M (by omega) hp)
  rw [List.length_map, List.length_range] at h e1
  refine ⟨ys, M', ?_, h⟩
  unfold dLc
  rw [iRng1_R he j0 (by omega)]
  simp only [bind_ok]
  rw [decide_eq_true (Nat.le_trans (by omega : j.toNat + 1 ≤ 100000) (by decide : 100000 ≤ sizeLine))]
  simp only [e1, bind_ok]
/-- .. that changes nothing -/
theorem lc_pL (p : D → Bool) (v : D → D) (he : e s M = .ok (.ref n) M) (hl : listAt M n = some ds) (hlen : ds.length < 100000)
    (hs : ∀ d ∈ ds, ∃ s1, g d (wipeD s is) M = .ok s1 M ∧ tt s1 M = .ok (p d) M ∧ (p d = true → te s1 M = .ok (v d) M)) : dLc (iSeq e) g tt te is s M = .ok (.ref M.length) (M ++ [.lst ((ds.filter p).map v)]) := by
  unfold dLc
  rw [iSeq_L he hl]
  simp only [bind_ok]
  rw [decide_eq_true (Nat.le_trans (by omega : ds.length + 1 ≤ 100000) (by decide : 100000 ≤ sizeLine))]
  simp only [lc_pure p v (fun i _ => nxL_at hl i) hs, bind_ok]
theorem lc_pT (p : D → Bool) (v : D → D) (he : e s M = .ok (.tup ds) M) (hlen : ds.length < 100000)
    (hs : ∀ d ∈ ds, ∃ s1, g d (wipeD s is) M = .ok s1 M ∧ tt s1 M = .ok (p d) M ∧ (p d = true → te s1 M = .ok (v d) M)) : dLc (iSeq e) g tt te is s M = .ok (.ref M.length) (M ++ [.lst ((ds.filter p).map v)]) := by
  unfold dLc
  rw [iSeq_T he]
  simp only [bind_ok]
  rw [decide_eq_true (Nat.le_trans (by omega : ds.length + 1 ≤ 100000) (by decide : 100000 ≤ sizeLine))]
  simp only [lc_pure p v (fun i _ => nxT_at i) hs, bind_ok]
theorem filter_all {A : Type} {l : List A} : l.filter (fun _ => true) = l := List.filter_eq_self.mpr (by simp)
theorem lc_mL (v : D → D) (he : e s M = .ok (.ref n) M) (hl : listAt M n = some ds) (hlen : ds.length < 100000)
    (hs : ∀ d ∈ ds, te ((wipeD s is).set k (some d)) M = .ok (v d) M) : dLc (iSeq e) (gN k) tYesF te is s M = .ok (.ref M.length) (M ++ [.lst (ds.map v)]) := by
  have z := lc_pL (g := gN k) (tt := tYesF) (te := te) (is := is) (fun _ => true) v he hl hlen fun d hd => ⟨_, rfl, rfl, fun _ => hs d hd⟩
  rw [filter_all] at z
  exact z
theorem lc_mT (v : D → D) (he : e s M = .ok (.tup ds) M) (hlen : ds.length < 100000)
    (hs : ∀ d ∈ ds, te ((wipeD s is).set k (some d)) M = .ok (v d) M) : dLc (iSeq e) (gN k) tYesF te is s M = .ok (.ref M.length) (M ++ [.lst (ds.map v)]) := by
  have z := lc_pT (g := gN k) (tt := tYesF) (te := te) (is := is) (fun _ => true) v he hlen fun d hd => ⟨_, rfl, rfl, fun _ => hs d hd⟩
  rw [filter_all] at z
  exact z
end
/-! ### small things -/
theorem il_eq {M : Mem} {a b : Nat} {xs ys : List Int} (ha : listAt M a = some (xs.map .int)) (hb : listAt M b = some (ys.map .int)) : pyEq M (.ref a) (.ref b) = some (decide (xs = ys)) := pyEq_enc (T := List Int) (vw_ints ha) (vw_ints hb)
theorem app_at {M : Mem} {n : Nat} {ds : List D} {y : D} (h : M[n]? = some (.lst ds)) (hl : ds.length < 100000) : gAppend (.ref n) [y] M = .ok .non (M.set n (.lst (ds ++ [y]))) := by
  have l : ds.length < sizeLine := Nat.lt_of_lt_of_le hl (by decide)
  simp [gAppend, listAt_of h, l]
theorem ty_lst {M : Mem} {n : Nat} {ds : List D} (h : M[n]? = some (.lst ds)) : tyK M (.ref n) = some .lst := by
  show tyO M n = _
  unfold tyO
  rw [h]
theorem tyLst_of {M : Mem} {n : Nat} {ds : List D} (h : M[n]? = some (.lst ds)) : tyLst (.ref n) M = true := by
  unfold tyLst
  simp [listAt_of h]
theorem rev_of {M : Mem} {n : Nat} {ds : List D} (h : M[n]? = some (.lst ds)) : gRev (.ref n) M = .ok (.ref M.length) (M ++ [.lst ds.reverse]) := by
  have e : seqOf M (.ref n) = some ds := listAt_of h
  unfold gRev
  rw [tyLst_of h, e]
theorem nin12 {n : Nat} (h : 2 < n) : n ∉ [1, 2] := by
  intro z
  simp only [List.mem_cons, List.not_mem_nil, or_false] at z
  omega
theorem Town.app {M T : Mem} (t : Town M) : Town (M ++ T) := t.fr (A := []) Fr.app (by simp) (by simp)
theorem sp_pickL {M : Mem} {ds : List D} (t : Town M) (h0 : 0 < ds.length) (h1 : ds.length < 1000000) : ∃ d ∈ ds, ∃ M', S__law_pick [.ref 2, .ref M.length] (M ++ [.lst ds]) = .ok d M' ∧ Town M' ∧ Fr [1, 2] M M' ∧ M'.length = M.length + 1 := by
  obtain ⟨d, hd, M', e, t', f, l⟩ := sp_pick (t.app (T := [.lst ds])) (n := M.length) listAt_new (by have := t.lt; omega) h0 h1
  exact ⟨d, hd, M', e, t', Fr.app.trans f, by rw [l]; simp⟩
theorem get_last {M : Mem} {o : MO} : (M ++ [o])[M.length]? = some o := by simp
theorem set_last {M : Mem} {o o' : MO} : (M ++ [o]).set M.length o' = M ++ [o'] := by
  rw [List.set_append_right _ _ (Nat.le_refl _)]; simp
end Fl

namespace Fl
open PySem PySem.W
/-! ### sorted things -/
abbrev Tks := List (Int ⊕ List Nat)
abbrev lexI (a b : Tks) : Bool := PyProof.Rows.lexLt PyProof.Rows.itemOrd a b
/-- things that can be compared -/
class Ordd (T : Type) [Enc T] : Prop where
  alk : ∀ a b : T, alike (Enc.enc a) (Enc.enc b) = true
  tok : ∀ a : T, ∀ t ∈ keyToks (Enc.enc a), ∃ i, t = .inl i
theorem alks {T : Type} [Enc T] [Ordd T] : ∀ a b : List T, alikeAll (a.map Enc.enc) (b.map Enc.enc) = true
  | [], _ => by simp [alikeAll]
  | _ :: _, [] => by simp [alikeAll]
  | x :: xs, y :: ys => by
    rw [List.map_cons, List.map_cons, alikeAll, Ordd.alk x y, alks xs ys]; rfl
theorem toks {T : Type} [Enc T] [Ordd T] : ∀ a : List T, ∀ t ∈ keyToksAll (a.map Enc.enc), ∃ i, t = .inl i
  | [], t, h => by
    simp only [List.map_nil, keyToksAll, List.mem_singleton] at h
    exact ⟨0, h⟩
  | x :: xs, t, h => by
    rw [List.map_cons, keyToksAll] at h
    rcases List.mem_cons.mp h with h | h
    · exact ⟨1, h⟩
    · rcases List.mem_append.mp h with h | h
      · exact Ordd.tok x t h
      · exact toks xs t h
instance : Ordd Int where
  alk := fun a b => by simp [Enc.enc, alike]
  tok := fun a t h => by
    simp only [Enc.enc, keyToks, List.mem_singleton] at h
    exact ⟨a, h⟩
instance {T : Type} [Enc T] [Ordd T] : Ordd (List T) where
  alk := fun a b => by
    show alike (.list _) (.list _) = true
    rw [alike]; exact alks a b
  tok := fun a t h => by
    change t ∈ keyToks (.list _) at h
    rw [keyToks] at h
    exact toks a t h
instance {T : Type} [Enc T] [Ordd T] : Ordd (Tup T) where
  alk := fun a b => by
    show alike (.tuple _) (.tuple _) = true
    rw [alike]; exact alks a.its b.its
  tok := fun a t h => by
    change t ∈ keyToks (.tuple _) at h
    rw [keyToks] at h
    exact toks a.its t h
instance {S T : Type} [Enc S] [Enc T] [Ordd S] [Ordd T] : Ordd (S × T) where
  alk := fun a b => by
    show alike (.tuple [_, _]) (.tuple [_, _]) = true
    simp [alike, alikeAll, Ordd.alk]
  tok := fun a t h => by
    change t ∈ keyToks (.tuple [_, _]) at h
    simp only [keyToks, keyToksAll, List.mem_cons, List.mem_append, List.not_mem_nil, or_false] at h
    rcases h with h | h | h | h | h
    · exact ⟨1, h⟩
    · exact Ordd.tok a.1 t h
    · exact ⟨1, h⟩
    · exact Ordd.tok a.2 t h
    · exact ⟨0, h⟩
/-- the order of data -/
def leE {T : Type} [Enc T] (a b : T) : Bool := !lexI (keyToks (Enc.enc b)) (keyToks (Enc.enc a))
theorem leE_total {T : Type} [Enc T] : TotalLe (leE (T := T)) := by
  have z := sortLe_total (PyProof.Rows.listOrd PyProof.Rows.itemOrd) false fun a : T => keyToks (Enc.enc a)
  exact z
theorem lex_tri : ∀ a b : Tks, (∀ t ∈ a, ∃ i, t = .inl i) → (∀ t ∈ b, ∃ i, t = .inl i) → lexI a b = false → lexI b a = false → a = b
  | [], [], _, _, _, _ => rfl
  | [], _ :: _, _, _, h, _ => by cases h
  | _ :: _, [], _, _, _, h => by cases h
  | x :: a, y :: b, hx, hy, h1, h2 => by
    obtain ⟨i, rfl⟩ := hx x List.mem_cons_self
    obtain ⟨j, rfl⟩ := hy y List.mem_cons_self
    unfold lexI at h1 h2
    rw [PyProof.Rows.lex_cons] at h1 h2
    have b1 : PyProof.Rows.itemOrd.blt (.inl i) (.inl j) = decide (i < j) := rfl
    have b2 : PyProof.Rows.itemOrd.blt (.inl j) (.inl i) = decide (j < i) := rfl
    rw [b1, b2] at h1 h2
    simp only [Bool.or_eq_false_iff, Bool.and_eq_false_iff, decide_eq_false_iff_not, Bool.not_eq_false', decide_eq_true_eq] at h1 h2
    have e : i = j := by omega
    subst e
    rw [lex_tri a b (fun t h => hx t (List.mem_cons_of_mem _ h)) (fun t h => hy t (List.mem_cons_of_mem _ h)) (by rcases h1.2 with z | z; omega; exact z) (by rcases h2.2 with z | z; omega; exact z)]
theorem leE_anti {T : Type} [Enc T] [Ordd T] {a b : T} (h1 : leE a b = true) (h2 : leE b a = true) : a = b := by
  have e := lex_tri _ _ (Ordd.tok a) (Ordd.tok b) (by simpa [leE] using h2) (by simpa [leE] using h1)
  refine (Enc.eq a b).mp ?_
  cases q : PyData.eqv (Enc.enc a) (Enc.enc b) with
  | true => rfl
  | false =>
    have z := (toks_eqv _ _ (Ordd.alk a b)).2 q
    rw [← e] at z
    have z1 := z [] [.inl 0]
    have z2 := z [.inl 0] [.inl 0]
    have p1 := lex_pre (keyToks (Enc.enc a)) [] [.inl 0]
    have p2 := lex_pre (keyToks (Enc.enc a)) [.inl 0] [.inl 0]
    rw [z1] at p1
    rw [z2, p1] at p2
    exact absurd p2 (by decide)
def sortE {T : Type} [Enc T] (l : List T) : List T := isortS leE l
theorem sortE_perm {T : Type} [Enc T] (l : List T) : (sortE l).Perm l := isortS_perm l
theorem sortE_sorted {T : Type} [Enc T] (l : List T) : (sortE l).Pairwise fun a b => leE a b = true := isortS_sorted leE_total l
theorem sortE_len {T : Type} [Enc T] (l : List T) : (sortE l).length = l.length := (sortE_perm l).length_eq
theorem sortE_mem {T : Type} [Enc T] {l : List T} {a : T} : a ∈ sortE l ↔ a ∈ l := (sortE_perm l).mem_iff
theorem sorted_uniq {T : Type} [Enc T] [Ordd T] : ∀ {l m : List T}, (l.Pairwise fun a b => leE a b = true) → (m.Pairwise fun a b => leE a b = true) → l.Perm m → l = m
  | [], m, _, _, p => (List.nil_perm.mp p).symm
  | a :: l, [], _, _, p => absurd p.symm (by simp)
  | a :: l, b :: m, h1, h2, p => by
    have h3 := List.pairwise_cons.mp h1
    have h4 := List.pairwise_cons.mp h2
    have e : a = b := by
      rcases List.mem_cons.mp (p.mem_iff.mp List.mem_cons_self) with z | z
      · exact z
      · rcases List.mem_cons.mp (p.mem_iff.mpr List.mem_cons_self) with y | y
        · exact y.symm
        · exact leE_anti (h3.1 b y) (h4.1 a z)
    subst e
    rw [sorted_uniq h3.2 h4.2 (List.perm_cons _ |>.mp p)]
theorem sortE_perm_eq {T : Type} [Enc T] [Ordd T] {l m : List T} (h : l.Perm m) : sortE l = sortE m := sorted_uniq (sortE_sorted l) (sortE_sorted m) ((sortE_perm l).trans (h.trans (sortE_perm m).symm))
theorem insS_map {A B : Type} {le : A → A → Bool} {le' : B → B → Bool} (f : A → B) (h : ∀ a b, le' (f a) (f b) = le a b) (x : A) : ∀ l : List A, insS le' (f x) (l.map f) = (insS le x l).map f
  | [] => rfl
  | y :: r => by
    rw [List.map_cons]
    unfold insS
    rw [h]
    cases le x y
    · simp only [List.map_cons]
      rw [insS_map f h x r]
    · rfl
theorem isortS_map {A B : Type} {le : A → A → Bool} {le' : B → B → Bool} (f : A → B) (h : ∀ a b, le' (f a) (f b) = le a b) : ∀ l : List A, isortS le' (l.map f) = (isortS le l).map f
  | [] => rfl
  | x :: r => by
    rw [List.map_cons]
    unfold isortS
    rw [isortS_map f h r, insS_map f h]
theorem sortP_map {T : Type} [Enc T] (f : T → D) (l : List T) : sortP (l.map f) (l.map Enc.enc) = (sortE l).map f := by
  unfold sortP sortE
  have e : (l.map f).zip (l.map Enc.enc) = l.map fun a => (f a, Enc.enc a) := by
    induction l with
    | nil => rfl
    | cons a r ih => simp only [List.map_cons, List.zip_cons_cons, ih]
  rw [e, isortS_map (le := leE) (fun a => (f a, Enc.enc a)) (fun a b => rfl), List.map_map]
  rfl
theorem alike_ok {T : Type} [Enc T] [Ordd T] (l : List T) : alikeB (l.map Enc.enc) = true := by
  unfold alikeB
  rw [List.all_map, List.all_eq_true]
  intro a _
  show ((l.map Enc.enc).all fun q => alike (Enc.enc a) q) = true
  rw [List.all_map, List.all_eq_true]
  exact fun b _ => Ordd.alk a b
/-- sorted(l), l of things f a -/
theorem sorted_of {T : Type} [Enc T] [Ordd T] {M : Mem} {n : Nat} (f : T → D) {l : List T} (hn : listAt M n = some (l.map f)) (hv : ∀ a ∈ l, Vw M 8 (f a) a) (ht : (∀ a ∈ l, isTupP (Enc.enc a) = true) ∨ ∀ a ∈ l, notTupP (Enc.enc a) = true) (hd : Enc.dp T < 60 := by decide) (hl : l.length < 100000) :
    gSorted [.ref n] M = .ok (.ref M.length) (M ++ [.lst ((sortE l).map f)]) := by
  have e1 : lstOf M (.ref n) = some (l.map f) := hn
  have e2 : allSome (toPy M 8) (l.map f) = some (l.map Enc.enc) := allSome_map fun a ha => hv a ha
  have e3 : sortOkB (l.map Enc.enc) = true := by
    unfold sortOkB
    rw [alike_ok, Bool.true_and, Bool.and_eq_true]
    constructor
    · rw [List.all_map, List.all_map]
      simp only [Bool.or_eq_true, List.all_eq_true]
      exact ht.imp (fun h a ha => h a ha) fun h a ha => h a ha
    · rw [List.all_map, List.all_eq_true]
      exact fun a _ => decide_eq_true (Nat.lt_of_le_of_lt (Enc.dep a) hd)
  unfold gSorted
  simp only [e1, e2, e3, List.length_map]
  rw [decide_eq_true (Nat.le_trans (by omega : l.length ≤ 100000) (by decide : 100000 ≤ sizeLine)), sortP_map]
/-! orders -/
instance : Enc Od where
  enc := fun o => .tuple [.int o.p, .int o.n, .int o.g, .int o.m]
  dp := 1
  eq := fun a b => by
    cases a; cases b
    simp [PyData.eqv, PyData.eqvAll]
  lay := fun a => by simp [PyData.canLay0, PyData.canLayAll0]
  dep := fun a => by simp [PyData.depth, PyData.depthAll]
instance : Ordd Od where
  alk := fun a b => by
    show alike (.tuple _) (.tuple _) = true
    simp [alike, alikeAll]
  tok := fun a t h => by
    change t ∈ keyToks (.tuple [.int _, .int _, .int _, .int _]) at h
    simp only [keyToks, keyToksAll, List.mem_cons, List.mem_append, List.not_mem_nil, or_false] at h
    rcases h with h | h | h | h | h | h | h | h | h <;> exact ⟨_, h⟩
theorem vw_od {M : Mem} {k : Nat} (o : Od) : Vw M (k + 2) o.d o := rfl
theorem sorted_od {M : Mem} {n : Nat} {l : List Od} (hn : listAt M n = some (l.map Od.d)) (hl : l.length < 100000) : gSorted [.ref n] M = .ok (.ref M.length) (M ++ [.lst ((sortE l).map Od.d)]) :=
  sorted_of Od.d hn (fun a _ => vw_od a) (.inl fun a _ => rfl) (hl := hl)
theorem vw_ods {M : Mem} {n k : Nat} {l : List Od} (hn : listAt M n = some (l.map Od.d)) : Vw M (k + 3) (.ref n) l := vw_list hn (allSome_map fun a _ => vw_od a)
theorem ol_eq {M : Mem} {a b : Nat} {xs ys : List Od} (ha : listAt M a = some (xs.map Od.d)) (hb : listAt M b = some (ys.map Od.d)) : pyEq M (.ref a) (.ref b) = some (decide (xs = ys)) := pyEq_enc (vw_ods ha) (vw_ods hb)
theorem od_in {M : Mem} {n : Nat} {o : Od} {l : List Od} (hn : listAt M n = some (l.map Od.d)) : pyIn M o.d (l.map Od.d) = some (decide (o ∈ l)) := pyIn_enc (vw_od o) (allSome_map fun a _ => vw_od a)
end Fl

namespace Fl
open PySem
/-! ### a comprehension over things f a -/
section
variable {A : Type} {e te : EF} {tt : TF} {is : List Nat} {s : Sl} {M : Mem} {n k : Nat}
theorem lc_fL (f : A → D) (q : A → Bool) (v : A → D) {l : List A} (he : e s M = .ok (.ref n) M) (hl : listAt M n = some (l.map f)) (hlen : l.length < 100000)
    (hs : ∀ a ∈ l, tt ((wipeD s is).set k (some (f a))) M = .ok (q a) M ∧ (q a = true → te ((wipeD s is).set k (some (f a))) M = .ok (v a) M)) : dLc (iSeq e) (gN k) tt te is s M = .ok (.ref M.length) (M ++ [.lst ((l.filter q).map v)]) := by
  obtain ⟨ys, M', e1, rfl, ey⟩ := lc_L (g := gN k) (tt := tt) (te := te) (is := is) (fun i ys M' => M' = M ∧ ys = ((l.take i).filter q).map v) he hl (by rw [List.length_map]; exact hlen) ⟨rfl, rfl⟩ (fun i ys M' ⟨e, _⟩ => by rw [e]; exact hl) fun i d ys M' hd ⟨e, ey⟩ => by
    subst e ey
    rw [List.getElem?_map] at hd
    cases ha : l[i]? with
    | none => rw [ha] at hd; cases hd
    | some a =>
      rw [ha] at hd
      simp only [Option.map_some, Option.some.injEq] at hd
      subst hd
      obtain ⟨h1, h2⟩ := hs a (List.mem_of_getElem? ha)
      refine ⟨_, _, q a, _, rfl, h1, ?_⟩
      rw [List.take_add_one, ha]
      cases hq : q a with
      | true => exact .inl ⟨rfl, v a, _, h2 hq, rfl, by simp [hq]⟩
      | false => exact .inr ⟨rfl, rfl, by simp [hq]⟩
  rw [e1, ey, List.length_map, List.take_length]
end
/-- how often a is in l -/
def cntE {T : Type} [DecidableEq T] (a : T) (l : List T) : Nat := l.countP fun z => decide (z = a)
theorem cntE_eq {T : Type} [DecidableEq T] (a : T) (l : List T) : cntE a l = @List.count T instBEqOfDecidableEq a l := rfl
theorem nodup_cntE {T : Type} [DecidableEq T] {l : List T} : l.Nodup ↔ ∀ a, cntE a l ≤ 1 := @List.nodup_iff_count T instBEqOfDecidableEq _ l
theorem cntE_pos {T : Type} [DecidableEq T] {a : T} {l : List T} : 0 < cntE a l ↔ a ∈ l := @List.count_pos_iff T instBEqOfDecidableEq _ _ _
theorem cnt_enc {T : Type} [Enc T] [DecidableEq T] {M : Mem} {n : Nat} {ds : List D} {x : D} {a : T} {l : List T} (h : M[n]? = some (.lst ds)) (hl : allSome (toPy M 8) ds = some (l.map Enc.enc)) (hx : Vw M 9 x a) (hd : Enc.dp T ≤ 63 := by decide) : onLst gCount (.ref n) [x] M = .ok (.int (cntE a l : Nat)) M := by
  have e : seqOf M (.ref n) = some ds := listAt_of h
  have e3 : SeqAt.shaped (Enc.enc a) = true := Enc.shaped (by omega) a
  have e4 : SeqAt.shaped (.list (l.map Enc.enc)) = true := Enc.shaped (T := List T) (by show Enc.dp T + 1 ≤ 64; omega) l
  have e5 : twoPy M x ds = some (Enc.enc a, l.map Enc.enc) := by
    have hx : toPy M 9 x = some (Enc.enc a) := hx
    unfold twoPy
    rw [hx, hl]
    simp only [e3, e4, Bool.and_self]
  unfold onLst
  rw [tyLst_of h]
  unfold gCount
  simp only [e, e5, List.countP_map, cntE]
  congr 3
  refine List.countP_congr fun z _ => ?_
  simp [Enc.eqv]
/-! ### while -/
theorem while_po {c : TF} {body : SF} {q : Po} (P : Nat → Sl → Mem → Prop)
    (h : ∀ n s M, P n s M → ∃ b M1, c s M = .ok b M1 ∧ (b = false → q.n s M1) ∧ (b = true → Po.of { n := fun s M => ∃ m, m < n ∧ P m s M, c := fun s M => ∃ m, m < n ∧ P m s M, b := q.n, r := q.r, x := q.x } (body s M1))) :
    ∀ k n s M, n < k → P n s M → q.of (sWhileL c body k s M)
  | 0, _, _, _, hk, _ => absurd hk (Nat.not_lt_zero _)
  | k + 1, n, s, M, hk, hp => by
    obtain ⟨b, M1, e, hf, ht⟩ := h n s M hp
    unfold sWhileL
    rw [e]
    simp only [toS_ok]
    cases b with
    | false => exact hf rfl
    | true =>
      have z := ht rfl
      cases eb : body s M1 with
      | nx s2 M2 => rw [eb] at z; obtain ⟨m, hm, hp⟩ := z; exact while_po P h k m s2 M2 (by omega) hp
      | ct s2 M2 => rw [eb] at z; obtain ⟨m, hm, hp⟩ := z; exact while_po P h k m s2 M2 (by omega) hp
      | bk s2 M2 => rw [eb] at z; exact z
      | rt d M2 => rw [eb] at z; exact z
      | exc c f s2 M2 => rw [eb] at z; exact z
      | bad => rw [eb] at z; exact z.elim
theorem go_while {c : TF} {body u : SF} {q : Po} {k n : Nat} {s : Sl} {M : Mem} (P : Nat → Sl → Mem → Prop) (hk : n < k) (h0 : P n s M)
    (h : ∀ n s M, P n s M → ∃ b M1, c s M = .ok b M1 ∧ (b = false → q.of (u s M1)) ∧ (b = true → Po.of { n := fun s M => ∃ m, m < n ∧ P m s M, c := fun s M => ∃ m, m < n ∧ P m s M, b := fun s M => q.of (u s M), r := q.r, x := q.x } (body s M1))) :
    q.of (sSeq (sWhileL c body k) u s M) := seq_po (while_po (q := { q with n := fun s M => q.of (u s M) }) P h k n s M hk h0)
/-! ### lots -/
def Od.pl (o : Od) : Int × Int := (o.p, o.n)
structure Lot (os : List Od) (ws : List Int) : Prop where
  l2 : 2 ≤ ws.length
  l8 : ws.length ≤ 8
  w : ∀ x ∈ ws, 0 ≤ x ∧ x ≤ 1000
  o : ∀ o ∈ os, o.ok ws.length
  nd : (os.map Od.pl).Nodup
theorem whole_ok {M : Mem} {x lo hi : Int} : S_is_whole [.int x, .int lo, .int hi] M = .ok (.bl (decide (lo ≤ x) && decide (x ≤ hi))) M := sp_is_whole rfl
theorem gAll_at {M : Mem} {n : Nat} {bs : List Bool} {b : Bool} (h : listAt M n = some (bs.map .bl)) (hb : bs.all id = b) : gAll [.ref n] M = .ok (.bl b) M := by
  simp only [gAll_ref, h, blsOf_mk, hb]
theorem gAny_at {M : Mem} {n : Nat} {bs : List Bool} {b : Bool} (h : listAt M n = some (bs.map .bl)) (hb : bs.any id = b) : gAny [.ref n] M = .ok (.bl b) M := by
  simp only [gAny_ref, h, blsOf_mk, hb]
/-- what look_lot says of a list of orders behind good sums -/
theorem look_lot_mid {M : Mem} {nw : Nat} {ws : List D} {q : Po} {o : D} (hw : M[nw]? = some (.lst ws)) (hl : ws.length < 100) (hk : ∀ d ∈ ws, okTy M d = true)
    (hb : (decide (2 ≤ ws.length) && decide (ws.length ≤ 8)) = true ∧ (ws.all fun d => wholeB d 0 1000) = true → ∀ M', M' = M ++ [MO.lst (ws.map fun d => .bl (wholeB d 0 1000))] →
      q.of ((sSeq (sIf (tOrF (tNotF (tVal (dOp1 (gIsi tabLst) (dVar 0)))) (tNotF (tVal (dOpN gAll (dCons (dLc (iSeq (dVar 0)) (gN 4) tYesF (dCall 1 1 S_is_order (fun xs zs => xs ++ zs) (dCons (dVar 4) dNil) (dCons (dOpN gLen (dCons (dVar 1) dNil)) dNil)) [4]) dNil))))) (sRaise 8) sNext) (sSeq (sSet 3 (dLc (iSeq (dVar 0)) (gN 4) tYesF (dSl (dVar 4) oNone (oSome (dC (.int 2)))) [4])) (sIf (tVal (dOpN gAny (dCons (dLc (iSeq (dVar 3)) (gN 5) tYesF (dOp2 gGt (dBm tyLst (onLst gCount) (dVar 3) (dCons (dVar 5) dNil)) (dC (.int 1))) [5]) dNil))) (sRaise 8) sNext)))
        [some o, some (.ref nw), some (.bl true), none, none, none, none] M'))
    (hx : ((decide (2 ≤ ws.length) && decide (ws.length ≤ 8)) = false ∨ (ws.all fun d => wholeB d 0 1000) = false) → ∀ s M', Fr [] M M' → q.x 9 none s M') : q.of (f_look_lot (startD 7 [o, .ref nw]) M) := by
  have lw := listAt_of hw
  have ty := ty_lst hw
  unfold f_look_lot
  refine go_nx (s1 := [some o, some (.ref nw), some (.bl (decide (2 ≤ ws.length) && decide (ws.length ≤ 8))), none, none, none, none]) (M1 := M) ?_ ?_
  · by_cases c : 2 ≤ ws.length
    · have c' : (2 : Int) ≤ (ws.length : Nat) := by omega
      simp [startD, ty, tabLst, lw, c, c']
      omega
    · have c' : ¬ (2 : Int) ≤ (ws.length : Nat) := by omega
      simp [startD, ty, tabLst, lw, c, c']
  · cases cb : (decide (2 ≤ ws.length) && decide (ws.length ≤ 8)) with
    | false => exact seq_po (end_ex (c := 9) (f := none) (s1 := [some o, some (.ref nw), some (.bl false), none, none, none, none]) (M1 := M) (by simp) (hx (.inl cb) _ _ Fr.refl))
    | true =>
      have c1 := lc_mL (e := dVar 1) (k := 6) (is := [6]) (s := [some o, some (.ref nw), some (.bl true), none, none, none, none]) (M := M) (te := dCall 3 0 S_is_whole (fun xs _ => xs) (dCons (dVar 6) (dCons (dC (.int 0)) (dCons (dC (.int 1000)) dNil))) dNil) (fun d => .bl (wholeB d 0 1000)) rfl lw (by omega) (fun d hd => by
        have z := sp_is_whole (lo := 0) (hi := 1000) (hk d hd)
        simp [wipeD, z])
      have a1 : gAll [.ref M.length] (M ++ [MO.lst (ws.map fun d => .bl (wholeB d 0 1000))]) = .ok (.bl (ws.all fun d => wholeB d 0 1000)) (M ++ [MO.lst (ws.map fun d => .bl (wholeB d 0 1000))]) :=
        gAll_at (bs := ws.map fun d => wholeB d 0 1000) (by rw [listAt_new, List.map_map]; rfl) (by rw [List.all_map]; rfl)
      cases ca : (ws.all fun d => wholeB d 0 1000) with
      | false =>
        rw [ca] at a1
        exact seq_po (end_ex (c := 9) (f := none) (s1 := [some o, some (.ref nw), some (.bl true), none, none, none, none]) (M1 := M ++ [MO.lst (ws.map fun d => .bl (wholeB d 0 1000))]) (by simp [c1, a1]) (hx (.inr ca) _ _ Fr.app))
      | true =>
        rw [ca] at a1
        exact go_nx (s1 := [some o, some (.ref nw), some (.bl true), none, none, none, none]) (M1 := M ++ [MO.lst (ws.map fun d => .bl (wholeB d 0 1000))]) (by simp [c1, a1]) (hb ⟨cb, ca⟩ _ rfl)
end Fl

namespace Fl
open PySem
/-- no list, here and behind -/
def NoLst (M : Mem) (o : D) : Prop := ∀ A, Fr [] M A → ∃ k, tyK A o = some k ∧ tabLst k = some false
theorem fin_exc_of {Q : Mem → Prop} {c : Nat} {r : SR} (h : Po.of { n := fun _ _ => False, x := fun c' f _ M => c' = c ∧ f = none ∧ Q M } r) : ∃ M, r.fin = .exc c none M ∧ Q M := by
  cases r <;> first | exact h.elim | skip
  obtain ⟨rfl, rfl, h⟩ := h
  exact ⟨_, rfl, h⟩
/-- sums that are none -/
def BadSums (M : Mem) (d : D) : Prop := NoLst M d ∨ ∃ n ws, d = .ref n ∧ M[n]? = some (.lst ws) ∧ ws.length < 100 ∧ (∀ x ∈ ws, okTy M x = true) ∧ ((decide (2 ≤ ws.length) && decide (ws.length ≤ 8)) = false ∨ (ws.all fun d => wholeB d 0 1000) = false)
theorem look_lot_h {M : Mem} {o d : D} (h : BadSums M d) : ∃ M', S_look_lot [o, d] M = .exc 9 none M' ∧ Fr [] M M' := by
  rcases h with h | ⟨n, ws, rfl, hw, hl, hk, hb⟩
  · obtain ⟨k, e1, e2⟩ := h M Fr.refl
    refine ⟨M, ?_, Fr.refl⟩
    unfold S_look_lot f_look_lot
    simp [startD, e1, e2]
  · have z := look_lot_mid (o := o) (q := { n := fun _ _ => False, x := fun c' f _ A => c' = 9 ∧ f = none ∧ Fr [] M A }) hw hl hk (fun ⟨h1, h2⟩ => by
      rcases hb with hb | hb
      · rw [hb] at h1; cases h1
      · rw [hb] at h2; cases h2) fun _ s A f => ⟨rfl, rfl, f⟩
    obtain ⟨M', e, f⟩ := fin_exc_of z
    refine ⟨M', ?_, f⟩
    unfold S_look_lot
    simpa using e
/-- sums -/
def GoodSums (M : Mem) (n : Nat) (ws : List Int) : Prop := M[n]? = some (.lst (ws.map .int)) ∧ 2 ≤ ws.length ∧ ws.length ≤ 8 ∧ ∀ x ∈ ws, 0 ≤ x ∧ x ≤ 1000
theorem GoodSums.fr {A : List Nat} {M M' : Mem} {n : Nat} {ws : List Int} (h : GoodSums M n ws) (f : Fr A M M') (hn : n ∉ A := by simp) : GoodSums M' n ws := ⟨f.get h.1 hn, h.2⟩
theorem good_b {ws : List Int} (h1 : 2 ≤ ws.length) (h2 : ws.length ≤ 8) (h3 : ∀ x ∈ ws, 0 ≤ x ∧ x ≤ 1000) : (decide (2 ≤ (ws.map D.int).length) && decide ((ws.map D.int).length ≤ 8)) = true ∧ ((ws.map D.int).all fun d => wholeB d 0 1000) = true := by
  refine ⟨by simp [h1, h2], ?_⟩
  rw [List.all_map, List.all_eq_true]
  intro x hx
  have := h3 x hx
  simp [wholeB, this.1, this.2]
/-- orders that are none -/
def BadOrds (M : Mem) (o : D) (k : Int) : Prop := NoLst M o ∨ (∃ n ds, o = .ref n ∧ M[n]? = some (.lst ds) ∧ ds.length < 10000 ∧ (∀ d ∈ ds, ∀ A, Fr [] M A → okTy A d = true ∧ itTy A d = true) ∧ ∃ d ∈ ds, isOrd d k = false) ∨
  ∃ (n : Nat) (os : List Od), o = .ref n ∧ M[n]? = some (.lst (os.map Od.d)) ∧ os.length < 10000 ∧ (∀ o ∈ os, Od.ok o k) ∧ ¬ (os.map Od.pl).Nodup
abbrev lotU : SF := (sSeq (sSet 3 (dLc (iSeq (dVar 0)) (gN 4) tYesF (dSl (dVar 4) oNone (oSome (dC (.int 2)))) [4])) (sIf (tVal (dOpN gAny (dCons (dLc (iSeq (dVar 3)) (gN 5) tYesF (dOp2 gGt (dBm tyLst (onLst gCount) (dVar 3) (dCons (dVar 5) dNil)) (dC (.int 1))) [5]) dNil))) (sRaise 8) sNext))
theorem pl_vw {M : Mem} {k : Nat} (p : Int × Int) : Vw M (k + 2) (.tup [.int p.1, .int p.2]) p := rfl
/-- the places -/
theorem lot_places {M : Mem} {n nw : Nat} {os : List Od} {q : Po} (hn : M[n]? = some (.lst (os.map Od.d))) (hl : os.length < 10000)
    (hx : ¬ (os.map Od.pl).Nodup → ∀ s A, Fr [] M A → q.x 8 none s A) (hg : (os.map Od.pl).Nodup → ∀ s A, Fr [] M A → q.n s A) : q.of (lotU [some (.ref n), some (.ref nw), some (.bl true), none, none, none, none] M) := by
  have c1 := lc_fL (e := dVar 0) (k := 4) (is := [4]) (tt := tYesF) (s := [some (.ref n), some (.ref nw), some (.bl true), none, none, none, none]) (M := M) (te := dSl (dVar 4) oNone (oSome (dC (.int 2)))) Od.d (fun _ => true) (fun o => .tup [.int o.p, .int o.n]) rfl (listAt_of hn) (by omega) (fun o ho => ⟨rfl, fun _ => by simp [wipeD, od_sl]⟩)
  rw [filter_all] at c1
  generalize hA : M ++ [MO.lst (os.map fun o => D.tup [.int o.p, .int o.n])] = A at c1
  have fA : Fr [] M A := by rw [← hA]; exact Fr.app
  have a3 : A[M.length]? = some (.lst (os.map fun o => D.tup [.int o.p, .int o.n])) := by rw [← hA]; simp
  refine go_nx (s1 := [some (.ref n), some (.ref nw), some (.bl true), some (.ref M.length), none, none, none]) (M1 := A) (by simp [c1]) ?_
  have e8 : allSome (toPy A 8) (os.map fun o => D.tup [.int o.p, .int o.n]) = some ((os.map Od.pl).map Enc.enc) := by
    rw [List.map_map]
    exact allSome_map fun o _ => rfl
  have c2 := lc_fL (e := dVar 3) (k := 5) (is := [5]) (tt := tYesF) (s := [some (.ref n), some (.ref nw), some (.bl true), some (.ref M.length), none, none, none]) (M := A) (te := dOp2 gGt (dBm tyLst (onLst gCount) (dVar 3) (dCons (dVar 5) dNil)) (dC (.int 1))) (fun o : Od => D.tup [.int o.p, .int o.n]) (fun _ => true) (fun o => .bl (decide (1 < cntE o.pl (os.map Od.pl)))) rfl (listAt_of a3) (by omega) (fun o ho => ⟨rfl, fun _ => by
    have z := cnt_enc a3 e8 (pl_vw o.pl)
    simp only [Od.pl] at z
    simp [wipeD, tyLst_of a3, z, Od.pl]
    exact decide_eq_decide.mpr (by omega)⟩)
  rw [filter_all] at c2
  have g : gAny [.ref A.length] (A ++ [MO.lst (os.map fun o => D.bl (decide (1 < cntE o.pl (os.map Od.pl))))]) = .ok (.bl (decide (¬ (os.map Od.pl).Nodup))) (A ++ [MO.lst (os.map fun o => D.bl (decide (1 < cntE o.pl (os.map Od.pl))))]) := by
    refine gAny_at (bs := os.map fun o => decide (1 < cntE o.pl (os.map Od.pl))) (by rw [listAt_new, List.map_map]; rfl) ?_
    rw [List.any_map]
    by_cases nd : (os.map Od.pl).Nodup
    · rw [decide_eq_false (not_not_intro nd), List.any_eq_false]
      intro o ho
      have z := nodup_cntE.mp nd o.pl
      simp only [Function.comp, id_eq, decide_eq_true_eq]
      omega
    · rw [decide_eq_true nd, List.any_eq_true]
      rw [nodup_cntE] at nd
      obtain ⟨p, hp⟩ := Classical.not_forall.mp nd
      have hm : p ∈ os.map Od.pl := cntE_pos.mp (by omega)
      obtain ⟨o, ho, rfl⟩ := List.mem_map.mp hm
      exact ⟨o, ho, by simp only [Function.comp, id_eq, decide_eq_true_eq]; omega⟩
  have fB : Fr [] M (A ++ [MO.lst (os.map fun o => D.bl (decide (1 < cntE o.pl (os.map Od.pl))))]) := fA.trans Fr.app
  by_cases nd : (os.map Od.pl).Nodup
  · rw [decide_eq_false (not_not_intro nd)] at g
    refine end_nx (s1 := [some (.ref n), some (.ref nw), some (.bl true), some (.ref M.length), none, none, none]) (M1 := A ++ [MO.lst (os.map fun o => D.bl (decide (1 < cntE o.pl (os.map Od.pl))))]) (by simp [c2, g]) (hg nd _ _ fB)
  · rw [decide_eq_true nd] at g
    exact end_ex (s1 := [some (.ref n), some (.ref nw), some (.bl true), some (.ref M.length), none, none, none]) (c := 8) (f := none) (M1 := A ++ [MO.lst (os.map fun o => D.bl (decide (1 < cntE o.pl (os.map Od.pl))))]) (by simp [c2, g]) (hx nd _ _ fB)
theorem lot_ords {M : Mem} {n nw : Nat} {ds : List D} {ws : List D} {q : Po} (hn : M[n]? = some (.lst ds)) (hw : M[nw]? = some (.lst ws)) (hl : ds.length < 10000) (hk : ∀ d ∈ ds, okTy M d = true ∧ itTy M d = true)
    (hx : (∃ d ∈ ds, isOrd d ws.length = false) → ∀ s A, Fr [] M A → q.x 8 none s A) (hg : (∀ d ∈ ds, isOrd d ws.length = true) → ∀ A, Fr [] M A → q.of (lotU [some (.ref n), some (.ref nw), some (.bl true), none, none, none, none] A)) :
    q.of ((sSeq (sIf (tOrF (tNotF (tVal (dOp1 (gIsi tabLst) (dVar 0)))) (tNotF (tVal (dOpN gAll (dCons (dLc (iSeq (dVar 0)) (gN 4) tYesF (dCall 1 1 S_is_order (fun xs zs => xs ++ zs) (dCons (dVar 4) dNil) (dCons (dOpN gLen (dCons (dVar 1) dNil)) dNil)) [4]) dNil))))) (sRaise 8) sNext) lotU)
      [some (.ref n), some (.ref nw), some (.bl true), none, none, none, none] M) := by
  have c1 := lc_mL (e := dVar 0) (k := 4) (is := [4]) (s := [some (.ref n), some (.ref nw), some (.bl true), none, none, none, none]) (M := M) (te := dCall 1 1 S_is_order (fun xs zs => xs ++ zs) (dCons (dVar 4) dNil) (dCons (dOpN gLen (dCons (dVar 1) dNil)) dNil)) (fun d => .bl (isOrd d ws.length)) rfl (listAt_of hn) (by omega) (fun d hd => by
    have z := sp_is_order (p := ws.length) (hk d hd).1 (hk d hd).2
    simp [wipeD, listAt_of hw, z])
  have a1 : gAll [.ref M.length] (M ++ [MO.lst (ds.map fun d => .bl (isOrd d ws.length))]) = .ok (.bl (ds.all fun d => isOrd d ws.length)) (M ++ [MO.lst (ds.map fun d => .bl (isOrd d ws.length))]) :=
    gAll_at (bs := ds.map fun d => isOrd d ws.length) (by rw [listAt_new, List.map_map]; rfl) (by rw [List.all_map]; rfl)
  cases ca : (ds.all fun d => isOrd d ws.length) with
  | false =>
    rw [ca] at a1
    refine seq_po (end_ex (c := 8) (f := none) (s1 := [some (.ref n), some (.ref nw), some (.bl true), none, none, none, none]) (M1 := M ++ [MO.lst (ds.map fun d => .bl (isOrd d ws.length))]) (by simp [ty_lst hn, tabLst, c1, a1]) (hx ?_ _ _ Fr.app))
    rw [List.all_eq_false] at ca
    obtain ⟨d, h1, h2⟩ := ca
    exact ⟨d, h1, by simpa using h2⟩
  | true =>
    rw [ca] at a1
    exact go_nx (s1 := [some (.ref n), some (.ref nw), some (.bl true), none, none, none, none]) (M1 := M ++ [MO.lst (ds.map fun d => .bl (isOrd d ws.length))]) (by simp [ty_lst hn, tabLst, c1, a1]) (hg (List.all_eq_true.mp ca) _ Fr.app)
theorem look_lot_o {M : Mem} {o : D} {nw : Nat} {ws : List Int} (hw : GoodSums M nw ws) (h : BadOrds M o ws.length) : ∃ M', S_look_lot [o, .ref nw] M = .exc 8 none M' ∧ Fr [] M M' := by
  obtain ⟨w0, w1, w2, w3⟩ := hw
  have z := look_lot_mid (o := o) (q := { n := fun _ _ => False, x := fun c' f _ A => c' = 8 ∧ f = none ∧ Fr [] M A }) w0 (by rw [List.length_map]; omega) (fun x hx => by obtain ⟨i, _, rfl⟩ := List.mem_map.mp hx; rfl) (fun _ A hA => by
    have fA : Fr [] M A := by rw [hA]; exact Fr.app
    have wA := fA.get w0 (by simp)
    rcases h with h | ⟨n, ds, rfl, hn, hl, hk, hb⟩ | ⟨n, os, rfl, hn, hl, hk, hb⟩
    · obtain ⟨k, e1, e2⟩ := h A fA
      exact seq_po (end_ex (c := 8) (f := none) (s1 := [some o, some (.ref nw), some (.bl true), none, none, none, none]) (M1 := A) (by simp [e1, e2]) ⟨rfl, rfl, fA⟩)
    · refine lot_ords (fA.get hn (by simp)) wA hl (fun d hd => hk d hd A fA) (fun _ s B f => ⟨rfl, rfl, fA.trans f⟩) fun ha B f => ?_
      obtain ⟨d, hd, hx⟩ := hb
      have y := ha d hd
      rw [List.length_map, hx] at y
      cases y
    · refine lot_ords (fA.get hn (by simp)) wA (by rw [List.length_map]; exact hl) (fun d hd => by obtain ⟨i, _, rfl⟩ := List.mem_map.mp hd; exact ⟨rfl, rfl⟩) (fun _ s B f => ⟨rfl, rfl, fA.trans f⟩) fun ha B f => ?_
      exact lot_places ((fA.trans f).get hn (by simp)) hl (fun _ s C g => ⟨rfl, rfl, (fA.trans f).trans g⟩) fun nd => absurd nd hb) fun hx => by
    have y := good_b w1 w2 w3
    rw [y.1, y.2] at hx
    rcases hx with hx | hx <;> cases hx
  obtain ⟨M', e, f⟩ := fin_exc_of z
  refine ⟨M', ?_, f⟩
  unfold S_look_lot
  simpa using e
theorem look_lot_ok {M : Mem} {n nw : Nat} {ws : List Int} {os : List Od} (hw : M[nw]? = some (.lst (ws.map .int))) (hn : M[n]? = some (.lst (os.map Od.d))) (hl : os.length < 10000) (h : Lot os ws) : ∃ M', S_look_lot [.ref n, .ref nw] M = .ok .non M' ∧ Fr [] M M' := by
  have z := look_lot_mid (o := .ref n) (q := { n := fun _ A => D.non = .non ∧ Fr [] M A, r := fun d A => d = .non ∧ Fr [] M A }) hw (by rw [List.length_map]; have := h.l8; omega) (fun x hx => by obtain ⟨i, _, rfl⟩ := List.mem_map.mp hx; rfl) (fun _ A hA => by
    have fA : Fr [] M A := by rw [hA]; exact Fr.app
    have wA := fA.get hw (by simp)
    refine lot_ords (fA.get hn (by simp)) wA (by rw [List.length_map]; exact hl) (fun d hd => by obtain ⟨i, _, rfl⟩ := List.mem_map.mp hd; exact ⟨rfl, rfl⟩) (fun ⟨d, hd, hx⟩ s B f => ?_) fun ha B f => ?_
    · obtain ⟨o, ho, rfl⟩ := List.mem_map.mp hd
      rw [List.length_map, Od.ord (h.o o ho)] at hx
      cases hx
    · exact lot_places ((fA.trans f).get hn (by simp)) hl (fun nd => absurd h.nd nd) fun _ s C g => ⟨rfl, (fA.trans f).trans g⟩) fun hx => by
    have y := good_b h.l2 h.l8 h.w
    rw [y.1, y.2] at hx
    rcases hx with hx | hx <;> cases hx
  obtain ⟨d, M', e, rfl, f⟩ := ret_of (Q := fun d A => d = .non ∧ Fr [] M A) z
  refine ⟨M', ?_, f⟩
  unfold S_look_lot
  simpa using e
end Fl

namespace Fl
open PySem
theorem Fr.cut {S : List Nat} {M B M' : Mem} (f : Fr [] M B) (g : Fr S B M') (h : ∀ n ∈ S, M.length ≤ n) : Fr [] M M' :=
  ⟨Nat.le_trans f.len g.len, fun n hn _ => (g.old n (Nat.lt_of_lt_of_le hn f.len) fun z => absurd (h n z) (by omega)).trans (f.old n hn (by simp))⟩
section
variable {M : Mem} {o : Od}
theorem od_ix0 : gIx o.d (.int 0) M = .ok (.int o.p) M := by simp [Od.d]
theorem od_ix1 : gIx o.d (.int 1) M = .ok (.int o.n) M := by simp [Od.d]
theorem od_ix2 : gIx o.d (.int 2) M = .ok (.int o.g) M := by simp [Od.d]
theorem od_ix3 : gIx o.d (.int 3) M = .ok (.int o.m) M := by simp [Od.d]
theorem gIx_s {n : Nat} {xs : List Int} {i : Int} (hn : listAt M n = some (xs.map .int)) (h : 0 ≤ i ∧ i < xs.length) : gIx (.ref n) (.int i) M = .ok (.int (sAt xs i)) M := by simp [hn, itemAt_s h]
end
/-! ### settling one by one -/
def bmp (x : List Int) (p : Int) : List Int := x.set p.toNat (sAt x p + 1)
def able1 (w x : List Int) (o : Od) : Bool := decide (o.n = sAt x o.p) && decide (o.m ≤ sAt w o.p)
def ables (os : List Od) (w x : List Int) : List Od := sortE (os.filter (able1 w x))
def rowF (os : List Od) : Nat → List Int → List Int → List Od
  | 0, _, _ => []
  | k + 1, w, x => match ables os w x with
    | [] => []
    | o :: _ => o :: rowF os k (mv w o) (bmp x o.p)
def rowOf (os : List Od) (ws : List Int) : List Od := rowF os (os.length + 1) ws (List.replicate ws.length 0)
def mu (os : List Od) (x : List Int) : Nat := (os.filter fun o => decide (sAt x o.p ≤ o.n)).length
theorem mem_ables {os : List Od} {w x : List Int} {o : Od} : o ∈ ables os w x ↔ o ∈ os ∧ o.n = sAt x o.p ∧ o.m ≤ sAt w o.p := by
  unfold ables
  rw [sortE_mem, List.mem_filter]
  simp [able1]
theorem bmp_len {x : List Int} {p : Int} : (bmp x p).length = x.length := by simp [bmp]
theorem bmp_at {x : List Int} {p i : Int} (hp : 0 ≤ p) (hi : 0 ≤ i ∧ i < x.length) : sAt (bmp x p) i = sAt x i + (if p = i then 1 else 0) := by
  unfold bmp
  rw [sAt_set hi]
  have e : ((p.toNat : Nat) : Int) = p := by omega
  rw [e]
  by_cases c : p = i
  · rw [if_pos c, if_pos c, c]
  · rw [if_neg c, if_neg c]; omega
theorem filter_lt {A : Type} {p q : A → Bool} (h : ∀ a, q a = true → p a = true) : ∀ {l : List A} {a : A}, a ∈ l → p a = true → q a = false → (l.filter q).length < (l.filter p).length
  | b :: l, a, hm, hp, hq => by
    have le : (l.filter q).length ≤ (l.filter p).length := by
      rw [← List.countP_eq_length_filter, ← List.countP_eq_length_filter]
      exact List.countP_mono_left fun x _ hx => h x hx
    rcases List.mem_cons.mp hm with z | z
    · subst z
      rw [List.filter_cons, List.filter_cons, hq, hp]
      simp
      omega
    · have ih := filter_lt h z hp hq
      rw [List.filter_cons, List.filter_cons]
      cases e : q b with
      | true => rw [h b e]; simp; exact ih
      | false => cases p b <;> simp <;> omega
theorem mu_lt {os : List Od} {w x : List Int} {o : Od} (h : o ∈ ables os w x) (ho : ∀ o ∈ os, o.ok x.length) : mu os (bmp x o.p) < mu os x := by
  obtain ⟨h1, h2, h3⟩ := mem_ables.mp h
  have ok := ho o h1
  unfold mu
  have e : (os.filter fun q => decide (sAt (bmp x o.p) q.p ≤ q.n)) = os.filter fun q => decide (sAt x q.p + (if o.p = q.p then 1 else 0) ≤ q.n) := by
    refine List.filter_congr fun q hq => ?_
    have okq := ho q hq
    unfold Od.ok at ok okq
    rw [bmp_at (by omega) (by omega)]
  rw [e]
  refine filter_lt (fun q hq => ?_) h1 (by simp [h2]) (by simp [h2]; omega)
  simp only [decide_eq_true_eq] at hq ⊢
  split at hq <;> omega
theorem mu_le {os : List Od} {x : List Int} : mu os x ≤ os.length := List.length_filter_le _ _
section
variable {M : Mem} {no nw nx : Nat} {os : List Od} {w x : List Int}
theorem sp_able (ho : M[no]? = some (.lst (os.map Od.d))) (hw : M[nw]? = some (.lst (w.map .int))) (hx : M[nx]? = some (.lst (x.map .int))) (ok : ∀ o ∈ os, o.ok w.length) (hlen : x.length = w.length) (hl : os.length < 10000) :
    S_able_ones [.ref no, .ref nw, .ref nx] M = .ok (.ref (M.length + 1)) (M ++ [.lst ((os.filter (able1 w x)).map Od.d), .lst ((ables os w x).map Od.d)]) := by
  have c1 := lc_fL (e := dVar 0) (k := 3) (is := [3]) (tt := tAndF (tVal (dOp2 gEq (dOp2 gIx (dVar 3) (dC (.int 1))) (dOp2 gIx (dVar 2) (dOp2 gIx (dVar 3) (dC (.int 0)))))) (tVal (dOp2 gLe (dOp2 gIx (dVar 3) (dC (.int 3))) (dOp2 gIx (dVar 1) (dOp2 gIx (dVar 3) (dC (.int 0)))))))
    (s := [some (.ref no), some (.ref nw), some (.ref nx), none]) (M := M) (te := dVar 3) Od.d (able1 w x) Od.d rfl (listAt_of ho) (by omega) (fun o h => by
      have okq := ok o h
      unfold Od.ok at okq
      have g1 := gIx_s (i := o.p) (listAt_of hw) (by omega)
      have g2 := gIx_s (i := o.p) (listAt_of hx) (by omega)
      refine ⟨?_, fun _ => rfl⟩
      simp only [tAndF_ap, tVal_ap, dOp2_ap, dVar_ap, wipeD, List.set_cons_succ, List.set_cons_zero, List.getElem?_cons_succ, List.getElem?_cons_zero, bind_ok, dC_ap, od_ix0, od_ix1, od_ix3, g1, g2, gEq_ap, pyEq_int, okB_some, isB_bl, gLe_int, able1]
      by_cases c : o.n = sAt x o.p <;> simp [c])
  have s1 := sorted_od (M := M ++ [.lst ((os.filter (able1 w x)).map Od.d)]) (n := M.length) (l := os.filter (able1 w x)) listAt_new (by have := List.length_filter_le (able1 w x) os; omega)
  unfold S_able_ones f_able_ones
  simp only [List.length_append, List.length_singleton, List.append_assoc, List.singleton_append] at s1
  simp [startD, c1, s1, ables]
end
/-- the state of the loop that settles -/
structure RowSt (os : List Od) (ws : List Int) (A : Nat) (B : Mem) (n : Nat) (w x : List Int) (pre : List Od) (M : Mem) : Prop where
  fr : Fr [A, A + 1, A + 2] B M
  gw : M[A]? = some (.lst (w.map .int))
  gx : M[A + 1]? = some (.lst (x.map .int))
  gp : M[A + 2]? = some (.lst (pre.map Od.d))
  lw : w.length = ws.length
  lx : x.length = ws.length
  row : pre ++ rowF os n w x = rowOf os ws
  lp : pre.length + n = os.length + 1
  gm : mu os x < n
theorem nin3 {a n : Nat} (h : n < a) : n ∉ [a, a + 1, a + 2] := by
  intro z
  simp only [List.mem_cons, List.not_mem_nil, or_false] at z
  omega
theorem sp_row_for {M0 : Mem} {no nw : Nat} {os : List Od} {ws : List Int} (hw0 : M0[nw]? = some (.lst (ws.map .int))) (ho0 : M0[no]? = some (.lst (os.map Od.d))) (hl : os.length < 10000) (h : Lot os ws) :
    ∃ k M', S_row_for [.ref no, .ref nw] M0 = .ok (.ref k) M' ∧ Fr [] M0 M' ∧ M0.length ≤ k ∧ M'[k]? = some (.lst ((rowOf os ws).map Od.d)) := by
  obtain ⟨M, e0, f0⟩ := look_lot_ok hw0 ho0 hl h
  have hw := f0.get hw0 (by simp)
  have ho := f0.get ho0 (by simp)
  generalize hB : M ++ [MO.lst (ws.map .int), .lst ((ws.map fun _ => (0 : Int)).map .int), .lst []] = B
  have fB : Fr [] M B := by rw [← hB]; exact Fr.app
  have lno : no < M.length := (List.getElem?_eq_some_iff.mp ho).1
  have lnw : nw < M.length := (List.getElem?_eq_some_iff.mp hw).1
  have key : ∃ d M', (f_row_for (startD 10 [.ref no, .ref nw]) M0).fin = .ok d M' ∧ (∃ k, d = .ref k ∧ Fr [] M0 M' ∧ M0.length ≤ k ∧ M'[k]? = some (.lst ((rowOf os ws).map Od.d))) := by
    refine ret_of (Q := fun d M' => ∃ k, d = .ref k ∧ Fr [] M0 M' ∧ M0.length ≤ k ∧ M'[k]? = some (.lst ((rowOf os ws).map Od.d))) ?_
    unfold f_row_for
    have f1 : ∀ T, listAt (M ++ T) nw = some (ws.map .int) := fun T => listAt_app (listAt_of hw)
    have c1 := lc_fL (e := dVar 1) (k := 3) (is := [3]) (tt := tYesF) (s := [some (.ref no), some (.ref nw), some (.ref M.length), none, none, none, none, none, none, none]) (M := M ++ [MO.lst (ws.map .int)]) (te := dC (.int 0)) D.int (fun _ => true) (fun _ => .int 0) rfl (f1 _) (by have := h.l8; omega) (fun _ _ => ⟨rfl, fun _ => rfl⟩)
    rw [filter_all] at c1
    refine go_nx (s1 := [some (.ref no), some (.ref nw), none, none, none, none, none, none, none, none]) (M1 := M) (by simp [startD, e0]) ?_
    refine go_nx (s1 := [some (.ref no), some (.ref nw), some (.ref M.length), none, none, none, none, none, none, none]) (M1 := M ++ [MO.lst (ws.map .int)]) (by simp [listAt_of hw]) ?_
    refine go_nx (s1 := [some (.ref no), some (.ref nw), some (.ref M.length), none, some (.ref (M.length + 1)), none, none, none, none, none]) (M1 := M ++ [MO.lst (ws.map .int), .lst (ws.map fun _ => .int 0)]) (by simp [c1]) ?_
    refine go_nx (s1 := [some (.ref no), some (.ref nw), some (.ref M.length), none, some (.ref (M.length + 1)), some (.ref (M.length + 2)), none, none, none, none]) (M1 := B) (by rw [← hB]; simp [sizeLine]) ?_
    have bw : B[M.length]? = some (.lst (ws.map .int)) := by rw [← hB]; simp
    have bx : B[M.length + 1]? = some (.lst ((ws.map fun _ => (0 : Int)).map .int)) := by rw [← hB, List.getElem?_append_right (by omega)]; simp
    have bf : B[M.length + 2]? = some (.lst []) := by rw [← hB, List.getElem?_append_right (by omega)]; simp
    have ez : (ws.map fun _ => (0 : Int)) = List.replicate ws.length 0 := List.eq_replicate_iff.mpr ⟨by simp, by simp⟩
    rw [ez] at bx
    have bo := fB.get ho (by simp)
    have a1 := sp_able bo bw bx (fun o h' => h.o o h') (by simp) hl
    refine go_nx (s1 := [some (.ref no), some (.ref nw), some (.ref M.length), none, some (.ref (M.length + 1)), some (.ref (M.length + 2)), some (.ref (B.length + 1)), none, none, none]) (M1 := B ++ [.lst ((os.filter (able1 ws (List.replicate ws.length 0))).map Od.d), .lst ((ables os ws (List.replicate ws.length 0)).map Od.d)]) (by simp [a1]) ?_
    refine go_while (n := os.length + 1) (fun n s N => ∃ w x pre k x3 x7 x8 x9, RowSt os ws M.length B n w x pre N ∧ N[k]? = some (.lst ((ables os w x).map Od.d)) ∧ M.length + 2 < k ∧ s = [some (.ref no), some (.ref nw), some (.ref M.length), x3, some (.ref (M.length + 1)), some (.ref (M.length + 2)), some (.ref k), x7, x8, x9])
      (by omega) ⟨ws, List.replicate ws.length 0, [], B.length + 1, none, none, none, none, ⟨Fr.app, (Fr.app (A := [])).get bw (by simp), (Fr.app (A := [])).get bx (by simp), (Fr.app (A := [])).get bf (by simp), rfl, by simp, rfl, by simp, Nat.lt_succ_of_le mu_le⟩, by rw [List.getElem?_append_right (by omega)]; simp, by rw [← hB]; simp, rfl⟩ ?_
    rintro n s N ⟨w, x, pre, k, x3, x7, x8, x9, R, hk, lk, rfl⟩
    have hk2 : k < N.length := (List.getElem?_eq_some_iff.mp hk).1
    have le0 : pyEq (N ++ [MO.lst []]) (.ref k) (.ref N.length) = some (decide (ables os w x = [])) := ol_eq (ys := []) (listAt_app (listAt_of hk)) (by rw [listAt_new]; rfl)
    refine ⟨decide (ables os w x ≠ []), N ++ [MO.lst []], by simp [sizeLine, le0], fun hb => ?_, fun hb => ?_⟩
    · -- done
      have hb : ables os w x = [] := by simpa using hb
      have er : rowF os n w x = [] := by
        cases n with
        | zero => rfl
        | succ n => unfold rowF; rw [hb]
      have ep := R.row
      rw [er, List.append_nil] at ep
      refine end_rt (d := .ref (M.length + 2)) (M1 := N ++ [MO.lst []]) rfl ⟨_, rfl, ?_, ?_, ?_⟩
      · refine (f0.trans fB).cut (R.fr.trans Fr.app) fun m hm => ?_
        have := f0.len
        simp only [List.mem_cons, List.not_mem_nil, or_false] at hm
        omega
      · have := f0.len; omega
      · rw [← ep]; exact (Fr.app (A := [])).get R.gp (by simp)
    · have hb : ables os w x ≠ [] := by simpa using hb
      obtain ⟨o, r, er⟩ : ∃ o r, ables os w x = o :: r := by
        cases q : ables os w x with
        | nil => exact absurd q hb
        | cons o r => exact ⟨o, r, rfl⟩
      have om : o ∈ ables os w x := by rw [er]; exact List.mem_cons_self
      obtain ⟨oo, on, omu⟩ := mem_ables.mp om
      have ok := h.o o oo
      have okw : o.ok w.length := by rw [R.lw]; exact ok
      have okx : o.ok x.length := by rw [R.lx]; exact ok
      cases n with
      | zero => exact absurd R.gm (Nat.not_lt_zero _)
      | succ n =>
        have mul := mu_lt om (fun q hq => by rw [R.lx]; exact h.o q hq)
        have rmu := R.gm
        have row := R.row
        unfold rowF at row
        rw [er] at row
        generalize hN : N ++ [MO.lst []] = N1
        have f1 : Fr [] N N1 := by rw [← hN]; exact Fr.app
        have kN := f1.get hk (by simp)
        have wN := f1.get R.gw (by simp)
        have xN := f1.get R.gx (by simp)
        have pN := f1.get R.gp (by simp)
        have oN := f1.get (R.fr.get bo (nin3 (by omega))) (by simp)
        rw [er] at kN
        obtain ⟨q1, q2, q3, q4, q5, _⟩ := ok
        have lw := R.lw
        have lx := R.lx
        -- worth[purse] -= much; worth[goal] += much
        have g1 := getIx_s (listAt_of wN) (i := o.p) (by omega)
        have s1 := setIx_s (v := sAt w o.p - o.m) wN (i := o.p) (by omega)
        generalize hN2 : N1.set M.length (.lst ((w.set o.p.toNat (sAt w o.p - o.m)).map .int)) = N2 at s1
        have f2 : Fr [M.length] N1 N2 := by rw [← hN2]; exact Fr.set (by simp)
        have wN2 : N2[M.length]? = some (.lst ((w.set o.p.toNat (sAt w o.p - o.m)).map .int)) := by rw [← hN2, List.getElem?_set_self (List.getElem?_eq_some_iff.mp wN).1]
        have g2 := getIx_s (listAt_of wN2) (i := o.g) (by rw [List.length_set]; omega)
        have s2 := setIx_s (v := sAt (w.set o.p.toNat (sAt w o.p - o.m)) o.g + o.m) wN2 (i := o.g) (by rw [List.length_set]; omega)
        generalize hN3 : N2.set M.length (.lst (((w.set o.p.toNat (sAt w o.p - o.m)).set o.g.toNat (sAt (w.set o.p.toNat (sAt w o.p - o.m)) o.g + o.m)).map .int)) = N3 at s2
        have f3 : Fr [M.length] N1 N3 := by rw [← hN3]; exact f2.trans (Fr.set (by simp))
        have wN3 : N3[M.length]? = some (.lst ((mv w o).map .int)) := by rw [← hN3, List.getElem?_set_self (List.getElem?_eq_some_iff.mp wN2).1]; rfl
        have ne1 : ∀ {j : Nat}, j ≠ M.length → j ∉ [M.length] := fun h z => h (List.mem_singleton.mp z)
        have xN3 := f3.get xN (ne1 (by omega))
        have g3 := getIx_s (listAt_of xN3) (i := o.p) (by omega)
        have s3 := setIx_s (v := sAt x o.p + 1) xN3 (i := o.p) (by omega)
        generalize hN4 : N3.set (M.length + 1) (.lst ((x.set o.p.toNat (sAt x o.p + 1)).map .int)) = N4 at s3
        have f4' : Fr [M.length + 1] N3 N4 := by rw [← hN4]; exact Fr.set (by simp)
        have f4 : Fr [M.length, M.length + 1, M.length + 2] N1 N4 := (f3.mono (by simp)).trans (f4'.mono (by simp))
        have ne2 : ∀ {j : Nat}, j ≠ M.length + 1 → j ∉ [M.length + 1] := fun h z => h (List.mem_singleton.mp z)
        have wN4 := f4'.get wN3 (ne2 (by omega))
        have xN4 : N4[M.length + 1]? = some (.lst ((bmp x o.p).map .int)) := by rw [← hN4, List.getElem?_set_self (List.getElem?_eq_some_iff.mp xN3).1]; rfl
        have pN4 := f4'.get (f3.get pN (ne1 (by omega))) (ne2 (by omega))
        have lp := R.lp
        have ap := app_at (y := o.d) pN4 (by rw [List.length_map]; omega)
        generalize hN5 : N4.set (M.length + 2) (.lst (pre.map Od.d ++ [o.d])) = N5 at ap
        have f5' : Fr [M.length + 2] N4 N5 := by rw [← hN5]; exact Fr.set (by simp)
        have ne3 : ∀ {j : Nat}, j ≠ M.length + 2 → j ∉ [M.length + 2] := fun h z => h (List.mem_singleton.mp z)
        have f5 : Fr [M.length, M.length + 1, M.length + 2] N1 N5 := f4.trans (f5'.mono (by simp))
        have wN5 := f5'.get wN4 (ne3 (by omega))
        have xN5 := f5'.get xN4 (ne3 (by omega))
        have pN5 : N5[M.length + 2]? = some (.lst ((pre ++ [o]).map Od.d)) := by rw [← hN5, List.getElem?_set_self (List.getElem?_eq_some_iff.mp pN4).1]; simp
        have oN5 := f5.get oN (nin3 (by omega))
        have a5 := sp_able oN5 wN5 xN5 (fun q hq => by rw [mv_len, lw]; exact h.o q hq) (by rw [bmp_len, mv_len]; omega) hl
        have kN4 := (f4'.get (f3.get kN (ne1 (by omega))) (ne2 (by omega)))
        have io : ∀ {T : Mem}, T[k]? = some (.lst ((o :: r).map Od.d)) → gIx (.ref k) (.int 0) T = .ok o.d T := fun hT => by simp [listAt_of hT]
        refine go_nx (s1 := [some (.ref no), some (.ref nw), some (.ref M.length), some (.int o.p), some (.ref (M.length + 1)), some (.ref (M.length + 2)), some (.ref k), some (.int o.n), some (.int o.g), some (.int o.m)]) (M1 := N1) (by
          simp only [sAsg_ap, dOp2_ap, dVar_ap, dC_ap, bind_ok, List.getElem?_cons_succ, List.getElem?_cons_zero, io kN, toS_ok]
          simp [Od.d]) ?_
        refine go_nx (s1 := [some (.ref no), some (.ref nw), some (.ref M.length), some (.int o.p), some (.ref (M.length + 1)), some (.ref (M.length + 2)), some (.ref k), some (.int o.n), some (.int o.g), some (.int o.m)]) (M1 := N2) (by simp [g1, s1]) ?_
        refine go_nx (s1 := [some (.ref no), some (.ref nw), some (.ref M.length), some (.int o.p), some (.ref (M.length + 1)), some (.ref (M.length + 2)), some (.ref k), some (.int o.n), some (.int o.g), some (.int o.m)]) (M1 := N3) (by simp [g2, s2]) ?_
        refine go_nx (s1 := [some (.ref no), some (.ref nw), some (.ref M.length), some (.int o.p), some (.ref (M.length + 1)), some (.ref (M.length + 2)), some (.ref k), some (.int o.n), some (.int o.g), some (.int o.m)]) (M1 := N4) (by simp [g3, s3]) ?_
        refine go_nx (s1 := [some (.ref no), some (.ref nw), some (.ref M.length), some (.int o.p), some (.ref (M.length + 1)), some (.ref (M.length + 2)), some (.ref k), some (.int o.n), some (.int o.g), some (.int o.m)]) (M1 := N5) (by
          simp only [sDrop_ap, dBm_ap, dVar_ap, bind_ok, List.getElem?_cons_succ, List.getElem?_cons_zero, tyLst_of pN4, dCons_ap, dOp2_ap, dC_ap, io kN4, dNil_ap, ap, toS_ok]) ?_
        refine end_nx (s1 := [some (.ref no), some (.ref nw), some (.ref M.length), some (.int o.p), some (.ref (M.length + 1)), some (.ref (M.length + 2)), some (.ref (N5.length + 1)), some (.int o.n), some (.int o.g), some (.int o.m)]) (M1 := N5 ++ [.lst ((os.filter (able1 (mv w o) (bmp x o.p))).map Od.d), .lst ((ables os (mv w o) (bmp x o.p)).map Od.d)]) (by simp [a5]) ?_
        refine ⟨n, Nat.lt_succ_self _, mv w o, bmp x o.p, pre ++ [o], N5.length + 1, _, _, _, _, ⟨?_, (Fr.app (A := [])).get wN5 (by simp), (Fr.app (A := [])).get xN5 (by simp), (Fr.app (A := [])).get pN5 (by simp), by rw [mv_len, lw], by rw [bmp_len, lx], by rw [← row]; simp, by rw [List.length_append, List.length_singleton]; omega, by omega⟩, by rw [List.getElem?_append_right (by omega)]; simp, ?_, rfl⟩
        · exact R.fr.trans ((f1.mono (by simp)).trans (f5.trans Fr.app))
        · have := f5.len
          have := f1.len
          omega
  obtain ⟨d, M', e, k, rfl, h1, h2, h3⟩ := key
  refine ⟨k, M', ?_, h1, h2, h3⟩
  unfold S_row_for
  simpa using e
end Fl

namespace Fl
open PySem
open L2 (Key nd_ix)
/-! ### cells that are known of the store, each once -/
theorem perm_erase {A : Type} : ∀ {C : List A} {k : Nat} {c : A}, C[k]? = some c → C.Perm (c :: C.eraseIdx k)
  | [], _, _, h => by simp at h
  | a :: C, 0, c, h => by
    have e : a = c := by simpa using h
    rw [e]; exact List.Perm.refl _
  | a :: C, k + 1, c, h => by
    have z := perm_erase (C := C) (k := k) (c := c) (by simpa using h)
    rw [List.eraseIdx_cons_succ]
    exact (z.cons a).trans (List.Perm.swap c a _)
abbrev Cell := Nat × MO
abbrev adr (C : List Cell) : List Nat := C.map (·.1)
structure Ow (M : Mem) (C : List Cell) : Prop where
  nd : (adr C).Nodup
  all : ∀ p ∈ C, M[p.1]? = some p.2
section
variable {M M' : Mem} {A B C F : List Cell} {n k r : Nat} {x y : MO}
theorem Ow.perm (o : Ow M C) (p : C.Perm B) : Ow M B := ⟨(p.map (·.1)).nodup_iff.mp o.nd, fun q hq => o.all q (p.mem_iff.mpr hq)⟩
theorem Ow.mem (o : Ow M C) (h : (n, x) ∈ C) : M[n]? = some x := o.all _ h
theorem Ow.get (o : Ow M C) (k : Nat) (h : C[k]? = some (n, x) := by rfl) : M[n]? = some x := o.all _ (List.mem_of_getElem? h)
theorem Ow.lt (o : Ow M C) {p : Cell} (h : p ∈ C) : p.1 < M.length := (List.getElem?_eq_some_iff.mp (o.all p h)).1
theorem Ow.ltn (o : Ow M C) (h : n ∈ adr C) : n < M.length := by
  obtain ⟨p, hp, rfl⟩ := List.mem_map.mp h
  exact o.lt hp
theorem Ow.uniq (o : Ow M C) (h : (n, x) ∈ C) (h' : (n, y) ∈ C) : x = y := by
  have a := o.all _ h
  have b := o.all _ h'
  simp only at a b
  rw [a] at b
  exact Option.some.inj b
theorem adr_set : ∀ {C : List Cell} {k : Nat}, C[k]? = some (n, x) → adr (C.set k (n, y)) = adr C
  | [], _, h => by simp at h
  | p :: C, 0, h => by
    have e : p = (n, x) := by simpa using h
    subst e; rfl
  | p :: C, k + 1, h => by
    rw [List.set_cons_succ]; show p.1 :: adr (C.set k (n, y)) = _; rw [adr_set (C := C) (k := k) (by simpa using h)]; rfl
theorem Ow.set (o : Ow M C) (k : Nat) (y : MO) (h : C[k]? = some (n, x) := by rfl) : Ow (M.set n y) (C.set k (n, y)) := by
  refine ⟨by rw [adr_set h]; exact o.nd, fun p hp => ?_⟩
  have hn := (List.getElem?_eq_some_iff.mp (o.get k h)).1
  obtain ⟨j, hj⟩ := List.mem_iff_getElem?.mp hp
  by_cases e : k = j
  · subst e
    rw [List.getElem?_set_self (List.getElem?_eq_some_iff.mp h).1] at hj
    cases hj
    rw [List.getElem?_set_self hn]
  · rw [List.getElem?_set_ne e] at hj
    have a := o.all p (List.mem_of_getElem? hj)
    by_cases q : n = p.1
    · exfalso
      exact e (nd_ix o.nd (x := n) (by rw [adr, List.getElem?_map, h]; rfl) (by rw [adr, List.getElem?_map, hj, q]; rfl))
    · rw [List.getElem?_set_ne q]; exact a
theorem Ow.app (o : Ow M C) (T : Mem) : Ow (M ++ T) C := ⟨o.nd, fun p hp => by rw [List.getElem?_append_left (o.lt hp)]; exact o.all p hp⟩
theorem Ow.ext (o : Ow M C) (f : Fr [] M M') : Ow M' C := ⟨o.nd, fun p hp => f.get (o.all p hp) (by simp)⟩
theorem Ow.fr {S : List Nat} (o : Ow M C) (f : Fr S M M') (h : ∀ n ∈ S, n ∉ adr C) : Ow M' C := ⟨o.nd, fun p hp => f.get (o.all p hp) fun z => h _ z (List.mem_map.mpr ⟨p, hp, rfl⟩)⟩
theorem Ow.ext1 (o : Ow M C) (f : Fr [] M M') (hr : M.length ≤ r) (h : M'[r]? = some x) : Ow M' ((r, x) :: C) := by
  refine ⟨?_, fun p hp => ?_⟩
  · rw [adr, List.map_cons, List.nodup_cons]
    refine ⟨fun z => ?_, o.nd⟩
    have := o.ltn z
    omega
  · rcases List.mem_cons.mp hp with z | z
    · subst z; exact h
    · exact (o.ext f).all p z
theorem Ow.new (o : Ow M C) (x : MO) : Ow (M ++ [x]) ((M.length, x) :: C) := o.ext1 Fr.app (Nat.le_refl _) (by simp)
theorem Ow.l (o : Ow M (A ++ B)) : Ow M A := ⟨by have := o.nd; rw [adr, List.map_append, List.nodup_append] at this; exact this.1, fun p hp => o.all p (List.mem_append_left _ hp)⟩
theorem Ow.rr (o : Ow M (A ++ B)) : Ow M B := ⟨by have := o.nd; rw [adr, List.map_append, List.nodup_append] at this; exact this.2.1, fun p hp => o.all p (List.mem_append_right _ hp)⟩
theorem Ow.t {c : Cell} (o : Ow M (c :: B)) : Ow M B := Ow.rr (A := [c]) o
theorem Ow.swap (o : Ow M (A ++ B)) : Ow M (B ++ A) := o.perm List.perm_append_comm
theorem Ow.mid (o : Ow M (A ++ (B ++ C))) : Ow M (B ++ (A ++ C)) := o.perm (by rw [← List.append_assoc, ← List.append_assoc]; exact List.perm_append_comm.append_right C)
theorem Ow.pull (o : Ow M C) (k : Nat) {c : Cell} (h : C[k]? = some c := by rfl) : Ow M (c :: C.eraseIdx k) := o.perm (perm_erase h)
theorem Ow.push {c : Cell} (o : Ow M (c :: (A ++ B))) : Ow M (A ++ c :: B) := o.perm List.perm_middle.symm
theorem Ow.out {c : Cell} (o : Ow M (A ++ c :: B)) : Ow M (c :: (A ++ B)) := o.perm List.perm_middle
theorem Ow.as (o : Ow M ((A ++ B) ++ C)) : Ow M (A ++ (B ++ C)) := by rw [← List.append_assoc]; exact o
theorem Ow.sa (o : Ow M (A ++ (B ++ C))) : Ow M ((A ++ B) ++ C) := by rw [List.append_assoc]; exact o
theorem Ow.nil : Ow M [] := ⟨by simp, by simp⟩
theorem Ow.dis (o : Ow M (A ++ B)) : ∀ n ∈ adr A, n ∉ adr B := fun n h h' => by
  have z := o.nd
  rw [adr, List.map_append, List.nodup_append] at z
  exact z.2.2 n h n h' rfl
theorem Ow.app_of (a : Ow M A) (b : Ow M B) (h : ∀ n ∈ adr A, n ∉ adr B) : Ow M (A ++ B) := by
  refine ⟨?_, fun p hp => ?_⟩
  · rw [adr, List.map_append, List.nodup_append]
    exact ⟨a.nd, b.nd, fun n h1 m h2 e => h n h1 (e ▸ h2)⟩
  · rcases List.mem_append.mp hp with z | z
    · exact a.all p z
    · exact b.all p z
end
/-! ### the town, and other cells -/
def TownC (C : List Cell) : Prop := ∃ (k : Int) (cells : List Int), C = [(2, .lst [.ref 1, .int k]), (1, .lst (cells.map .int))] ∧ cells ≠ [] ∧ 0 ≤ k
/-- the town stands, and the cells F -/
structure Tn (M : Mem) (F : List Cell) : Prop where
  t : Town M
  o : Ow M F
  n1 : 1 ∉ adr F
  n2 : 2 ∉ adr F
section
variable {M M' : Mem} {A B C F : List Cell} {n k r : Nat} {x y : MO}
theorem Tn.len (t : Tn M F) : 2 < M.length := t.t.lt
theorem Tn.perm (o : Tn M C) (p : C.Perm B) : Tn M B := ⟨o.t, o.o.perm p, fun z => o.n1 ((p.map (·.1)).mem_iff.mpr z), fun z => o.n2 ((p.map (·.1)).mem_iff.mpr z)⟩
theorem Tn.start (t : Town M) : Tn M [] := ⟨t, Ow.nil, by simp, by simp⟩
theorem Tn.step (t : Tn M F) (h : Town M') (f : Fr [1, 2] M M') : Tn M' F := ⟨h, t.o.fr f fun n hn => by
  simp only [List.mem_cons, List.not_mem_nil, or_false] at hn
  rcases hn with rfl | rfl
  · exact t.n1
  · exact t.n2, t.n1, t.n2⟩
theorem Tn.get (o : Tn M C) (k : Nat) (h : C[k]? = some (n, x) := by rfl) : M[n]? = some x := o.o.get k h
theorem Tn.ne (o : Tn M C) (k : Nat) (h : C[k]? = some (n, x) := by rfl) : n ≠ 1 ∧ n ≠ 2 := by
  have z : n ∈ adr C := List.mem_map.mpr ⟨_, List.mem_of_getElem? h, rfl⟩
  exact ⟨fun e => o.n1 (e ▸ z), fun e => o.n2 (e ▸ z)⟩
theorem Tn.set (o : Tn M C) (k : Nat) (y : MO) (h : C[k]? = some (n, x) := by rfl) : Tn (M.set n y) (C.set k (n, y)) := by
  have ne := o.ne k h
  refine ⟨o.t.fr (A := [n]) (Fr.set (by simp)) (by simp; exact fun z => ne.1 z.symm) (by simp; exact fun z => ne.2 z.symm), o.o.set k y h, ?_, ?_⟩
  · rw [adr_set h]; exact o.n1
  · rw [adr_set h]; exact o.n2
theorem Tn.app (o : Tn M C) (T : Mem) : Tn (M ++ T) C := ⟨o.t.app, o.o.app T, o.n1, o.n2⟩
theorem Tn.ext (o : Tn M C) (f : Fr [] M M') : Tn M' C := ⟨o.t.fr f (by simp) (by simp), o.o.ext f, o.n1, o.n2⟩
theorem Tn.ext1 (o : Tn M C) (f : Fr [] M M') (hr : M.length ≤ r) (h : M'[r]? = some x) : Tn M' ((r, x) :: C) := by
  have l := o.len
  refine ⟨o.t.fr f (by simp) (by simp), o.o.ext1 f hr h, ?_, ?_⟩
  · rw [adr, List.map_cons, List.mem_cons]; rintro (z | z); simp only at z; omega; exact o.n1 z
  · rw [adr, List.map_cons, List.mem_cons]; rintro (z | z); simp only at z; omega; exact o.n2 z
theorem Tn.new (o : Tn M C) (x : MO) : Tn (M ++ [x]) ((M.length, x) :: C) := o.ext1 Fr.app (Nat.le_refl _) (by simp)
theorem Tn.sub (o : Tn M C) {B : List Cell} (h : B.Sublist C) : Tn M B := ⟨o.t, ⟨(h.map _).nodup o.o.nd, fun p hp => o.o.all p (h.subset hp)⟩, fun z => o.n1 ((h.map _).subset z), fun z => o.n2 ((h.map _).subset z)⟩
theorem Tn.r' (o : Tn M (A ++ B)) : Tn M B := o.sub (List.sublist_append_right A B)
theorem Tn.l' (o : Tn M (A ++ B)) : Tn M A := o.sub (List.sublist_append_left A B)
theorem Tn.tl {c : Cell} (o : Tn M (c :: B)) : Tn M B := o.sub (List.sublist_cons_self c B)
theorem Tn.swap (o : Tn M (A ++ B)) : Tn M (B ++ A) := o.perm List.perm_append_comm
theorem Tn.pull (o : Tn M C) (k : Nat) {c : Cell} (h : C[k]? = some c := by rfl) : Tn M (c :: C.eraseIdx k) := o.perm (perm_erase h)
/-- a step at the cells F that leaves the others -/
theorem Tn.own (o : Tn M (A ++ F)) (h : ∀ G, Ow M (A ++ G) → Ow M' (B ++ G)) : Tn M' (B ++ F) := by
  obtain ⟨k, cells, e1, e2, e3, e4⟩ := o.t.ex
  have z : Ow M (A ++ ([(2, .lst [.ref 1, .int k]), (1, .lst (cells.map .int))] ++ F)) := by
    refine Ow.mid (Ow.app_of ⟨by simp, ?_⟩ o.o ?_)
    · intro p hp
      simp only [List.mem_cons, List.not_mem_nil, or_false] at hp
      rcases hp with rfl | rfl
      · exact e1
      · exact e2
    · intro n hn
      simp only [adr, List.map_cons, List.map_nil, List.mem_cons, List.not_mem_nil, or_false] at hn
      rcases hn with rfl | rfl
      · exact o.n2
      · exact o.n1
  have y := (h _ z).mid
  have d := y.dis
  exact ⟨⟨k, cells, y.get 0, y.get 1, e3, e4⟩, y.rr, d 1 (by simp), d 2 (by simp)⟩
theorem tn_draw {m : Int} (o : Tn M C) (h0 : 0 < m) (h1 : m < 1073741824) : ∃ v M', S__law_draw [.ref 2, .int m] M = .ok (.int v) M' ∧ 0 ≤ v ∧ v < m ∧ Tn M' C ∧ Fr [1, 2] M M' ∧ M'.length = M.length := by
  obtain ⟨v, M', e, a, b, t, f, l⟩ := sp_draw o.t h0 h1
  exact ⟨v, M', e, a, b, o.step t f, f, l⟩
theorem tn_pick {ds : List D} (o : Tn M C) (hn : listAt M n = some ds) (hne : n ≠ 1 ∧ n ≠ 2) (h0 : 0 < ds.length) (h1 : ds.length < 1000000) : ∃ d ∈ ds, ∃ M', S__law_pick [.ref 2, .ref n] M = .ok d M' ∧ Tn M' C ∧ Fr [1, 2] M M' ∧ M'.length = M.length := by
  obtain ⟨d, hd, M', e, t, f, l⟩ := sp_pick o.t hn hne h0 h1
  exact ⟨d, hd, M', e, o.step t f, f, l⟩
theorem tn_pickL {ds : List D} (o : Tn M C) (h0 : 0 < ds.length) (h1 : ds.length < 1000000) : ∃ d ∈ ds, ∃ M', S__law_pick [.ref 2, .ref M.length] (M ++ [.lst ds]) = .ok d M' ∧ Tn M' C ∧ Fr [1, 2] M M' := by
  obtain ⟨d, hd, M', e, t, f, l⟩ := sp_pickL o.t h0 h1
  exact ⟨d, hd, M', e, o.step t f, f⟩
end
/-! ### objects -/
section
variable {M : Mem} {n c i j : Nat} {fs : List (Nat × D)} {d v : D} {s : Sl}
theorem ins_at (h : M[n]? = some (.ins c fs)) : insAt M (.ref n) = some (n, c, fs) := by
  unfold insAt
  simp only [h]
theorem fld_at (h : M[n]? = some (.ins c fs)) (i : Nat) (e : look fs i = some d := by rfl) : gFld i (.ref n) M = .ok d M := by
  unfold gFld
  simp only [ins_at h, e, okD_some]
theorem setFld_at (h : M[n]? = some (.ins c fs)) (i : Nat) (v : D) (e : fs.length < 1000 := by decide) : setFld M (.ref n) i v = some (M.set n (.ins c (put fs i v))) := by
  unfold setFld
  simp only [ins_at h, decide_eq_true e]
@[simp] theorem sFldF_ap {fo fv : EF} : sFldF i fo fv s M = (fv s M).toS s fun v M1 => (fo s M1).toS s fun o M2 => match setFld M2 o i v with
  | some M3 => .nx s M3
  | none => .bad := rfl
@[simp] theorem dMeth_ap {S : List D → Mem → Res D} {gD : List D → List D → List D} {fo : EF} {fa : AF} {k : Nat} : dMeth c j k S gD fo fa s M = (fo s M).bind fun o M1 => gMeth c j k S gD o fa s M1 := rfl
theorem meth_at {S : List D → Mem → Res D} {gD : List D → List D → List D} {fa : AF} {k : Nat} (h : M[n]? = some (.ins c fs)) (e : look fs j = none := by rfl) : gMeth c j k S gD (.ref n) fa s M = (fa s M).bind fun xs M1 => lenIs k xs (S (gD (.ref n :: xs) []) M1) := by
  unfold gMeth
  simp only [ins_at h, e, decide_true]
@[simp] theorem dMake_ap {S : List D → Mem → Res D} {gD : List D → List D → List D} {fa fk : AF} {k m : Nat} : dMake c k m S gD fa fk s M = (fa s M).bind fun xs M1 => (fk s M1).bind fun zs M2 => lenIs k xs (lenIs m zs (gMake c S gD xs zs M2)) := rfl
theorem make_ok {S : List D → Mem → Res D} {gD : List D → List D → List D} {xs zs : List D} {M' : Mem} (h : S (gD (.ref M.length :: xs) zs) (M ++ [.ins c []]) = .ok .non M') : gMake c S gD xs zs M = .ok (.ref M.length) M' := by
  unfold gMake
  rw [h]; rfl
theorem make_x {S : List D → Mem → Res D} {gD : List D → List D → List D} {xs zs : List D} {M' : Mem} {k : Nat} {f : Option (Nat × D)} (h : S (gD (.ref M.length :: xs) zs) (M ++ [.ins c []]) = .exc k f M') : gMake c S gD xs zs M = .exc k f M' := by
  unfold gMake
  rw [h]; rfl
@[simp] theorem dNewK_ap : dNewK s M = .ok (.ref M.length) (M ++ [.dk []]) := rfl
@[simp] theorem dNewT_ap : dNewT s M = .ok (.ref M.length) (M ++ [.dt []]) := rfl
end
/-! ### dicts -/
section
variable {M : Mem} {n : Nat} {s : Sl} {d k : D} {fo fk fx : EF}
theorem isD_k {kvs : List (Key × D)} (h : M[n]? = some (.dk kvs)) : isDictD M (.ref n) = true := by
  show isDict M n = true
  unfold isDict; rw [h]
theorem isD_t {kvs : List (List Key × D)} (h : M[n]? = some (.dt kvs)) : isDictD M (.ref n) = true := by
  show isDict M n = true
  unfold isDict; rw [h]
theorem look_k {kvs : List (Key × D)} {q : Key} (h : M[n]? = some (.dk kvs)) (hk : keyOf k = some q := by rfl) : lookD M (.ref n) k = some (look kvs q) := by
  show dictLook M n k = _
  unfold dictLook; rw [h, hk]; rfl
theorem look_t {kvs : List (List Key × D)} {q : List Key} (h : M[n]? = some (.dt kvs)) (hk : keysOf k = some q := by rfl) : lookD M (.ref n) k = some (look kvs q) := by
  show dictLook M n k = _
  unfold dictLook; rw [h, hk]; rfl
theorem nolist_k {kvs : List (Key × D)} (h : M[n]? = some (.dk kvs)) : listAt M n = none := by unfold listAt; rw [h]
theorem nolist_t {kvs : List (List Key × D)} (h : M[n]? = some (.dt kvs)) : listAt M n = none := by unfold listAt; rw [h]
theorem in_k {kvs : List (Key × D)} {q : Key} (h : M[n]? = some (.dk kvs)) (hk : keyOf k = some q := by rfl) : inB M k (.ref n) = some (look kvs q).isSome := by
  unfold inB
  simp only [nolist_k h]
  rw [show dictLook M n k = some (look kvs q) from look_k h hk]; rfl
theorem in_t {kvs : List (List Key × D)} {q : List Key} (h : M[n]? = some (.dt kvs)) (hk : keysOf k = some q := by rfl) : inB M k (.ref n) = some (look kvs q).isSome := by
  unfold inB
  simp only [nolist_t h]
  rw [show dictLook M n k = some (look kvs q) from look_t h hk]; rfl
theorem set_t {kvs : List (List Key × D)} {q : List Key} (h : M[n]? = some (.dt kvs)) (v : D) (hl : kvs.length < 100000) (hk : keysOf k = some q := by rfl) : setIx M (.ref n) k v = some (M.set n (.dt (put kvs q v))) := by
  unfold setIx
  simp only [h, hk]
  rw [decide_eq_true (Nat.lt_of_lt_of_le hl (by decide : 100000 ≤ sizeLine))]
theorem set_kk {kvs : List (Key × D)} {q : Key} (h : M[n]? = some (.dk kvs)) (v : D) (hl : kvs.length < 100000) (hk : keyOf k = some q := by rfl) : setIx M (.ref n) k v = some (M.set n (.dk (put kvs q v))) := by
  unfold setIx
  simp only [h, hk]
  rw [decide_eq_true (Nat.lt_of_lt_of_le hl (by decide : 100000 ≤ sizeLine))]
theorem ix_t {kvs : List (List Key × D)} {q : List Key} (h : M[n]? = some (.dt kvs)) (hv : look kvs q = some d) (hk : keysOf k = some q := by rfl) : gIx (.ref n) k M = .ok d M := by
  simp only [gIx_ref, nolist_t h]
  rw [show dictLook M n k = some (look kvs q) from look_t h hk, hv]
theorem ix_k {kvs : List (Key × D)} {q : Key} (h : M[n]? = some (.dk kvs)) (hv : look kvs q = some d) (hk : keyOf k = some q := by rfl) : gIx (.ref n) k M = .ok d M := by
  simp only [gIx_ref, nolist_k h]
  rw [show dictLook M n k = some (look kvs q) from look_k h hk, hv]
@[simp] theorem dGet1_ap : dGet1 fo fk s M = (fo s M).bind fun o M1 => match isDictD M1 o with
  | true => (fk s M1).bind fun k M2 => (match lookD M2 o k with
    | some (some d) => .ok d M2
    | some none => .ok .non M2
    | none => .bad)
  | false => .bad := rfl
@[simp] theorem dGet2_ap : dGet2 fo fk fx s M = (fo s M).bind fun o M1 => match isDictD M1 o with
  | true => (fk s M1).bind fun k M2 => (fx s M2).bind fun x M3 => (match lookD M3 o k with
    | some (some d) => .ok d M3
    | some none => .ok x M3
    | none => .bad)
  | false => .bad := rfl
@[simp] theorem dSetd_ap : dSetd fo fk fx s M = (fo s M).bind fun o M1 => match isDictD M1 o with
  | true => (fk s M1).bind fun k M2 => (fx s M2).bind fun x M3 => (match lookD M3 o k with
    | some (some d) => .ok d M3
    | some none => (match setIx M3 o k x with
      | some M4 => .ok x M4
      | none => .bad)
    | none => .bad)
  | false => .bad := rfl
end
/-! ### l * k -/
theorem gMul_eq (M : Mem) (m : Nat) (k : Int) : gMul (.ref m) (.int k) M = (match listAt M m with
    | some xs => match decide (-(2 ^ 63) ≤ k ∧ k < 2 ^ 63 ∧ xs.length * k.toNat ≤ sizeLine) with
      | true => .ok (.ref M.length) (M ++ [.lst (List.replicate k.toNat xs).flatten])
      | false => .bad
    | none => .bad) := rfl
theorem gMulX_list {M : Mem} {n : Nat} {k : Int} {xs : List D} (h : listAt M n = some xs) (c : -(2 ^ 63) ≤ k ∧ k < 2 ^ 63 ∧ xs.length * k.toNat ≤ sizeLine) : gMulX (.ref n) (.int k) M = .ok (.ref M.length) (M ++ [.lst (List.replicate k.toNat xs).flatten]) := by
  show gMul (.ref n) (.int k) M = _
  rw [gMul_eq, h]
  simp only [decide_eq_true c]
theorem mul0c {k : Nat} (h : k ≤ 100) : -(2 ^ 63) ≤ (k : Int) ∧ (k : Int) < 2 ^ 63 ∧ ([D.int 0] : List D).length * ((k : Int)).toNat ≤ sizeLine := ⟨by omega, by omega, le_line (by simp; omega)⟩
theorem mul0e (k : Nat) : (List.replicate ((k : Int)).toNat ([D.int 0] : List D)).flatten = (List.replicate k (0 : Int)).map .int := by simp
theorem mul0 {M : Mem} {n k : Nat} (h : listAt M n = some [.int 0]) (h2 : k ≤ 100) : gMulX (.ref n) (.int k) M = .ok (.ref M.length) (M ++ [.lst ((List.replicate k (0 : Int)).map .int)]) := by
  have z := gMulX_list h (mul0c h2)
  rw [mul0e] at z
  exact z
/-! ### one thing after the other -/
section
variable {fa fb fc : EF} {a k : AF} {s : Sl} {M M1 M2 : Mem} {x y z : D} {xs zs : List D} {r : Res D} {g : D → D → Mem → Res D} {g1 : D → Mem → Res D} {gn : List D → Mem → Res D}
theorem op2_ok (h1 : fa s M = .ok x M1) (h2 : fb s M1 = .ok y M2) (h3 : g x y M2 = r) : dOp2 g fa fb s M = r := by rw [dOp2_ap, h1, bind_ok, h2, bind_ok, h3]
theorem op1_ok (h1 : fa s M = .ok x M1) (h3 : g1 x M1 = r) : dOp1 g1 fa s M = r := by rw [dOp1_ap, h1, bind_ok, h3]
theorem opN_ok (h1 : a s M = .ok xs M1) (h3 : gn xs M1 = r) : dOpN gn a s M = r := by rw [dOpN_ap, h1, bind_ok, h3]
theorem cons_ok (h1 : fa s M = .ok x M1) (h2 : a s M1 = .ok xs M2) : dCons fa a s M = .ok (x :: xs) M2 := by rw [dCons_ap, h1, bind_ok, h2, bind_ok]
theorem cons1_ok (h1 : fa s M = .ok x M1) : dCons fa dNil s M = .ok [x] M1 := cons_ok h1 rfl
theorem lst_ok (h1 : a s M = .ok xs M1) (hl : xs.length ≤ 1000) : dLst a s M = .ok (.ref M1.length) (M1 ++ [.lst xs]) := by
  rw [dLst_ap, h1, bind_ok, decide_eq_true (le_line hl)]
theorem tup_ok (h1 : a s M = .ok xs M1) (hl : xs.length ≤ 1000) : dTup a s M = .ok (.tup xs) M1 := by
  rw [dTup_ap, h1, bind_ok, decide_eq_true (le_line hl)]
theorem call_ok {n m : Nat} {S : List D → Mem → Res D} {gD : List D → List D → List D} (h1 : a s M = .ok xs M1) (h2 : k s M1 = .ok zs M2) (l1 : xs.length = n) (l2 : zs.length = m) (h3 : S (gD xs zs) M2 = r) : dCall n m S gD a k s M = r := by
  rw [dCall_ap, h1, bind_ok, h2, bind_ok]
  simp only [lenIs_ap, l1, l2, decide_true, h3]
theorem set_ok {i : Nat} (h1 : fa s M = .ok x M1) : sSet i fa s M = .nx (s.set i (some x)) M1 := by rw [sSet_ap, h1, toS_ok]
theorem ret_ok (h1 : fa s M = .ok x M1) : sRet fa s M = .rt x M1 := by rw [sRet_ap, h1, toS_ok]
theorem drop_ok (h1 : fa s M = .ok x M1) : sDrop fa s M = .nx s M1 := by rw [sDrop_ap, h1, toS_ok]
theorem val_ok {b : Bool} (h1 : fa s M = .ok (.bl b) M1) : tVal fa s M = .ok b M1 := by rw [tVal_ap, h1, bind_ok, isB_bl]
theorem not_ok {ft : TF} {b : Bool} (h1 : ft s M = .ok b M1) : tNotF ft s M = .ok (!b) M1 := by rw [tNotF_ap, h1, bind_ok]
end
theorem go_set {i : Nat} {fa : EF} {u : SF} {q : Po} {s s1 : Sl} {M M1 : Mem} {x : D} (h : fa s M = .ok x M1) (k : q.of (u s1 M1)) (e : s.set i (some x) = s1 := by first | (simp only [List.set_cons_succ, List.set_cons_zero]; done) | (simp only [List.set_cons_succ, List.set_cons_zero]; exact rfl)) : q.of (sSeq (sSet i fa) u s M) := by
  subst e
  exact go_nx (set_ok h) k
end Fl

namespace Fl
open PySem
open L2 (Key)
section
variable {A : Type} {e te : EF} {tt : TF} {is : List Nat} {s : Sl} {M : Mem} {n j : Nat}
theorem lcI_pure {nx : ItF} {f : A → D} {q : A → Bool} {v : A → Int} {l : List A} (hn : ∀ i, i ≤ l.length → nx i M = some (l.map f)[i]?)
    (hs : ∀ a ∈ l, tt (s.set j (some (f a))) M = .ok (q a) M ∧ (q a = true → te (s.set j (some (f a))) M = .ok (.int (v a)) M)) :
    ∀ k i, i + k = l.length → lcI nx (gN j) tt te s (k + 1) i M = .ok (((l.drop i).filter q).map v) M
  | 0, i, h => by
    unfold lcI
    rw [hn i (by omega), List.getElem?_eq_none (by rw [List.length_map]; omega), List.drop_of_length_le (by omega)]
    rfl
  | k + 1, i, h => by
    have hi : i < l.length := by omega
    unfold lcI
    rw [hn i (by omega), List.getElem?_map, List.getElem?_eq_getElem hi]
    obtain ⟨h1, h2⟩ := hs l[i] (List.getElem_mem hi)
    have ih := lcI_pure hn hs k (i + 1) (by omega)
    rw [List.drop_eq_getElem_cons hi, List.filter_cons]
    simp only [Option.map_some, gN_ap, noX_ok, bind_ok, h1]
    cases hq : q l[i] with
    | true => simp only [h2 hq, noX_ok, bind_ok, ih]; rfl
    | false => simp only [ih]; rfl
theorem sc_fL (f : A → D) (q : A → Bool) (v : A → Int) {l : List A} (he : e s M = .ok (.ref n) M) (hl : listAt M n = some (l.map f)) (hlen : l.length < 64)
    (hs : ∀ a ∈ l, tt ((wipeD s is).set j (some (f a))) M = .ok (q a) M ∧ (q a = true → te ((wipeD s is).set j (some (f a))) M = .ok (.int (v a)) M)) :
    dSortSc (iSeq e) (gN j) tt te is s M = .ok (.ref M.length) (M ++ [.lst ((sortNub ((l.filter q).map v)).map .int)]) := by
  have z := lcI_pure (nx := nxL n) (fun i _ => nxL_at hl i) hs l.length 0 (by omega)
  unfold dSortSc
  rw [iSeq_L he hl]
  simp only [bind_ok, List.length_map]
  rw [decide_eq_true (by omega)]
  simp only [z, bind_ok, List.drop_zero]
  unfold finI
  rw [decide_eq_true (by rw [List.length_map]; have := List.length_filter_le q l; omega)]
end
theorem put_new {κ : Type} [DecidableEq κ] : ∀ {kvs : List (κ × D)} {k : κ} {d : D}, k ∉ kvs.map (·.1) → put kvs k d = kvs ++ [(k, d)]
  | [], k, d, _ => rfl
  | p :: r, k, d, h => by
    rw [List.map_cons, List.mem_cons] at h
    unfold put
    rw [decide_eq_false (fun z => h (.inl z.symm)), put_new fun z => h (.inr z)]
    rfl
/-! ### left_over -/
def leftOf (os : List Od) (ws : List Int) : List Od := sortE (os.filter fun o => !decide (o ∈ rowOf os ws))
theorem notin_od {M : Mem} {n : Nat} {o : Od} {l : List Od} (hn : listAt M n = some (l.map Od.d)) : gNotIn o.d (.ref n) M = .ok (.bl (!decide (o ∈ l))) M := by
  have z : inB M o.d (.ref n) = some (decide (o ∈ l)) := by
    unfold inB
    simp only [hn]
    exact od_in hn
  rw [gNotIn_ap, z]; rfl
theorem in_od {M : Mem} {n : Nat} {o : Od} {l : List Od} (hn : listAt M n = some (l.map Od.d)) : gIn o.d (.ref n) M = .ok (.bl (decide (o ∈ l))) M := by
  have z : inB M o.d (.ref n) = some (decide (o ∈ l)) := by
    unfold inB
    simp only [hn]
    exact od_in hn
  rw [gIn_ap, z]; rfl
theorem sp_left_over {M0 : Mem} {no nw : Nat} {os : List Od} {ws : List Int} (hw0 : M0[nw]? = some (.lst (ws.map .int))) (ho0 : M0[no]? = some (.lst (os.map Od.d))) (hl : os.length < 10000) (h : Lot os ws) :
    ∃ k M', S_left_over [.ref no, .ref nw] M0 = .ok (.ref k) M' ∧ Fr [] M0 M' ∧ M0.length ≤ k ∧ M'[k]? = some (.lst ((leftOf os ws).map Od.d)) := by
  obtain ⟨k, M, e0, f0, l0, g0⟩ := sp_row_for hw0 ho0 hl h
  have ho := f0.get ho0 (by simp)
  have c1 := lc_fL (e := dVar 0) (k := 3) (is := [3]) (tt := tVal (dOp2 gNotIn (dVar 3) (dVar 2))) (s := [some (.ref no), some (.ref nw), some (.ref k), none]) (M := M) (te := dVar 3) Od.d (fun o => !decide (o ∈ rowOf os ws)) Od.d rfl (listAt_of ho) (by omega) (fun o _ => by
    have z := notin_od (o := o) (listAt_of g0)
    refine ⟨?_, fun _ => rfl⟩
    simp only [tVal_ap, dOp2_ap, dVar_ap, wipeD, List.set_cons_succ, List.set_cons_zero, List.getElem?_cons_succ, List.getElem?_cons_zero, bind_ok, z, isB_bl])
  have s1 := sorted_od (M := M ++ [.lst ((os.filter fun o => !decide (o ∈ rowOf os ws)).map Od.d)]) (n := M.length) (l := os.filter fun o => !decide (o ∈ rowOf os ws)) listAt_new (by have := List.length_filter_le (fun o => !decide (o ∈ rowOf os ws)) os; omega)
  simp only [List.length_append, List.length_singleton, List.append_assoc, List.singleton_append] at s1
  refine ⟨M.length + 1, M ++ [.lst ((os.filter fun o => !decide (o ∈ rowOf os ws)).map Od.d), .lst ((leftOf os ws).map Od.d)], ?_, f0.trans Fr.app, by have := f0.len; omega, by rw [List.getElem?_append_right (by omega)]; simp⟩
  unfold S_left_over f_left_over
  simp [startD, e0, c1, s1, leftOf]
/-! ### is_row -/
def isRowF : List Od → List Int → List Int → Bool
  | [], _, _ => true
  | o :: r, w, x => able1 w x o && isRowF r (mv w o) (bmp x o.p)
def isRowB (os : List Od) (ws : List Int) : Bool := isRowF os ws (List.replicate ws.length 0)
theorem sp_is_row {M0 : Mem} {no nw : Nat} {os : List Od} {ws : List Int} (hw0 : M0[nw]? = some (.lst (ws.map .int))) (ho0 : M0[no]? = some (.lst (os.map Od.d))) (hl : os.length < 10000) (h : Lot os ws) :
    ∃ M', S_is_row [.ref no, .ref nw] M0 = .ok (.bl (isRowB os ws)) M' ∧ Fr [] M0 M' := by
  obtain ⟨M, e0, f0⟩ := look_lot_ok hw0 ho0 hl h
  have hw := f0.get hw0 (by simp)
  have ho := f0.get ho0 (by simp)
  have key : ∃ d M', (f_is_row (startD 8 [.ref no, .ref nw]) M0).fin = .ok d M' ∧ (d = .bl (isRowB os ws) ∧ Fr [] M0 M') := by
    refine ret_of (Q := fun d M' => d = .bl (isRowB os ws) ∧ Fr [] M0 M') ?_
    unfold f_is_row
    have f1 : ∀ T, listAt (M ++ T) nw = some (ws.map .int) := fun T => listAt_app (listAt_of hw)
    have c1 := lc_fL (e := dVar 1) (k := 3) (is := [3]) (tt := tYesF) (s := [some (.ref no), some (.ref nw), some (.ref M.length), none, none, none, none, none]) (M := M ++ [MO.lst (ws.map .int)]) (te := dC (.int 0)) D.int (fun _ => true) (fun _ => .int 0) rfl (f1 _) (by have := h.l8; omega) (fun _ _ => ⟨rfl, fun _ => rfl⟩)
    rw [filter_all] at c1
    refine go_nx (s1 := [some (.ref no), some (.ref nw), none, none, none, none, none, none]) (M1 := M) (by simp [startD, e0]) ?_
    refine go_nx (s1 := [some (.ref no), some (.ref nw), some (.ref M.length), none, none, none, none, none]) (M1 := M ++ [MO.lst (ws.map .int)]) (by simp [listAt_of hw]) ?_
    have ez : (ws.map fun _ => D.int 0) = (List.replicate ws.length (0 : Int)).map .int := by
      rw [List.map_replicate]
      exact List.eq_replicate_iff.mpr ⟨by simp, by simp⟩
    rw [ez] at c1
    refine go_nx (s1 := [some (.ref no), some (.ref nw), some (.ref M.length), none, some (.ref (M.length + 1)), none, none, none]) (M1 := M ++ [MO.lst (ws.map .int), .lst ((List.replicate ws.length (0 : Int)).map .int)]) (by simp [c1]) ?_
    generalize hB : M ++ [MO.lst (ws.map .int), .lst ((List.replicate ws.length (0 : Int)).map .int)] = B
    have fB : Fr [] M B := by rw [← hB]; exact Fr.app
    have bo := fB.get ho (by simp)
    have bw : B[M.length]? = some (.lst (ws.map .int)) := by rw [← hB]; simp
    have bx : B[M.length + 1]? = some (.lst ((List.replicate ws.length (0 : Int)).map .int)) := by rw [← hB, List.getElem?_append_right (by omega)]; simp
    have lno : no < M.length := (List.getElem?_eq_some_iff.mp ho).1
    refine go_forL (M0 := B) (n := no) (fun i s N => ∃ w x x3 x5 x6 x7, s = [some (.ref no), some (.ref nw), some (.ref M.length), x3, some (.ref (M.length + 1)), x5, x6, x7] ∧ Fr [M.length, M.length + 1] B N ∧ N[M.length]? = some (.lst (w.map .int)) ∧ N[M.length + 1]? = some (.lst (x.map .int)) ∧ w.length = ws.length ∧ x.length = ws.length ∧ isRowB os ws = isRowF (os.drop i) w x)
      (ds := os.map Od.d) (by simp) (listAt_of bo) ⟨ws, _, _, _, _, _, rfl, Fr.refl, bw, bx, rfl, by simp, rfl⟩ (fun i s N ⟨w, x, x3, x5, x6, x7, _, fr, _⟩ => fr.list (listAt_of bo) (by simp; omega)) ?_ ?_
    · rintro i d s N hd ⟨w, x, x3, x5, x6, x7, rfl, fr, gw, gx, lw, lx, er⟩
      rw [List.getElem?_map] at hd
      cases ha : os[i]? with
      | none => rw [ha] at hd; cases hd
      | some o =>
        rw [ha] at hd
        simp only [Option.map_some, Option.some.injEq] at hd
        subst hd
        have hi := (List.getElem?_eq_some_iff.mp ha).1
        have ed : os.drop i = o :: os.drop (i + 1) := by
          rw [List.drop_eq_getElem_cons hi, (List.getElem?_eq_some_iff.mp ha).2]
        rw [ed] at er
        unfold isRowF at er
        have ok := h.o o (List.mem_of_getElem? ha)
        obtain ⟨q1, q2, q3, q4, q5, _⟩ := ok
        have g1 := gIx_s (i := o.p) (listAt_of gw) (by omega)
        have g2 := gIx_s (i := o.p) (listAt_of gx) (by omega)
        refine ⟨_, _, by simp [Od.d]; exact ⟨rfl, rfl⟩, ?_⟩
        refine go_if (b := !able1 w x o) (M0 := N) ?_ (fun hb => ?_) fun hb => ?_
        · simp only [tOrF_ap, tVal_ap, dOp2_ap, dVar_ap, List.getElem?_cons_succ, List.getElem?_cons_zero, bind_ok, g1, g2, gNe_ap, pyEq_int, okB_some, Option.map_some, isB_bl, gGt_int, able1]
          by_cases c : o.n = sAt x o.p
          · by_cases c2 : o.m ≤ sAt w o.p
            · simp [c, c2]
            · simp [c, c2]; omega
          · simp [c]
        · have hb : able1 w x o = false := by simpa using hb
          rw [hb] at er
          show (_ : Po).of (SR.seq _ _)
          simp only [sRet_ap, dC_ap, toS_ok, seq_rt]
          exact ⟨by rw [er]; rfl, f0.trans (fB.cut fr (by simp))⟩
        · have hb : able1 w x o = true := by simpa using hb
          rw [hb, Bool.true_and] at er
          show (_ : Po).of (SR.seq _ _)
          rw [sNext_ap, seq_nx]
          have g1 := getIx_s (listAt_of gw) (i := o.p) (by omega)
          have s1 := setIx_s (v := sAt w o.p - o.m) gw (i := o.p) (by omega)
          have gw2 : (N.set M.length (.lst ((w.set o.p.toNat (sAt w o.p - o.m)).map .int)))[M.length]? = some (.lst ((w.set o.p.toNat (sAt w o.p - o.m)).map .int)) := by rw [List.getElem?_set_self (List.getElem?_eq_some_iff.mp gw).1]
          have gx2 : (N.set M.length (.lst ((w.set o.p.toNat (sAt w o.p - o.m)).map .int)))[M.length + 1]? = some (.lst (x.map .int)) := by rw [List.getElem?_set_ne (by omega)]; exact gx
          have fN2 : Fr [M.length, M.length + 1] N (N.set M.length (.lst ((w.set o.p.toNat (sAt w o.p - o.m)).map .int))) := Fr.set (by simp)
          generalize N.set M.length (.lst ((w.set o.p.toNat (sAt w o.p - o.m)).map .int)) = N2 at s1 gw2 gx2 fN2
          have g2 := getIx_s (listAt_of gw2) (i := o.g) (by rw [List.length_set]; omega)
          have s2 := setIx_s (v := sAt (w.set o.p.toNat (sAt w o.p - o.m)) o.g + o.m) gw2 (i := o.g) (by rw [List.length_set]; omega)
          have gw3 : (N2.set M.length (.lst ((mv w o).map .int)))[M.length]? = some (.lst ((mv w o).map .int)) := by rw [List.getElem?_set_self (List.getElem?_eq_some_iff.mp gw2).1]
          have gx3 : (N2.set M.length (.lst ((mv w o).map .int)))[M.length + 1]? = some (.lst (x.map .int)) := by rw [List.getElem?_set_ne (by omega)]; exact gx2
          have fN3 : Fr [M.length, M.length + 1] N2 (N2.set M.length (.lst ((mv w o).map .int))) := Fr.set (by simp)
          rw [show ((w.set o.p.toNat (sAt w o.p - o.m)).set o.g.toNat (sAt (w.set o.p.toNat (sAt w o.p - o.m)) o.g + o.m)) = mv w o from rfl] at s2
          generalize N2.set M.length (.lst ((mv w o).map .int)) = N3 at s2 gw3 gx3 fN3
          have g3 := getIx_s (listAt_of gx3) (i := o.p) (by omega)
          have s3 := setIx_s (v := sAt x o.p + 1) gx3 (i := o.p) (by omega)
          refine go_nx (by simp [g1, s1]; exact ⟨rfl, rfl⟩) ?_
          refine go_nx (by simp [g2, s2]; exact ⟨rfl, rfl⟩) ?_
          refine end_nx (by simp [g3, s3]; exact ⟨rfl, rfl⟩) ?_
          refine ⟨mv w o, bmp x o.p, _, _, _, _, rfl, fr.trans (fN2.trans (fN3.trans (Fr.set (by simp)))), by rw [List.getElem?_set_ne (by omega)]; exact gw3, by rw [List.getElem?_set_self (List.getElem?_eq_some_iff.mp gx3).1]; simp [bmp, List.map_set], by rw [mv_len, lw], by rw [bmp_len, lx], er⟩
    · rintro s N ⟨w, x, x3, x5, x6, x7, rfl, fr, gw, gx, lw, lx, er⟩
      rw [List.length_map, List.drop_length] at er
      exact end_rt (by rfl) ⟨by rw [er]; rfl, f0.trans (fB.cut fr (by simp))⟩
  obtain ⟨d, M', e, rfl, h1⟩ := key
  refine ⟨M', ?_, h1⟩
  unfold S_is_row
  simpa using e
/-! ### wanting -/
def wPs (os : List Od) (ws : List Int) : List Int := sortNub ((os.filter fun o => !decide (o ∈ rowOf os ws)).map (·.p))
def cntP (l : List Od) (p : Int) : Int := ((l.filter fun o => decide (o.p = p)).length : Nat)
def inP (l : List Od) (p : Int) : Int := ((l.filter fun o => decide (o.g = p)).map (·.m)).sum
def outP (l : List Od) (p : Int) : Int := ((l.filter fun o => decide (o.p = p)).map (·.m)).sum
def askP (l : List Od) (p n : Int) : List Int := (l.filter fun o => decide (o.p = p ∧ o.n = n)).map (·.m)
def wantD (os : List Od) (ws : List Int) (p : Int) : D :=
  match askP os p (cntP (rowOf os ws) p) with
  | [] => .tup [.int (cntP (rowOf os ws) p), .non]
  | a :: _ => .tup [.int (cntP (rowOf os ws) p), .int (a - (sAt ws p + inP (rowOf os ws) p - outP (rowOf os ws) p))]
def wantKv (os : List Od) (ws : List Int) (ps : List Int) : List (Key × D) := ps.map fun p => (.inl p, wantD os ws p)
theorem sp_wanting {M0 : Mem} {no nw : Nat} {os : List Od} {ws : List Int} (hw0 : M0[nw]? = some (.lst (ws.map .int))) (ho0 : M0[no]? = some (.lst (os.map Od.d))) (hl : os.length < 64) (h : Lot os ws) :
    ∃ k M', S_wanting [.ref no, .ref nw] M0 = .ok (.ref k) M' ∧ Fr [] M0 M' ∧ M0.length ≤ k ∧ M'[k]? = some (.dk (wantKv os ws (wPs os ws))) := by
  obtain ⟨k, M, e0, f0, l0, g0⟩ := sp_row_for hw0 ho0 (by omega) h
  have ho := f0.get ho0 (by simp)
  have hw := f0.get hw0 (by simp)
  have lk : k < M.length := (List.getElem?_eq_some_iff.mp g0).1
  have lr : (rowOf os ws).length < 10000 := by
    have : ∀ n w x, (rowF os n w x).length ≤ n := by
      intro n
      induction n with
      | zero => intro w x; simp [rowF]
      | succ n ih =>
        intro w x
        unfold rowF
        split
        · simp
        · simp only [List.length_cons]; have := ih (mv w ‹Od›) (bmp x (‹Od› : Od).p); omega
    have z := this (os.length + 1) ws (List.replicate ws.length 0)
    unfold rowOf
    omega
  generalize hM1 : M ++ [MO.dk []] = M1
  have f1 : Fr [] M M1 := by rw [← hM1]; exact Fr.app
  have o1 := f1.get ho (by simp)
  have c1 := sc_fL (e := dVar 0) (j := 8) (is := [8]) (tt := tVal (dOp2 gNotIn (dVar 8) (dVar 2))) (s := [some (.ref no), some (.ref nw), some (.ref k), some (.ref M.length), none, none, none, none, none]) (M := M1) (te := dOp2 gIx (dVar 8) (dC (.int 0))) Od.d (fun o => !decide (o ∈ rowOf os ws)) (·.p) rfl (listAt_of o1) (by omega) (fun o _ => by
    have z := notin_od (o := o) (listAt_of (f1.get g0 (by simp)))
    refine ⟨?_, fun _ => ?_⟩
    · simp only [tVal_ap, dOp2_ap, dVar_ap, wipeD, List.set_cons_succ, List.set_cons_zero, List.getElem?_cons_succ, List.getElem?_cons_zero, bind_ok, z, isB_bl]
    · simp only [dOp2_ap, dVar_ap, dC_ap, wipeD, List.set_cons_succ, List.set_cons_zero, List.getElem?_cons_succ, List.getElem?_cons_zero, bind_ok, od_ix0])
  change dSortSc _ _ _ _ _ _ _ = .ok _ (M1 ++ [.lst ((wPs os ws).map .int)]) at c1
  have ris : Ris (wPs os ws) := sortNub_ris _
  have pin : ∀ p ∈ wPs os ws, 0 ≤ p ∧ p < ws.length := by
    intro p hp
    unfold wPs at hp
    rw [sortNub_mem] at hp
    obtain ⟨o, ho, rfl⟩ := List.mem_map.mp hp
    have ok := h.o o (List.mem_filter.mp ho).1
    unfold Od.ok at ok
    omega
  generalize hps : wPs os ws = ps at c1 ris pin
  have m1 : M1[M.length]? = some (.dk []) := by rw [← hM1]; simp
  have lM1 : M1.length = M.length + 1 := by rw [← hM1]; simp
  have key : ∃ d M', (f_wanting (startD 9 [.ref no, .ref nw]) M0).fin = .ok d M' ∧ (d = .ref M.length ∧ Fr [] M0 M' ∧ M'[M.length]? = some (.dk (wantKv os ws ps))) := by
    refine ret_of (Q := fun d M' => d = .ref M.length ∧ Fr [] M0 M' ∧ M'[M.length]? = some (.dk (wantKv os ws ps))) ?_
    unfold f_wanting
    refine go_nx (s1 := [some (.ref no), some (.ref nw), some (.ref k), none, none, none, none, none, none]) (M1 := M) (by simp [startD, e0]) ?_
    refine go_nx (s1 := [some (.ref no), some (.ref nw), some (.ref k), some (.ref M.length), none, none, none, none, none]) (M1 := M1) (by simp [hM1]) ?_
    generalize hB : M1 ++ [MO.lst (ps.map .int)] = B at c1
    have fB : Fr [] M1 B := by rw [← hB]; exact Fr.app
    have bp : B[M1.length]? = some (.lst (ps.map .int)) := by rw [← hB]; simp
    refine go_forL (M0 := B) (n := M1.length) (fun i s N => ∃ x4 x5 x6 x7, s = [some (.ref no), some (.ref nw), some (.ref k), some (.ref M.length), x4, x5, x6, x7, none] ∧ Fr [M.length] B N ∧ N[M.length]? = some (.dk (wantKv os ws (ps.take i))))
      (ds := ps.map .int) c1 (listAt_of bp) ⟨_, _, _, _, rfl, Fr.refl, fB.get m1 (by simp)⟩ (fun i s N ⟨_, _, _, _, _, fr, _⟩ => fr.list (listAt_of bp) (by simp; omega)) ?_ ?_
    · rintro i d s N hd ⟨x4, x5, x6, x7, rfl, fr, gd⟩
      rw [List.getElem?_map] at hd
      cases ha : ps[i]? with
      | none => rw [ha] at hd; cases hd
      | some p =>
        rw [ha] at hd
        simp only [Option.map_some, Option.some.injEq] at hd
        subst hd
        refine ⟨_, _, rfl, ?_⟩
        obtain ⟨p0, p1⟩ := pin p (List.mem_of_getElem? ha)
        have nM : ∀ {j}, j < M.length → j ∉ [M.length] := fun h z => by rw [List.mem_singleton] at z; omega
        have rN := fr.get ((f1.trans fB).get g0 (by simp)) (nM lk)
        have oN := fr.get (fB.get o1 (by simp)) (nM (List.getElem?_eq_some_iff.mp ho).1)
        have wN := fr.get ((f1.trans fB).get hw (by simp)) (nM (List.getElem?_eq_some_iff.mp hw).1)
        -- the four comprehensions
        have d1 := lc_fL (e := dVar 2) (k := 8) (is := [8]) (tt := tVal (dOp2 gEq (dOp2 gIx (dVar 8) (dC (.int 0))) (dVar 4))) (s := [some (.ref no), some (.ref nw), some (.ref k), some (.ref M.length), some (.int p), x5, x6, x7, none]) (M := N) (te := dVar 8) Od.d (fun o => decide (o.p = p)) Od.d rfl (listAt_of rN) (by omega) (fun o _ => ⟨by simp [wipeD, od_ix0, pyEq_int], fun _ => rfl⟩)
        generalize hN1 : N ++ [MO.lst (((rowOf os ws).filter fun o => decide (o.p = p)).map Od.d)] = N1 at d1
        have g1 : Fr [] N N1 := by rw [← hN1]; exact Fr.app
        have ln1 : listAt N1 N.length = some (((rowOf os ws).filter fun o => decide (o.p = p)).map Od.d) := by rw [← hN1]; exact listAt_new
        refine go_nx (s1 := [some (.ref no), some (.ref nw), some (.ref k), some (.ref M.length), some (.int p), some (.int (cntP (rowOf os ws) p)), x6, x7, none]) (M1 := N1) (by simp [d1, ln1, cntP]) ?_
        have d2 := lc_fL (e := dVar 2) (k := 8) (is := [8]) (tt := tVal (dOp2 gEq (dOp2 gIx (dVar 8) (dC (.int 2))) (dVar 4))) (s := [some (.ref no), some (.ref nw), some (.ref k), some (.ref M.length), some (.int p), some (.int (cntP (rowOf os ws) p)), x6, x7, none]) (M := N1) (te := dOp2 gIx (dVar 8) (dC (.int 3))) Od.d (fun o => decide (o.g = p)) (fun o => .int o.m) rfl (listAt_of (g1.get rN (by simp))) (by omega) (fun o _ => ⟨by simp [wipeD, od_ix2, pyEq_int], fun _ => by simp [wipeD, od_ix3]⟩)
        have e2 : (((rowOf os ws).filter fun o => decide (o.g = p)).map fun o => D.int o.m) = (((rowOf os ws).filter fun o => decide (o.g = p)).map (·.m)).map .int := by rw [List.map_map]; rfl
        rw [e2] at d2
        generalize hN2 : N1 ++ [MO.lst ((((rowOf os ws).filter fun o => decide (o.g = p)).map (·.m)).map .int)] = N2 at d2
        have g2 : Fr [] N1 N2 := by rw [← hN2]; exact Fr.app
        have ln2 : listAt N2 N1.length = some ((((rowOf os ws).filter fun o => decide (o.g = p)).map (·.m)).map .int) := by rw [← hN2]; exact listAt_new
        have i1 := gIx_s (M := N1) (i := p) (listAt_of (g1.get wN (by simp))) ⟨p0, p1⟩
        refine go_nx (s1 := [some (.ref no), some (.ref nw), some (.ref k), some (.ref M.length), some (.int p), some (.int (cntP (rowOf os ws) p)), some (.int (sAt ws p + inP (rowOf os ws) p)), x7, none]) (M1 := N2) (by
          simp only [sSet_ap, dOp2_ap, dVar_ap, List.getElem?_cons_succ, List.getElem?_cons_zero, bind_ok, i1, dOpN_ap, dCons_ap, d2, dNil_ap, gSum_ref, ln2, intsOf_mk, gAdd_int, toS_ok]
          rfl) ?_
        have d3 := lc_fL (e := dVar 2) (k := 8) (is := [8]) (tt := tVal (dOp2 gEq (dOp2 gIx (dVar 8) (dC (.int 0))) (dVar 4))) (s := [some (.ref no), some (.ref nw), some (.ref k), some (.ref M.length), some (.int p), some (.int (cntP (rowOf os ws) p)), some (.int (sAt ws p + inP (rowOf os ws) p)), x7, none]) (M := N2) (te := dOp2 gIx (dVar 8) (dC (.int 3))) Od.d (fun o => decide (o.p = p)) (fun o => .int o.m) rfl (listAt_of ((g1.trans g2).get rN (by simp))) (by omega) (fun o _ => ⟨by simp [wipeD, od_ix0, pyEq_int], fun _ => by simp [wipeD, od_ix3]⟩)
        have e3 : (((rowOf os ws).filter fun o => decide (o.p = p)).map fun o => D.int o.m) = (((rowOf os ws).filter fun o => decide (o.p = p)).map (·.m)).map .int := by rw [List.map_map]; rfl
        rw [e3] at d3
        generalize hN3 : N2 ++ [MO.lst ((((rowOf os ws).filter fun o => decide (o.p = p)).map (·.m)).map .int)] = N3 at d3
        have g3 : Fr [] N2 N3 := by rw [← hN3]; exact Fr.app
        have ln3 : listAt N3 N2.length = some ((((rowOf os ws).filter fun o => decide (o.p = p)).map (·.m)).map .int) := by rw [← hN3]; exact listAt_new
        refine go_nx (s1 := [some (.ref no), some (.ref nw), some (.ref k), some (.ref M.length), some (.int p), some (.int (cntP (rowOf os ws) p)), some (.int (sAt ws p + inP (rowOf os ws) p - outP (rowOf os ws) p)), x7, none]) (M1 := N3) (by
          simp only [sAug_ap, List.getElem?_cons_succ, List.getElem?_cons_zero, bind_ok, dOpN_ap, dCons_ap, d3, dNil_ap, gSum_ref, ln3, intsOf_mk, gSub_int, toS_ok]
          rfl) ?_
        have d4 := lc_fL (e := dVar 0) (k := 8) (is := [8]) (tt := tVal (dOp2 gEq (dSl (dVar 8) oNone (oSome (dC (.int 2)))) (dTup (dCons (dVar 4) (dCons (dVar 5) dNil))))) (s := [some (.ref no), some (.ref nw), some (.ref k), some (.ref M.length), some (.int p), some (.int (cntP (rowOf os ws) p)), some (.int (sAt ws p + inP (rowOf os ws) p - outP (rowOf os ws) p)), x7, none]) (M := N3) (te := dOp2 gIx (dVar 8) (dC (.int 3))) Od.d (fun o => decide (o.p = p ∧ o.n = cntP (rowOf os ws) p)) (fun o => .int o.m) rfl (listAt_of ((g1.trans (g2.trans g3)).get oN (by simp))) (by omega) (fun o _ => ⟨by simp [wipeD, od_sl, sizeLine, pl_eq], fun _ => by simp [wipeD, od_ix3]⟩)
        have e4 : ((os.filter fun o => decide (o.p = p ∧ o.n = cntP (rowOf os ws) p)).map fun o => D.int o.m) = (askP os p (cntP (rowOf os ws) p)).map .int := by unfold askP; rw [List.map_map]; rfl
        rw [e4] at d4
        generalize hN4 : N3 ++ [MO.lst ((askP os p (cntP (rowOf os ws) p)).map .int)] = N4 at d4
        have g4 : Fr [] N3 N4 := by rw [← hN4]; exact Fr.app
        have ln4 : listAt N4 N3.length = some ((askP os p (cntP (rowOf os ws) p)).map .int) := by rw [← hN4]; exact listAt_new
        refine go_nx (s1 := [some (.ref no), some (.ref nw), some (.ref k), some (.ref M.length), some (.int p), some (.int (cntP (rowOf os ws) p)), some (.int (sAt ws p + inP (rowOf os ws) p - outP (rowOf os ws) p)), some (.ref N3.length), none]) (M1 := N4) (by simp only [sSet_ap, d4, toS_ok]; rfl) ?_
        have q0 := il_eq (M := N4 ++ [MO.lst []]) (listAt_app ln4) (b := N4.length) (ys := []) (by rw [listAt_new]; rfl)
        have g5 : Fr [] N4 (N4 ++ [MO.lst []]) := Fr.app
        have gg : Fr [] N (N4 ++ [MO.lst []]) := g1.trans (g2.trans (g3.trans (g4.trans g5)))
        have gd5 := gg.get gd (by simp)
        have lps : ps.length ≤ 64 := by
          rw [← hps]; unfold wPs sortNub
          have a1 := (sortI_perm (nubI ((os.filter fun o => !decide (o ∈ rowOf os ws)).map (·.p)))).length_eq
          have a2 := nubI_len ((os.filter fun o => !decide (o ∈ rowOf os ws)).map (·.p))
          rw [List.length_map] at a2
          have a3 := List.length_filter_le (fun o => !decide (o ∈ rowOf os ws)) os
          omega
        have st := set_kk (k := .int p) (q := .inl p) gd5 (wantD os ws p) (by unfold wantKv; rw [List.length_map]; rw [List.length_take]; omega)
        have ev : dIfE (tVal (dOp2 gEq (dVar 7) (dLst dNil))) (dTup (dCons (dVar 5) (dCons (dC .non) dNil))) (dTup (dCons (dVar 5) (dCons (dOp2 gSub (dOp2 gIx (dVar 7) (dC (.int 0))) (dVar 6)) dNil))) [some (.ref no), some (.ref nw), some (.ref k), some (.ref M.length), some (.int p), some (.int (cntP (rowOf os ws) p)), some (.int (sAt ws p + inP (rowOf os ws) p - outP (rowOf os ws) p)), some (.ref N3.length), none] N4 = .ok (wantD os ws p) (N4 ++ [MO.lst []]) := by
          unfold wantD
          cases ea : askP os p (cntP (rowOf os ws) p) with
          | nil =>
            rw [ea] at q0
            simp [sizeLine, q0]
          | cons a r =>
            rw [ea] at q0 ln4
            have l5 : listAt (N4 ++ [MO.lst []]) N3.length = some (.int a :: r.map .int) := listAt_app ln4
            simp [sizeLine, q0, l5]
        refine end_nx (s1 := [some (.ref no), some (.ref nw), some (.ref k), some (.ref M.length), some (.int p), some (.int (cntP (rowOf os ws) p)), some (.int (sAt ws p + inP (rowOf os ws) p - outP (rowOf os ws) p)), some (.ref N3.length), none]) (by
          rw [sAsg_ap, ev]
          simp [st]
          rfl) ?_
        refine ⟨_, _, _, _, rfl, fr.trans ((gg.mono (by simp)).trans (Fr.set (by simp))), ?_⟩
        rw [List.getElem?_set_self (by have := (List.getElem?_eq_some_iff.mp gd5).1; exact this)]
        congr 2
        rw [put_new]
        · unfold wantKv
          rw [List.take_add_one, ha]
          simp
        · intro z
          unfold wantKv at z
          rw [List.map_map] at z
          obtain ⟨q, hq, e⟩ := List.mem_map.mp z
          simp only [Function.comp, Sum.inl.injEq] at e
          subst e
          have hi := (List.getElem?_eq_some_iff.mp ha).1
          obtain ⟨j, hj, e2⟩ := List.mem_take_iff_getElem.mp hq
          have := List.pairwise_iff_getElem.mp ris j i (by omega) hi (by omega)
          rw [e2, (List.getElem?_eq_some_iff.mp ha).2] at this
          omega
    · rintro s N ⟨x4, x5, x6, x7, rfl, fr, gd⟩
      rw [List.length_map, List.take_length] at gd
      exact end_rt (by rfl) ⟨rfl, (f0.trans (f1.trans fB)).cut fr (by have := f0.len; simp; omega), gd⟩
  obtain ⟨d, M', e, rfl, h1, h2⟩ := key
  refine ⟨M.length, M', ?_, h1, f0.len, h2⟩
  unfold S_wanting
  simpa using e
end Fl

namespace Fl
open PySem
/-! ### rows: orders settled one by one -/
def bmps (x : List Int) (os : List Od) : List Int := os.foldl (fun x o => bmp x o.p) x
theorem bmps_len : ∀ {os : List Od} {x : List Int}, (bmps x os).length = x.length
  | [], _ => rfl
  | o :: os, x => by
    show (bmps (bmp x o.p) os).length = _
    rw [bmps_len, bmp_len]
theorem bmps_app {x : List Int} {a b : List Od} : bmps x (a ++ b) = bmps (bmps x a) b := List.foldl_append
theorem mvs_app {x : List Int} {a b : List Od} : mvs x (a ++ b) = mvs (mvs x a) b := List.foldl_append
theorem cntP_nil {p : Int} : cntP [] p = 0 := rfl
theorem cntP_cons {o : Od} {l : List Od} {p : Int} : cntP (o :: l) p = cntP l p + (if o.p = p then 1 else 0) := by
  unfold cntP
  rw [List.filter_cons]
  by_cases h : o.p = p
  · simp [h]
  · simp [h]
theorem cntP_app {a b : List Od} {p : Int} : cntP (a ++ b) p = cntP a p + cntP b p := by
  unfold cntP
  rw [List.filter_append, List.length_append]
  omega
theorem cntP_nn {a : List Od} {p : Int} : 0 ≤ cntP a p := by unfold cntP; omega
theorem bmps_at : ∀ {os : List Od} {x : List Int}, (∀ o ∈ os, o.ok x.length) → ∀ {p : Int}, (0 ≤ p ∧ p < x.length) → sAt (bmps x os) p = sAt x p + cntP os p
  | [], _, _, _, _ => by rw [cntP_nil]; show sAt _ _ = _; simp [bmps]
  | o :: os, x, h, p, hp => by
    show sAt (bmps (bmp x o.p) os) p = _
    have ok := h o List.mem_cons_self
    rw [bmps_at (fun q hq => by rw [bmp_len]; exact h q (List.mem_cons_of_mem _ hq)) (by rw [bmp_len]; exact hp), bmp_at ok.1 hp, cntP_cons]
    omega
theorem isRowF_app : ∀ {a b : List Od} {w x : List Int}, isRowF (a ++ b) w x = (isRowF a w x && isRowF b (mvs w a) (bmps x a))
  | [], b, w, x => by simp [isRowF, mvs, bmps]
  | o :: a, b, w, x => by
    rw [List.cons_append]
    show (able1 w x o && isRowF (a ++ b) (mv w o) (bmp x o.p)) = (able1 w x o && isRowF a (mv w o) (bmp x o.p) && isRowF b (mvs (mv w o) a) (bmps (bmp x o.p) a))
    rw [isRowF_app, Bool.and_assoc]
theorem isRowF_one {o : Od} {w x : List Int} : isRowF [o] w x = able1 w x o := by simp [isRowF]
/-- a row of orders of these purses -/
structure Row (ws : List Int) (os : List Od) : Prop where
  ok : ∀ o ∈ os, o.ok ws.length
  row : isRowB os ws = true
theorem Row.nil {ws : List Int} : Row ws [] := ⟨by simp, rfl⟩
theorem zeros_at {n : Nat} {p : Int} : sAt (List.replicate n 0) p = 0 := by
  unfold sAt
  rw [List.getD_eq_getElem?_getD, List.getElem?_replicate]
  split <;> rfl
theorem Row.pre {ws : List Int} {a b : List Od} (h : Row ws (a ++ b)) : Row ws a := by
  have z := h.row
  unfold isRowB at z
  rw [isRowF_app, Bool.and_eq_true] at z
  exact ⟨fun o ho => h.ok o (List.mem_append_left _ ho), z.1⟩
theorem Row.nexts {ws : List Int} {os : List Od} (h : ∀ o ∈ os, o.ok ws.length) {p : Int} (hp : 0 ≤ p ∧ p < ws.length) : sAt (bmps (List.replicate ws.length 0) os) p = cntP os p := by
  rw [bmps_at (fun o ho => by rw [List.length_replicate]; exact h o ho) (by rw [List.length_replicate]; exact hp), zeros_at]
  omega
theorem Row.snoc {ws : List Int} {a : List Od} {o : Od} : Row ws (a ++ [o]) ↔ Row ws a ∧ o.ok ws.length ∧ o.n = cntP a o.p ∧ o.m ≤ sAt (mvs ws a) o.p := by
  constructor
  · intro h
    have oo := h.ok o (by simp)
    have z := h.row
    unfold isRowB at z
    rw [isRowF_app, isRowF_one, Bool.and_eq_true] at z
    obtain ⟨z1, z2⟩ := z
    simp only [able1, Bool.and_eq_true, decide_eq_true_eq] at z2
    rw [Row.nexts h.pre.ok ⟨oo.1, by have := oo.2.1; omega⟩] at z2
    exact ⟨h.pre, oo, z2⟩
  · rintro ⟨h, oo, h1, h2⟩
    refine ⟨fun q hq => ?_, ?_⟩
    · rcases List.mem_append.mp hq with z | z
      · exact h.ok q z
      · rw [List.mem_singleton.mp z]; exact oo
    · unfold isRowB
      rw [isRowF_app, isRowF_one, Bool.and_eq_true]
      refine ⟨h.row, ?_⟩
      simp only [able1, Bool.and_eq_true, decide_eq_true_eq]
      rw [Row.nexts h.ok ⟨oo.1, by have := oo.2.1; omega⟩]
      exact ⟨h1, h2⟩
/-- lists from behind -/
theorem snoc_ind {A : Type} {P : List A → Prop} (h0 : P []) (h1 : ∀ l a, P l → P (l ++ [a])) : ∀ l, P l := fun l => by
  have z : ∀ l : List A, P l.reverse := fun l => by
    induction l with
    | nil => exact h0
    | cons a r ih => rw [List.reverse_cons]; exact h1 _ _ ih
  have := z l.reverse
  rwa [List.reverse_reverse] at this
theorem Row.num {ws : List Int} : ∀ os, Row ws os → (∀ o ∈ os, 0 ≤ o.n ∧ o.n < cntP os o.p) ∧ (∀ p j, 0 ≤ j → j < cntP os p → ∃ o ∈ os, o.p = p ∧ o.n = j) ∧ (os.map Od.pl).Nodup := by
  refine snoc_ind (fun _ => ⟨by simp, fun p j h1 h2 => by rw [cntP_nil] at h2; omega, by simp⟩) fun l a ih h => ?_
  obtain ⟨h1, h2, h3, h4⟩ := Row.snoc.mp h
  obtain ⟨i1, i2, i3⟩ := ih h1
  have e : ∀ p, cntP (l ++ [a]) p = cntP l p + (if a.p = p then 1 else 0) := fun p => by rw [cntP_app, cntP_cons, cntP_nil]; omega
  refine ⟨fun o ho => ?_, fun p j j0 j1 => ?_, ?_⟩
  · rw [e]
    rcases List.mem_append.mp ho with z | z
    · have := i1 o z
      split <;> omega
    · rw [List.mem_singleton.mp z, if_pos rfl]
      have : 0 ≤ cntP l a.p := cntP_nn
      omega
  · rw [e] at j1
    by_cases c : j < cntP l p
    · obtain ⟨o, ho, z⟩ := i2 p j j0 c
      exact ⟨o, List.mem_append_left _ ho, z⟩
    · by_cases d : a.p = p
      · rw [if_pos d] at j1
        exact ⟨a, by simp, d, by rw [h3, d]; omega⟩
      · rw [if_neg d] at j1; omega
  · rw [List.map_append, List.nodup_append]
    refine ⟨i3, by simp, fun x hx y hy hxy => ?_⟩
    simp only [List.map_cons, List.map_nil, List.mem_singleton] at hy
    subst hy
    obtain ⟨o, ho, rfl⟩ := List.mem_map.mp hx
    have := i1 o ho
    simp only [Od.pl, Prod.mk.injEq] at hxy
    rw [hxy.1, hxy.2, h3] at this
    omega
theorem nd_map {A B : Type} {f : A → B} : ∀ {l : List A}, (l.map f).Nodup → l.Nodup
  | [], _ => by simp
  | c :: l, h => by
    rw [List.map_cons, List.nodup_cons] at h
    rw [List.nodup_cons]
    exact ⟨fun z => h.1 (List.mem_map.mpr ⟨c, z, rfl⟩), nd_map h.2⟩
theorem Row.nodup {ws : List Int} {os : List Od} (h : Row ws os) : os.Nodup := by
  have z := (Row.num os h).2.2
  exact nd_map z
theorem nd_of_map {A B : Type} {f : A → B} : ∀ {l : List A}, (l.map f).Nodup → ∀ {a b : A}, a ∈ l → b ∈ l → f a = f b → a = b
  | c :: l, h, a, b, ha, hb, e => by
    rw [List.map_cons, List.nodup_cons] at h
    rcases List.mem_cons.mp ha with e1 | h1 <;> rcases List.mem_cons.mp hb with e2 | h2
    · rw [e1, e2]
    · exact absurd (show f c ∈ l.map f from List.mem_map.mpr ⟨b, h2, by rw [← e, e1]⟩) h.1
    · exact absurd (show f c ∈ l.map f from List.mem_map.mpr ⟨a, h1, by rw [e, e2]⟩) h.1
    · exact nd_of_map h.2 h1 h2 e
theorem sum_sub {A : Type} {f : A → Int} : ∀ {a b : List A}, a.Nodup → (∀ x ∈ a, x ∈ b) → (∀ x ∈ b, 0 ≤ f x) → (a.map f).sum ≤ (b.map f).sum
  | [], b, _, _, h => by
    induction b with
    | nil => simp
    | cons y b ih =>
      have := ih (by simp) fun x hx => h x (List.mem_cons_of_mem _ hx)
      have := h y List.mem_cons_self
      simp only [List.map_nil, List.sum_nil, List.map_cons, List.sum_cons] at *
      omega
  | y :: a, b, hn, hs, hf => by
    rw [List.nodup_cons] at hn
    obtain ⟨b1, b2, rfl⟩ := List.append_of_mem (hs y List.mem_cons_self)
    have ih := sum_sub (f := f) (a := a) (b := b1 ++ b2) hn.2 (fun x hx => by
      have z := hs x (List.mem_cons_of_mem _ hx)
      simp only [List.mem_append, List.mem_cons] at z ⊢
      rcases z with z | z | z
      · exact .inl z
      · exact absurd (z ▸ hx) hn.1
      · exact .inr z) fun x hx => hf x (by
        simp only [List.mem_append, List.mem_cons] at hx ⊢
        rcases hx with z | z
        · exact .inl z
        · exact .inr (.inr z))
    simp only [List.map_append, List.map_cons, List.sum_append, List.sum_cons] at ih ⊢
    omega
theorem len_sub {A : Type} {a b : List A} (h1 : a.Nodup) (h2 : ∀ x ∈ a, x ∈ b) : a.length ≤ b.length := by
  have z := sum_sub (f := fun _ => (1 : Int)) h1 h2 (by simp)
  have e : ∀ l : List A, (l.map fun _ => (1 : Int)).sum = l.length := fun l => by
    induction l with
    | nil => rfl
    | cons x l ih => simp only [List.map_cons, List.sum_cons, ih, List.length_cons]; omega
  rw [e, e] at z
  omega
theorem perm_of {A : Type} : ∀ {a b : List A}, a.Nodup → b.Nodup → (∀ x, x ∈ a ↔ x ∈ b) → a.Perm b
  | [], b, _, _, h => by
    cases b with
    | nil => exact List.Perm.refl _
    | cons y b => exact absurd ((h y).mpr List.mem_cons_self) (by simp)
  | y :: a, b, h1, h2, h => by
    rw [List.nodup_cons] at h1
    obtain ⟨b1, b2, rfl⟩ := List.append_of_mem ((h y).mp List.mem_cons_self)
    have p2 : (b1 ++ y :: b2).Perm (y :: (b1 ++ b2)) := List.perm_middle
    have h2' := p2.nodup_iff.mp h2
    rw [List.nodup_cons] at h2'
    refine (List.Perm.cons y (perm_of h1.2 h2'.2 fun x => ?_)).trans p2.symm
    have z := h x
    rw [p2.mem_iff, List.mem_cons, List.mem_cons] at z
    constructor
    · intro hx
      rcases z.mp (.inr hx) with e | e
      · exact absurd (e ▸ hx) h1.1
      · exact e
    · intro hx
      rcases z.mpr (.inr hx) with e | e
      · exact absurd (e ▸ hx) h2'.1
      · exact e
theorem inP_app {a b : List Od} {p : Int} : inP (a ++ b) p = inP a p + inP b p := by unfold inP; rw [List.filter_append, List.map_append, List.sum_append]
theorem outP_app {a b : List Od} {p : Int} : outP (a ++ b) p = outP a p + outP b p := by unfold outP; rw [List.filter_append, List.map_append, List.sum_append]
theorem flow_io : ∀ {os : List Od} {p : Int}, flow os p = inP os p - outP os p
  | [], p => by simp [flow, inP, outP]
  | o :: os, p => by
    have ih := flow_io (os := os) (p := p)
    unfold flow at ih ⊢
    rw [List.map_cons, List.sum_cons, ih]
    unfold inP outP flow1
    rw [List.filter_cons, List.filter_cons]
    by_cases c : o.g = p <;> by_cases d : o.p = p <;> simp [c, d] <;> omega
theorem sub_in {a b : List Od} {p : Int} (h1 : a.Nodup) (h2 : ∀ o ∈ a, o ∈ b) (h3 : ∀ o ∈ b, 0 ≤ o.m) : inP a p ≤ inP b p := by
  unfold inP
  refine sum_sub (h1.filter _) (fun o ho => ?_) fun o ho => h3 o (List.mem_filter.mp ho).1
  rw [List.mem_filter] at ho ⊢
  exact ⟨h2 o ho.1, ho.2⟩
theorem sub_out {a b : List Od} {p : Int} (h1 : a.Nodup) (h2 : ∀ o ∈ a, o.p = p → o ∈ b) (h3 : ∀ o ∈ b, 0 ≤ o.m) : outP a p ≤ outP b p := by
  unfold outP
  refine sum_sub (h1.filter _) (fun o ho => ?_) fun o ho => h3 o (List.mem_filter.mp ho).1
  rw [List.mem_filter] at ho ⊢
  exact ⟨h2 o ho.1 (by simpa using ho.2), ho.2⟩
theorem sub_cnt {a b : List Od} {p : Int} (h1 : a.Nodup) (h2 : ∀ o ∈ a, o.p = p → o ∈ b) : cntP a p ≤ cntP b p := by
  unfold cntP
  have := len_sub (a := a.filter fun o => decide (o.p = p)) (b := b.filter fun o => decide (o.p = p)) (h1.filter _) fun o ho => by
    rw [List.mem_filter] at ho ⊢
    exact ⟨h2 o ho.1 (by simpa using ho.2), ho.2⟩
  omega
theorem Row.worth {ws : List Int} {os : List Od} (h : ∀ o ∈ os, o.ok ws.length) {p : Int} (hp : 0 ≤ p ∧ p < ws.length) : sAt (mvs ws os) p = sAt ws p + inP os p - outP os p := by
  rw [mvs_at h hp, flow_io]
  omega
/-- nothing of lot can be settled behind the row -/
def Full (ws : List Int) (lot os : List Od) : Prop := ∀ o ∈ lot, ¬ (o.n = cntP os o.p ∧ o.m ≤ sAt (mvs ws os) o.p)
/-- what can be settled in a row is settled in every row that goes as far as it can -/
theorem row_in {ws : List Int} {lot b : List Od} (hu : ∀ o ∈ lot, ∀ o' ∈ lot, o.pl = o'.pl → o = o') (hb : Row ws b) (sb : ∀ o ∈ b, o ∈ lot) (fb : Full ws lot b) : ∀ a, Row ws a → (∀ o ∈ a, o ∈ lot) → ∀ o ∈ a, o ∈ b := by
  refine snoc_ind (fun _ _ => by simp) fun a o ih ha sa => ?_
  obtain ⟨h1, h2, h3, h4⟩ := Row.snoc.mp ha
  have ihh := ih h1 fun q hq => sa q (List.mem_append_left _ hq)
  intro q hq
  rcases List.mem_append.mp hq with z | z
  · exact ihh q z
  rw [List.mem_singleton.mp z]
  clear z hq q
  refine Classical.byContradiction fun no => ?_
  have ol := sa o (by simp)
  have hp : 0 ≤ o.p ∧ o.p < ws.length := ⟨h2.1, by have := h2.2.1; omega⟩
  obtain ⟨a1, a2, a3⟩ := Row.num a h1
  obtain ⟨b1, b2, b3⟩ := Row.num b hb
  have c1 : cntP a o.p ≤ cntP b o.p := sub_cnt h1.nodup fun q hq _ => ihh q hq
  have c2 : cntP b o.p = o.n := by
    by_cases c : o.n < cntP b o.p
    · obtain ⟨q, q1, q2, q3⟩ := b2 o.p o.n (by rw [h3]; exact cntP_nn) c
      have := hu q (sb q q1) o ol (by unfold Od.pl; rw [q2, q3])
      exact absurd (this ▸ q1) no
    · omega
  have e : ∀ q ∈ b, q.p = o.p → q ∈ a := fun q hq qp => by
    have n1 := b1 q hq
    rw [qp, c2, h3] at n1
    obtain ⟨r, r1, r2, r3⟩ := a2 o.p q.n n1.1 n1.2
    have := hu r (sa r (List.mem_append_left _ r1)) q (sb q hq) (by unfold Od.pl; rw [r2, r3, qp])
    exact this ▸ r1
  have mn : ∀ l, Row ws l → ∀ q ∈ l, 0 ≤ q.m := fun l hl q hq => by
    have := hl.ok q hq
    unfold Od.ok at this
    omega
  have i1 := sub_in (p := o.p) h1.nodup ihh (mn b hb)
  have i2 := sub_out (p := o.p) hb.nodup e (mn a h1)
  rw [Row.worth h1.ok hp] at h4
  refine fb o ol ⟨c2.symm, ?_⟩
  rw [Row.worth hb.ok hp]
  omega
theorem row_perm {ws : List Int} {lot a b : List Od} (hu : ∀ o ∈ lot, ∀ o' ∈ lot, o.pl = o'.pl → o = o') (ha : Row ws a) (sa : ∀ o ∈ a, o ∈ lot) (fa : Full ws lot a) (hb : Row ws b) (sb : ∀ o ∈ b, o ∈ lot) (fb : Full ws lot b) : a.Perm b :=
  perm_of ha.nodup hb.nodup fun o => ⟨row_in hu hb sb fb a ha sa o, row_in hu ha sa fa b hb sb o⟩
theorem cntP_perm {a b : List Od} (h : a.Perm b) {p : Int} : cntP a p = cntP b p := by
  unfold cntP
  rw [(h.filter _).length_eq]
theorem sAt_eq {ws : List Int} {os : List Od} (h : ∀ o ∈ os, o.ok ws.length) {p : Int} (hp : 0 ≤ p ∧ p < ws.length) : sAt (bmps (List.replicate ws.length 0) os) p = cntP os p := Row.nexts h hp
/-- sums never come below nought -/
theorem Row.nn {ws : List Int} (h0 : ∀ p : Int, 0 ≤ p ∧ p < ws.length → 0 ≤ sAt ws p) : ∀ os, Row ws os → ∀ p : Int, 0 ≤ p ∧ p < ws.length → 0 ≤ sAt (mvs ws os) p := by
  refine snoc_ind (fun _ p hp => h0 p hp) fun l o ih h p hp => ?_
  obtain ⟨h1, h2, h3, h4⟩ := Row.snoc.mp h
  have z := ih h1 p hp
  rw [mvs_app]
  show 0 ≤ sAt (mv (mvs ws l) o) p
  rw [mv_at (by rw [mvs_len]; exact h2) (by rw [mvs_len]; exact hp)]
  unfold flow1
  have : 1 ≤ o.m := by unfold Od.ok at h2; omega
  by_cases c : o.p = p
  · have ne : ¬ o.g = p := fun z => h2.2.2.2.2.1 (by rw [c, z])
    rw [if_neg ne, if_pos c, ← c]
    omega
  · rw [if_neg c]
    split <;> omega
end Fl

namespace Fl
open PySem
open L2 (Key)
/-! ### the row of the least is a row, and goes as far as it can -/
theorem rowF_row {os : List Od} {ws : List Int} (ok : ∀ o ∈ os, o.ok ws.length) : ∀ n pre, Row ws pre → mu os (bmps (List.replicate ws.length 0) pre) < n →
    Row ws (pre ++ rowF os n (mvs ws pre) (bmps (List.replicate ws.length 0) pre)) ∧ (∀ o ∈ rowF os n (mvs ws pre) (bmps (List.replicate ws.length 0) pre), o ∈ os) ∧ Full ws os (pre ++ rowF os n (mvs ws pre) (bmps (List.replicate ws.length 0) pre))
  | 0, _, _, h => absurd h (Nat.not_lt_zero _)
  | n + 1, pre, hr, h => by
    have lx : (bmps (List.replicate ws.length 0) pre).length = ws.length := by rw [bmps_len, List.length_replicate]
    unfold rowF
    cases e : ables os (mvs ws pre) (bmps (List.replicate ws.length 0) pre) with
    | nil =>
      simp only [List.append_nil]
      refine ⟨hr, by simp, fun o ho hh => ?_⟩
      have oo := ok o ho
      have z : o ∈ ables os (mvs ws pre) (bmps (List.replicate ws.length 0) pre) := mem_ables.mpr ⟨ho, by rw [Row.nexts hr.ok ⟨oo.1, by have := oo.2.1; omega⟩]; exact hh.1, hh.2⟩
      rw [e] at z
      cases z
    | cons o r =>
      have om : o ∈ ables os (mvs ws pre) (bmps (List.replicate ws.length 0) pre) := by rw [e]; exact List.mem_cons_self
      obtain ⟨h1, h2, h3⟩ := mem_ables.mp om
      have oo := ok o h1
      rw [Row.nexts hr.ok ⟨oo.1, by have := oo.2.1; omega⟩] at h2
      have hs : Row ws (pre ++ [o]) := Row.snoc.mpr ⟨hr, oo, h2, h3⟩
      have ml := mu_lt om (fun q hq => by rw [lx]; exact ok q hq)
      have e1 : mvs ws (pre ++ [o]) = mv (mvs ws pre) o := by rw [mvs_app]; rfl
      have e2 : bmps (List.replicate ws.length 0) (pre ++ [o]) = bmp (bmps (List.replicate ws.length 0) pre) o.p := by rw [bmps_app]; rfl
      have ih := rowF_row ok n (pre ++ [o]) hs (by rw [e2]; omega)
      rw [e1, e2, List.append_assoc] at ih
      refine ⟨ih.1, fun q hq => ?_, ih.2.2⟩
      rcases List.mem_cons.mp hq with z | z
      · rw [z]; exact h1
      · exact ih.2.1 q z
theorem rowOf_row {os : List Od} {ws : List Int} (h : Lot os ws) : Row ws (rowOf os ws) ∧ (∀ o ∈ rowOf os ws, o ∈ os) ∧ Full ws os (rowOf os ws) := by
  have z := rowF_row h.o (os.length + 1) [] Row.nil (Nat.lt_succ_of_le mu_le)
  exact z
theorem lot_u {os : List Od} {ws : List Int} (h : Lot os ws) : ∀ o ∈ os, ∀ o' ∈ os, o.pl = o'.pl → o = o' := fun o ho o' ho' e => nd_of_map h.nd ho ho' e
theorem able_eq : S__law_able = S_able_ones := rfl
section
variable {M : Mem} {A : Nat} {w : List Int} {o : Od} {s : Sl} {i j k : Nat}
/-- w[o[k]] = w[o[k]] +- o[3], and what the store is then -/
theorem sub_step (hw : M[A]? = some (.lst (w.map .int))) (ok : o.ok w.length) (h4 : s[4]? = some (some (.ref A))) (h8 : s[8]? = some (some o.d)) :
    sAsg (dOp2 gSub (dOp2 gIx (dVar 4) (dOp2 gIx (dVar 8) (dC (.int 0)))) (dOp2 gIx (dVar 8) (dC (.int 3)))) (gIxSet (dVar 4) (dOp2 gIx (dVar 8) (dC (.int 0)))) s M = .nx s (M.set A (.lst ((w.set o.p.toNat (sAt w o.p - o.m)).map .int))) := by
  obtain ⟨q1, q2, q3, q4, q5, _⟩ := ok
  have g1 := gIx_s (listAt_of hw) (i := o.p) (by omega)
  have s1 := setIx_s (v := sAt w o.p - o.m) hw (i := o.p) (by omega)
  simp only [sAsg_ap, gIxSet_ap, dOp2_ap, dVar_ap, h4, h8, bind_ok, dC_ap, od_ix0, od_ix3, g1, gSub_int, toS_ok, s1]
theorem add_step (hw : M[A]? = some (.lst (w.map .int))) (ok : o.ok w.length) (h4 : s[4]? = some (some (.ref A))) (h8 : s[8]? = some (some o.d)) :
    sAsg (dOp2 gAdd (dOp2 gIx (dVar 4) (dOp2 gIx (dVar 8) (dC (.int 2)))) (dOp2 gIx (dVar 8) (dC (.int 3)))) (gIxSet (dVar 4) (dOp2 gIx (dVar 8) (dC (.int 2)))) s M = .nx s (M.set A (.lst ((w.set o.g.toNat (sAt w o.g + o.m)).map .int))) := by
  obtain ⟨q1, q2, q3, q4, q5, _⟩ := ok
  have g1 := gIx_s (listAt_of hw) (i := o.g) (by omega)
  have s1 := setIx_s (v := sAt w o.g + o.m) hw (i := o.g) (by omega)
  simp only [sAsg_ap, gIxSet_ap, dOp2_ap, dVar_ap, h4, h8, bind_ok, dC_ap, od_ix2, od_ix3, g1, gAdd_int, toS_ok, s1]
theorem nxt_step (hw : M[A]? = some (.lst (w.map .int))) (ok : o.ok w.length) (h4 : s[5]? = some (some (.ref A))) (h8 : s[8]? = some (some o.d)) :
    sAsg (dOp2 gAdd (dOp2 gIx (dVar 5) (dOp2 gIx (dVar 8) (dC (.int 0)))) (dC (.int 1))) (gIxSet (dVar 5) (dOp2 gIx (dVar 8) (dC (.int 0)))) s M = .nx s (M.set A (.lst ((bmp w o.p).map .int))) := by
  obtain ⟨q1, q2, q3, q4, q5, _⟩ := ok
  have g1 := gIx_s (listAt_of hw) (i := o.p) (by omega)
  have s1 := setIx_s (v := sAt w o.p + 1) hw (i := o.p) (by omega)
  simp only [sAsg_ap, gIxSet_ap, dOp2_ap, dVar_ap, h4, h8, bind_ok, dC_ap, od_ix0, g1, gAdd_int, toS_ok, s1]
  rfl
end
theorem sp_settle {M0 : Mem} {F : List Cell} {no nb : Nat} {os : List Od} {ws : List Int} {l : Bool} (t0 : Tn M0 F) (ho : (no, .lst (os.map Od.d)) ∈ F) (hb : (nb, .lst (ws.map .int)) ∈ F) (hl : os.length < 10000) (h : Lot os ws) :
    ∃ fd a b c M', S__law_settle [.ref 2, .ref no, .ref nb, .bl l] M0 = .ok (.tup [.ref a, .ref b, .ref c]) M' ∧ Tn M' ((b, .lst ((mvs ws fd).map .int)) :: (c, .lst ((bmps (List.replicate ws.length 0) fd).map .int)) :: (a, .lst (fd.map Od.d)) :: F) ∧
      Row ws fd ∧ (∀ o ∈ fd, o ∈ os) ∧ Full ws os fd ∧ (l = true → fd = rowOf os ws) := by
  have b0 := t0.o.mem hb
  have m0 := mul0 (M := M0 ++ [MO.lst (ws.map .int), .lst [.int 0]]) (n := M0.length + 1) (k := ws.length) (by simp) (by have := h.l8; omega)
  have t1 := ((t0.new (.lst (ws.map .int))).app [.lst [.int 0]])
  have t2 := t1.new (.lst ((List.replicate ws.length (0 : Int)).map .int))
  have t3 := t2.new (.lst (([] : List Od).map Od.d))
  generalize hA : M0.length = A at *
  have e3 : ((M0 ++ [MO.lst (ws.map .int)] ++ [MO.lst [.int 0]]).length) = A + 2 := by rw [← hA]; simp
  have e4 : ((M0 ++ [MO.lst (ws.map .int)] ++ [MO.lst [.int 0]] ++ [MO.lst ((List.replicate ws.length (0 : Int)).map .int)]).length) = A + 3 := by rw [← hA]; simp
  rw [e3, e4] at t3
  generalize hM1 : M0 ++ [MO.lst (ws.map .int)] ++ [MO.lst [.int 0]] ++ [MO.lst ((List.replicate ws.length (0 : Int)).map .int)] ++ [MO.lst (([] : List Od).map Od.d)] = M1 at t3
  have hoF : ∀ {x y z u : Cell}, (no, .lst (os.map Od.d)) ∈ x :: y :: z :: u :: F := by
    intro x y z u
    simp only [List.mem_cons]
    exact .inr (.inr (.inr (.inr ho)))
  have hoF3 : ∀ {x y z : Cell}, (no, .lst (os.map Od.d)) ∈ x :: y :: z :: F := by
    intro x y z
    simp only [List.mem_cons]
    exact .inr (.inr (.inr ho))
  have key : ∃ d M', (f__law_settle (startD 9 [.ref 2, .ref no, .ref nb, .bl l]) M0).fin = .ok d M' ∧ (∃ fd a b c, d = .tup [.ref a, .ref b, .ref c] ∧ Tn M' ((b, .lst ((mvs ws fd).map .int)) :: (c, .lst ((bmps (List.replicate ws.length 0) fd).map .int)) :: (a, .lst (fd.map Od.d)) :: F) ∧
      Row ws fd ∧ (∀ o ∈ fd, o ∈ os) ∧ Full ws os fd ∧ (l = true → fd = rowOf os ws)) := by
    refine ret_of (Q := fun d M' => ∃ fd a b c, d = .tup [.ref a, .ref b, .ref c] ∧ Tn M' ((b, .lst ((mvs ws fd).map .int)) :: (c, .lst ((bmps (List.replicate ws.length 0) fd).map .int)) :: (a, .lst (fd.map Od.d)) :: F) ∧
      Row ws fd ∧ (∀ o ∈ fd, o ∈ os) ∧ Full ws os fd ∧ (l = true → fd = rowOf os ws)) ?_
    unfold f__law_settle
    refine go_nx (s1 := [some (.ref 2), some (.ref no), some (.ref nb), some (.bl l), some (.ref A), some (.ref (A + 2)), some (.ref (A + 3)), none, none]) (M1 := M1) (by
      have z1 : listAt (M0 ++ [MO.lst (ws.map .int)] ++ [MO.lst [.int 0]]) nb = some (ws.map .int) := listAt_app (listAt_app (listAt_of b0))
      rw [List.append_assoc, List.singleton_append] at e3 e4 hM1
      rw [List.append_assoc, List.singleton_append] at z1
      have y1 : dOpN gList (dCons (dVar 2) dNil) (startD 9 [.ref 2, .ref no, .ref nb, .bl l]) M0 = .ok (.ref A) (M0 ++ [MO.lst (ws.map .int)]) := by simp [startD, listAt_of b0, hA]
      have y2 : dLst (dCons (dC (.int 0)) dNil) (startD 9 [.ref 2, .ref no, .ref nb, .bl l]) (M0 ++ [MO.lst (ws.map .int)]) = .ok (.ref (A + 1)) (M0 ++ [MO.lst (ws.map .int), .lst [.int 0]]) := by simp [sizeLine, hA]
      have y3 : dOpN gLen (dCons (dVar 2) dNil) (startD 9 [.ref 2, .ref no, .ref nb, .bl l]) (M0 ++ [MO.lst (ws.map .int), .lst [.int 0]]) = .ok (.int ws.length) (M0 ++ [MO.lst (ws.map .int), .lst [.int 0]]) := by simp [startD, z1]
      rw [e3] at m0
      have y4 := op2_ok y2 y3 m0
      have y5 : dLst dNil (startD 9 [.ref 2, .ref no, .ref nb, .bl l]) (M0 ++ [MO.lst (ws.map .int), .lst [.int 0]] ++ [.lst ((List.replicate ws.length (0 : Int)).map .int)]) = .ok (.ref (A + 3)) M1 := by
        rw [lst_ok (xs := []) rfl (by simp), ← hM1]
        simp [hA]
      rw [sPar3_ap, cons_ok y1 (cons_ok y4 (cons1_ok y5))]
      rfl) ?_
    have a1 := sp_able (os := os) (t3.o.mem hoF3) (t3.get 2) (t3.get 1) (fun o ho => h.o o ho) (by simp) hl
    rw [← able_eq] at a1
    have t4 := (t3.app [.lst ((os.filter (able1 ws (List.replicate ws.length 0))).map Od.d)]).new (.lst ((ables os ws (List.replicate ws.length 0)).map Od.d))
    simp only [List.length_append, List.length_singleton, List.append_assoc, List.singleton_append] at t4
    refine go_nx (by simp [a1]; exact ⟨rfl, rfl⟩) ?_
    refine go_while (n := os.length + 1) (fun n s N => ∃ pre k x8, Tn N ((k, .lst ((ables os (mvs ws pre) (bmps (List.replicate ws.length 0) pre)).map Od.d)) :: (A + 3, .lst (pre.map Od.d)) :: (A + 2, .lst ((bmps (List.replicate ws.length 0) pre).map .int)) :: (A, .lst ((mvs ws pre).map .int)) :: F) ∧
        Row ws pre ∧ (∀ o ∈ pre, o ∈ os) ∧ (l = true → pre ++ rowF os n (mvs ws pre) (bmps (List.replicate ws.length 0) pre) = rowOf os ws) ∧ mu os (bmps (List.replicate ws.length 0) pre) < n ∧ pre.length + n = os.length + 1 ∧
        s = [some (.ref 2), some (.ref no), some (.ref nb), some (.bl l), some (.ref A), some (.ref (A + 2)), some (.ref (A + 3)), some (.ref k), x8]) (by omega)
      ⟨[], M1.length + 1, none, t4, Row.nil, by simp, fun _ => rfl, Nat.lt_succ_of_le mu_le, by simp, rfl⟩ ?_
    rintro n s N ⟨pre, k, x8, t, hr, hsub, hrow, hmu, hlen, rfl⟩
    have lw : (mvs ws pre).length = ws.length := mvs_len
    have lx : (bmps (List.replicate ws.length 0) pre).length = ws.length := by rw [bmps_len, List.length_replicate]
    have gk := t.get 0
    have le0 : pyEq (N ++ [MO.lst []]) (.ref k) (.ref N.length) = some (decide (ables os (mvs ws pre) (bmps (List.replicate ws.length 0) pre) = [])) := ol_eq (ys := []) (listAt_app (listAt_of gk)) (by rw [listAt_new]; rfl)
    refine ⟨decide (ables os (mvs ws pre) (bmps (List.replicate ws.length 0) pre) ≠ []), N ++ [MO.lst []], by simp [sizeLine, le0], fun hb => ?_, fun hb => ?_⟩
    · have hb : ables os (mvs ws pre) (bmps (List.replicate ws.length 0) pre) = [] := by simpa using hb
      refine end_rt (d := .tup [.ref (A + 3), .ref A, .ref (A + 2)]) (M1 := N ++ [MO.lst []]) (by simp [sizeLine]) ⟨pre, A + 3, A, A + 2, rfl, ?_, hr, hsub, fun o ho hh => ?_, fun hl => ?_⟩
      · refine (t.tl.app [.lst []]).perm ?_
        exact (List.Perm.cons _ (List.Perm.swap _ _ _)).trans ((List.Perm.swap _ _ _).trans (List.Perm.cons _ (List.Perm.swap _ _ _)))
      · have oo := h.o o ho
        have z : o ∈ ables os (mvs ws pre) (bmps (List.replicate ws.length 0) pre) := mem_ables.mpr ⟨ho, by rw [Row.nexts hr.ok ⟨oo.1, by have := oo.2.1; omega⟩]; exact hh.1, hh.2⟩
        rw [hb] at z
        cases z
      · have z := hrow hl
        cases n with
        | zero => exact absurd hmu (Nat.not_lt_zero _)
        | succ n =>
          unfold rowF at z
          rw [hb] at z
          simpa using z
    · have hb : ables os (mvs ws pre) (bmps (List.replicate ws.length 0) pre) ≠ [] := by simpa using hb
      cases n with
      | zero => exact absurd hmu (Nat.not_lt_zero _)
      | succ n =>
        have tN := t.app [.lst []]
        generalize N ++ [MO.lst []] = N1 at tN
        have ev : ∃ o N2, dIfE (tVal (dVar 3)) (dOp2 gIx (dVar 7) (dC (.int 0))) (dCall 2 0 S__law_pick (fun xs _ => xs) (dCons (dVar 0) (dCons (dVar 7) dNil)) dNil) [some (.ref 2), some (.ref no), some (.ref nb), some (.bl l), some (.ref A), some (.ref (A + 2)), some (.ref (A + 3)), some (.ref k), x8] N1 = .ok o.d N2 ∧
            Tn N2 ((k, .lst ((ables os (mvs ws pre) (bmps (List.replicate ws.length 0) pre)).map Od.d)) :: (A + 3, .lst (pre.map Od.d)) :: (A + 2, .lst ((bmps (List.replicate ws.length 0) pre).map .int)) :: (A, .lst ((mvs ws pre).map .int)) :: F) ∧
            o ∈ ables os (mvs ws pre) (bmps (List.replicate ws.length 0) pre) ∧ (l = true → ∃ r, ables os (mvs ws pre) (bmps (List.replicate ws.length 0) pre) = o :: r) := by
          have gk := tN.get 0
          cases l with
          | true =>
            cases ea : ables os (mvs ws pre) (bmps (List.replicate ws.length 0) pre) with
            | nil => exact absurd ea hb
            | cons o r =>
              rw [ea] at tN gk
              exact ⟨o, N1, by simp [listAt_of gk], tN, List.mem_cons_self, fun _ => ⟨r, rfl⟩⟩
          | false =>
            have l0 : 0 < (ables os (mvs ws pre) (bmps (List.replicate ws.length 0) pre)).length := List.length_pos_iff.mpr hb
            have l1 : (ables os (mvs ws pre) (bmps (List.replicate ws.length 0) pre)).length ≤ os.length := by
              unfold ables; rw [sortE_len]; exact List.length_filter_le _ _
            obtain ⟨d, hd, N2, e2, t2, _, _⟩ := tn_pick tN (listAt_of gk) (tN.ne 0) (by rw [List.length_map]; exact l0) (by rw [List.length_map]; omega)
            obtain ⟨o, ho, rfl⟩ := List.mem_map.mp hd
            exact ⟨o, N2, by simp [e2], t2, ho, fun z => by cases z⟩
        obtain ⟨o, N2, e2, t2, om, hfst⟩ := ev
        obtain ⟨oo, on, omu⟩ := mem_ables.mp om
        have ok := h.o o oo
        have okw : o.ok (mvs ws pre).length := by rw [lw]; exact ok
        have okx : o.ok (bmps (List.replicate ws.length 0) pre).length := by rw [lx]; exact ok
        have mul := mu_lt om (fun q hq => by rw [lx]; exact h.o q hq)
        rw [Row.nexts hr.ok ⟨ok.1, by have := ok.2.1; omega⟩] at on
        refine go_nx (s1 := [some (.ref 2), some (.ref no), some (.ref nb), some (.bl l), some (.ref A), some (.ref (A + 2)), some (.ref (A + 3)), some (.ref k), some o.d]) (M1 := N2) (by rw [sSet_ap, e2]; rfl) ?_
        refine go_nx (sub_step (t2.get 3) okw rfl rfl) ?_
        have t3 := t2.set 3 (.lst (((mvs ws pre).set o.p.toNat (sAt (mvs ws pre) o.p - o.m)).map .int))
        simp only [List.set_cons_succ, List.set_cons_zero] at t3
        refine go_nx (add_step (t3.get 3) (by rw [List.length_set]; exact okw) rfl rfl) ?_
        have t4 := t3.set 3 (.lst ((mv (mvs ws pre) o).map .int))
        simp only [List.set_cons_succ, List.set_cons_zero] at t4
        refine go_nx (nxt_step (t4.get 2) okx rfl rfl) ?_
        have t5 := t4.set 2 (.lst ((bmp (bmps (List.replicate ws.length 0) pre) o.p).map .int))
        simp only [List.set_cons_succ, List.set_cons_zero] at t5
        have e1 : mv (mvs ws pre) o = mvs ws (pre ++ [o]) := by rw [mvs_app]; rfl
        have e2' : bmp (bmps (List.replicate ws.length 0) pre) o.p = bmps (List.replicate ws.length 0) (pre ++ [o]) := by rw [bmps_app]; rfl
        change Tn (((N2.set A _).set A (.lst ((mv (mvs ws pre) o).map .int))).set (A + 2) _) _ at t5
        rw [show ((mvs ws pre).set o.p.toNat (sAt (mvs ws pre) o.p - o.m)).set o.g.toNat (sAt ((mvs ws pre).set o.p.toNat (sAt (mvs ws pre) o.p - o.m)) o.g + o.m) = mv (mvs ws pre) o from rfl]
        generalize ((N2.set A (.lst (((mvs ws pre).set o.p.toNat (sAt (mvs ws pre) o.p - o.m)).map .int))).set A (.lst ((mv (mvs ws pre) o).map .int))).set (A + 2) (.lst ((bmp (bmps (List.replicate ws.length 0) pre) o.p).map .int)) = N5 at t5
        have ap := app_at (y := o.d) (t5.get 1) (by rw [List.length_map]; omega)
        refine go_nx (s1 := [some (.ref 2), some (.ref no), some (.ref nb), some (.bl l), some (.ref A), some (.ref (A + 2)), some (.ref (A + 3)), some (.ref k), some o.d]) (by
          simp only [sDrop_ap, dBm_ap, dVar_ap, bind_ok, List.getElem?_cons_succ, List.getElem?_cons_zero, tyLst_of (t5.get 1), dCons_ap, dNil_ap, ap, toS_ok]
          exact rfl) ?_
        have t6 := t5.set 1 (.lst ((pre ++ [o]).map Od.d))
        simp only [List.set_cons_succ, List.set_cons_zero, List.map_append, List.map_cons, List.map_nil] at t6
        generalize N5.set (A + 3) (.lst (pre.map Od.d ++ [o.d])) = N6 at t6
        have hs : Row ws (pre ++ [o]) := Row.snoc.mpr ⟨hr, ok, on, omu⟩
        have a6 := sp_able (os := os) (t6.o.mem hoF) (t6.get 3) (t6.get 2) (fun q hq => by rw [mv_len, lw]; exact h.o q hq) (by rw [bmp_len, mv_len]; omega) hl
        rw [← able_eq] at a6
        have t7 := (t6.tl.app [.lst ((os.filter (able1 (mv (mvs ws pre) o) (bmp (bmps (List.replicate ws.length 0) pre) o.p))).map Od.d)]).new (.lst ((ables os (mv (mvs ws pre) o) (bmp (bmps (List.replicate ws.length 0) pre) o.p)).map Od.d))
        simp only [List.length_append, List.length_singleton, List.append_assoc, List.singleton_append] at t7
        refine end_nx (by simp [a6]; first | exact ⟨rfl, rfl⟩ | exact rfl) ⟨n, Nat.lt_succ_self _, pre ++ [o], N6.length + 1, some o.d, ?_, hs, fun q hq => ?_, fun hl => ?_, ?_, ?_, rfl⟩
        · rw [← e1, ← e2', List.map_append]
          exact t7
        · rcases List.mem_append.mp hq with z | z
          · exact hsub q z
          · rw [List.mem_singleton.mp z]; exact oo
        · obtain ⟨r, er⟩ := hfst hl
          have z := hrow hl
          unfold rowF at z
          rw [er] at z
          rw [← e1, ← e2', List.append_assoc]
          exact z
        · rw [← e2']; omega
        · simp; omega
  obtain ⟨d, M', e, fd, a, b, c, rfl, q⟩ := key
  refine ⟨fd, a, b, c, M', ?_, q⟩
  unfold S__law_settle
  simpa using e
/-! ### _law_fits -/
theorem sp_fits {M0 : Mem} {no nb : Nat} {os : List Od} {ws : List Int} (ho : M0[no]? = some (.lst (os.map Od.d))) (hb : M0[nb]? = some (.lst (ws.map .int))) (hl : os.length < 10000) (h : Lot os ws) :
    ∃ M', S__law_fits [.ref no, .ref nb] M0 = .ok (.bl (isRowB os ws)) M' ∧ Fr [] M0 M' := by
  have m0 := mul0 (M := M0 ++ [MO.lst (ws.map .int), .lst [.int 0]]) (n := M0.length + 1) (k := ws.length) (by simp) (by have := h.l8; omega)
  have o1 := ((Ow.nil (M := M0)).new (.lst (ws.map .int))).app [.lst [.int 0]]
  have o2 := o1.new (.lst ((List.replicate ws.length (0 : Int)).map .int))
  have f2 : Fr [] M0 (M0 ++ [MO.lst (ws.map .int)] ++ [MO.lst [.int 0]] ++ [MO.lst ((List.replicate ws.length (0 : Int)).map .int)]) := Fr.app.trans (Fr.app.trans Fr.app)
  generalize hA : M0.length = A at *
  have lno : no < A := by rw [← hA]; exact (List.getElem?_eq_some_iff.mp ho).1
  have e3 : (M0 ++ [MO.lst (ws.map .int), MO.lst [.int 0]]).length = A + 2 := by rw [← hA]; simp
  have e3' : (M0 ++ [MO.lst (ws.map .int)] ++ [MO.lst [.int 0]]).length = A + 2 := by rw [← hA]; simp
  rw [e3'] at o2
  rw [e3] at m0
  generalize hB : M0 ++ [MO.lst (ws.map .int)] ++ [MO.lst [.int 0]] ++ [MO.lst ((List.replicate ws.length (0 : Int)).map .int)] = B at o2 f2
  have key : ∃ d M', (f__law_fits (startD 8 [.ref no, .ref nb]) M0).fin = .ok d M' ∧ (d = .bl (isRowB os ws) ∧ Fr [] M0 M') := by
    refine ret_of (Q := fun d M' => d = .bl (isRowB os ws) ∧ Fr [] M0 M') ?_
    unfold f__law_fits
    refine go_nx (s1 := [some (.ref no), some (.ref nb), some (.ref A), some (.ref (A + 2)), none, none, none, none]) (M1 := B) (by
      have z1 : listAt (M0 ++ [MO.lst (ws.map .int), MO.lst [.int 0]]) nb = some (ws.map .int) := listAt_app (listAt_of hb)
      have y1 : dOpN gList (dCons (dVar 1) dNil) (startD 8 [.ref no, .ref nb]) M0 = .ok (.ref A) (M0 ++ [MO.lst (ws.map .int)]) := by simp [startD, listAt_of hb, hA]
      have y2 : dLst (dCons (dC (.int 0)) dNil) (startD 8 [.ref no, .ref nb]) (M0 ++ [MO.lst (ws.map .int)]) = .ok (.ref (A + 1)) (M0 ++ [MO.lst (ws.map .int), .lst [.int 0]]) := by simp [sizeLine, hA]
      have y3 : dOpN gLen (dCons (dVar 1) dNil) (startD 8 [.ref no, .ref nb]) (M0 ++ [MO.lst (ws.map .int), .lst [.int 0]]) = .ok (.int ws.length) (M0 ++ [MO.lst (ws.map .int), .lst [.int 0]]) := by simp [startD, z1]
      have y4 := op2_ok y2 y3 m0
      rw [sPar2_ap, cons_ok y1 (cons1_ok y4)]
      rw [← hB]
      simp [startD]) ?_
    have bo := f2.get ho (by simp)
    refine go_forL (M0 := B) (n := no) (fun i s N => ∃ w x x4 x5 x6 x7, s = [some (.ref no), some (.ref nb), some (.ref A), some (.ref (A + 2)), x4, x5, x6, x7] ∧ Fr [A, A + 2] B N ∧ Ow N [(A + 2, .lst (x.map .int)), (A, .lst (w.map .int))] ∧ w.length = ws.length ∧ x.length = ws.length ∧ isRowB os ws = isRowF (os.drop i) w x)
      (ds := os.map Od.d) (by simp) (listAt_of bo) ⟨ws, _, _, _, _, _, rfl, Fr.refl, o2, rfl, by simp, rfl⟩ (fun i s N ⟨w, x, x4, x5, x6, x7, _, fr, _⟩ => fr.list (listAt_of bo) (by simp; omega)) ?_ ?_
    · rintro i d s N hd ⟨w, x, x4, x5, x6, x7, rfl, fr, ow, lw, lx, er⟩
      rw [List.getElem?_map] at hd
      cases ha : os[i]? with
      | none => rw [ha] at hd; cases hd
      | some o =>
        rw [ha] at hd
        simp only [Option.map_some, Option.some.injEq] at hd
        subst hd
        have hi := (List.getElem?_eq_some_iff.mp ha).1
        have ed : os.drop i = o :: os.drop (i + 1) := by
          rw [List.drop_eq_getElem_cons hi, (List.getElem?_eq_some_iff.mp ha).2]
        rw [ed] at er
        unfold isRowF at er
        have gw := ow.get 1
        have gx := ow.get 0
        obtain ⟨q1, q2, q3, q4, q5, _⟩ := h.o o (List.mem_of_getElem? ha)
        have g1 := gIx_s (i := o.p) (listAt_of gw) (by omega)
        have g2 := gIx_s (i := o.p) (listAt_of gx) (by omega)
        refine ⟨[some (.ref no), some (.ref nb), some (.ref A), some (.ref (A + 2)), some (.int o.p), some (.int o.n), some (.int o.g), some (.int o.m)], N, by simp [Od.d], ?_⟩
        refine go_if (b := !able1 w x o) (M0 := N) ?_ (fun hb => ?_) fun hb => ?_
        · simp only [tOrF_ap, tVal_ap, dOp2_ap, dVar_ap, List.getElem?_cons_succ, List.getElem?_cons_zero, bind_ok, g1, g2, gNe_ap, pyEq_int, okB_some, Option.map_some, isB_bl, gGt_int, able1]
          by_cases c : o.n = sAt x o.p
          · by_cases c2 : o.m ≤ sAt w o.p
            · simp [c, c2]
            · simp [c, c2]; omega
          · simp [c]
        · have hb : able1 w x o = false := by simpa using hb
          rw [hb] at er
          show (_ : Po).of (SR.seq _ _)
          simp only [sRet_ap, dC_ap, toS_ok, seq_rt]
          exact ⟨by rw [er]; rfl, f2.cut fr (by simp; omega)⟩
        · have hb : able1 w x o = true := by simpa using hb
          rw [hb, Bool.true_and] at er
          have en : o.n = sAt x o.p := by
            unfold able1 at hb
            rw [Bool.and_eq_true] at hb
            exact of_decide_eq_true hb.1
          show (_ : Po).of (SR.seq _ _)
          rw [sNext_ap, seq_nx]
          have s1 := setIx_s (v := sAt w o.p - o.m) gw (i := o.p) (by omega)
          have ow2 := ow.set 1 (.lst ((w.set o.p.toNat (sAt w o.p - o.m)).map .int))
          have fN2 : Fr [A, A + 2] N (N.set A (.lst ((w.set o.p.toNat (sAt w o.p - o.m)).map .int))) := Fr.set (by simp)
          simp only [List.set_cons_succ, List.set_cons_zero] at ow2
          generalize N.set A (.lst ((w.set o.p.toNat (sAt w o.p - o.m)).map .int)) = N2 at s1 ow2 fN2
          have g3 := gIx_s (listAt_of (ow2.get 1)) (i := o.g) (by rw [List.length_set]; omega)
          have s2 := setIx_s (v := sAt (w.set o.p.toNat (sAt w o.p - o.m)) o.g + o.m) (ow2.get 1) (i := o.g) (by rw [List.length_set]; omega)
          have ow3 := ow2.set 1 (.lst ((mv w o).map .int))
          have fN3 : Fr [A, A + 2] N2 (N2.set A (.lst ((mv w o).map .int))) := Fr.set (by simp)
          simp only [List.set_cons_succ, List.set_cons_zero] at ow3
          rw [show ((w.set o.p.toNat (sAt w o.p - o.m)).set o.g.toNat (sAt (w.set o.p.toNat (sAt w o.p - o.m)) o.g + o.m)) = mv w o from rfl] at s2
          generalize N2.set A (.lst ((mv w o).map .int)) = N3 at s2 ow3 fN3
          have s3 := setIx_s (v := o.n + 1) (ow3.get 0) (i := o.p) (by omega)
          have ow4 := ow3.set 0 (.lst ((bmp x o.p).map .int))
          simp only [List.set_cons_succ, List.set_cons_zero] at ow4
          refine go_nx (s1 := [some (.ref no), some (.ref nb), some (.ref A), some (.ref (A + 2)), some (.int o.p), some (.int o.n), some (.int o.g), some (.int o.m)]) (M1 := N2) (by simp only [sAsg_ap, gIxSet_ap, dOp2_ap, dVar_ap, List.getElem?_cons_succ, List.getElem?_cons_zero, bind_ok, g1, gSub_int, toS_ok, s1]) ?_
          refine go_nx (s1 := [some (.ref no), some (.ref nb), some (.ref A), some (.ref (A + 2)), some (.int o.p), some (.int o.n), some (.int o.g), some (.int o.m)]) (M1 := N3) (by simp only [sAsg_ap, gIxSet_ap, dOp2_ap, dVar_ap, List.getElem?_cons_succ, List.getElem?_cons_zero, bind_ok, g3, gAdd_int, toS_ok, s2]) ?_
          refine end_nx (s1 := [some (.ref no), some (.ref nb), some (.ref A), some (.ref (A + 2)), some (.int o.p), some (.int o.n), some (.int o.g), some (.int o.m)]) (M1 := N3.set (A + 2) (.lst ((x.set o.p.toNat (o.n + 1)).map .int))) (by simp only [sAsg_ap, gIxSet_ap, dOp2_ap, dVar_ap, dC_ap, List.getElem?_cons_succ, List.getElem?_cons_zero, bind_ok, gAdd_int, toS_ok, s3]) ?_
          have eb : x.set o.p.toNat (o.n + 1) = bmp x o.p := by unfold bmp; rw [en]
          rw [eb]
          exact ⟨mv w o, bmp x o.p, _, _, _, _, rfl, fr.trans (fN2.trans (fN3.trans (Fr.set (by simp)))), ow4, by rw [mv_len, lw], by rw [bmp_len, lx], er⟩
    · rintro s N ⟨w, x, x4, x5, x6, x7, rfl, fr, ow, lw, lx, er⟩
      rw [List.length_map, List.drop_length] at er
      exact end_rt (by rfl) ⟨by rw [er]; rfl, f2.cut fr (by simp; omega)⟩
  obtain ⟨d, M', e, rfl, h1⟩ := key
  refine ⟨M', ?_, h1⟩
  unfold S__law_fits
  simpa using e
theorem gne_list {M : Mem} {a b : Nat} {xs ys : List Od} (ha : M[a]? = some (.lst (xs.map Od.d))) (hb : M[b]? = some (.lst (ys.map Od.d))) (e : xs = ys) : gNe (.ref a) (.ref b) M = .ok (.bl false) M := by
  rw [gNe_ap, ol_eq (listAt_of ha) (listAt_of hb), decide_eq_true e]; rfl
theorem gne_ints {M : Mem} {a b : Nat} {xs ys : List Int} (ha : M[a]? = some (.lst (xs.map .int))) (hb : M[b]? = some (.lst (ys.map .int))) (e : xs = ys) : gNe (.ref a) (.ref b) M = .ok (.bl false) M := by
  rw [gNe_ap, il_eq (listAt_of ha) (listAt_of hb), decide_eq_true e]; rfl
theorem Lot.sub {os os' : List Od} {ws : List Int} (h : Lot os ws) (hs : ∀ o ∈ os', o ∈ os) (hn : (os'.map Od.pl).Nodup) : Lot os' ws := ⟨h.l2, h.l8, h.w, fun o ho => h.o o (hs o ho), hn⟩
theorem len_le {os os' : List Od} (hs : ∀ o ∈ os', o ∈ os) (hn : (os'.map Od.pl).Nodup) : os'.length ≤ os.length := len_sub (nd_map hn) hs
theorem plain (ns : List Int) (h : ns.length ≤ 63) : ∃ M, S_law [.rol (ns.map .int)] [] = .ok (.bl true) M := by
  obtain ⟨M0, e0', t0, l0⟩ := sp_town ns h
  obtain ⟨c, M1, e1, c0, c1, t1, f1, l1⟩ := tn_draw (m := 3) (Tn.start t0) (by omega) (by omega)
  obtain ⟨ys, M2, e2, t2, bs, rfl, bl, br⟩ := lc_R (g := gN 20) (tt := tYesF) (is := [20]) (a := dCons (dOp2 gAdd (dC (.int 2)) (dCall 2 0 S__law_draw (fun xs _ => xs) (dCons (dVar 1) (dCons (dC (.int 3)) dNil)) dNil)) dNil) (j := 2 + c) (M0 := M1) (M := M0)
    (te := dCall 2 0 S__law_draw (fun xs _ => xs) (dCons (dVar 1) (dCons (dC (.int 20)) dNil)) dNil)
    (s := [some (.rol (ns.map .int)), some (.ref 2), none, none, none, none, none, none, none, none, none, none, none, none, none, none, none, none, none, none, none, none])
    (fun i ys M => Tn M [] ∧ ∃ bs : List Int, ys = bs.map .int ∧ bs.length = i ∧ ∀ x ∈ bs, 0 ≤ x ∧ x < 20)
    (by simp [e1]) (by omega) (by omega) ⟨t1, [], rfl, rfl, by simp⟩
    (fun i ys M hd ⟨t, bs, ey, bl, br⟩ => by
      obtain ⟨v, M', ev, v0, v1, tv, fv, lv⟩ := tn_draw (m := 20) t (by omega) (by omega)
      exact ⟨_, M, true, M, rfl, rfl, .inl ⟨rfl, .int v, M', by simp [wipeD, ev], tv, bs ++ [v], by simp [ey], by simp [bl], fun x hx => by
        rcases List.mem_append.mp hx with z | z
        · exact br x z
        · rw [List.mem_singleton.mp z]; exact ⟨v0, v1⟩⟩⟩)
  have t3 := (t2.new (.lst (bs.map .int))).new (.lst (([] : List Od).map Od.d))
  have bl2 : 2 ≤ bs.length ∧ bs.length ≤ 4 := by omega
  generalize hgb : M2.length = gb at t3
  have e22 : (M2 ++ [MO.lst (bs.map .int)]).length = gb + 1 := by rw [← hgb]; simp
  rw [e22] at t3
  generalize hM3 : M2 ++ [MO.lst (bs.map .int)] ++ [MO.lst (([] : List Od).map Od.d)] = M3 at t3
  have lot0 : Lot [] bs := ⟨bl2.1, by omega, fun x hx => by have := br x hx; omega, by simp, by simp⟩
  obtain ⟨k, M4, e4, k0, k1, t4, _, _⟩ := tn_draw (m := 14) t3 (by omega) (by omega)
  have key : ∃ d M, (f_law (startD 22 [.rol (ns.map .int)]) []).fin = .ok d M ∧ d = .bl true := by
    refine ret_of (Q := fun d _ => d = .bl true) ?_
    unfold f_law
    refine go_set (s1 := [some (.rol (ns.map .int)), some (.ref 2), none, none, none, none, none, none, none, none, none, none, none, none, none, none, none, none, none, none, none, none]) (by simp [startD, e0']; exact ⟨rfl, rfl⟩) ?_ (by simp [startD])
    refine go_set e2 ?_
    refine go_set (M1 := M3) (x := .ref (gb + 1)) (by rw [lst_ok (xs := []) rfl (by simp), ← hM3]; simp [hgb]) ?_
    rw [hgb]
    refine go_forR (M0 := M4) (fun i s M => ∃ os x4 x5 x6 x7, Tn M [(gb + 1, .lst (os.map Od.d)), (gb, .lst (bs.map .int))] ∧ Lot os bs ∧ os.length ≤ i ∧ s = [some (.rol (ns.map .int)), some (.ref 2), some (.ref gb), some (.ref (gb + 1)), x4, x5, x6, x7, none, none, none, none, none, none, none, none, none, none, none, none, none, none])
      (j := k) (by simp [e4]) k0 (by omega) ⟨[], _, _, _, _, t4, lot0, by simp, rfl⟩ ?_ ?_
    · rintro i s M hi ⟨os, x4, x5, x6, x7, tM, lot, ol, rfl⟩
      refine ⟨[some (.rol (ns.map .int)), some (.ref 2), some (.ref gb), some (.ref (gb + 1)), some (.int i), x5, x6, x7, none, none, none, none, none, none, none, none, none, none, none, none, none, none], M, rfl, ?_⟩
      obtain ⟨p, N1, p1, p2, p3, p4, _, _⟩ := tn_draw (m := bs.length) tM (by omega) (by omega)
      refine go_set (by simp [listAt_of (tM.get 1), p1]; exact ⟨rfl, rfl⟩) ?_
      have d1 := lc_fL (e := dVar 3) (k := 21) (is := [21]) (tt := tVal (dOp2 gEq (dOp2 gIx (dVar 21) (dC (.int 0))) (dVar 5))) (s := [some (.rol (ns.map .int)), some (.ref 2), some (.ref gb), some (.ref (gb + 1)), some (.int i), some (.int p), x6, x7, none, none, none, none, none, none, none, none, none, none, none, none, none, none]) (M := N1) (te := dVar 21) Od.d (fun o => decide (o.p = p)) Od.d rfl (listAt_of (p4.get 0)) (by omega) (fun o _ => ⟨by simp [wipeD, od_ix0, pyEq_int], fun _ => rfl⟩)
      have ln1 : listAt (N1 ++ [MO.lst ((os.filter fun o => decide (o.p = p)).map Od.d)]) N1.length = some ((os.filter fun o => decide (o.p = p)).map Od.d) := listAt_new
      have tN2 := p4.app [MO.lst ((os.filter fun o => decide (o.p = p)).map Od.d)]
      generalize N1 ++ [MO.lst ((os.filter fun o => decide (o.p = p)).map Od.d)] = N2 at d1 ln1 tN2
      obtain ⟨nd, hnd, N3, n1, n2, n3⟩ := tn_pickL (ds := [.int 0, .int 0, .int 0, .int 1]) tN2 (by simp) (by simp)
      obtain ⟨nn, rfl, hnn⟩ : ∃ x : Int, nd = .int x ∧ 0 ≤ x ∧ x ≤ 1 := by
        simp only [List.mem_cons, List.not_mem_nil, or_false] at hnd
        rcases hnd with rfl | rfl | rfl | rfl <;> exact ⟨_, rfl, by omega, by omega⟩
      have lc : (os.filter fun o => decide (o.p = p)).length ≤ os.length := List.length_filter_le _ _
      obtain ⟨num, hnum⟩ : ∃ num : Int, num = ((os.filter fun o => decide (o.p = p)).length : Nat) + nn := ⟨_, rfl⟩
      have v6 : dOp2 gAdd (dOpN gLen (dCons (dLc (iSeq (dVar 3)) (gN 21) (tVal (dOp2 gEq (dOp2 gIx (dVar 21) (dC (.int 0))) (dVar 5))) (dVar 21) [21]) dNil)) (dCall 2 0 S__law_pick (fun xs _ => xs) (dCons (dVar 1) (dCons (dLst (dCons (dC (.int 0)) (dCons (dC (.int 0)) (dCons (dC (.int 0)) (dCons (dC (.int 1)) dNil))))) dNil)) dNil)
          [some (.rol (ns.map .int)), some (.ref 2), some (.ref gb), some (.ref (gb + 1)), some (.int i), some (.int p), x6, x7, none, none, none, none, none, none, none, none, none, none, none, none, none, none] N1 = .ok (.int num) N3 := by
        refine op2_ok (opN_ok (cons1_ok d1) (r := .ok (.int ((os.filter fun o => decide (o.p = p)).length : Nat)) N2) (by simp [ln1])) (y := .int nn) (M2 := N3) (by simp [sizeLine, n1]) (by simp [hnum])
      refine go_set v6 ?_
      have d2 := lc_fL (e := dVar 3) (k := 21) (is := [21]) (tt := tVal (dOp2 gEq (dSl (dVar 21) oNone (oSome (dC (.int 2)))) (dTup (dCons (dVar 5) (dCons (dVar 6) dNil))))) (s := [some (.rol (ns.map .int)), some (.ref 2), some (.ref gb), some (.ref (gb + 1)), some (.int i), some (.int p), some (.int num), x7, none, none, none, none, none, none, none, none, none, none, none, none, none, none]) (M := N3) (te := dVar 21) Od.d (fun o => decide (o.p = p ∧ o.n = num)) Od.d rfl (listAt_of (n2.get 0)) (by omega) (fun o _ => ⟨by simp [wipeD, od_sl, sizeLine, pl_eq], fun _ => rfl⟩)
      have ln2 : listAt (N3 ++ [MO.lst ((os.filter fun o => decide (o.p = p ∧ o.n = num)).map Od.d)]) N3.length = some ((os.filter fun o => decide (o.p = p ∧ o.n = num)).map Od.d) := listAt_new
      have tN4 := n2.app [MO.lst ((os.filter fun o => decide (o.p = p ∧ o.n = num)).map Od.d)]
      generalize N3 ++ [MO.lst ((os.filter fun o => decide (o.p = p ∧ o.n = num)).map Od.d)] = N4 at d2 ln2 tN4
      have tN5 := tN4.app [MO.lst []]
      have q := ol_eq (M := N4 ++ [MO.lst []]) (listAt_app ln2) (b := N4.length) (ys := []) (by rw [listAt_new]; rfl)
      generalize hN5 : N4 ++ [MO.lst []] = N5 at q tN5
      refine po_if (b := decide (os.filter (fun o => decide (o.p = p ∧ o.n = num)) = [])) (M0 := N5) (val_ok (op2_ok d2 (y := .ref N4.length) (M2 := N5) (by rw [lst_ok (xs := []) rfl (by simp), hN5]) (by rw [gEq_ap, q]; rfl))) (fun hb => ?_) fun hb => ?_
      · have hb : os.filter (fun o => decide (o.p = p ∧ o.n = num)) = [] := by simpa using hb
        obtain ⟨w, N6, w1, w2, w3, w4, _, _⟩ := tn_draw (m := (bs.length : Int) - 1) tN5 (by omega) (by omega)
        have gm : gMod (.int (p + 1 + w)) (.int bs.length) N6 = .ok (.int ((p + 1 + w) % bs.length)) N6 := gMod_int (by omega)
        have hgo : 0 ≤ (p + 1 + w) % bs.length ∧ (p + 1 + w) % bs.length ≤ bs.length - 1 ∧ p ≠ (p + 1 + w) % bs.length := by
          have a1 := Int.emod_nonneg (p + 1 + w) (by omega : (bs.length : Int) ≠ 0)
          have a2 := Int.emod_lt_of_pos (p + 1 + w) (by omega : 0 < (bs.length : Int))
          refine ⟨a1, by omega, fun z => ?_⟩
          by_cases c : p + 1 + w < bs.length
          · rw [Int.emod_eq_of_lt (by omega) c] at z
            omega
          · have e : (p + 1 + w) % bs.length = (p + 1 + w - bs.length) % bs.length := by rw [Int.sub_emod, Int.emod_self, Int.sub_zero, Int.emod_emod]
            rw [e, Int.emod_eq_of_lt (by omega) (by omega)] at z
            omega
        generalize (p + 1 + w) % bs.length = go at gm hgo
        refine go_set (x := .int go) (M1 := N6) (by simp [listAt_of (tN5.get 1), w1, listAt_of (w4.get 1), gm]) ?_
        obtain ⟨a, N7, a1, a2, a3, a4, _, _⟩ := tn_draw (m := (os.length : Int) + 1) w4 (by omega) (by omega)
        obtain ⟨u, N8, u1, u2, u3, u4, _, _⟩ := tn_draw (m := 15) a4 (by omega) (by omega)
        have g8 := u4.get 0
        have hin : gInsert (.ref (gb + 1)) [.int a, .tup [.int p, .int num, .int go, .int (1 + u)]] N8 = .ok .non (N8.set (gb + 1) (.lst ((os.take a.toNat ++ [(⟨p, num, go, 1 + u⟩ : Od)] ++ os.drop a.toNat).map Od.d))) := by
          have l8 : (os.map Od.d).length < sizeLine := lt_line (by rw [List.length_map]; omega)
          simp only [gInsert, listAt_of g8]
          rw [decide_eq_true ⟨l8, a2, by omega⟩]
          simp [Od.d, List.map_take, List.map_drop]
        refine end_nx (s1 := [some (.rol (ns.map .int)), some (.ref 2), some (.ref gb), some (.ref (gb + 1)), some (.int i), some (.int p), some (.int num), some (.int go), none, none, none, none, none, none, none, none, none, none, none, none, none, none]) (M1 := N8.set (gb + 1) (.lst ((os.take a.toNat ++ [(⟨p, num, go, 1 + u⟩ : Od)] ++ os.drop a.toNat).map Od.d))) (by
          simp [tyLst_of (w4.get 0), listAt_of (w4.get 0), a1, u1, sizeLine, hin]) ⟨os.take a.toNat ++ [(⟨p, num, go, 1 + u⟩ : Od)] ++ os.drop a.toNat, _, _, _, _, ?_, ?_, ?_, rfl⟩
        · have z := u4.set 0 (.lst ((os.take a.toNat ++ [(⟨p, num, go, 1 + u⟩ : Od)] ++ os.drop a.toNat).map Od.d))
          exact z
        · have pm : (os.take a.toNat ++ [(⟨p, num, go, 1 + u⟩ : Od)] ++ os.drop a.toNat).Perm ((⟨p, num, go, 1 + u⟩ : Od) :: os) := by
            rw [List.append_assoc]
            refine List.perm_middle.trans (List.Perm.cons _ ?_)
            show (os.take a.toNat ++ os.drop a.toNat).Perm os
            rw [List.take_append_drop]
          refine ⟨lot.l2, lot.l8, lot.w, fun o ho => ?_, ?_⟩
          · rcases List.mem_cons.mp (pm.mem_iff.mp ho) with z | z
            · rw [z]; unfold Od.ok; simp only; omega
            · exact lot.o o z
          · refine (pm.map Od.pl).nodup_iff.mpr ?_
            rw [List.map_cons, List.nodup_cons]
            refine ⟨fun z => ?_, lot.nd⟩
            obtain ⟨o, ho, e⟩ := List.mem_map.mp z
            simp only [Od.pl, Prod.mk.injEq] at e
            have : o ∈ os.filter (fun o => decide (o.p = p ∧ o.n = num)) := List.mem_filter.mpr ⟨ho, by simp [e]⟩
            rw [hb] at this
            cases this
        · simp only [List.length_append, List.length_take, List.length_drop, List.length_cons, List.length_nil]
          omega
      · exact ⟨os, _, _, _, _, tN5, lot, by omega, rfl⟩
    · rintro s M ⟨os, x4, x5, x6, x7, tM, lot, ol, rfl⟩
      have ol2 : os.length ≤ 13 := by omega
      have hu := lot_u lot
      obtain ⟨R1, R2, R3⟩ := rowOf_row lot
      have lotR : Lot (rowOf os bs) bs := lot.sub R2 (Row.num _ R1).2.2
      have lenR := len_le R2 (Row.num _ R1).2.2
      -- kept
      have tk := tM.new (.lst (os.map Od.d))
      have gO := tM.get 0
      refine go_set (M1 := M ++ [.lst (os.map Od.d)]) (x := .ref M.length) (by simp [listAt_of gO]) ?_
      generalize M ++ [.lst (os.map Od.d)] = M1 at tk
      generalize M.length = K at tk
      -- settled, the least first
      obtain ⟨fd, a, b, cc, M2, e5, ts, s1, s2, s3, s4⟩ := sp_settle (l := true) (no := gb + 1) (nb := gb) (os := os) (ws := bs) tk (by simp) (by simp) (by omega) lot
      have s4 := s4 rfl
      subst s4
      refine go_nx (s1 := [some (.rol (ns.map .int)), some (.ref 2), some (.ref gb), some (.ref (gb + 1)), x4, x5, x6, x7, some (.ref K), some (.ref a), some (.ref b), some (.ref cc), none, none, none, none, none, none, none, none, none, none]) (M1 := M2) (by simp [e5]) ?_
      -- told
      obtain ⟨tl, M3, e6, f6, l6, g6⟩ := sp_row_for (ts.get 5) (ts.get 4) (by omega) lot
      have tt := ts.ext1 f6 l6 g6
      refine go_set (M1 := M3) (x := .ref tl) (by simp [e6]) ?_
      have n1 := gne_list (tt.get 0) (tt.get 3) rfl
      obtain ⟨M4, e7, f7⟩ := sp_is_row (tt.get 6) (tt.get 0) (by omega) lotR
      rw [R1.row] at e7
      have t5 := tt.ext f7
      have n2 := gne_list (t5.get 5) (t5.get 4) rfl
      refine go_if (b := false) (M0 := M4) (by
        simp only [tOrF_ap, tVal_ap, dOp2_ap, dVar_ap, List.getElem?_cons_succ, List.getElem?_cons_zero, bind_ok, n1, isB_bl, ifR_f, dCall_ap, dCons_ap, dNil_ap, lenIs_ap, List.length_cons, List.length_nil, decide_true, List.cons_append, List.nil_append, e7, dC_ap, gIsNot, n2]
        rfl) (fun z => by cases z) fun _ => ?_
      rw [sNext_ap, seq_nx]
      clear n1 n2 e7 f7 tt ts tk f6 g6 e6 e5
      -- settled in any row
      obtain ⟨od, a2, b2, c2, M5, e5, ts, s1, s2, s3, _⟩ := sp_settle (l := false) (no := gb + 1) (nb := gb) (os := os) (ws := bs) t5 (by simp) (by simp) (by omega) lot
      refine go_nx (s1 := [some (.rol (ns.map .int)), some (.ref 2), some (.ref gb), some (.ref (gb + 1)), x4, x5, x6, x7, some (.ref K), some (.ref a), some (.ref b), some (.ref cc), some (.ref tl), some (.ref a2), some (.ref b2), some (.ref c2), none, none, none, none, none, none]) (M1 := M5) (by simp [e5]) ?_
      have pm : od.Perm (rowOf os bs) := row_perm hu s1 s2 s3 R1 R2 R3
      have lotO : Lot od bs := lot.sub s2 (Row.num _ s1).2.2
      have lenO := len_le s2 (Row.num _ s1).2.2
      have o1 := sorted_od (listAt_of (ts.get 2)) (by omega)
      have ts1 := ts.new (.lst ((sortE od).map Od.d))
      generalize hN1 : M5 ++ [MO.lst ((sortE od).map Od.d)] = N1 at o1 ts1
      have o2 := sorted_od (listAt_of (ts1.get 7)) (by omega)
      have ts2 := ts1.new (.lst ((sortE (rowOf os bs)).map Od.d))
      generalize hN2 : N1 ++ [MO.lst ((sortE (rowOf os bs)).map Od.d)] = N2 at o2 ts2
      have n1 := gne_list (ts2.get 1) (ts2.get 0) (sortE_perm_eq pm)
      have n2 := gne_ints (ts2.get 2) (ts2.get 6) (mvs_perm pm s1.ok)
      obtain ⟨N3, e7, f7⟩ := sp_is_row (ts2.get 11) (ts2.get 4) (by omega) lotO
      rw [s1.row] at e7
      have t6 := ts2.ext f7
      refine go_if (b := false) (M0 := N3) (by
        simp only [tOrF_ap, tVal_ap, dOp2_ap, dOpN_ap, dVar_ap, List.getElem?_cons_succ, List.getElem?_cons_zero, bind_ok, o1, o2, n1, n2, isB_bl, ifR_f, dCall_ap, dCons_ap, dNil_ap, lenIs_ap, List.length_cons, List.length_nil, decide_true, List.cons_append, List.nil_append, e7, dC_ap, gIsNot]
        rfl) (fun z => by cases z) fun _ => ?_
      rw [sNext_ap, seq_nx]
      clear n1 n2 o1 o2 e7 f7 hN1 hN2 ts1 ts2 ts t5
      -- left
      have d1 := lc_fL (e := dVar 3) (k := 21) (is := [21]) (tt := tVal (dOp2 gNotIn (dVar 21) (dVar 9))) (s := [some (.rol (ns.map .int)), some (.ref 2), some (.ref gb), some (.ref (gb + 1)), x4, x5, x6, x7, some (.ref K), some (.ref a), some (.ref b), some (.ref cc), some (.ref tl), some (.ref a2), some (.ref b2), some (.ref c2), none, none, none, none, none, none]) (M := N3) (te := dVar 21) Od.d (fun o => !decide (o ∈ rowOf os bs)) Od.d rfl (listAt_of (t6.get 10)) (by omega) (fun o _ => by
        have z := notin_od (o := o) (listAt_of (t6.get 8))
        refine ⟨?_, fun _ => rfl⟩
        simp only [tVal_ap, dOp2_ap, dVar_ap, wipeD, List.set_cons_succ, List.set_cons_zero, List.getElem?_cons_succ, List.getElem?_cons_zero, bind_ok, z, isB_bl])
      have lf := List.length_filter_le (fun o => !decide (o ∈ rowOf os bs)) os
      have o1 := sorted_od (M := N3 ++ [.lst ((os.filter fun o => !decide (o ∈ rowOf os bs)).map Od.d)]) (n := N3.length) (l := os.filter fun o => !decide (o ∈ rowOf os bs)) listAt_new (by omega)
      have t7 := (t6.app [.lst ((os.filter fun o => !decide (o ∈ rowOf os bs)).map Od.d)]).new (.lst ((leftOf os bs).map Od.d))
      generalize hL : (N3 ++ [MO.lst ((os.filter fun o => !decide (o ∈ rowOf os bs)).map Od.d)]).length = Lf at o1 t7
      generalize hN4 : N3 ++ [MO.lst ((os.filter fun o => !decide (o ∈ rowOf os bs)).map Od.d)] ++ [MO.lst ((leftOf os bs).map Od.d)] = N4 at t7
      refine go_set (x := .ref Lf) (M1 := N4) (opN_ok (cons1_ok d1) (by rw [o1, ← hN4]; rfl)) ?_
      -- due
      have t8 := t7.new (.dk [])
      refine go_set (x := .ref N4.length) (M1 := N4 ++ [.dk []]) (by simp) ?_
      generalize N4 ++ [MO.dk []] = N5 at t8
      generalize N4.length = Du at t8
      have d2 := lc_fL (e := dVar 16) (k := 21) (is := [21]) (tt := tYesF) (s := [some (.rol (ns.map .int)), some (.ref 2), some (.ref gb), some (.ref (gb + 1)), x4, x5, x6, x7, some (.ref K), some (.ref a), some (.ref b), some (.ref cc), some (.ref tl), some (.ref a2), some (.ref b2), some (.ref c2), some (.ref Lf), some (.ref Du), none, none, none, none]) (M := N5) (te := dOp2 gIx (dVar 21) (dC (.int 0))) Od.d (fun _ => true) (fun o => .int o.p) (l := leftOf os bs) rfl (listAt_of (t8.get 1)) (by unfold leftOf; rw [sortE_len]; omega) (fun o _ => ⟨rfl, fun _ => by simp [wipeD, od_ix0]⟩)
      rw [filter_all] at d2
      have e2 : ((leftOf os bs).map fun o => D.int o.p) = ((leftOf os bs).map (·.p)).map .int := by rw [List.map_map]; rfl
      rw [e2] at d2
      have ep : sortNub ((leftOf os bs).map (·.p)) = wPs os bs := by
        unfold wPs
        refine sortNub_eq (sortNub_ris _) fun k => ?_
        rw [sortNub_mem]
        unfold leftOf
        simp only [List.mem_map, sortE_mem]
      have t9 := t8.app [MO.lst (((leftOf os bs).map (·.p)).map .int)]
      have t10 := t9.new (.lst ((wPs os bs).map .int))
      have ss : dSortSet (dLc (iSeq (dVar 16)) (gN 21) tYesF (dOp2 gIx (dVar 21) (dC (.int 0))) [21]) [some (.rol (ns.map .int)), some (.ref 2), some (.ref gb), some (.ref (gb + 1)), x4, x5, x6, x7, some (.ref K), some (.ref a), some (.ref b), some (.ref cc), some (.ref tl), some (.ref a2), some (.ref b2), some (.ref c2), some (.ref Lf), some (.ref Du), none, none, none, none] N5
          = .ok (.ref (N5 ++ [MO.lst (((leftOf os bs).map (·.p)).map .int)]).length) (N5 ++ [MO.lst (((leftOf os bs).map (·.p)).map .int)] ++ [.lst ((wPs os bs).map .int)]) := by
        rw [dSortSet_ap, d2, bind_ok]
        simp only [seqOf, listAt_new, intsOf_mk]
        rw [decide_eq_true (by rw [List.length_map]; unfold leftOf; rw [sortE_len]; omega), ep]
      have ris : Ris (wPs os bs) := sortNub_ris _
      have pin : ∀ p ∈ wPs os bs, 0 ≤ p ∧ p < bs.length := by
        intro p hp
        unfold wPs at hp
        rw [sortNub_mem] at hp
        obtain ⟨o, ho, rfl⟩ := List.mem_map.mp hp
        have ok := lot.o o (List.mem_filter.mp ho).1
        unfold Od.ok at ok
        omega
      have lps : (wPs os bs).length ≤ 64 := by
        unfold wPs sortNub
        have a1 := (sortI_perm (nubI ((os.filter fun o => !decide (o ∈ rowOf os bs)).map (·.p)))).length_eq
        have a2 := nubI_len ((os.filter fun o => !decide (o ∈ rowOf os bs)).map (·.p))
        rw [List.length_map] at a2
        omega
      generalize hps : wPs os bs = ps at t10 ss ris pin lps
      generalize (N5 ++ [MO.lst (((leftOf os bs).map (·.p)).map .int)]).length = Ps at t10 ss
      generalize N5 ++ [MO.lst (((leftOf os bs).map (·.p)).map .int)] ++ [MO.lst (ps.map .int)] = N6 at t10 ss
      have t11 := t10.pull 1
      simp only [List.eraseIdx_cons_succ, List.eraseIdx_zero, List.tail_cons] at t11
      clear t10 t9 t8 t7 t6 d1 d2 o1
      obtain ⟨F, t12, hPs, hLf, hb, hc, hO, hgb, ha2⟩ : ∃ F, Tn N6 ((Du, .dk (wantKv os bs [])) :: F) ∧ (Ps, MO.lst (ps.map .int)) ∈ F ∧ (Lf, MO.lst ((leftOf os bs).map Od.d)) ∈ F ∧ (b, MO.lst ((mvs bs (rowOf os bs)).map .int)) ∈ F ∧
        (cc, MO.lst ((bmps (List.replicate bs.length 0) (rowOf os bs)).map .int)) ∈ F ∧ (gb + 1, MO.lst (os.map Od.d)) ∈ F ∧ (gb, MO.lst (bs.map .int)) ∈ F ∧ (a2, MO.lst (od.map Od.d)) ∈ F := ⟨_, t11, by simp, by simp, by simp, by simp, by simp, by simp, by simp⟩
      clear t11
      refine go_forL (M0 := N6) (n := Ps) (fun i s N => ∃ x5 x18, s = [some (.rol (ns.map .int)), some (.ref 2), some (.ref gb), some (.ref (gb + 1)), x4, x5, x6, x7, some (.ref K), some (.ref a), some (.ref b), some (.ref cc), some (.ref tl), some (.ref a2), some (.ref b2), some (.ref c2), some (.ref Lf), some (.ref Du), x18, none, none, none] ∧ Tn N ((Du, .dk (wantKv os bs (ps.take i))) :: F))
        (ds := ps.map .int) ss (listAt_of (t12.tl.o.mem hPs)) ⟨_, _, rfl, t12⟩ (fun i s N ⟨_, _, _, t⟩ => listAt_of (t.tl.o.mem hPs)) ?_ ?_
      · rintro i d s N hd ⟨x5, x18, rfl, tN⟩
        rw [List.getElem?_map] at hd
        cases ha : ps[i]? with
        | none => rw [ha] at hd; cases hd
        | some p =>
          rw [ha] at hd
          simp only [Option.map_some, Option.some.injEq] at hd
          subst hd
          have hi := (List.getElem?_eq_some_iff.mp ha).1
          obtain ⟨p0, p1⟩ := pin p (List.mem_of_getElem? ha)
          refine ⟨[some (.rol (ns.map .int)), some (.ref 2), some (.ref gb), some (.ref (gb + 1)), x4, some (.int p), x6, x7, some (.ref K), some (.ref a), some (.ref b), some (.ref cc), some (.ref tl), some (.ref a2), some (.ref b2), some (.ref c2), some (.ref Lf), some (.ref Du), x18, none, none, none], N, rfl, ?_⟩
          have i1 := gIx_s (M := N) (i := p) (listAt_of (tN.tl.o.mem hc)) (by rw [bmps_len, List.length_replicate]; exact ⟨p0, p1⟩)
          rw [Row.nexts R1.ok ⟨p0, p1⟩] at i1
          have d1 := lc_fL (e := dVar 3) (k := 21) (is := [21]) (tt := tVal (dOp2 gEq (dSl (dVar 21) oNone (oSome (dC (.int 2)))) (dTup (dCons (dVar 5) (dCons (dOp2 gIx (dVar 11) (dVar 5)) dNil))))) (s := [some (.rol (ns.map .int)), some (.ref 2), some (.ref gb), some (.ref (gb + 1)), x4, some (.int p), x6, x7, some (.ref K), some (.ref a), some (.ref b), some (.ref cc), some (.ref tl), some (.ref a2), some (.ref b2), some (.ref c2), some (.ref Lf), some (.ref Du), x18, none, none, none]) (M := N) (te := dOp2 gIx (dVar 21) (dC (.int 3))) Od.d (fun o => decide (o.p = p ∧ o.n = cntP (rowOf os bs) p)) (fun o => .int o.m) rfl (listAt_of (tN.tl.o.mem hO)) (by omega) (fun o _ => ⟨by
            simp only [tVal_ap, dOp2_ap, dSl_ap, dVar_ap, wipeD, List.set_cons_succ, List.set_cons_zero, List.getElem?_cons_succ, List.getElem?_cons_zero, bind_ok, oNone_ap, oSome_ap, dC_ap, isI_int, od_sl, dTup_ap, dCons_ap, dNil_ap, i1, List.length_cons, List.length_nil]
            simp [sizeLine, pl_eq], fun _ => by simp [wipeD, od_ix3]⟩)
          have e4 : ((os.filter fun o => decide (o.p = p ∧ o.n = cntP (rowOf os bs) p)).map fun o => D.int o.m) = (askP os p (cntP (rowOf os bs) p)).map .int := by unfold askP; rw [List.map_map]; rfl
          rw [e4] at d1
          have ln : listAt (N ++ [MO.lst ((askP os p (cntP (rowOf os bs) p)).map .int)]) N.length = some ((askP os p (cntP (rowOf os bs) p)).map .int) := listAt_new
          have tN2 := tN.app [MO.lst ((askP os p (cntP (rowOf os bs) p)).map .int)]
          refine go_set d1 ?_
          generalize N ++ [MO.lst ((askP os p (cntP (rowOf os bs) p)).map .int)] = N2 at ln tN2
          have tN3 := tN2.app [MO.lst []]
          have q0 := il_eq (M := N2 ++ [MO.lst []]) (listAt_app ln) (b := N2.length) (ys := []) (by rw [listAt_new]; rfl)
          have i2 := gIx_s (M := N2) (i := p) (listAt_of (tN2.tl.o.mem hc)) (by rw [bmps_len, List.length_replicate]; exact ⟨p0, p1⟩)
          rw [Row.nexts R1.ok ⟨p0, p1⟩] at i2
          have i3 := gIx_s (M := N2 ++ [MO.lst []]) (i := p) (listAt_of (tN3.tl.o.mem hb)) (by rw [mvs_len]; exact ⟨p0, p1⟩)
          rw [Row.worth R1.ok ⟨p0, p1⟩] at i3
          have ev : dTup (dCons (dOp2 gIx (dVar 11) (dVar 5)) (dCons (dIfE (tVal (dOp2 gNe (dVar 18) (dLst dNil))) (dOp2 gSub (dOp2 gIx (dVar 18) (dC (.int 0))) (dOp2 gIx (dVar 10) (dVar 5))) (dC .non)) dNil))
              [some (.rol (ns.map .int)), some (.ref 2), some (.ref gb), some (.ref (gb + 1)), x4, some (.int p), x6, x7, some (.ref K), some (.ref a), some (.ref b), some (.ref cc), some (.ref tl), some (.ref a2), some (.ref b2), some (.ref c2), some (.ref Lf), some (.ref Du), some (.ref N.length), none, none, none] N2 = .ok (wantD os bs p) (N2 ++ [MO.lst []]) := by
            unfold wantD
            simp only [dTup_ap, dCons_ap, dNil_ap, dOp2_ap, dVar_ap, List.getElem?_cons_succ, List.getElem?_cons_zero, bind_ok, i2, dIfE_ap, tVal_ap, lst_ok (a := dNil) (xs := []) rfl (by simp), gNe_ap, q0]
            cases ea : askP os p (cntP (rowOf os bs) p) with
            | nil => simp [sizeLine]
            | cons m r =>
              rw [ea] at ln
              have l5 : listAt (N2 ++ [MO.lst []]) N.length = some (.int m :: r.map .int) := listAt_app ln
              have i4 : gIx (.ref N.length) (.int 0) (N2 ++ [MO.lst []]) = .ok (.int m) (N2 ++ [MO.lst []]) := by simp [l5]
              simp only [reduceCtorEq, decide_false, Option.map_some, Bool.not_false, okB_some, bind_ok, isB_bl, ifR_t, dC_ap, i4, i3, gSub_int]
              simp [sizeLine]
          have gd := tN3.get 0
          have st := set_kk (k := .int p) (q := .inl p) gd (wantD os bs p) (by unfold wantKv; rw [List.length_map, List.length_take]; omega)
          refine end_nx (s1 := [some (.rol (ns.map .int)), some (.ref 2), some (.ref gb), some (.ref (gb + 1)), x4, some (.int p), x6, x7, some (.ref K), some (.ref a), some (.ref b), some (.ref cc), some (.ref tl), some (.ref a2), some (.ref b2), some (.ref c2), some (.ref Lf), some (.ref Du), some (.ref N.length), none, none, none]) (by
            rw [sAsg_ap, ev]
            simp [st]
            rfl) ⟨_, _, rfl, ?_⟩
          have z := tN3.set 0 (.dk (put (wantKv os bs (ps.take i)) (.inl p) (wantD os bs p)))
          rw [put_new] at z
          · have e9 : wantKv os bs (ps.take i) ++ [(.inl p, wantD os bs p)] = wantKv os bs (ps.take (i + 1)) := by
              unfold wantKv
              rw [List.take_add_one, ha]
              simp
            rw [e9] at z
            rw [put_new]
            · rw [e9]
              exact z
            · intro y
              unfold wantKv at y
              rw [List.map_map] at y
              obtain ⟨q, hq, e⟩ := List.mem_map.mp y
              simp only [Function.comp, Sum.inl.injEq] at e
              subst e
              obtain ⟨j, hj, e2⟩ := List.mem_take_iff_getElem.mp hq
              have := List.pairwise_iff_getElem.mp ris j i (by omega) hi (by omega)
              rw [e2, (List.getElem?_eq_some_iff.mp ha).2] at this
              omega
          · intro y
            unfold wantKv at y
            rw [List.map_map] at y
            obtain ⟨q, hq, e⟩ := List.mem_map.mp y
            simp only [Function.comp, Sum.inl.injEq] at e
            subst e
            obtain ⟨j, hj, e2⟩ := List.mem_take_iff_getElem.mp hq
            have := List.pairwise_iff_getElem.mp ris j i (by omega) hi (by omega)
            rw [e2, (List.getElem?_eq_some_iff.mp ha).2] at this
            omega
      · rintro s N ⟨x5, x18, rfl, tN⟩
        rw [List.length_map, List.take_length] at tN
        -- left_over, wanting
        obtain ⟨kl, N1, e1, f1, l1, g1⟩ := sp_left_over (tN.tl.o.mem hgb) (tN.tl.o.mem hO) (by omega) lot
        have n1 := gne_list g1 ((tN.ext f1).tl.o.mem hLf) rfl
        have tN1 := tN.ext f1
        obtain ⟨kw, N2, e2, f2, l2, g2⟩ := sp_wanting (tN1.tl.o.mem hgb) (tN1.tl.o.mem hO) (by omega) lot
        have tN2 := tN1.ext f2
        rw [hps] at g2
        have n2 : gNeD (.ref kw) (.ref Du) N2 = .ok (.bl false) N2 := by
          have a1 : dkAt N2 (.ref kw) = some (wantKv os bs ps) := by simp only [dkAt, g2]
          have a2 : dkAt N2 (.ref Du) = some (wantKv os bs ps) := by simp only [dkAt, tN2.get 0]
          have a3 : alikeK N2 (wantKv os bs ps) (wantKv os bs ps) = true := by
            unfold alikeK
            rw [decide_eq_true rfl, Bool.true_and, List.all_eq_true]
            intro x hx
            obtain ⟨p, hp, rfl⟩ := List.mem_map.mp hx
            have lk : ∀ qs : List Int, p ∈ qs → look (wantKv os bs qs) (.inl p) = some (wantD os bs p) := by
              intro qs
              induction qs with
              | nil => intro h; cases h
              | cons q qs ih =>
                intro h
                unfold wantKv
                rw [List.map_cons]
                unfold look
                by_cases c : q = p
                · rw [c]; simp
                · rw [decide_eq_false (by simpa using c)]
                  rcases List.mem_cons.mp h with z | z
                  · exact absurd z.symm c
                  · exact ih z
            simp only [lk ps hp]
            unfold wantD
            cases askP os p (cntP (rowOf os bs) p) with
            | nil =>
              have v : toPy N2 8 (.tup [.int (cntP (rowOf os bs) p), .non]) = some (.tuple [.int (cntP (rowOf os bs) p), .none]) := rfl
              unfold sameD
              simp only [v]
              simp [SeqAt.shaped, PyData.canLay0, PyData.canLayAll0, PyData.depth, PyData.depthAll, PyData.eqv, PyData.eqvAll]
            | cons m r =>
              have v : toPy N2 8 (.tup [.int (cntP (rowOf os bs) p), .int (m - (sAt bs p + inP (rowOf os bs) p - outP (rowOf os bs) p))]) = some (.tuple [.int (cntP (rowOf os bs) p), .int (m - (sAt bs p + inP (rowOf os bs) p - outP (rowOf os bs) p))]) := rfl
              unfold sameD
              simp only [v]
              simp [SeqAt.shaped, PyData.canLay0, PyData.canLayAll0, PyData.depth, PyData.depthAll, PyData.eqv, PyData.eqvAll]
          unfold gNeD
          simp only [a1, a2, a3]
        refine go_if (b := false) (M0 := N2) (by
          simp only [tOrF_ap, tVal_ap, dOp2_ap, dVar_ap, List.getElem?_cons_succ, List.getElem?_cons_zero, bind_ok, e1, e2, n1, n2, isB_bl, ifR_f, dCall_ap, dCons_ap, dNil_ap, lenIs_ap, List.length_cons, List.length_nil, decide_true, List.cons_append, List.nil_append]) (fun z => by cases z) fun _ => ?_
        rw [sNext_ap, seq_nx]
        have rv := rev_of (tN2.tl.o.mem ha2)
        rw [← List.map_reverse] at rv
        have tN3 := tN2.new (.lst (od.reverse.map Od.d))
        refine go_set (x := .ref N2.length) (op1_ok rfl rv) ?_
        generalize N2.length = Tu at tN3
        generalize N2 ++ [MO.lst (od.reverse.map Od.d)] = N3 at tN3
        have lotT : Lot od.reverse bs := lotO.sub (fun o ho => List.mem_reverse.mp ho) (by rw [List.map_reverse]; exact (List.reverse_perm _).nodup_iff.mpr lotO.nd)
        obtain ⟨N4, e3, f3⟩ := sp_is_row (tN3.tl.tl.o.mem hgb) (tN3.get 0) (by rw [List.length_reverse]; omega) lotT
        have tN4 := tN3.ext f3
        have lT : listAt N4 Tu = some (od.reverse.map Od.d) := listAt_of (tN4.get 0)
        by_cases c : od.length < 2
        · have e5 : isRowB od.reverse bs = true := by
            have z : od.reverse = od := by
              cases od with
              | nil => rfl
              | cons o r =>
                cases r with
                | nil => rfl
                | cons o2 r => simp at c; omega
            rw [z]; exact s1.row
          rw [e5] at e3
          refine end_rt (d := .bl true) (M1 := N4) ?_ rfl
          rw [sRet_ap, op2_ok (x := .bl true) (M1 := N4) (y := .bl true) (M2 := N4) (r := .ok (.bl true) N4) (by simp [e3]) (by
            have c2 : ((od.length : Nat) : Int) < 2 := by omega
            simp [lT, c2]) (by rw [gEq_ap, pyEq_bl]; rfl)]
          rfl
        · obtain ⟨N5, e6, f6⟩ := sp_fits (tN4.get 0) (tN4.tl.tl.o.mem hgb) (by rw [List.length_reverse]; omega) lotT
          refine end_rt (d := .bl true) (M1 := N5) ?_ rfl
          rw [sRet_ap, op2_ok (x := .bl (isRowB od.reverse bs)) (M1 := N4) (y := .bl (isRowB od.reverse bs)) (M2 := N5) (r := .ok (.bl true) N5) (by simp [e3]) (by
            have c2 : ¬ ((od.length : Nat) : Int) < 2 := by omega
            simp [lT, c2, e6]) (by rw [gEq_ap, pyEq_bl]; simp)]
          rfl
  obtain ⟨d, M, e, rfl⟩ := key
  unfold S_law
  exact ⟨M, by simpa using e⟩
end Fl
namespace Wk
open PySem PySem.Spec PyProof.Rows L2 Fl
def top (i : Nat) : Stmt := PySem.Challenge.pw_manypurses_k19_whole_audits.main.body.getD i (.Pass ⟨0, 0, 0, 0⟩)
abbrev s__law_town : Stmt := top 18
abbrev N__law_town : List Str := ["_law_script"]
abbrev p__law_town : List Str := ["_law_script"]
theorem sc__law_town : FnScope N__law_town p__law_town (defScope s__law_town) := ⟨rfl, rfl, rfl, by decide +kernel, rfl, by decide +kernel, by decide +kernel⟩
abbrev s__law_able : Stmt := top 22
abbrev N__law_able : List Str := ["_law_orders", "_law_worth", "_law_nexts", "_law_one"]
abbrev p__law_able : List Str := ["_law_orders", "_law_worth", "_law_nexts"]
theorem sc__law_able : FnScope N__law_able p__law_able (defScope s__law_able) := ⟨rfl, rfl, rfl, by decide +kernel, rfl, by decide +kernel, by decide +kernel⟩
abbrev s__law_draw : Stmt := top 19
abbrev N__law_draw : List Str := ["_law_town_here", "_law_many", "_law_row", "_law_at", "_law_cell", "_law_mixed"]
abbrev p__law_draw : List Str := ["_law_town_here", "_law_many"]
theorem sc__law_draw : FnScope N__law_draw p__law_draw (defScope s__law_draw) := ⟨rfl, rfl, rfl, by decide +kernel, rfl, by decide +kernel, by decide +kernel⟩
abbrev s__law_pick : Stmt := top 20
abbrev N__law_pick : List Str := ["_law_town_here", "_law_some"]
abbrev p__law_pick : List Str := ["_law_town_here", "_law_some"]
theorem sc__law_pick : FnScope N__law_pick p__law_pick (defScope s__law_pick) := ⟨rfl, rfl, rfl, by decide +kernel, rfl, by decide +kernel, by decide +kernel⟩
abbrev s__law_settle : Stmt := top 23
abbrev N__law_settle : List Str := ["_law_town_here", "_law_orders", "_law_begin", "_law_least", "_law_worth", "_law_nexts", "_law_found", "_law_able_here", "_law_one"]
abbrev p__law_settle : List Str := ["_law_town_here", "_law_orders", "_law_begin", "_law_least"]
theorem sc__law_settle : FnScope N__law_settle p__law_settle (defScope s__law_settle) := ⟨rfl, rfl, rfl, by decide +kernel, rfl, by decide +kernel, by decide +kernel⟩
abbrev s_is_whole : Stmt := top 4
abbrev N_is_whole : List Str := ["thing", "low", "high"]
abbrev p_is_whole : List Str := ["thing", "low", "high"]
theorem sc_is_whole : FnScope N_is_whole p_is_whole (defScope s_is_whole) := ⟨rfl, rfl, rfl, by decide +kernel, rfl, by decide +kernel, by decide +kernel⟩
abbrev s_is_order : Stmt := top 9
abbrev N_is_order : List Str := ["thing", "purses", "purse", "number", "goal", "much"]
abbrev p_is_order : List Str := ["thing", "purses"]
theorem sc_is_order : FnScope N_is_order p_is_order (defScope s_is_order) := ⟨rfl, rfl, rfl, by decide +kernel, rfl, by decide +kernel, by decide +kernel⟩
abbrev s_look_lot : Stmt := top 11
abbrev N_look_lot : List Str := ["orders", "sums", "fine", "places", "order", "place", "one"]
abbrev p_look_lot : List Str := ["orders", "sums"]
theorem sc_look_lot : FnScope N_look_lot p_look_lot (defScope s_look_lot) := ⟨rfl, rfl, rfl, by decide +kernel, rfl, by decide +kernel, by decide +kernel⟩
abbrev s_able_ones : Stmt := top 13
abbrev N_able_ones : List Str := ["orders", "worth", "nexts", "one"]
abbrev p_able_ones : List Str := ["orders", "worth", "nexts"]
theorem sc_able_ones : FnScope N_able_ones p_able_ones (defScope s_able_ones) := ⟨rfl, rfl, rfl, by decide +kernel, rfl, by decide +kernel, by decide +kernel⟩
abbrev s_row_for : Stmt := top 12
abbrev N_row_for : List Str := ["orders", "sums", "worth", "purse", "nexts", "found", "able", "number", "goal", "much"]
abbrev p_row_for : List Str := ["orders", "sums"]
theorem sc_row_for : FnScope N_row_for p_row_for (defScope s_row_for) := ⟨rfl, rfl, rfl, by decide +kernel, rfl, by decide +kernel, by decide +kernel⟩
abbrev s_is_row : Stmt := top 15
abbrev N_is_row : List Str := ["orders", "sums", "worth", "purse", "nexts", "number", "goal", "much"]
abbrev p_is_row : List Str := ["orders", "sums"]
theorem sc_is_row : FnScope N_is_row p_is_row (defScope s_is_row) := ⟨rfl, rfl, rfl, by decide +kernel, rfl, by decide +kernel, by decide +kernel⟩
abbrev s_left_over : Stmt := top 14
abbrev N_left_over : List Str := ["orders", "sums", "done", "order"]
abbrev p_left_over : List Str := ["orders", "sums"]
theorem sc_left_over : FnScope N_left_over p_left_over (defScope s_left_over) := ⟨rfl, rfl, rfl, by decide +kernel, rfl, by decide +kernel, by decide +kernel⟩
abbrev s_wanting : Stmt := top 16
abbrev N_wanting : List Str := ["orders", "sums", "done", "found", "purse", "number", "worth", "asked", "order"]
abbrev p_wanting : List Str := ["orders", "sums"]
theorem sc_wanting : FnScope N_wanting p_wanting (defScope s_wanting) := ⟨rfl, rfl, rfl, by decide +kernel, rfl, by decide +kernel, by decide +kernel⟩
abbrev s__law_fits : Stmt := top 21
abbrev N__law_fits : List Str := ["_law_orders", "_law_begin", "_law_worth", "_law_nexts", "_law_purse", "_law_number", "_law_goal", "_law_much"]
abbrev p__law_fits : List Str := ["_law_orders", "_law_begin"]
theorem sc__law_fits : FnScope N__law_fits p__law_fits (defScope s__law_fits) := ⟨rfl, rfl, rfl, by decide +kernel, rfl, by decide +kernel, by decide +kernel⟩
abbrev s_law : Stmt := top 24
abbrev N_law : List Str := ["_law_script", "_law_town_here", "_law_begin", "_law_orders", "_law_turn", "_law_purse", "_law_number", "_law_goal", "_law_kept", "_law_row", "_law_worth", "_law_nexts", "_law_told", "_law_other", "_law_worth_two", "_law_nexts_two", "_law_left", "_law_due", "_law_asked", "_law_turned", "_law_k", "_law_one"]
abbrev p_law : List Str := ["_law_script"]
theorem sc_law : FnScope N_law p_law (defScope s_law) := ⟨rfl, rfl, rfl, by decide +kernel, rfl, by decide +kernel, by decide +kernel⟩
def clsName : Nat → Str := fun c => (["law", "law", "law", "law", "law", "law", "PurseError", "law", "BadOrder", "BadHouses", "law", "law", "law", "law", "law", "law", "law", "law"] : List Str).getD c "law"
abbrev clsOf (K : PySem.W.Frag) (c : Nat) : Addr := He.ga K (clsName c)
abbrev Ly (K : PySem.W.Frag) : Lay := ⟨nmOf, clsOf K, 0, nmOf_inj⟩
abbrev A__law_town (K : PySem.W.Frag) : Addr := He.fAd K ("_law_town", none)
def d__law_town : He.DefD := ⟨("_law_town", none), "_law_town", "_law_town", defArgs s__law_town, defBody s__law_town, defScope s__law_town, [], []⟩
abbrev A__law_able (K : PySem.W.Frag) : Addr := He.fAd K ("_law_able", none)
def d__law_able : He.DefD := ⟨("_law_able", none), "_law_able", "_law_able", defArgs s__law_able, defBody s__law_able, defScope s__law_able, [], []⟩
abbrev A__law_draw (K : PySem.W.Frag) : Addr := He.fAd K ("_law_draw", none)
def d__law_draw : He.DefD := ⟨("_law_draw", none), "_law_draw", "_law_draw", defArgs s__law_draw, defBody s__law_draw, defScope s__law_draw, [], []⟩
abbrev A__law_pick (K : PySem.W.Frag) : Addr := He.fAd K ("_law_pick", none)
def d__law_pick : He.DefD := ⟨("_law_pick", none), "_law_pick", "_law_pick", defArgs s__law_pick, defBody s__law_pick, defScope s__law_pick, [], []⟩
abbrev A__law_settle (K : PySem.W.Frag) : Addr := He.fAd K ("_law_settle", none)
def d__law_settle : He.DefD := ⟨("_law_settle", none), "_law_settle", "_law_settle", defArgs s__law_settle, defBody s__law_settle, defScope s__law_settle, [], []⟩
abbrev A_is_whole (K : PySem.W.Frag) : Addr := He.fAd K ("is_whole", none)
def d_is_whole : He.DefD := ⟨("is_whole", none), "is_whole", "is_whole", defArgs s_is_whole, defBody s_is_whole, defScope s_is_whole, [], []⟩
abbrev A_is_order (K : PySem.W.Frag) : Addr := He.fAd K ("is_order", none)
def d_is_order : He.DefD := ⟨("is_order", none), "is_order", "is_order", defArgs s_is_order, defBody s_is_order, defScope s_is_order, [], [("purses", (.int 8))]⟩
abbrev A_look_lot (K : PySem.W.Frag) : Addr := He.fAd K ("look_lot", none)
def d_look_lot : He.DefD := ⟨("look_lot", none), "look_lot", "look_lot", defArgs s_look_lot, defBody s_look_lot, defScope s_look_lot, [], []⟩
abbrev A_able_ones (K : PySem.W.Frag) : Addr := He.fAd K ("able_ones", none)
def d_able_ones : He.DefD := ⟨("able_ones", none), "able_ones", "able_ones", defArgs s_able_ones, defBody s_able_ones, defScope s_able_ones, [], []⟩
abbrev A_row_for (K : PySem.W.Frag) : Addr := He.fAd K ("row_for", none)
def d_row_for : He.DefD := ⟨("row_for", none), "row_for", "row_for", defArgs s_row_for, defBody s_row_for, defScope s_row_for, [], []⟩
abbrev A_is_row (K : PySem.W.Frag) : Addr := He.fAd K ("is_row", none)
def d_is_row : He.DefD := ⟨("is_row", none), "is_row", "is_row", defArgs s_is_row, defBody s_is_row, defScope s_is_row, [], []⟩
abbrev A_left_over (K : PySem.W.Frag) : Addr := He.fAd K ("left_over", none)
def d_left_over : He.DefD := ⟨("left_over", none), "left_over", "left_over", defArgs s_left_over, defBody s_left_over, defScope s_left_over, [], []⟩
abbrev A_wanting (K : PySem.W.Frag) : Addr := He.fAd K ("wanting", none)
def d_wanting : He.DefD := ⟨("wanting", none), "wanting", "wanting", defArgs s_wanting, defBody s_wanting, defScope s_wanting, [], []⟩
abbrev A__law_fits (K : PySem.W.Frag) : Addr := He.fAd K ("_law_fits", none)
def d__law_fits : He.DefD := ⟨("_law_fits", none), "_law_fits", "_law_fits", defArgs s__law_fits, defBody s__law_fits, defScope s__law_fits, [], []⟩
abbrev A_law (K : PySem.W.Frag) : Addr := He.fAd K ("law", none)
def d_law : He.DefD := ⟨("law", none), "law", "law", defArgs s_law, defBody s_law, defScope s_law, [], []⟩
structure Txt (K : PySem.W.Frag) (mg : Str → Option Value) where
  d__law_town : FuncData
  F__law_town : FunD K "_law_town" "_law_town" (defArgs s__law_town) (defBody s__law_town) (defScope s__law_town) [] [] (A__law_town K) d__law_town
  m__law_town : mg "_law_town" = some (.ref (A__law_town K))
  d__law_able : FuncData
  F__law_able : FunD K "_law_able" "_law_able" (defArgs s__law_able) (defBody s__law_able) (defScope s__law_able) [] [] (A__law_able K) d__law_able
  m__law_able : mg "_law_able" = some (.ref (A__law_able K))
  d__law_draw : FuncData
  F__law_draw : FunD K "_law_draw" "_law_draw" (defArgs s__law_draw) (defBody s__law_draw) (defScope s__law_draw) [] [] (A__law_draw K) d__law_draw
  m__law_draw : mg "_law_draw" = some (.ref (A__law_draw K))
  d__law_pick : FuncData
  F__law_pick : FunD K "_law_pick" "_law_pick" (defArgs s__law_pick) (defBody s__law_pick) (defScope s__law_pick) [] [] (A__law_pick K) d__law_pick
  m__law_pick : mg "_law_pick" = some (.ref (A__law_pick K))
  d__law_settle : FuncData
  F__law_settle : FunD K "_law_settle" "_law_settle" (defArgs s__law_settle) (defBody s__law_settle) (defScope s__law_settle) [] [] (A__law_settle K) d__law_settle
  m__law_settle : mg "_law_settle" = some (.ref (A__law_settle K))
  d_is_whole : FuncData
  F_is_whole : FunD K "is_whole" "is_whole" (defArgs s_is_whole) (defBody s_is_whole) (defScope s_is_whole) [] [] (A_is_whole K) d_is_whole
  m_is_whole : mg "is_whole" = some (.ref (A_is_whole K))
  d_is_order : FuncData
  F_is_order : FunD K "is_order" "is_order" (defArgs s_is_order) (defBody s_is_order) (defScope s_is_order) [] [("purses", (V.int 8))] (A_is_order K) d_is_order
  m_is_order : mg "is_order" = some (.ref (A_is_order K))
  d_look_lot : FuncData
  F_look_lot : FunD K "look_lot" "look_lot" (defArgs s_look_lot) (defBody s_look_lot) (defScope s_look_lot) [] [] (A_look_lot K) d_look_lot
  m_look_lot : mg "look_lot" = some (.ref (A_look_lot K))
  d_able_ones : FuncData
  F_able_ones : FunD K "able_ones" "able_ones" (defArgs s_able_ones) (defBody s_able_ones) (defScope s_able_ones) [] [] (A_able_ones K) d_able_ones
  m_able_ones : mg "able_ones" = some (.ref (A_able_ones K))
  d_row_for : FuncData
  F_row_for : FunD K "row_for" "row_for" (defArgs s_row_for) (defBody s_row_for) (defScope s_row_for) [] [] (A_row_for K) d_row_for
  m_row_for : mg "row_for" = some (.ref (A_row_for K))
  d_is_row : FuncData
  F_is_row : FunD K "is_row" "is_row" (defArgs s_is_row) (defBody s_is_row) (defScope s_is_row) [] [] (A_is_row K) d_is_row
  m_is_row : mg "is_row" = some (.ref (A_is_row K))
  d_left_over : FuncData
  F_left_over : FunD K "left_over" "left_over" (defArgs s_left_over) (defBody s_left_over) (defScope s_left_over) [] [] (A_left_over K) d_left_over
  m_left_over : mg "left_over" = some (.ref (A_left_over K))
  d_wanting : FuncData
  F_wanting : FunD K "wanting" "wanting" (defArgs s_wanting) (defBody s_wanting) (defScope s_wanting) [] [] (A_wanting K) d_wanting
  m_wanting : mg "wanting" = some (.ref (A_wanting K))
  d__law_fits : FuncData
  F__law_fits : FunD K "_law_fits" "_law_fits" (defArgs s__law_fits) (defBody s__law_fits) (defScope s__law_fits) [] [] (A__law_fits K) d__law_fits
  m__law_fits : mg "_law_fits" = some (.ref (A__law_fits K))
  d_law : FuncData
  F_law : FunD K "law" "law" (defArgs s_law) (defBody s_law) (defScope s_law) [] [] (A_law K) d_law
  m_law : mg "law" = some (.ref (A_law K))
  fr_all : mg "all" = none
  fr_any : mg "any" = none
  fr_bool : mg "bool" = none
  fr_int : mg "int" = none
  fr_isinstance : mg "isinstance" = none
  fr_len : mg "len" = none
  fr_list : mg "list" = none
  fr_range : mg "range" = none
  fr_set : mg "set" = none
  fr_sorted : mg "sorted" = none
  fr_sum : mg "sum" = none
  fr_tuple : mg "tuple" = none
  i_MOST_NUMBER : ∃ t, mg "MOST_NUMBER" = some (.int 99 t)
  i_MOST_PURSES : ∃ t, mg "MOST_PURSES" = some (.int 8 t)
  i_MOST_SUM : ∃ t, mg "MOST_SUM" = some (.int 1000 t)
  c_BadHouses : mg "BadHouses" = some (.ref (He.ga K "BadHouses"))
  c_BadOrder : mg "BadOrder" = some (.ref (He.ga K "BadOrder"))
  x_BadHouses : ExK K mg "BadHouses" ((Ly K).cls 9)
  x_BadOrder : ExK K mg "BadOrder" ((Ly K).cls 8)
section
variable {P : Program} {w : World} {K : PySem.W.Frag} {mg : Str → Option Value} {base : Heap}
theorem kb__law_able_p (T : Txt K mg) : ∃ g, KBn K T.d__law_able p__law_able 3 [] g (fun vs _ => vs) := ⟨_, kb_plain (T.F__law_able.bindsN fun _ _ _ _ _ _ us hl => match us, hl with | [_, _, _], _ => rfl) rfl⟩
theorem kb__law_draw_p (T : Txt K mg) : ∃ g, KBn K T.d__law_draw p__law_draw 2 [] g (fun vs _ => vs) := ⟨_, kb_plain (T.F__law_draw.bindsN fun _ _ _ _ _ _ us hl => match us, hl with | [_, _], _ => rfl) rfl⟩
theorem kb__law_fits_p (T : Txt K mg) : ∃ g, KBn K T.d__law_fits p__law_fits 2 [] g (fun vs _ => vs) := ⟨_, kb_plain (T.F__law_fits.bindsN fun _ _ _ _ _ _ us hl => match us, hl with | [_, _], _ => rfl) rfl⟩
theorem kb__law_pick_p (T : Txt K mg) : ∃ g, KBn K T.d__law_pick p__law_pick 2 [] g (fun vs _ => vs) := ⟨_, kb_plain (T.F__law_pick.bindsN fun _ _ _ _ _ _ us hl => match us, hl with | [_, _], _ => rfl) rfl⟩
theorem kb__law_settle_p (T : Txt K mg) : ∃ g, KBn K T.d__law_settle p__law_settle 4 [] g (fun vs _ => vs) := ⟨_, kb_plain (T.F__law_settle.bindsN fun _ _ _ _ _ _ us hl => match us, hl with | [_, _, _, _], _ => rfl) rfl⟩
theorem kb__law_town_p (T : Txt K mg) : ∃ g, KBn K T.d__law_town p__law_town 1 [] g (fun vs _ => vs) := ⟨_, kb_plain (T.F__law_town.bindsN fun _ _ _ _ _ _ us hl => match us, hl with | [_], _ => rfl) rfl⟩
theorem kb_able_ones_p (T : Txt K mg) : ∃ g, KBn K T.d_able_ones p_able_ones 3 [] g (fun vs _ => vs) := ⟨_, kb_plain (T.F_able_ones.bindsN fun _ _ _ _ _ _ us hl => match us, hl with | [_, _, _], _ => rfl) rfl⟩
theorem kb_is_order_a (T : Txt K mg) : ∃ g, KBn K T.d_is_order p_is_order 1 ["purses"] g (fun vs zs => vs ++ zs) := ⟨_, Fl.FunD.kbN T.F_is_order 1 ["purses"] (fun vs zs => vs ++ zs) (fun r r2 => r.append r2) fun _ _ _ _ _ _ us ws h1 h2 => match us, ws, h1, h2 with | [_], [_], _, _ => rfl⟩
theorem kb_is_row_a (T : Txt K mg) : ∃ g, KBn K T.d_is_row p_is_row 1 ["sums"] g (fun vs zs => vs ++ zs) := ⟨_, Fl.FunD.kbN T.F_is_row 1 ["sums"] (fun vs zs => vs ++ zs) (fun r r2 => r.append r2) fun _ _ _ _ _ _ us ws h1 h2 => match us, ws, h1, h2 with | [_], [_], _, _ => rfl⟩
theorem kb_is_whole_p (T : Txt K mg) : ∃ g, KBn K T.d_is_whole p_is_whole 3 [] g (fun vs _ => vs) := ⟨_, kb_plain (T.F_is_whole.bindsN fun _ _ _ _ _ _ us hl => match us, hl with | [_, _, _], _ => rfl) rfl⟩
theorem kb_left_over_a (T : Txt K mg) : ∃ g, KBn K T.d_left_over p_left_over 1 ["sums"] g (fun vs zs => vs ++ zs) := ⟨_, Fl.FunD.kbN T.F_left_over 1 ["sums"] (fun vs zs => vs ++ zs) (fun r r2 => r.append r2) fun _ _ _ _ _ _ us ws h1 h2 => match us, ws, h1, h2 with | [_], [_], _, _ => rfl⟩
theorem kb_look_lot_p (T : Txt K mg) : ∃ g, KBn K T.d_look_lot p_look_lot 2 [] g (fun vs _ => vs) := ⟨_, kb_plain (T.F_look_lot.bindsN fun _ _ _ _ _ _ us hl => match us, hl with | [_, _], _ => rfl) rfl⟩
theorem kb_row_for_a (T : Txt K mg) : ∃ g, KBn K T.d_row_for p_row_for 1 ["sums"] g (fun vs zs => vs ++ zs) := ⟨_, Fl.FunD.kbN T.F_row_for 1 ["sums"] (fun vs zs => vs ++ zs) (fun r r2 => r.append r2) fun _ _ _ _ _ _ us ws h1 h2 => match us, ws, h1, h2 with | [_], [_], _, _ => rfl⟩
theorem kb_wanting_a (T : Txt K mg) : ∃ g, KBn K T.d_wanting p_wanting 1 ["sums"] g (fun vs zs => vs ++ zs) := ⟨_, Fl.FunD.kbN T.F_wanting 1 ["sums"] (fun vs zs => vs ++ zs) (fun r r2 => r.append r2) fun _ _ _ _ _ _ us ws h1 h2 => match us, ws, h1, h2 with | [_], [_], _, _ => rfl⟩
theorem ok__law_town (T : Txt K mg) : FnOk P w K mg base (L2.CX P w) 1 (A__law_town K) T.d__law_town p__law_town (spF K (Ly K) S__law_town) := by
  refine def_ok T.F__law_town sc__law_town (fun ds M h => by unfold S__law_town; rw [decide_eq_false (show ¬ ds.length = 1 from h)]) (fun cdv A outer s H E hr tk hp => ?_) (fun ds M h => by unfold S__law_town; rw [decide_eq_true (show ds.length = 1 from h)]; rfl)
  have hu := hu70 hr
  exact (fss_one (fs_ret (fe_lst (fa_cons (fe_if (ft_cmp (o_ne hu) (fv 0) (fe_lst fa_nil)) (fe_ct c_list (by rfl) T.fr_list bb_list (fa_cons (fv 0) fa_nil)) (fe_lst (fa_cons fe_int fa_nil))) (fa_cons fe_int fa_nil)))))
theorem ok__law_able (T : Txt K mg) : FnOk P w K mg base (L2.CX P w) 1 (A__law_able K) T.d__law_able p__law_able (spF K (Ly K) S__law_able) := by
  refine def_ok T.F__law_able sc__law_able (fun ds M h => by unfold S__law_able; rw [decide_eq_false (show ¬ ds.length = 3 from h)]) (fun cdv A outer s H E hr tk hp => ?_) (fun ds M h => by unfold S__law_able; rw [decide_eq_true (show ds.length = 3 from h)]; rfl)
  have hu := hu70 hr
  exact (fss_one (fs_ret (fe_cb (c_sorted rfl hu) (by rfl) T.fr_sorted bb_sorted (fa_cons (fe_lc (own := [("_law_one", 3)]) rfl sc__law_able.nd  (fi_seq (fv 0)) (blkOk_by (N := N__law_able) (sc := defScope s__law_able) (by decide +kernel)) rfl (fun _ _ _ _ _ => (fg_name (by decide) sc__law_able.nd rfl (by first | exact Or.inl rfl | exact Or.inr rfl))) (fun _ _ _ _ _ => (fts_one (fw_t (fw_and (ft_cmp (o_eq hu) (fe_ix hu (fv 3) fe_int) (fe_ix hu (fv 2) (fe_ix hu (fv 3) fe_int))) (fw_and1 (ft_cmp o_le (fe_ix hu (fv 3) fe_int) (fe_ix hu (fv 1) (fe_ix hu (fv 3) fe_int)))))))) (fun _ _ _ _ _ => (fv 3))) fa_nil))))
theorem ok__law_draw (T : Txt K mg) : FnOk P w K mg base (L2.CX P w) 1 (A__law_draw K) T.d__law_draw p__law_draw (spF K (Ly K) S__law_draw) := by
  refine def_ok T.F__law_draw sc__law_draw (fun ds M h => by unfold S__law_draw; rw [decide_eq_false (show ¬ ds.length = 2 from h)]) (fun cdv A outer s H E hr tk hp => ?_) (fun ds M h => by unfold S__law_draw; rw [decide_eq_true (show ds.length = 2 from h)]; rfl)
  have hu := hu70 hr
  exact (fss_cons (fs_set sc__law_draw.nd rfl (by first | exact Or.inl rfl | exact Or.inr rfl) (fe_ix hu (fv 0) fe_int)) (fss_cons (fs_asg (is := []) (fe_op o_add (fe_ix hu (fv 0) fe_int) fe_int) (fg_sub hu (fv 0) fe_int)) (fss_cons (fs_set sc__law_draw.nd rfl (by first | exact Or.inl rfl | exact Or.inr rfl) (fe_op o_mod (fe_ix hu (fv 0) fe_int) (fe_cb c_len (by rfl) T.fr_len bb_len (fa_cons (fv 2) fa_nil)))) (fss_cons (fs_set sc__law_draw.nd rfl (by first | exact Or.inl rfl | exact Or.inr rfl) (fe_ix hu (fv 2) (fv 3))) (fss_cons (fs_if (ft_cmp o_ge (fv 4) fe_int) (fss_cons (fs_asg (is := []) (fe_op o_div (fv 4) (fv 1)) (fg_sub hu (fv 2) (fv 3))) (fss_one (fs_ret (fe_op o_mod (fv 4) (fv 1))))) fss_nil) (fss_cons (fs_set sc__law_draw.nd rfl (by first | exact Or.inl rfl | exact Or.inr rfl) (fe_op o_mod (fe_op o_add (fv 4) (fe_op o_mulX fe_int (fe_ix hu (fv 0) fe_int))) fe_int)) (fss_cons (fs_set sc__law_draw.nd rfl (by first | exact Or.inl rfl | exact Or.inr rfl) (fe_op o_mod (fe_op o_pow (fv 5) fe_int) fe_int)) (fss_one (fs_ret (fe_op o_mod (fe_op o_div (fe_op o_mod (fe_op o_add (fe_op o_mulX (fe_op o_div (fv 5) fe_int) fe_int) (fv 5)) fe_int) fe_int) (fv 1)))))))))))
theorem ok__law_pick (T : Txt K mg) : FnOk P w K mg base (L2.CX P w) 2 (A__law_pick K) T.d__law_pick p__law_pick (spF K (Ly K) S__law_pick) := by
  have c__law_draw := ok__law_draw (P := P) (w := w) (base := base) T
  obtain ⟨g__law_draw_p, b__law_draw_p⟩ := kb__law_draw_p T
  refine def_ok T.F__law_pick sc__law_pick (fun ds M h => by unfold S__law_pick; rw [decide_eq_false (show ¬ ds.length = 2 from h)]) (fun cdv A outer s H E hr tk hp => ?_) (fun ds M h => by unfold S__law_pick; rw [decide_eq_true (show ds.length = 2 from h)]; rfl)
  have hu := hu70 hr
  exact (fss_one (fs_ret (fe_ix hu (fv 1) (fe_call c__law_draw (hr.mono (by decide : 1 ≤ 1)) tk (by rfl) T.m__law_draw T.F__law_draw.kp b__law_draw_p gr_plain (fa_cons (fv 0) (fa_cons (fe_cb c_len (by rfl) T.fr_len bb_len (fa_cons (fv 1) fa_nil)) fa_nil))))))
theorem ok__law_settle (T : Txt K mg) : FnOk P w K mg base (L2.CX P w) 3 (A__law_settle K) T.d__law_settle p__law_settle (spF K (Ly K) S__law_settle) := by
  have c__law_able := ok__law_able (P := P) (w := w) (base := base) T
  have c__law_pick := ok__law_pick (P := P) (w := w) (base := base) T
  obtain ⟨g__law_able_p, b__law_able_p⟩ := kb__law_able_p T
  obtain ⟨g__law_pick_p, b__law_pick_p⟩ := kb__law_pick_p T
  refine def_ok T.F__law_settle sc__law_settle (fun ds M h => by unfold S__law_settle; rw [decide_eq_false (show ¬ ds.length = 4 from h)]) (fun cdv A outer s H E hr tk hp => ?_) (fun ds M h => by unfold S__law_settle; rw [decide_eq_true (show ds.length = 4 from h)]; rfl)
  have hu := hu70 hr
  exact (fss_cons (fs_par3 rfl sc__law_settle.nd rfl rfl rfl (by decide) (by decide) (by decide) rfl rfl rfl (fa_cons (fe_ct c_list (by rfl) T.fr_list bb_list (fa_cons (fv 2) fa_nil)) (fa_cons (fe_op o_mulX (fe_lst (fa_cons fe_int fa_nil)) (fe_cb c_len (by rfl) T.fr_len bb_len (fa_cons (fv 2) fa_nil))) (fa_cons (fe_lst fa_nil) fa_nil))) (by rfl)) (fss_cons (fs_set sc__law_settle.nd rfl (by first | exact Or.inl rfl | exact Or.inr rfl) (fe_call c__law_able (hr.mono (by decide : 1 ≤ 2)) tk (by rfl) T.m__law_able T.F__law_able.kp b__law_able_p gr_plain (fa_cons (fv 1) (fa_cons (fv 4) (fa_cons (fv 5) fa_nil))))) (fss_cons (fs_while 100000 hp (ft_cmp (o_ne hu) (fv 7) (fe_lst fa_nil)) (fss_cons (fs_set sc__law_settle.nd rfl (by first | exact Or.inl rfl | exact Or.inr rfl) (fe_if (ft_val (fv 3)) (fe_ix hu (fv 7) fe_int) (fe_call c__law_pick (hr.mono (by decide : 2 ≤ 2)) tk (by rfl) T.m__law_pick T.F__law_pick.kp b__law_pick_p gr_plain (fa_cons (fv 0) (fa_cons (fv 7) fa_nil))))) (fss_cons (fs_asg (is := []) (fe_op o_sub (fe_ix hu (fv 4) (fe_ix hu (fv 8) fe_int)) (fe_ix hu (fv 8) fe_int)) (fg_sub hu (fv 4) (fe_ix hu (fv 8) fe_int))) (fss_cons (fs_asg (is := []) (fe_op o_add (fe_ix hu (fv 4) (fe_ix hu (fv 8) fe_int)) (fe_ix hu (fv 8) fe_int)) (fg_sub hu (fv 4) (fe_ix hu (fv 8) fe_int))) (fss_cons (fs_asg (is := []) (fe_op o_add (fe_ix hu (fv 5) (fe_ix hu (fv 8) fe_int)) fe_int) (fg_sub hu (fv 5) (fe_ix hu (fv 8) fe_int))) (fss_cons (fs_expr (fe_bm PySem.F.plainAttrs_list PySem.F.slot_list_append PySem.F.type_list_append tyLst_ok m_append (fv 6) (fa_cons (fv 8) fa_nil))) (fss_one (fs_set sc__law_settle.nd rfl (by first | exact Or.inl rfl | exact Or.inr rfl) (fe_call c__law_able (hr.mono (by decide : 1 ≤ 2)) tk (by rfl) T.m__law_able T.F__law_able.kp b__law_able_p gr_plain (fa_cons (fv 1) (fa_cons (fv 4) (fa_cons (fv 5) fa_nil)))))))))))) (fss_one (fs_ret (fe_tup (fa_cons (fv 6) (fa_cons (fv 4) (fa_cons (fv 5) fa_nil)))))))))
theorem ok_is_whole (T : Txt K mg) : FnOk P w K mg base (L2.CX P w) 1 (A_is_whole K) T.d_is_whole p_is_whole (spF K (Ly K) S_is_whole) := by
  refine def_ok T.F_is_whole sc_is_whole (fun ds M h => by unfold S_is_whole; rw [decide_eq_false (show ¬ ds.length = 3 from h)]) (fun cdv A outer s H E hr tk hp => ?_) (fun ds M h => by unfold S_is_whole; rw [decide_eq_true (show ds.length = 3 from h)]; rfl)
  have hu := hu70 hr
  exact (fss_one (fs_ret (fe_and (fe_isi tabInt_ok (by rfl) T.fr_isinstance (by rfl) T.fr_int bb_int (fv 0)) (fe_and (fe_not (fe_isi tabBool_ok (by rfl) T.fr_isinstance (by rfl) T.fr_bool bb_bool (fv 0))) (fe_one (fe_chain o_le o_le (fv 1) (fv 0) (fv 2)))))))
theorem ok_is_order (T : Txt K mg) : FnOk P w K mg base (L2.CX P w) 2 (A_is_order K) T.d_is_order p_is_order (spF K (Ly K) S_is_order) := by
  have c_is_whole := ok_is_whole (P := P) (w := w) (base := base) T
  obtain ⟨g_is_whole_p, b_is_whole_p⟩ := kb_is_whole_p T
  obtain ⟨t_MOST_NUMBER, i_MOST_NUMBER⟩ := T.i_MOST_NUMBER
  obtain ⟨t_MOST_PURSES, i_MOST_PURSES⟩ := T.i_MOST_PURSES
  obtain ⟨t_MOST_SUM, i_MOST_SUM⟩ := T.i_MOST_SUM
  refine def_ok T.F_is_order sc_is_order (fun ds M h => by unfold S_is_order; rw [decide_eq_false (show ¬ ds.length = 2 from h)]) (fun cdv A outer s H E hr tk hp => ?_) (fun ds M h => by unfold S_is_order; rw [decide_eq_true (show ds.length = 2 from h)]; rfl)
  have hu := hu70 hr
  exact (fss_cons (fs_if (fw_t (fw_or (ft_not (ft_val (fe_isi tabTup_ok (by rfl) T.fr_isinstance (by rfl) T.fr_tuple bb_tuple (fv 0)))) (fw_or1 (ft_cmp (o_ne hu) (fe_cb c_len (by rfl) T.fr_len bb_len (fa_cons (fv 0) fa_nil)) fe_int)))) (fss_one (fs_ret fe_bl)) fss_nil) (fss_cons (fs_asg (is := [2, 3, 4, 5]) (fv 0) (fg_tup rfl (fgs_cons (by decide) sc_is_order.nd rfl (by first | exact Or.inl rfl | exact Or.inr rfl) (fgs_cons (by decide) sc_is_order.nd rfl (by first | exact Or.inl rfl | exact Or.inr rfl) (fgs_cons (by decide) sc_is_order.nd rfl (by first | exact Or.inl rfl | exact Or.inr rfl) (fgs_cons (by decide) sc_is_order.nd rfl (by first | exact Or.inl rfl | exact Or.inr rfl) fgs_nil)))))) (fss_cons (fs_if (fw_t (fw_or (ft_not (ft_val (fe_call c_is_whole (hr.mono (by decide : 1 ≤ 1)) tk (by rfl) T.m_is_whole T.F_is_whole.kp b_is_whole_p gr_plain (fa_cons (fv 2) (fa_cons fe_int (fa_cons (fe_op o_sub (fv 1) fe_int) fa_nil)))))) (fw_or (ft_not (ft_val (fe_call c_is_whole (hr.mono (by decide : 1 ≤ 1)) tk (by rfl) T.m_is_whole T.F_is_whole.kp b_is_whole_p gr_plain (fa_cons (fv 4) (fa_cons fe_int (fa_cons (fe_op o_sub (fv 1) fe_int) fa_nil)))))) (fw_or1 (ft_cmp (o_eq hu) (fv 2) (fv 4)))))) (fss_one (fs_ret fe_bl)) fss_nil) (fss_one (fs_ret (fe_and (fe_call c_is_whole (hr.mono (by decide : 1 ≤ 1)) tk (by rfl) T.m_is_whole T.F_is_whole.kp b_is_whole_p gr_plain (fa_cons (fv 3) (fa_cons fe_int (fa_cons (fe_glob (by rfl) i_MOST_NUMBER) fa_nil)))) (fe_one (fe_call c_is_whole (hr.mono (by decide : 1 ≤ 1)) tk (by rfl) T.m_is_whole T.F_is_whole.kp b_is_whole_p gr_plain (fa_cons (fv 5) (fa_cons fe_int (fa_cons (fe_glob (by rfl) i_MOST_SUM) fa_nil)))))))))))
theorem ok_look_lot (T : Txt K mg) : FnOk P w K mg base (L2.CX P w) 3 (A_look_lot K) T.d_look_lot p_look_lot (spF K (Ly K) S_look_lot) := by
  have c_is_order := ok_is_order (P := P) (w := w) (base := base) T
  have c_is_whole := ok_is_whole (P := P) (w := w) (base := base) T
  obtain ⟨g_is_order_a, b_is_order_a⟩ := kb_is_order_a T
  obtain ⟨g_is_whole_p, b_is_whole_p⟩ := kb_is_whole_p T
  obtain ⟨t_MOST_PURSES, i_MOST_PURSES⟩ := T.i_MOST_PURSES
  obtain ⟨t_MOST_SUM, i_MOST_SUM⟩ := T.i_MOST_SUM
  refine def_ok T.F_look_lot sc_look_lot (fun ds M h => by unfold S_look_lot; rw [decide_eq_false (show ¬ ds.length = 2 from h)]) (fun cdv A outer s H E hr tk hp => ?_) (fun ds M h => by unfold S_look_lot; rw [decide_eq_true (show ds.length = 2 from h)]; rfl)
  have hu := hu70 hr
  exact (fss_cons (fs_set sc_look_lot.nd rfl (by first | exact Or.inl rfl | exact Or.inr rfl) (fe_and (fe_isi tabLst_ok (by rfl) T.fr_isinstance (by rfl) T.fr_list bb_list (fv 1)) (fe_one (fe_chain o_le o_le fe_int (fe_cb c_len (by rfl) T.fr_len bb_len (fa_cons (fv 1) fa_nil)) (fe_glob (by rfl) i_MOST_PURSES))))) (fss_cons (fs_if (fw_t (fw_or (ft_not (ft_val (fv 2))) (fw_or1 (ft_not (ft_val (fe_cb (c_all rfl) (by rfl) T.fr_all bb_all (fa_cons (fe_lc (own := [("one", 6)]) rfl sc_look_lot.nd  (fi_seq (fv 1)) (blkOk_by (N := N_look_lot) (sc := defScope s_look_lot) (by decide +kernel)) rfl (fun _ _ _ _ _ => (fg_name (by decide) sc_look_lot.nd rfl (by first | exact Or.inl rfl | exact Or.inr rfl))) (fun _ _ _ _ _ => fts_nil) (fun _ _ _ _ _ => (fe_call c_is_whole (hr.mono (by decide : 1 ≤ 2)) takes0 (by rfl) T.m_is_whole T.F_is_whole.kp b_is_whole_p gr_plain (fa_cons (fv 6) (fa_cons fe_int (fa_cons (fe_glob (by rfl) i_MOST_SUM) fa_nil)))))) fa_nil))))))) (fss_one (fs_raise (c := 9) rfl tk T.x_BadHouses (by rfl))) fss_nil) (fss_cons (fs_if (fw_t (fw_or (ft_not (ft_val (fe_isi tabLst_ok (by rfl) T.fr_isinstance (by rfl) T.fr_list bb_list (fv 0)))) (fw_or1 (ft_not (ft_val (fe_cb (c_all rfl) (by rfl) T.fr_all bb_all (fa_cons (fe_lc (own := [("order", 4)]) rfl sc_look_lot.nd  (fi_seq (fv 0)) (blkOk_by (N := N_look_lot) (sc := defScope s_look_lot) (by decide +kernel)) rfl (fun _ _ _ _ _ => (fg_name (by decide) sc_look_lot.nd rfl (by first | exact Or.inl rfl | exact Or.inr rfl))) (fun _ _ _ _ _ => fts_nil) (fun _ _ _ _ _ => (fe_callK (ks := ["purses"]) c_is_order (hr.mono (by decide : 2 ≤ 2)) takes0 (by rfl) T.m_is_order T.F_is_order.kp b_is_order_a gr_app (fa_cons (fv 4) fa_nil) (fk_cons (fe_cb c_len (by rfl) T.fr_len bb_len (fa_cons (fv 1) fa_nil)) fk_nil)))) fa_nil))))))) (fss_one (fs_raise (c := 8) rfl tk T.x_BadOrder (by rfl))) fss_nil) (fss_cons (by first | exact (fs_setLc (own := [("order", 4)]) rfl sc_look_lot.nd rfl rfl (sw_true rfl rfl rfl (by decide +kernel)) (fi_seq (fv 0)) (blkOk_by (N := N_look_lot) (sc := defScope s_look_lot) (by decide +kernel)) rfl (fun _ _ _ _ _ => (fg_name (by decide) sc_look_lot.nd rfl (by first | exact Or.inl rfl | exact Or.inr rfl))) (fun _ _ _ _ _ => fts_nil) (fun _ _ _ _ _ => (fe_sl (fv 4) fo_none (fo_some fe_int)))) | exact (fs_set sc_look_lot.nd rfl (by first | exact Or.inl rfl | exact Or.inr rfl) (fe_lc (own := [("order", 4)]) rfl sc_look_lot.nd  (fi_seq (fv 0)) (blkOk_by (N := N_look_lot) (sc := defScope s_look_lot) (by decide +kernel)) rfl (fun _ _ _ _ _ => (fg_name (by decide) sc_look_lot.nd rfl (by first | exact Or.inl rfl | exact Or.inr rfl))) (fun _ _ _ _ _ => fts_nil) (fun _ _ _ _ _ => (fe_sl (fv 4) fo_none (fo_some fe_int)))))) (fss_one (fs_if (ft_val (fe_cb (c_any rfl) (by rfl) T.fr_any bb_any (fa_cons (fe_lc (own := [("place", 5)]) rfl sc_look_lot.nd  (fi_seq (fv 3)) (blkOk_by (N := N_look_lot) (sc := defScope s_look_lot) (by decide +kernel)) rfl (fun _ _ _ _ _ => (fg_name (by decide) sc_look_lot.nd rfl (by first | exact Or.inl rfl | exact Or.inr rfl))) (fun _ _ _ _ _ => fts_nil) (fun _ _ _ _ _ => (fe_cmp o_gt (fe_bm PySem.F.plainAttrs_list PySem.F.slot_list_count PySem.F.type_list_count tyLst_ok (m_count hu) (fv 3) (fa_cons (fv 5) fa_nil)) fe_int))) fa_nil))) (fss_one (fs_raise (c := 8) rfl tk T.x_BadOrder (by rfl))) fss_nil))))))
theorem ok_able_ones (T : Txt K mg) : FnOk P w K mg base (L2.CX P w) 1 (A_able_ones K) T.d_able_ones p_able_ones (spF K (Ly K) S_able_ones) := by
  refine def_ok T.F_able_ones sc_able_ones (fun ds M h => by unfold S_able_ones; rw [decide_eq_false (show ¬ ds.length = 3 from h)]) (fun cdv A outer s H E hr tk hp => ?_) (fun ds M h => by unfold S_able_ones; rw [decide_eq_true (show ds.length = 3 from h)]; rfl)
  have hu := hu70 hr
  exact (fss_one (fs_ret (fe_cb (c_sorted rfl hu) (by rfl) T.fr_sorted bb_sorted (fa_cons (fe_lc (own := [("one", 3)]) rfl sc_able_ones.nd  (fi_seq (fv 0)) (blkOk_by (N := N_able_ones) (sc := defScope s_able_ones) (by decide +kernel)) rfl (fun _ _ _ _ _ => (fg_name (by decide) sc_able_ones.nd rfl (by first | exact Or.inl rfl | exact Or.inr rfl))) (fun _ _ _ _ _ => (fts_one (fw_t (fw_and (ft_cmp (o_eq hu) (fe_ix hu (fv 3) fe_int) (fe_ix hu (fv 2) (fe_ix hu (fv 3) fe_int))) (fw_and1 (ft_cmp o_le (fe_ix hu (fv 3) fe_int) (fe_ix hu (fv 1) (fe_ix hu (fv 3) fe_int)))))))) (fun _ _ _ _ _ => (fv 3))) fa_nil))))
theorem ok_row_for (T : Txt K mg) : FnOk P w K mg base (L2.CX P w) 4 (A_row_for K) T.d_row_for p_row_for (spF K (Ly K) S_row_for) := by
  have c_able_ones := ok_able_ones (P := P) (w := w) (base := base) T
  have c_look_lot := ok_look_lot (P := P) (w := w) (base := base) T
  obtain ⟨g_able_ones_p, b_able_ones_p⟩ := kb_able_ones_p T
  obtain ⟨g_look_lot_p, b_look_lot_p⟩ := kb_look_lot_p T
  refine def_ok T.F_row_for sc_row_for (fun ds M h => by unfold S_row_for; rw [decide_eq_false (show ¬ ds.length = 2 from h)]) (fun cdv A outer s H E hr tk hp => ?_) (fun ds M h => by unfold S_row_for; rw [decide_eq_true (show ds.length = 2 from h)]; rfl)
  have hu := hu70 hr
  exact (fss_cons (fs_expr (fe_call c_look_lot (hr.mono (by decide : 3 ≤ 3)) tk (by rfl) T.m_look_lot T.F_look_lot.kp b_look_lot_p gr_plain (fa_cons (fv 0) (fa_cons (fv 1) fa_nil)))) (fss_cons (fs_set sc_row_for.nd rfl (by first | exact Or.inl rfl | exact Or.inr rfl) (fe_ct c_list (by rfl) T.fr_list bb_list (fa_cons (fv 1) fa_nil))) (fss_cons (by first | exact (fs_setLc (own := [("purse", 3)]) rfl sc_row_for.nd rfl rfl (sw_true rfl rfl rfl (by decide +kernel)) (fi_seq (fv 1)) (blkOk_by (N := N_row_for) (sc := defScope s_row_for) (by decide +kernel)) rfl (fun _ _ _ _ _ => (fg_name (by decide) sc_row_for.nd rfl (by first | exact Or.inl rfl | exact Or.inr rfl))) (fun _ _ _ _ _ => fts_nil) (fun _ _ _ _ _ => fe_int)) | exact (fs_set sc_row_for.nd rfl (by first | exact Or.inl rfl | exact Or.inr rfl) (fe_lc (own := [("purse", 3)]) rfl sc_row_for.nd  (fi_seq (fv 1)) (blkOk_by (N := N_row_for) (sc := defScope s_row_for) (by decide +kernel)) rfl (fun _ _ _ _ _ => (fg_name (by decide) sc_row_for.nd rfl (by first | exact Or.inl rfl | exact Or.inr rfl))) (fun _ _ _ _ _ => fts_nil) (fun _ _ _ _ _ => fe_int)))) (fss_cons (fs_set sc_row_for.nd rfl (by first | exact Or.inl rfl | exact Or.inr rfl) (fe_lst fa_nil)) (fss_cons (fs_set sc_row_for.nd rfl (by first | exact Or.inl rfl | exact Or.inr rfl) (fe_call c_able_ones (hr.mono (by decide : 1 ≤ 3)) tk (by rfl) T.m_able_ones T.F_able_ones.kp b_able_ones_p gr_plain (fa_cons (fv 0) (fa_cons (fv 2) (fa_cons (fv 4) fa_nil))))) (fss_cons (fs_while 100000 hp (ft_cmp (o_ne hu) (fv 6) (fe_lst fa_nil)) (fss_cons (fs_asg (is := [3, 7, 8, 9]) (fe_ix hu (fv 6) fe_int) (fg_tup rfl (fgs_cons (by decide) sc_row_for.nd rfl (by first | exact Or.inl rfl | exact Or.inr rfl) (fgs_cons (by decide) sc_row_for.nd rfl (by first | exact Or.inl rfl | exact Or.inr rfl) (fgs_cons (by decide) sc_row_for.nd rfl (by first | exact Or.inl rfl | exact Or.inr rfl) (fgs_cons (by decide) sc_row_for.nd rfl (by first | exact Or.inl rfl | exact Or.inr rfl) fgs_nil)))))) (fss_cons (fs_ixAug hu (fv 2) (fv 3) (fv 9) i_sub) (fss_cons (fs_ixAug hu (fv 2) (fv 8) (fv 9) i_add) (fss_cons (fs_ixAug hu (fv 4) (fv 3) fe_int i_add) (fss_cons (fs_expr (fe_bm PySem.F.plainAttrs_list PySem.F.slot_list_append PySem.F.type_list_append tyLst_ok m_append (fv 5) (fa_cons (fe_ix hu (fv 6) fe_int) fa_nil))) (fss_one (fs_set sc_row_for.nd rfl (by first | exact Or.inl rfl | exact Or.inr rfl) (fe_call c_able_ones (hr.mono (by decide : 1 ≤ 3)) tk (by rfl) T.m_able_ones T.F_able_ones.kp b_able_ones_p gr_plain (fa_cons (fv 0) (fa_cons (fv 2) (fa_cons (fv 4) fa_nil)))))))))))) (fss_one (fs_ret (fv 5)))))))))
theorem ok_is_row (T : Txt K mg) : FnOk P w K mg base (L2.CX P w) 4 (A_is_row K) T.d_is_row p_is_row (spF K (Ly K) S_is_row) := by
  have c_look_lot := ok_look_lot (P := P) (w := w) (base := base) T
  obtain ⟨g_look_lot_p, b_look_lot_p⟩ := kb_look_lot_p T
  refine def_ok T.F_is_row sc_is_row (fun ds M h => by unfold S_is_row; rw [decide_eq_false (show ¬ ds.length = 2 from h)]) (fun cdv A outer s H E hr tk hp => ?_) (fun ds M h => by unfold S_is_row; rw [decide_eq_true (show ds.length = 2 from h)]; rfl)
  have hu := hu70 hr
  exact (fss_cons (fs_expr (fe_call c_look_lot (hr.mono (by decide : 3 ≤ 3)) tk (by rfl) T.m_look_lot T.F_look_lot.kp b_look_lot_p gr_plain (fa_cons (fv 0) (fa_cons (fv 1) fa_nil)))) (fss_cons (fs_set sc_is_row.nd rfl (by first | exact Or.inl rfl | exact Or.inr rfl) (fe_ct c_list (by rfl) T.fr_list bb_list (fa_cons (fv 1) fa_nil))) (fss_cons (by first | exact (fs_setLc (own := [("purse", 3)]) rfl sc_is_row.nd rfl rfl (sw_true rfl rfl rfl (by decide +kernel)) (fi_seq (fv 1)) (blkOk_by (N := N_is_row) (sc := defScope s_is_row) (by decide +kernel)) rfl (fun _ _ _ _ _ => (fg_name (by decide) sc_is_row.nd rfl (by first | exact Or.inl rfl | exact Or.inr rfl))) (fun _ _ _ _ _ => fts_nil) (fun _ _ _ _ _ => fe_int)) | exact (fs_set sc_is_row.nd rfl (by first | exact Or.inl rfl | exact Or.inr rfl) (fe_lc (own := [("purse", 3)]) rfl sc_is_row.nd  (fi_seq (fv 1)) (blkOk_by (N := N_is_row) (sc := defScope s_is_row) (by decide +kernel)) rfl (fun _ _ _ _ _ => (fg_name (by decide) sc_is_row.nd rfl (by first | exact Or.inl rfl | exact Or.inr rfl))) (fun _ _ _ _ _ => fts_nil) (fun _ _ _ _ _ => fe_int)))) (fss_cons (fs_for (is := [3, 5, 6, 7]) hp rfl (fi_seq (fv 0)) (fg_tup rfl (fgs_cons (by decide) sc_is_row.nd rfl (by first | exact Or.inl rfl | exact Or.inr rfl) (fgs_cons (by decide) sc_is_row.nd rfl (by first | exact Or.inl rfl | exact Or.inr rfl) (fgs_cons (by decide) sc_is_row.nd rfl (by first | exact Or.inl rfl | exact Or.inr rfl) (fgs_cons (by decide) sc_is_row.nd rfl (by first | exact Or.inl rfl | exact Or.inr rfl) fgs_nil))))) (fss_cons (fs_if (fw_t (fw_or (ft_cmp (o_ne hu) (fv 5) (fe_ix hu (fv 4) (fv 3))) (fw_or1 (ft_cmp o_gt (fv 7) (fe_ix hu (fv 2) (fv 3)))))) (fss_one (fs_ret fe_bl)) fss_nil) (fss_cons (fs_ixAug hu (fv 2) (fv 3) (fv 7) i_sub) (fss_cons (fs_ixAug hu (fv 2) (fv 6) (fv 7) i_add) (fss_one (fs_ixAug hu (fv 4) (fv 3) fe_int i_add)))))) (fss_one (fs_ret fe_bl))))))
theorem ok_left_over (T : Txt K mg) : FnOk P w K mg base (L2.CX P w) 5 (A_left_over K) T.d_left_over p_left_over (spF K (Ly K) S_left_over) := by
  have c_row_for := ok_row_for (P := P) (w := w) (base := base) T
  obtain ⟨g_row_for_a, b_row_for_a⟩ := kb_row_for_a T
  refine def_ok T.F_left_over sc_left_over (fun ds M h => by unfold S_left_over; rw [decide_eq_false (show ¬ ds.length = 2 from h)]) (fun cdv A outer s H E hr tk hp => ?_) (fun ds M h => by unfold S_left_over; rw [decide_eq_true (show ds.length = 2 from h)]; rfl)
  have hu := hu70 hr
  exact (fss_cons (fs_set sc_left_over.nd rfl (by first | exact Or.inl rfl | exact Or.inr rfl) (fe_callK (ks := ["sums"]) c_row_for (hr.mono (by decide : 4 ≤ 4)) tk (by rfl) T.m_row_for T.F_row_for.kp b_row_for_a gr_app (fa_cons (fv 0) fa_nil) (fk_cons (fv 1) fk_nil))) (fss_one (fs_ret (fe_cb (c_sorted rfl hu) (by rfl) T.fr_sorted bb_sorted (fa_cons (fe_lc (own := [("order", 3)]) rfl sc_left_over.nd  (fi_seq (fv 0)) (blkOk_by (N := N_left_over) (sc := defScope s_left_over) (by decide +kernel)) rfl (fun _ _ _ _ _ => (fg_name (by decide) sc_left_over.nd rfl (by first | exact Or.inl rfl | exact Or.inr rfl))) (fun _ _ _ _ _ => (fts_one (ft_cmp (o_notIn hu) (fv 3) (fv 2)))) (fun _ _ _ _ _ => (fv 3))) fa_nil)))))
theorem ok_wanting (T : Txt K mg) : FnOk P w K mg base (L2.CX P w) 5 (A_wanting K) T.d_wanting p_wanting (spF K (Ly K) S_wanting) := by
  have c_row_for := ok_row_for (P := P) (w := w) (base := base) T
  obtain ⟨g_row_for_a, b_row_for_a⟩ := kb_row_for_a T
  refine def_ok T.F_wanting sc_wanting (fun ds M h => by unfold S_wanting; rw [decide_eq_false (show ¬ ds.length = 2 from h)]) (fun cdv A outer s H E hr tk hp => ?_) (fun ds M h => by unfold S_wanting; rw [decide_eq_true (show ds.length = 2 from h)]; rfl)
  have hu := hu70 hr
  exact (fss_cons (fs_set sc_wanting.nd rfl (by first | exact Or.inl rfl | exact Or.inr rfl) (fe_callK (ks := ["sums"]) c_row_for (hr.mono (by decide : 4 ≤ 4)) tk (by rfl) T.m_row_for T.F_row_for.kp b_row_for_a gr_app (fa_cons (fv 0) fa_nil) (fk_cons (fv 1) fk_nil))) (fss_cons (fs_set sc_wanting.nd rfl (by first | exact Or.inl rfl | exact Or.inr rfl) fe_newK) (fss_cons (fs_for (is := [4]) hp rfl (fi_seq (fe_sortSc (own := [("order", 8)]) rfl sc_wanting.nd (by rfl) T.fr_sorted (fi_seq (fv 0)) (blkOk_by (N := N_wanting) (sc := defScope s_wanting) (by decide +kernel)) rfl (fun _ _ _ _ _ => (fg_name (by decide) sc_wanting.nd rfl (by first | exact Or.inl rfl | exact Or.inr rfl))) (fun _ _ _ _ _ => (fts_one (ft_cmp (o_notIn hu) (fv 8) (fv 2)))) (fun _ _ _ _ _ => (fe_ix hu (fv 8) fe_int)))) (fg_name (by decide) sc_wanting.nd rfl (by first | exact Or.inl rfl | exact Or.inr rfl)) (fss_cons (fs_set sc_wanting.nd rfl (by first | exact Or.inl rfl | exact Or.inr rfl) (fe_cb c_len (by rfl) T.fr_len bb_len (fa_cons (fe_lc (own := [("order", 8)]) rfl sc_wanting.nd  (fi_seq (fv 2)) (blkOk_by (N := N_wanting) (sc := defScope s_wanting) (by decide +kernel)) rfl (fun _ _ _ _ _ => (fg_name (by decide) sc_wanting.nd rfl (by first | exact Or.inl rfl | exact Or.inr rfl))) (fun _ _ _ _ _ => (fts_one (ft_cmp (o_eq hu) (fe_ix hu (fv 8) fe_int) (fv 4)))) (fun _ _ _ _ _ => (fv 8))) fa_nil))) (fss_cons (fs_set sc_wanting.nd rfl (by first | exact Or.inl rfl | exact Or.inr rfl) (fe_op o_add (fe_ix hu (fv 1) (fv 4)) (fe_cb (c_sum rfl) (by rfl) T.fr_sum bb_sum (fa_cons (fe_lc (own := [("order", 8)]) rfl sc_wanting.nd  (fi_seq (fv 2)) (blkOk_by (N := N_wanting) (sc := defScope s_wanting) (by decide +kernel)) rfl (fun _ _ _ _ _ => (fg_name (by decide) sc_wanting.nd rfl (by first | exact Or.inl rfl | exact Or.inr rfl))) (fun _ _ _ _ _ => (fts_one (ft_cmp (o_eq hu) (fe_ix hu (fv 8) fe_int) (fv 4)))) (fun _ _ _ _ _ => (fe_ix hu (fv 8) fe_int))) fa_nil)))) (fss_cons (fs_aug sc_wanting.nd rfl (by first | exact Or.inl rfl | exact Or.inr rfl) (fe_cb (c_sum rfl) (by rfl) T.fr_sum bb_sum (fa_cons (fe_lc (own := [("order", 8)]) rfl sc_wanting.nd  (fi_seq (fv 2)) (blkOk_by (N := N_wanting) (sc := defScope s_wanting) (by decide +kernel)) rfl (fun _ _ _ _ _ => (fg_name (by decide) sc_wanting.nd rfl (by first | exact Or.inl rfl | exact Or.inr rfl))) (fun _ _ _ _ _ => (fts_one (ft_cmp (o_eq hu) (fe_ix hu (fv 8) fe_int) (fv 4)))) (fun _ _ _ _ _ => (fe_ix hu (fv 8) fe_int))) fa_nil)) i_sub) (fss_cons (by first | exact (fs_setLc (own := [("order", 8)]) rfl sc_wanting.nd rfl rfl (sw_true rfl rfl rfl (by decide +kernel)) (fi_seq (fv 0)) (blkOk_by (N := N_wanting) (sc := defScope s_wanting) (by decide +kernel)) rfl (fun _ _ _ _ _ => (fg_name (by decide) sc_wanting.nd rfl (by first | exact Or.inl rfl | exact Or.inr rfl))) (fun _ _ _ _ _ => (fts_one (ft_cmp (o_eq hu) (fe_sl (fv 8) fo_none (fo_some fe_int)) (fe_tup (fa_cons (fv 4) (fa_cons (fv 5) fa_nil)))))) (fun _ _ _ _ _ => (fe_ix hu (fv 8) fe_int))) | exact (fs_set sc_wanting.nd rfl (by first | exact Or.inl rfl | exact Or.inr rfl) (fe_lc (own := [("order", 8)]) rfl sc_wanting.nd  (fi_seq (fv 0)) (blkOk_by (N := N_wanting) (sc := defScope s_wanting) (by decide +kernel)) rfl (fun _ _ _ _ _ => (fg_name (by decide) sc_wanting.nd rfl (by first | exact Or.inl rfl | exact Or.inr rfl))) (fun _ _ _ _ _ => (fts_one (ft_cmp (o_eq hu) (fe_sl (fv 8) fo_none (fo_some fe_int)) (fe_tup (fa_cons (fv 4) (fa_cons (fv 5) fa_nil)))))) (fun _ _ _ _ _ => (fe_ix hu (fv 8) fe_int))))) (fss_one (fs_asg (is := []) (fe_if (ft_cmp (o_eq hu) (fv 7) (fe_lst fa_nil)) (fe_tup (fa_cons (fv 5) (fa_cons fe_non fa_nil))) (fe_tup (fa_cons (fv 5) (fa_cons (fe_op o_sub (fe_ix hu (fv 7) fe_int) (fv 6)) fa_nil)))) (fg_sub hu (fv 3) (fv 4))))))))) (fss_one (fs_ret (fv 3))))))
theorem ok__law_fits (T : Txt K mg) : FnOk P w K mg base (L2.CX P w) 1 (A__law_fits K) T.d__law_fits p__law_fits (spF K (Ly K) S__law_fits) := by
  refine def_ok T.F__law_fits sc__law_fits (fun ds M h => by unfold S__law_fits; rw [decide_eq_false (show ¬ ds.length = 2 from h)]) (fun cdv A outer s H E hr tk hp => ?_) (fun ds M h => by unfold S__law_fits; rw [decide_eq_true (show ds.length = 2 from h)]; rfl)
  have hu := hu70 hr
  exact (fss_cons (fs_par2 rfl sc__law_fits.nd rfl rfl (by decide) rfl rfl (fa_cons (fe_ct c_list (by rfl) T.fr_list bb_list (fa_cons (fv 1) fa_nil)) (fa_cons (fe_op o_mulX (fe_lst (fa_cons fe_int fa_nil)) (fe_cb c_len (by rfl) T.fr_len bb_len (fa_cons (fv 1) fa_nil))) fa_nil)) (by rfl)) (fss_cons (fs_for (is := [4, 5, 6, 7]) hp rfl (fi_seq (fv 0)) (fg_tup rfl (fgs_cons (by decide) sc__law_fits.nd rfl (by first | exact Or.inl rfl | exact Or.inr rfl) (fgs_cons (by decide) sc__law_fits.nd rfl (by first | exact Or.inl rfl | exact Or.inr rfl) (fgs_cons (by decide) sc__law_fits.nd rfl (by first | exact Or.inl rfl | exact Or.inr rfl) (fgs_cons (by decide) sc__law_fits.nd rfl (by first | exact Or.inl rfl | exact Or.inr rfl) fgs_nil))))) (fss_cons (fs_if (fw_t (fw_or (ft_cmp (o_ne hu) (fv 5) (fe_ix hu (fv 3) (fv 4))) (fw_or1 (ft_cmp o_gt (fv 7) (fe_ix hu (fv 2) (fv 4)))))) (fss_one (fs_ret fe_bl)) fss_nil) (fss_cons (fs_asg (is := []) (fe_op o_sub (fe_ix hu (fv 2) (fv 4)) (fv 7)) (fg_sub hu (fv 2) (fv 4))) (fss_cons (fs_asg (is := []) (fe_op o_add (fe_ix hu (fv 2) (fv 6)) (fv 7)) (fg_sub hu (fv 2) (fv 6))) (fss_one (fs_asg (is := []) (fe_op o_add (fv 5) fe_int) (fg_sub hu (fv 3) (fv 4)))))))) (fss_one (fs_ret fe_bl))))
theorem ok_law (T : Txt K mg) : FnOk P w K mg base (L2.CX P w) 6 (A_law K) T.d_law p_law (spF K (Ly K) S_law) := by
  have c__law_draw := ok__law_draw (P := P) (w := w) (base := base) T
  have c__law_fits := ok__law_fits (P := P) (w := w) (base := base) T
  have c__law_pick := ok__law_pick (P := P) (w := w) (base := base) T
  have c__law_settle := ok__law_settle (P := P) (w := w) (base := base) T
  have c__law_town := ok__law_town (P := P) (w := w) (base := base) T
  have c_is_row := ok_is_row (P := P) (w := w) (base := base) T
  have c_left_over := ok_left_over (P := P) (w := w) (base := base) T
  have c_row_for := ok_row_for (P := P) (w := w) (base := base) T
  have c_wanting := ok_wanting (P := P) (w := w) (base := base) T
  obtain ⟨g__law_draw_p, b__law_draw_p⟩ := kb__law_draw_p T
  obtain ⟨g__law_fits_p, b__law_fits_p⟩ := kb__law_fits_p T
  obtain ⟨g__law_pick_p, b__law_pick_p⟩ := kb__law_pick_p T
  obtain ⟨g__law_settle_p, b__law_settle_p⟩ := kb__law_settle_p T
  obtain ⟨g__law_town_p, b__law_town_p⟩ := kb__law_town_p T
  obtain ⟨g_is_row_a, b_is_row_a⟩ := kb_is_row_a T
  obtain ⟨g_left_over_a, b_left_over_a⟩ := kb_left_over_a T
  obtain ⟨g_row_for_a, b_row_for_a⟩ := kb_row_for_a T
  obtain ⟨g_wanting_a, b_wanting_a⟩ := kb_wanting_a T
  refine def_ok T.F_law sc_law (fun ds M h => by unfold S_law; rw [decide_eq_false (show ¬ ds.length = 1 from h)]) (fun cdv A outer s H E hr tk hp => ?_) (fun ds M h => by unfold S_law; rw [decide_eq_true (show ds.length = 1 from h)]; rfl)
  have hu := hu70 hr
  exact (fss_cons (fs_set sc_law.nd rfl (by first | exact Or.inl rfl | exact Or.inr rfl) (fe_call c__law_town (hr.mono (by decide : 1 ≤ 5)) tk (by rfl) T.m__law_town T.F__law_town.kp b__law_town_p gr_plain (fa_cons (fv 0) fa_nil))) (fss_cons (by first | exact (fs_setLc (own := [("_law_k", 20)]) rfl sc_law.nd rfl rfl (sw_true rfl rfl rfl (by decide +kernel)) (fi_rng1 (by rfl) T.fr_range (fa_cons (fe_op o_add fe_int (fe_call c__law_draw (hr.mono (by decide : 1 ≤ 5)) tk (by rfl) T.m__law_draw T.F__law_draw.kp b__law_draw_p gr_plain (fa_cons (fv 1) (fa_cons fe_int fa_nil)))) fa_nil)) (blkOk_by (N := N_law) (sc := defScope s_law) (by decide +kernel)) rfl (fun _ _ _ _ _ => (fg_name (by decide) sc_law.nd rfl (by first | exact Or.inl rfl | exact Or.inr rfl))) (fun _ _ _ _ _ => fts_nil) (fun _ _ _ _ _ => (fe_call c__law_draw (hr.mono (by decide : 1 ≤ 5)) takes0 (by rfl) T.m__law_draw T.F__law_draw.kp b__law_draw_p gr_plain (fa_cons (fv 1) (fa_cons fe_int fa_nil))))) | exact (fs_set sc_law.nd rfl (by first | exact Or.inl rfl | exact Or.inr rfl) (fe_lc (own := [("_law_k", 20)]) rfl sc_law.nd  (fi_rng1 (by rfl) T.fr_range (fa_cons (fe_op o_add fe_int (fe_call c__law_draw (hr.mono (by decide : 1 ≤ 5)) tk (by rfl) T.m__law_draw T.F__law_draw.kp b__law_draw_p gr_plain (fa_cons (fv 1) (fa_cons fe_int fa_nil)))) fa_nil)) (blkOk_by (N := N_law) (sc := defScope s_law) (by decide +kernel)) rfl (fun _ _ _ _ _ => (fg_name (by decide) sc_law.nd rfl (by first | exact Or.inl rfl | exact Or.inr rfl))) (fun _ _ _ _ _ => fts_nil) (fun _ _ _ _ _ => (fe_call c__law_draw (hr.mono (by decide : 1 ≤ 5)) takes0 (by rfl) T.m__law_draw T.F__law_draw.kp b__law_draw_p gr_plain (fa_cons (fv 1) (fa_cons fe_int fa_nil))))))) (fss_cons (fs_set sc_law.nd rfl (by first | exact Or.inl rfl | exact Or.inr rfl) (fe_lst fa_nil)) (fss_cons (fs_for (is := [4]) hp rfl (fi_rng1 (by rfl) T.fr_range (fa_cons (fe_call c__law_draw (hr.mono (by decide : 1 ≤ 5)) tk (by rfl) T.m__law_draw T.F__law_draw.kp b__law_draw_p gr_plain (fa_cons (fv 1) (fa_cons fe_int fa_nil))) fa_nil)) (fg_name (by decide) sc_law.nd rfl (by first | exact Or.inl rfl | exact Or.inr rfl)) (fss_cons (fs_set sc_law.nd rfl (by first | exact Or.inl rfl | exact Or.inr rfl) (fe_call c__law_draw (hr.mono (by decide : 1 ≤ 5)) tk (by rfl) T.m__law_draw T.F__law_draw.kp b__law_draw_p gr_plain (fa_cons (fv 1) (fa_cons (fe_cb c_len (by rfl) T.fr_len bb_len (fa_cons (fv 2) fa_nil)) fa_nil)))) (fss_cons (fs_set sc_law.nd rfl (by first | exact Or.inl rfl | exact Or.inr rfl) (fe_op o_add (fe_cb c_len (by rfl) T.fr_len bb_len (fa_cons (fe_lc (own := [("_law_one", 21)]) rfl sc_law.nd  (fi_seq (fv 3)) (blkOk_by (N := N_law) (sc := defScope s_law) (by decide +kernel)) rfl (fun _ _ _ _ _ => (fg_name (by decide) sc_law.nd rfl (by first | exact Or.inl rfl | exact Or.inr rfl))) (fun _ _ _ _ _ => (fts_one (ft_cmp (o_eq hu) (fe_ix hu (fv 21) fe_int) (fv 5)))) (fun _ _ _ _ _ => (fv 21))) fa_nil)) (fe_call c__law_pick (hr.mono (by decide : 2 ≤ 5)) tk (by rfl) T.m__law_pick T.F__law_pick.kp b__law_pick_p gr_plain (fa_cons (fv 1) (fa_cons (fe_lst (fa_cons fe_int (fa_cons fe_int (fa_cons fe_int (fa_cons fe_int fa_nil))))) fa_nil))))) (fss_one (fs_if (ft_cmp (o_eq hu) (fe_lc (own := [("_law_one", 21)]) rfl sc_law.nd  (fi_seq (fv 3)) (blkOk_by (N := N_law) (sc := defScope s_law) (by decide +kernel)) rfl (fun _ _ _ _ _ => (fg_name (by decide) sc_law.nd rfl (by first | exact Or.inl rfl | exact Or.inr rfl))) (fun _ _ _ _ _ => (fts_one (ft_cmp (o_eq hu) (fe_sl (fv 21) fo_none (fo_some fe_int)) (fe_tup (fa_cons (fv 5) (fa_cons (fv 6) fa_nil)))))) (fun _ _ _ _ _ => (fv 21))) (fe_lst fa_nil)) (fss_cons (fs_set sc_law.nd rfl (by first | exact Or.inl rfl | exact Or.inr rfl) (fe_op o_mod (fe_op o_add (fe_op o_add (fv 5) fe_int) (fe_call c__law_draw (hr.mono (by decide : 1 ≤ 5)) tk (by rfl) T.m__law_draw T.F__law_draw.kp b__law_draw_p gr_plain (fa_cons (fv 1) (fa_cons (fe_op o_sub (fe_cb c_len (by rfl) T.fr_len bb_len (fa_cons (fv 2) fa_nil)) fe_int) fa_nil)))) (fe_cb c_len (by rfl) T.fr_len bb_len (fa_cons (fv 2) fa_nil)))) (fss_one (fs_expr (fe_bm PySem.F.plainAttrs_list PySem.F.slot_list_insert PySem.F.type_list_insert tyLst_ok m_insert (fv 3) (fa_cons (fe_call c__law_draw (hr.mono (by decide : 1 ≤ 5)) tk (by rfl) T.m__law_draw T.F__law_draw.kp b__law_draw_p gr_plain (fa_cons (fv 1) (fa_cons (fe_op o_add (fe_cb c_len (by rfl) T.fr_len bb_len (fa_cons (fv 3) fa_nil)) fe_int) fa_nil))) (fa_cons (fe_tup (fa_cons (fv 5) (fa_cons (fv 6) (fa_cons (fv 7) (fa_cons (fe_op o_add fe_int (fe_call c__law_draw (hr.mono (by decide : 1 ≤ 5)) tk (by rfl) T.m__law_draw T.F__law_draw.kp b__law_draw_p gr_plain (fa_cons (fv 1) (fa_cons fe_int fa_nil)))) fa_nil))))) fa_nil)))))) fss_nil))))) (fss_cons (fs_set sc_law.nd rfl (by first | exact Or.inl rfl | exact Or.inr rfl) (fe_ct c_list (by rfl) T.fr_list bb_list (fa_cons (fv 3) fa_nil))) (fss_cons (fs_asg (is := [9, 10, 11]) (fe_call c__law_settle (hr.mono (by decide : 3 ≤ 5)) tk (by rfl) T.m__law_settle T.F__law_settle.kp b__law_settle_p gr_plain (fa_cons (fv 1) (fa_cons (fv 3) (fa_cons (fv 2) (fa_cons fe_bl fa_nil))))) (fg_tup rfl (fgs_cons (by decide) sc_law.nd rfl (by first | exact Or.inl rfl | exact Or.inr rfl) (fgs_cons (by decide) sc_law.nd rfl (by first | exact Or.inl rfl | exact Or.inr rfl) (fgs_cons (by decide) sc_law.nd rfl (by first | exact Or.inl rfl | exact Or.inr rfl) fgs_nil))))) (fss_cons (fs_set sc_law.nd rfl (by first | exact Or.inl rfl | exact Or.inr rfl) (fe_callK (ks := ["sums"]) c_row_for (hr.mono (by decide : 4 ≤ 5)) tk (by rfl) T.m_row_for T.F_row_for.kp b_row_for_a gr_app (fa_cons (fv 3) fa_nil) (fk_cons (fv 2) fk_nil))) (fss_cons (fs_if (fw_t (fw_or (ft_cmp (o_ne hu) (fv 12) (fv 9)) (fw_or (ft_cmp o_isNot (fe_callK (ks := ["sums"]) c_is_row (hr.mono (by decide : 4 ≤ 5)) tk (by rfl) T.m_is_row T.F_is_row.kp b_is_row_a gr_app (fa_cons (fv 12) fa_nil) (fk_cons (fv 2) fk_nil)) fe_bl) (fw_or1 (ft_cmp (o_ne hu) (fv 3) (fv 8)))))) (fss_one (fs_ret fe_bl)) fss_nil) (fss_cons (fs_asg (is := [13, 14, 15]) (fe_call c__law_settle (hr.mono (by decide : 3 ≤ 5)) tk (by rfl) T.m__law_settle T.F__law_settle.kp b__law_settle_p gr_plain (fa_cons (fv 1) (fa_cons (fv 3) (fa_cons (fv 2) (fa_cons fe_bl fa_nil))))) (fg_tup rfl (fgs_cons (by decide) sc_law.nd rfl (by first | exact Or.inl rfl | exact Or.inr rfl) (fgs_cons (by decide) sc_law.nd rfl (by first | exact Or.inl rfl | exact Or.inr rfl) (fgs_cons (by decide) sc_law.nd rfl (by first | exact Or.inl rfl | exact Or.inr rfl) fgs_nil))))) (fss_cons (fs_if (fw_t (fw_or (ft_cmp (o_ne hu) (fe_cb (c_sorted rfl hu) (by rfl) T.fr_sorted bb_sorted (fa_cons (fv 13) fa_nil)) (fe_cb (c_sorted rfl hu) (by rfl) T.fr_sorted bb_sorted (fa_cons (fv 9) fa_nil))) (fw_or (ft_cmp (o_ne hu) (fv 14) (fv 10)) (fw_or1 (ft_cmp o_isNot (fe_callK (ks := ["sums"]) c_is_row (hr.mono (by decide : 4 ≤ 5)) tk (by rfl) T.m_is_row T.F_is_row.kp b_is_row_a gr_app (fa_cons (fv 13) fa_nil) (fk_cons (fv 2) fk_nil)) fe_bl))))) (fss_one (fs_ret fe_bl)) fss_nil) (fss_cons (fs_set sc_law.nd rfl (by first | exact Or.inl rfl | exact Or.inr rfl) (fe_cb (c_sorted rfl hu) (by rfl) T.fr_sorted bb_sorted (fa_cons (fe_lc (own := [("_law_one", 21)]) rfl sc_law.nd  (fi_seq (fv 3)) (blkOk_by (N := N_law) (sc := defScope s_law) (by decide +kernel)) rfl (fun _ _ _ _ _ => (fg_name (by decide) sc_law.nd rfl (by first | exact Or.inl rfl | exact Or.inr rfl))) (fun _ _ _ _ _ => (fts_one (ft_cmp (o_notIn hu) (fv 21) (fv 9)))) (fun _ _ _ _ _ => (fv 21))) fa_nil))) (fss_cons (fs_set sc_law.nd rfl (by first | exact Or.inl rfl | exact Or.inr rfl) fe_newK) (fss_cons (fs_for (is := [5]) hp rfl (fi_seq (fe_sortSet rfl (by rfl) T.fr_sorted (by rfl) T.fr_set (fe_lc (own := [("_law_one", 21)]) rfl sc_law.nd  (fi_seq (fv 16)) (blkOk_by (N := N_law) (sc := defScope s_law) (by decide +kernel)) rfl (fun _ _ _ _ _ => (fg_name (by decide) sc_law.nd rfl (by first | exact Or.inl rfl | exact Or.inr rfl))) (fun _ _ _ _ _ => fts_nil) (fun _ _ _ _ _ => (fe_ix hu (fv 21) fe_int))))) (fg_name (by decide) sc_law.nd rfl (by first | exact Or.inl rfl | exact Or.inr rfl)) (fss_cons (by first | exact (fs_setLc (own := [("_law_one", 21)]) rfl sc_law.nd rfl rfl (sw_true rfl rfl rfl (by decide +kernel)) (fi_seq (fv 3)) (blkOk_by (N := N_law) (sc := defScope s_law) (by decide +kernel)) rfl (fun _ _ _ _ _ => (fg_name (by decide) sc_law.nd rfl (by first | exact Or.inl rfl | exact Or.inr rfl))) (fun _ _ _ _ _ => (fts_one (ft_cmp (o_eq hu) (fe_sl (fv 21) fo_none (fo_some fe_int)) (fe_tup (fa_cons (fv 5) (fa_cons (fe_ix hu (fv 11) (fv 5)) fa_nil)))))) (fun _ _ _ _ _ => (fe_ix hu (fv 21) fe_int))) | exact (fs_set sc_law.nd rfl (by first | exact Or.inl rfl | exact Or.inr rfl) (fe_lc (own := [("_law_one", 21)]) rfl sc_law.nd  (fi_seq (fv 3)) (blkOk_by (N := N_law) (sc := defScope s_law) (by decide +kernel)) rfl (fun _ _ _ _ _ => (fg_name (by decide) sc_law.nd rfl (by first | exact Or.inl rfl | exact Or.inr rfl))) (fun _ _ _ _ _ => (fts_one (ft_cmp (o_eq hu) (fe_sl (fv 21) fo_none (fo_some fe_int)) (fe_tup (fa_cons (fv 5) (fa_cons (fe_ix hu (fv 11) (fv 5)) fa_nil)))))) (fun _ _ _ _ _ => (fe_ix hu (fv 21) fe_int))))) (fss_one (fs_asg (is := []) (fe_tup (fa_cons (fe_ix hu (fv 11) (fv 5)) (fa_cons (fe_if (ft_cmp (o_ne hu) (fv 18) (fe_lst fa_nil)) (fe_op o_sub (fe_ix hu (fv 18) fe_int) (fe_ix hu (fv 10) (fv 5))) fe_non) fa_nil))) (fg_sub hu (fv 17) (fv 5)))))) (fss_cons (fs_if (fw_t (fw_or (ft_cmp (o_ne hu) (fe_callK (ks := ["sums"]) c_left_over (hr.mono (by decide : 5 ≤ 5)) tk (by rfl) T.m_left_over T.F_left_over.kp b_left_over_a gr_app (fa_cons (fv 3) fa_nil) (fk_cons (fv 2) fk_nil)) (fv 16)) (fw_or1 (ft_cmp (o_neD hu) (fe_callK (ks := ["sums"]) c_wanting (hr.mono (by decide : 5 ≤ 5)) tk (by rfl) T.m_wanting T.F_wanting.kp b_wanting_a gr_app (fa_cons (fv 3) fa_nil) (fk_cons (fv 2) fk_nil)) (fv 17))))) (fss_one (fs_ret fe_bl)) fss_nil) (fss_cons (fs_set sc_law.nd rfl (by first | exact Or.inl rfl | exact Or.inr rfl) (fe_rev (fv 13))) (fss_one (fs_ret (fe_cmp (o_eq hu) (fe_callK (ks := ["sums"]) c_is_row (hr.mono (by decide : 4 ≤ 5)) tk (by rfl) T.m_is_row T.F_is_row.kp b_is_row_a gr_app (fa_cons (fv 19) fa_nil) (fk_cons (fv 2) fk_nil)) (fe_or (fe_cmp o_lt (fe_cb c_len (by rfl) T.fr_len bb_len (fa_cons (fv 19) fa_nil)) fe_int) (fe_one (fe_call c__law_fits (hr.mono (by decide : 1 ≤ 5)) tk (by rfl) T.m__law_fits T.F__law_fits.kp b__law_fits_p gr_plain (fa_cons (fv 19) (fa_cons (fv 2) fa_nil)))))))))))))))))))))))
end
def fn : List He.DefD := [d__law_town, d__law_able, d__law_draw, d__law_pick, d__law_settle, d_is_whole, d_is_order, d_look_lot, d_able_ones, d_row_for, d_is_row, d_left_over, d_wanting, d__law_fits, d_law]
def fa0 : List He.Fa := [.glo "_law_town", .glo "_law_able", .glo "_law_draw", .glo "_law_pick", .glo "_law_settle", .glo "is_whole", .glo "is_order", .glo "look_lot", .glo "able_ones", .glo "row_for", .glo "is_row", .glo "left_over", .glo "wanting", .glo "_law_fits", .glo "law", .free "all", .free "any", .free "bool", .free "int", .free "isinstance", .free "len", .free "list", .free "range", .free "set", .free "sorted", .free "sum", .free "tuple", .int "MOST_NUMBER" 99, .int "MOST_PURSES" 8, .int "MOST_SUM" 1000]
def fa1 : List He.Fa := [.glo "BadHouses", .glo "BadOrder", .exc "BadHouses", .exc "BadOrder"]
def fa : List He.Fa := fa0 ++ fa1
def xs : List (PySem.W.Frag → Bool) := []
abbrev Rw : PySem.W.OpenRow := PySem.W.OpenLaw.row PySem.Challenge.rw_manypurses_k19_whole_audits
abbrev hk : PySem.W.Hook := hookX 4 fa fn xs
def ob (s : PySem.W.SharedT) : AlX := obsXG 4 fa fn xs (HandSHeadRun.getT s)
theorem ob_eq (s : PySem.W.SharedT) : ob s = hk.obs s.abs := obsXG_eq (HandSHeadRun.getT_eq s)
def loose0 : List Str := ["__name__", "PurseError", "BadOrder", "BadHouses", "is_whole", "MOST_PURSES", "MOST_SUM", "MOST_NUMBER", "is_order", "look_lot", "row_for", "able_ones", "left_over", "is_row", "wanting", "_law_town", "_law_draw", "_law_pick", "_law_fits", "_law_able", "_law_settle"]
def loose : List Str := loose0
theorem run (w : World) : HandSHeadRun.RunEq Rw (PySem.W.view Rw.prog [24]) hk ob 4000 loose w := by
  intro os
  kernel_rfl
theorem txt_of {K : PySem.W.Frag} {mg : Str → Option Value} {h : Heap} (X : K.In h) (G : h.Ns mainGlobals mg) (c : SaysX fa fn xs K) : Nonempty (Txt K mg) := by
  obtain ⟨e__law_town, f__law_town⟩ := c.1.def_ 0 (d := d__law_town) rfl
  obtain ⟨e__law_able, f__law_able⟩ := c.1.def_ 1 (d := d__law_able) rfl
  obtain ⟨e__law_draw, f__law_draw⟩ := c.1.def_ 2 (d := d__law_draw) rfl
  obtain ⟨e__law_pick, f__law_pick⟩ := c.1.def_ 3 (d := d__law_pick) rfl
  obtain ⟨e__law_settle, f__law_settle⟩ := c.1.def_ 4 (d := d__law_settle) rfl
  obtain ⟨e_is_whole, f_is_whole⟩ := c.1.def_ 5 (d := d_is_whole) rfl
  obtain ⟨e_is_order, f_is_order⟩ := c.1.def_ 6 (d := d_is_order) rfl
  obtain ⟨e_look_lot, f_look_lot⟩ := c.1.def_ 7 (d := d_look_lot) rfl
  obtain ⟨e_able_ones, f_able_ones⟩ := c.1.def_ 8 (d := d_able_ones) rfl
  obtain ⟨e_row_for, f_row_for⟩ := c.1.def_ 9 (d := d_row_for) rfl
  obtain ⟨e_is_row, f_is_row⟩ := c.1.def_ 10 (d := d_is_row) rfl
  obtain ⟨e_left_over, f_left_over⟩ := c.1.def_ 11 (d := d_left_over) rfl
  obtain ⟨e_wanting, f_wanting⟩ := c.1.def_ 12 (d := d_wanting) rfl
  obtain ⟨e__law_fits, f__law_fits⟩ := c.1.def_ 13 (d := d__law_fits) rfl
  obtain ⟨e_law, f_law⟩ := c.1.def_ 14 (d := d_law) rfl
  exact ⟨{ m__law_town := He.glo_ok X G (c.1.fact 0 (f := .glo "_law_town") rfl), m__law_able := He.glo_ok X G (c.1.fact 1 (f := .glo "_law_able") rfl), m__law_draw := He.glo_ok X G (c.1.fact 2 (f := .glo "_law_draw") rfl), m__law_pick := He.glo_ok X G (c.1.fact 3 (f := .glo "_law_pick") rfl), m__law_settle := He.glo_ok X G (c.1.fact 4 (f := .glo "_law_settle") rfl), m_is_whole := He.glo_ok X G (c.1.fact 5 (f := .glo "is_whole") rfl), m_is_order := He.glo_ok X G (c.1.fact 6 (f := .glo "is_order") rfl), m_look_lot := He.glo_ok X G (c.1.fact 7 (f := .glo "look_lot") rfl), m_able_ones := He.glo_ok X G (c.1.fact 8 (f := .glo "able_ones") rfl), m_row_for := He.glo_ok X G (c.1.fact 9 (f := .glo "row_for") rfl), m_is_row := He.glo_ok X G (c.1.fact 10 (f := .glo "is_row") rfl), m_left_over := He.glo_ok X G (c.1.fact 11 (f := .glo "left_over") rfl), m_wanting := He.glo_ok X G (c.1.fact 12 (f := .glo "wanting") rfl), m__law_fits := He.glo_ok X G (c.1.fact 13 (f := .glo "_law_fits") rfl), m_law := He.glo_ok X G (c.1.fact 14 (f := .glo "law") rfl), fr_all := He.free_ok X G (c.1.fact 15 (f := .free "all") rfl), fr_any := He.free_ok X G (c.1.fact 16 (f := .free "any") rfl), fr_bool := He.free_ok X G (c.1.fact 17 (f := .free "bool") rfl), fr_int := He.free_ok X G (c.1.fact 18 (f := .free "int") rfl), fr_isinstance := He.free_ok X G (c.1.fact 19 (f := .free "isinstance") rfl), fr_len := He.free_ok X G (c.1.fact 20 (f := .free "len") rfl), fr_list := He.free_ok X G (c.1.fact 21 (f := .free "list") rfl), fr_range := He.free_ok X G (c.1.fact 22 (f := .free "range") rfl), fr_set := He.free_ok X G (c.1.fact 23 (f := .free "set") rfl), fr_sorted := He.free_ok X G (c.1.fact 24 (f := .free "sorted") rfl), fr_sum := He.free_ok X G (c.1.fact 25 (f := .free "sum") rfl), fr_tuple := He.free_ok X G (c.1.fact 26 (f := .free "tuple") rfl), i_MOST_NUMBER := He.int_ok X G (c.1.fact 27 (f := .int "MOST_NUMBER" 99) rfl), i_MOST_PURSES := He.int_ok X G (c.1.fact 28 (f := .int "MOST_PURSES" 8) rfl), i_MOST_SUM := He.int_ok X G (c.1.fact 29 (f := .int "MOST_SUM" 1000) rfl), c_BadHouses := He.glo_ok X G (c.1.fact 30 (f := .glo "BadHouses") rfl), c_BadOrder := He.glo_ok X G (c.1.fact 31 (f := .glo "BadOrder") rfl), x_BadHouses := exk_of (He.glo_ok X G (c.1.fact 30 (f := .glo "BadHouses") rfl)) (c.1.fact 32 (f := .exc "BadHouses") rfl), x_BadOrder := exk_of (He.glo_ok X G (c.1.fact 31 (f := .glo "BadOrder") rfl)) (c.1.fact 33 (f := .exc "BadOrder") rfl), d__law_town := e__law_town, d__law_able := e__law_able, d__law_draw := e__law_draw, d__law_pick := e__law_pick, d__law_settle := e__law_settle, d_is_whole := e_is_whole, d_is_order := e_is_order, d_look_lot := e_look_lot, d_able_ones := e_able_ones, d_row_for := e_row_for, d_is_row := e_is_row, d_left_over := e_left_over, d_wanting := e_wanting, d__law_fits := e__law_fits, d_law := e_law, F__law_town := f__law_town, F__law_able := f__law_able, F__law_draw := f__law_draw, F__law_pick := f__law_pick, F__law_settle := f__law_settle, F_is_whole := f_is_whole, F_is_order := f_is_order, F_look_lot := f_look_lot, F_able_ones := f_able_ones, F_row_for := f_row_for, F_is_row := f_is_row, F_left_over := f_left_over, F_wanting := f_wanting, F__law_fits := f__law_fits, F_law := f_law }⟩
def spLaw (K : PySem.W.Frag) : Sp := spF K (Ly K) S_law
theorem facts {P : Program} {w : World} {K : PySem.W.Frag} {h : Heap} {mg : Str → Option Value} {f : Addr} (X : K.In h) (G : h.Ns mainGlobals mg) (hfa : mg ("law" : Str) = some (.ref f)) (c : SaysX fa fn xs K) :
    ∃ fd : FuncData, (∀ (s : Shared) (v : Value), BindsTo s fd ⟨[v], []⟩ [("_law_script", v)]) ∧ ∀ base : Heap, K.In base → base.Ns mainGlobals mg → FnOk P w K mg base (CXA P) 6 f fd ["_law_script"] (spLaw K) := by
  obtain ⟨T⟩ := txt_of X G c
  have e := hfa.symm.trans T.m_law
  cases e
  have b := L2.FunD.bindsA (ps := ["_law_script"]) T.F_law fun _ _ _ _ _ _ us hl => match us, hl with | [_], _ => rfl
  exact ⟨T.d_law, fun s v => b s [v] rfl, fun base _ _ => Fl.FnOk.anyW (ok_law T)⟩
end Wk

open PySem PySem.W PySem.Calls PyProof.Rows
set_option maxRecDepth 100000 in
set_option maxHeartbeats 0 in
theorem PySem.Challenge.cw_manypurses_k19_whole_audits_holds : PySem.Challenge.rw_manypurses_k19_whole_audits.Holds := by
  w_on; o_law
  refine HandSHeadRun.head_any (r := OpenLaw.row PySem.Challenge.rw_manypurses_k19_whole_audits) (q := view (OpenLaw.row PySem.Challenge.rw_manypurses_k19_whole_audits).prog [24]) (H := Wk.hk) (ob := Wk.ob) (M := 4000) (loose := Wk.loose) (d := HandSHeadRun.topDef (OpenLaw.row PySem.Challenge.rw_manypurses_k19_whole_audits).prog 24) (kwd := []) Wk.ob_eq
    (by kernel_rfl) (fun s => by kernel_rfl) Wk.run (by kernel_rfl) (by kernel_rfl) (by kernel_rfl) (by rfl) (by first | assumption | decide +kernel) (by decide +kernel) ⟨rfl, rfl, rfl, rfl, rfl, by decide +kernel⟩ ?hw ?hc
  case hw => w_witness2
  case hc =>
    refine L2.walk_ofE (l := PySem.Challenge.rw_manypurses_k19_whole_audits) (n := 63) (k := 6) (x := "_law_script") (CX := Fl.CXA (PySem.Challenge.rw_manypurses_k19_whole_audits).prog) rfl (by decide) (by kernel_rfl) ⟨rfl, by decide, by decide⟩ ?F ?X
    case F =>
      intro w mg fa h Y G hmg0
      obtain ⟨K, KX, c⟩ := Y
      have hmg : mg ("law" : PySem.Str) = some (.ref fa) := by
        have e : (HandSHeadRun.topDef (OpenLaw.row PySem.Challenge.rw_manypurses_k19_whole_audits).prog 24).name = ("law" : PySem.Str) := by kernel_rfl
        rw [← e]
        exact hmg0
      obtain ⟨fd, hb, hF⟩ := Wk.facts (P := (PySem.Challenge.rw_manypurses_k19_whole_audits).prog) (w := w) KX G hmg c
      exact ⟨K, fd, Wk.spLaw K, KX, hb, fun H a ns hl hO hS => Fl.law_end (Fl.plain ns hl) hO hS, hF⟩
    case X => exact Fl.cxa_none
