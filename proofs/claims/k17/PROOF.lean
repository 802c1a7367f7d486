import PyProof.Rows.All
import Wide.All
import OpenK.AllK
import Wide.FinOn
import HandS.ForMost
import HandS.ForExc
import HandS.Defaults
import HandS.MakeKwOnly
import HandS.CallSlots
import HandS.Style
import HandS.TupAny
import HandS.TupMul
import HandS.TupLe
import HandS.Deep
import PyProof.Rows.InDataRows
import HandS.ExcInit
import HandS.ExcIs
import HandS.ExcValue
import HandS.TryMany
import HandS.IsInst
import KE.KExcIs
import HandS.Small
import HandS.FStr
import HandS.More
import KE.DataFind
import HandS.SetKeys
import HandS.Iter
import PyProof.DictMoreH
import HandS.SetFor
import HandS.TupSets
import KE.SortData
import HandS.Strs
import HandS.Conv
import HandS.HeadHook2
import HandS.HeadEnd
import HandS.Exc
import HandS.Comp
import KE.GoesRaise
import KE.KAsSuite
import HandS.Text
import HandS.RaiseMore
import HandS.SetBool
import PyProof.Rows.StrSplitAre
import HandS.Head2
import PySem.Challenge.RW_manypurses_k17_whole_texts
set_option Elab.async false
set_option linter.all false
set_option pp.maxSteps 400
set_option maxRecDepth 100000
set_option maxHeartbeats 4000000
set_option synthInstance.maxSize 100000
set_option synthInstance.maxHeartbeats 4000000
/-! A functional layer: Python values as trees, the store as a list of objects; each rule says that a construct of the text does what a plain function of these does. -/
namespace Fl
open PySem PySem.Spec L2
/-- values: tuples are trees, lists, dicts and instances are places of the store; rol: a list that nobody changes -/
inductive D where
  | non | bl (b : Bool) | int (i : Int) | str (s : Str) | tup (ds : List D) | rol (ds : List D) | ref (n : Nat)
/-- objects of the store -/
inductive MO where
  | lst (ds : List D)
  | dk (kvs : List (Key × D)) | dt (kvs : List (List Key × D))
  | fk (kvs : List (Key × D)) | ft (kvs : List (List Key × D))
  /-- keys: tuples of tuples of whole numbers -/
  | dn (kvs : List (List (List Int) × D)) | fn (kvs : List (List (List Int) × D))
  | ins (c : Nat) (fs : List (Nat × D))
  | exc (c : Nat) (f : Option (Nat × D))
abbrev Mem := List MO
structure Lay where
  nm : Nat → Str
  cls : Nat → Addr
  nc : Nat
  inj : ∀ i j, nm i = nm j → i = j
def WrT (K : PySem.W.Frag) (t : Addr) (vs : List V) : Prop :=
  ∃ (o : Obj) (its : Array Value) (n : Nat), K.lookup t = some o ∧ o.cls = .type "tuple" ∧ o.data = .seq its n ∧ its.size ≤ sizeLine ∧ Vals vs its.toList
def WrL (K : PySem.W.Frag) (t : Addr) (vs : List V) : Prop :=
  ∃ (o : Obj) (its : Array Value) (n : Nat), K.lookup t = some o ∧ o.cls = .type "list" ∧ o.dict = none ∧ o.data = .seq its n ∧ its.size ≤ sizeLine ∧ Vals vs its.toList
def TupAt (K : PySem.W.Frag) (H : Hp) (t : Addr) (vs : List V) : Prop := H t = some (.tup vs) ∨ (vs = [] ∧ WrT K t vs)
def RolAt (K : PySem.W.Frag) (H : Hp) (t : Addr) (vs : List V) : Prop := (∃ o, H t = some (.frz o (.lst vs))) ∨ WrL K t vs
theorem TupAt.sq {K : PySem.W.Frag} {H : Hp} {t : Addr} {vs : List V} (h : TupAt K H t vs) : SqT K H t vs := by
  rcases h with h | ⟨_, h⟩
  · exact .inl (.inl h)
  · exact .inr h
theorem RolAt.sq {K : PySem.W.Frag} {H : Hp} {t : Addr} {vs : List V} (h : RolAt K H t vs) : SqL K H t vs := by
  rcases h with ⟨o, h⟩ | h
  · exact .inl (.inr ⟨o, h⟩)
  · exact .inr h
mutual
def Rep (K : PySem.W.Frag) (α : List Addr) (H : Hp) : D → V → Prop
  | .non, v => v = .non
  | .bl b, v => v = .bl b
  | .int i, v => v = .int i
  | .str s, v => v = .str s
  | .tup ds, v => ∃ t vs, v = .ref t ∧ TupAt K H t vs ∧ Reps K α H ds vs
  | .rol ds, v => ∃ t vs, v = .ref t ∧ RolAt K H t vs ∧ Reps K α H ds vs
  | .ref n, v => ∃ a, α[n]? = some a ∧ v = .ref a
def Reps (K : PySem.W.Frag) (α : List Addr) (H : Hp) : List D → List V → Prop
  | [], vs => vs = []
  | d :: ds, vs => ∃ x xs, vs = x :: xs ∧ Rep K α H d x ∧ Reps K α H ds xs
end
/-- what a step keeps: places are added, what stands outside them stays -/
structure Le (α : List Addr) (H : Hp) (α' : List Addr) (H' : Hp) : Prop where
  ext : ∃ β, α' = α ++ β ∧ ∀ b ∈ β, H b = none
  keep : ∀ a o, H a = some o → a ∉ α → H' a = some o
  dom : ∀ a, H a ≠ none → H' a ≠ none
  tups : ∀ a xs, H a = some (.tup xs) → H' a = some (.tup xs)
  rols : ∀ a o u, H a = some (.frz o u) → H' a = some (.frz o u)
theorem Le.refl (α : List Addr) (H : Hp) : Le α H α H := ⟨⟨[], by simp, by simp⟩, fun _ _ h _ => h, fun _ h => h, fun _ _ h => h, fun _ _ _ h => h⟩
theorem Le.trans {α α1 α2 : List Addr} {H H1 H2 : Hp} (a : Le α H α1 H1) (b : Le α1 H1 α2 H2) : Le α H α2 H2 := by
  obtain ⟨β, e, f⟩ := a.ext
  obtain ⟨γ, e', f'⟩ := b.ext
  refine ⟨⟨β ++ γ, by rw [e', e, List.append_assoc], fun x hx => ?_⟩, fun x o h n => ?_, fun x h => b.dom x (a.dom x h), fun x xs h => b.tups x xs (a.tups x xs h), fun x o xs h => b.rols x o xs (a.rols x o xs h)⟩
  · rcases List.mem_append.mp hx with h | h
    · exact f x h
    · have z := f' x h
      cases q : H x with
      | none => rfl
      | some o => exact absurd z (a.dom x (by rw [q]; exact fun z => nomatch z))
  · refine b.keep x o (a.keep x o h n) fun hm => ?_
    rw [e] at hm
    rcases List.mem_append.mp hm with q | q
    · exact n q
    · rw [f x q] at h; cases h
/-- the part of it that values lean on -/
structure Lw (α : List Addr) (H : Hp) (α' : List Addr) (H' : Hp) : Prop where
  ext : ∃ β, α' = α ++ β
  tups : ∀ a xs, H a = some (.tup xs) → H' a = some (.tup xs)
  rols : ∀ a o xs, H a = some (.frz o (.lst xs)) → H' a = some (.frz o (.lst xs))
theorem Le.lw {α α' : List Addr} {H H' : Hp} (l : Le α H α' H') : Lw α H α' H' := ⟨let ⟨β, e, _⟩ := l.ext; ⟨β, e⟩, l.tups, fun a o xs h => l.rols a o _ h⟩
theorem Lw.get {α α' : List Addr} {H H' : Hp} (l : Lw α H α' H') {n : Nat} {a : Addr} (h : α[n]? = some a) : α'[n]? = some a := by
  obtain ⟨β, rfl⟩ := l.ext
  obtain ⟨hn, _⟩ := List.getElem?_eq_some_iff.mp h
  rw [List.getElem?_append_left hn]
  exact h
theorem Le.get {α α' : List Addr} {H H' : Hp} (l : Le α H α' H') {n : Nat} {a : Addr} (h : α[n]? = some a) : α'[n]? = some a := l.lw.get h
section
variable {K : PySem.W.Frag} {α α' : List Addr} {H H' : Hp}
theorem TupAt.lw {t : Addr} {vs : List V} (l : Lw α H α' H') (h : TupAt K H t vs) : TupAt K H' t vs := by
  rcases h with h | h
  · exact .inl (l.tups _ _ h)
  · exact .inr h
theorem RolAt.lw {t : Addr} {vs : List V} (l : Lw α H α' H') (h : RolAt K H t vs) : RolAt K H' t vs := by
  rcases h with ⟨o, h⟩ | h
  · exact .inl ⟨o, l.rols _ _ _ h⟩
  · exact .inr h
mutual
theorem Rep.lw (l : Lw α H α' H') : ∀ {d : D} {v : V}, Rep K α H d v → Rep K α' H' d v
  | .non, _, h => by unfold Rep at h ⊢; exact h
  | .bl _, _, h => by unfold Rep at h ⊢; exact h
  | .int _, _, h => by unfold Rep at h ⊢; exact h
  | .str _, _, h => by unfold Rep at h ⊢; exact h
  | .tup ds, _, h => by
    unfold Rep at h ⊢
    obtain ⟨t, vs, e, ht, hr⟩ := h
    exact ⟨t, vs, e, ht.lw l, Reps.lw l hr⟩
  | .rol ds, _, h => by
    unfold Rep at h ⊢
    obtain ⟨t, vs, e, ht, hr⟩ := h
    exact ⟨t, vs, e, ht.lw l, Reps.lw l hr⟩
  | .ref n, _, h => by
    unfold Rep at h ⊢
    obtain ⟨a, e, r⟩ := h
    exact ⟨a, l.get e, r⟩
theorem Reps.lw (l : Lw α H α' H') : ∀ {ds : List D} {vs : List V}, Reps K α H ds vs → Reps K α' H' ds vs
  | [], _, h => by unfold Reps at h ⊢; exact h
  | d :: ds, _, h => by
    unfold Reps at h ⊢
    obtain ⟨x, xs, e, h1, h2⟩ := h
    exact ⟨x, xs, e, Rep.lw l h1, Reps.lw l h2⟩
end
theorem TupAt.le {t : Addr} {vs : List V} (l : Le α H α' H') (h : TupAt K H t vs) : TupAt K H' t vs := h.lw l.lw
theorem RolAt.le {t : Addr} {vs : List V} (l : Le α H α' H') (h : RolAt K H t vs) : RolAt K H' t vs := h.lw l.lw
theorem Rep.le (l : Le α H α' H') {d : D} {v : V} (h : Rep K α H d v) : Rep K α' H' d v := h.lw l.lw
theorem Reps.le (l : Le α H α' H') {ds : List D} {vs : List V} (h : Reps K α H ds vs) : Reps K α' H' ds vs := h.lw l.lw
theorem Reps.length : ∀ {ds : List D} {vs : List V}, Reps K α H ds vs → ds.length = vs.length
  | [], _, h => by unfold Reps at h; subst h; rfl
  | d :: ds, _, h => by
    unfold Reps at h
    obtain ⟨x, xs, rfl, _, h2⟩ := h
    rw [List.length_cons, List.length_cons, Reps.length h2]
theorem reps_nil : Reps K α H [] [] := by unfold Reps; rfl
theorem reps_cons {d : D} {ds : List D} {v : V} {vs : List V} (h : Rep K α H d v) (h2 : Reps K α H ds vs) : Reps K α H (d :: ds) (v :: vs) := by
  unfold Reps; exact ⟨v, vs, rfl, h, h2⟩
theorem Reps.append : ∀ {ds es : List D} {vs ws : List V}, Reps K α H ds vs → Reps K α H es ws → Reps K α H (ds ++ es) (vs ++ ws)
  | [], _, _, _, h, h' => by unfold Reps at h; subst h; exact h'
  | d :: ds, _, _, _, h, h' => by
    unfold Reps at h
    obtain ⟨x, xs, rfl, h1, h2⟩ := h
    exact reps_cons h1 (Reps.append h2 h')
theorem Reps.at {ds : List D} {vs : List V} (h : Reps K α H ds vs) {i : Nat} {d : D} (e : ds[i]? = some d) : ∃ v, vs[i]? = some v ∧ Rep K α H d v := by
  induction ds generalizing vs i with
  | nil => simp at e
  | cons a r ih =>
    unfold Reps at h
    obtain ⟨x, xs, rfl, h1, h2⟩ := h
    cases i with
    | zero =>
      have q : a = d := by simpa using e
      subst q
      exact ⟨x, rfl, h1⟩
    | succ i =>
      obtain ⟨v, e1, e2⟩ := ih h2 (i := i) (by simpa using e)
      exact ⟨v, by simpa using e1, e2⟩
theorem Reps.take : ∀ {ds : List D} {vs : List V} (n : Nat), Reps K α H ds vs → Reps K α H (ds.take n) (vs.take n)
  | _, _, 0, _ => by simp; exact reps_nil
  | [], _, n + 1, h => by unfold Reps at h; subst h; simp; exact reps_nil
  | d :: ds, _, n + 1, h => by
    unfold Reps at h
    obtain ⟨x, xs, rfl, h1, h2⟩ := h
    exact reps_cons h1 (Reps.take n h2)
theorem Reps.drop : ∀ {ds : List D} {vs : List V} (n : Nat), Reps K α H ds vs → Reps K α H (ds.drop n) (vs.drop n)
  | _, _, 0, h => h
  | [], _, n + 1, h => by unfold Reps at h; subst h; simp; exact reps_nil
  | d :: ds, _, n + 1, h => by
    unfold Reps at h
    obtain ⟨x, xs, rfl, h1, h2⟩ := h
    exact Reps.drop n h2
theorem Reps.set : ∀ {ds : List D} {vs : List V} (n : Nat) {d : D} {v : V}, Reps K α H ds vs → Rep K α H d v → Reps K α H (ds.set n d) (vs.set n v)
  | [], _, n, _, _, h, _ => by unfold Reps at h; subst h; simp; exact reps_nil
  | d :: ds, _, 0, _, _, h, r => by
    unfold Reps at h
    obtain ⟨x, xs, rfl, h1, h2⟩ := h
    exact reps_cons r h2
  | d :: ds, _, n + 1, _, _, h, r => by
    unfold Reps at h
    obtain ⟨x, xs, rfl, h1, h2⟩ := h
    exact reps_cons h1 (Reps.set n h2 r)
theorem Reps.rep : ∀ {ds : List D} {vs : List V} (k : Nat), Reps K α H ds vs → Reps K α H (List.replicate k ds).flatten (List.replicate k vs).flatten
  | _, _, 0, _ => reps_nil
  | ds, vs, k + 1, h => by
    rw [List.replicate_succ, List.replicate_succ, List.flatten_cons, List.flatten_cons]
    exact h.append (Reps.rep k h)
theorem reps_int {ns : List Int} : Reps K α H (ns.map D.int) (ns.map V.int) := by
  induction ns with
  | nil => exact reps_nil
  | cons n r ih => exact reps_cons (by unfold Rep; rfl) ih
theorem Reps.bls : ∀ {ns : List Bool} {vs : List V}, Reps K α H (ns.map D.bl) vs → vs = ns.map V.bl
  | [], _, h => by rw [List.map_nil] at h; unfold Reps at h; exact h
  | n :: r, _, h => by
    rw [List.map_cons] at h
    unfold Reps at h
    obtain ⟨x, xs, rfl, h1, h2⟩ := h
    unfold Rep at h1
    rw [h1, Reps.bls h2]; rfl
end
end Fl
namespace Fl
open PySem PySem.Spec L2
/-- dict entries -/
def KvR {κ : Type} (K : PySem.W.Frag) (α : List Addr) (H : Hp) : List (κ × D) → List (κ × V) → Prop := Paired fun p q => p.1 = q.1 ∧ Rep K α H p.2 q.2
def FsR (K : PySem.W.Frag) (L : Lay) (α : List Addr) (H : Hp) : List (Nat × D) → List (Str × V) → Prop := Paired fun p q => q.1 = L.nm p.1 ∧ Rep K α H p.2 q.2
/-- the exception object at a: its class, its own dict -/
def ExH (cls : Value) (d : Option Addr) (a : Addr) : HO := .ext fun h => ∃ (oe : Obj) (vs : Array Value), h.get? a = some oe ∧ Zc cls d oe ∧ oe.data = .fields vs
def XRep (K : PySem.W.Frag) (L : Lay) (α : List Addr) (H : Hp) (c : Nat) (f : Option (Nat × D)) (cls : Value) (d : Option Addr) : Prop :=
  cls = .ref (L.cls c) ∧ match f with
    | none => d = none
    | some p => ∃ dd v, d = some dd ∧ H dd = some (.xd [(L.nm p.1, v)]) ∧ Rep K α H p.2 v
/-! ### keys that are tuples of tuples of whole numbers -/
abbrev NK := List (List Int)
def NK.hash (k : NK) : Int := reduceHash (Builtin.Tuple.tupleHashOf (k.map fun r => reduceHash (Builtin.Tuple.tupleHashOf (r.map hashInt))))
/-- the tuple at t is the key k -/
def NAt (H : Hp) (k : NK) (t : Addr) : Prop := ∃ ts : List Addr, H t = some (.tup (ts.map V.ref)) ∧ Paired (fun (r : List Int) (u : Addr) => H u = some (.tup (r.map V.int))) k ts
/-- the dict at a, its keys' tuples told by their places -/
def NDict (a : Addr) (vs : List (NK × Addr × V)) : HO := .ext fun h => (a == sysModules) = false ∧ vs.length ≤ sizeLine ∧
  ∃ ws : List (NK × Addr × Value), Paired (fun (p : NK × Addr × V) (q : NK × Addr × Value) => p.1 = q.1 ∧ p.2.1 = q.2.1 ∧ RelV p.2.2 q.2.2) vs ws ∧
  ∃ o es ep, h.get? a = some o ∧ o.ExactDict ∧ o.data = .dict es ep ∧ es.toList = ws.map (fun x => (⟨x.1.hash, .ref x.2.1, x.2.2⟩ : DictEntry)) ∧ (ws.map (·.1)).Nodup
def NKR (K : PySem.W.Frag) (α : List Addr) (H : Hp) : List (NK × D) → List (NK × Addr × V) → Prop := Paired fun p q => p.1 = q.1 ∧ NAt H p.1 q.2.1 ∧ Rep K α H p.2 q.2.2
def RepO (K : PySem.W.Frag) (L : Lay) (α : List Addr) (H : Hp) (a : Addr) : MO → Prop
  | .lst ds => ∃ vs, H a = some (.lst vs) ∧ Reps K α H ds vs
  | .dk kvs => ∃ vs, H a = some (.dK vs) ∧ KvR K α H kvs vs
  | .dt kvs => ∃ vs, H a = some (.dT vs) ∧ KvR K α H kvs vs
  | .fk kvs => ∃ o vs, H a = some (.frz o (.dK vs)) ∧ KvR K α H kvs vs
  | .ft kvs => ∃ o vs, H a = some (.frz o (.dT vs)) ∧ KvR K α H kvs vs
  | .dn kvs => ∃ vs, H a = some (NDict a vs) ∧ NKR K α H kvs vs
  | .fn kvs => ∃ o vs, H a = some (.frz o (NDict a vs)) ∧ NKR K α H kvs vs
  | .ins c fs => ∃ dx vs, H a = some (.ins (L.cls c) dx vs) ∧ FsR K L α H fs vs ∧ c < L.nc
  | .exc c f => ∃ cls d, H a = some (ExH cls d a) ∧ XRep K L α H c f cls d ∧ ∀ dd, d = some dd → dd ∉ α
/-- an object of ours: neither a tuple nor a locked list -/
def Ours : HO → Prop
  | .tup _ => False
  | .frz _ (.lst _) => False
  | .xd _ => False
  | .own _ => False
  | _ => True
theorem RepO.ours {K : PySem.W.Frag} {L : Lay} {α : List Addr} {H : Hp} {a : Addr} : ∀ {o : MO}, RepO K L α H a o → ∃ u, H a = some u ∧ Ours u
  | .lst _, ⟨vs, h, _⟩ => ⟨_, h, trivial⟩
  | .dk _, ⟨vs, h, _⟩ => ⟨_, h, trivial⟩
  | .dt _, ⟨vs, h, _⟩ => ⟨_, h, trivial⟩
  | .fk _, ⟨o, vs, h, _⟩ => ⟨_, h, trivial⟩
  | .ft _, ⟨o, vs, h, _⟩ => ⟨_, h, trivial⟩
  | .dn _, ⟨vs, h, _⟩ => ⟨_, h, trivial⟩
  | .fn _, ⟨o, vs, h, _⟩ => ⟨_, h, trivial⟩
  | .ins _ _, ⟨dx, vs, h, _⟩ => ⟨_, h, trivial⟩
  | .exc _ _, ⟨c, d, h, _⟩ => ⟨_, h, trivial⟩
structure Rel (K : PySem.W.Frag) (L : Lay) (α : List Addr) (M : Mem) (H : Hp) : Prop where
  len : α.length = M.length
  nd : α.Nodup
  ob : ∀ (n : Nat) (o : MO) (a : Addr), M[n]? = some o → α[n]? = some a → RepO K L α H a o
section
variable {K : PySem.W.Frag} {L : Lay} {α α' : List Addr} {M : Mem} {H H' : Hp}
theorem KvR.lw {κ : Type} (l : Lw α H α' H') {ks : List (κ × D)} {vs : List (κ × V)} (h : KvR K α H ks vs) : KvR K α' H' ks vs := by
  induction h with
  | nil => exact .nil
  | cons p _ ih => exact .cons ⟨p.1, p.2.lw l⟩ ih
theorem NAt.lw (l : Lw α H α' H') {k : NK} {t : Addr} (h : NAt H k t) : NAt H' k t := by
  obtain ⟨ts, e, q⟩ := h
  exact ⟨ts, l.tups _ _ e, Paired.mapP q fun _ _ z => l.tups _ _ z⟩
theorem NKR.lw (l : Lw α H α' H') {ks : List (NK × D)} {vs : List (NK × Addr × V)} (h : NKR K α H ks vs) : NKR K α' H' ks vs := by
  induction h with
  | nil => exact .nil
  | cons p _ ih => exact .cons ⟨p.1, p.2.1.lw l, p.2.2.lw l⟩ ih
theorem FsR.lw (l : Lw α H α' H') {ks : List (Nat × D)} {vs : List (Str × V)} (h : FsR K L α H ks vs) : FsR K L α' H' ks vs := by
  induction h with
  | nil => exact .nil
  | cons p _ ih => exact .cons ⟨p.1, p.2.lw l⟩ ih
theorem KvR.le {κ : Type} (l : Le α H α' H') {ks : List (κ × D)} {vs : List (κ × V)} (h : KvR K α H ks vs) : KvR K α' H' ks vs := h.lw l.lw
theorem NKR.le (l : Le α H α' H') {ks : List (NK × D)} {vs : List (NK × Addr × V)} (h : NKR K α H ks vs) : NKR K α' H' ks vs := h.lw l.lw
theorem FsR.le (l : Le α H α' H') {ks : List (Nat × D)} {vs : List (Str × V)} (h : FsR K L α H ks vs) : FsR K L α' H' ks vs := h.lw l.lw
theorem Rel.at (r : Rel K L α M H) {n : Nat} {o : MO} (h : M[n]? = some o) : ∃ a, α[n]? = some a ∧ RepO K L α H a o := by
  obtain ⟨hn, _⟩ := List.getElem?_eq_some_iff.mp h
  have hn' : n < α.length := by rw [r.len]; exact hn
  exact ⟨α[n], List.getElem?_eq_getElem hn', r.ob n o _ h (List.getElem?_eq_getElem hn')⟩
theorem Rel.mem (r : Rel K L α M H) {a : Addr} (h : a ∈ α) : ∃ u, H a = some u ∧ Ours u := by
  obtain ⟨n, hn, rfl⟩ := List.mem_iff_getElem.mp h
  have hn' : n < M.length := by rw [← r.len]; exact hn
  exact (r.ob n _ _ (List.getElem?_eq_getElem hn') (List.getElem?_eq_getElem hn)).ours
theorem Rel.inj (r : Rel K L α M H) {i j : Nat} {a : Addr} (h : α[i]? = some a) (h' : α[j]? = some a) : i = j := nd_ix r.nd h h'
theorem XRep.lw (l : Lw α H α' H') {c : Nat} {f : Option (Nat × D)} {cls : Value} {d : Option Addr} (h : XRep K L α H c f cls d) (hx : ∀ dd fs, d = some dd → H dd = some (.xd fs) → H' dd = some (.xd fs)) : XRep K L α' H' c f cls d := by
  refine ⟨h.1, ?_⟩
  have h2 := h.2
  cases f with
  | none => exact h2
  | some p =>
    obtain ⟨dd, v, e, hd, hr⟩ := h2
    exact ⟨dd, v, e, hx _ _ e hd, hr.lw l⟩
theorem XRep.out (r : Rel K L α M H) {c : Nat} {f : Option (Nat × D)} {cls : Value} {d : Option Addr} (h : XRep K L α H c f cls d) : ∀ dd, d = some dd → dd ∉ α := fun dd e hm => by
  have h2 := h.2
  cases f with
  | none => rw [h2] at e; cases e
  | some p =>
    obtain ⟨d2, v, e2, hd, _⟩ := h2
    rw [e] at e2; cases e2
    obtain ⟨u, hu, ou⟩ := r.mem hm
    rw [hd] at hu; cases hu
    exact ou
theorem RepO.stayW {a : Addr} (l : Lw α H α' H') (e : H' a = H a) (hx : ∀ dd fs, dd ∉ α → H dd = some (.xd fs) → H' dd = some (.xd fs)) (hb : ∀ b, H b ≠ none → b ∈ α' → b ∈ α) : ∀ {o : MO}, RepO K L α H a o → RepO K L α' H' a o
  | .lst _, ⟨vs, h, q⟩ => ⟨vs, e.trans h, q.lw l⟩
  | .dk _, ⟨vs, h, q⟩ => ⟨vs, e.trans h, q.lw l⟩
  | .dt _, ⟨vs, h, q⟩ => ⟨vs, e.trans h, q.lw l⟩
  | .fk _, ⟨o, vs, h, q⟩ => ⟨o, vs, e.trans h, q.lw l⟩
  | .ft _, ⟨o, vs, h, q⟩ => ⟨o, vs, e.trans h, q.lw l⟩
  | .dn _, ⟨vs, h, q⟩ => ⟨vs, e.trans h, q.lw l⟩
  | .fn _, ⟨o, vs, h, q⟩ => ⟨o, vs, e.trans h, q.lw l⟩
  | .ins _ _, ⟨dx, vs, h, q, z⟩ => ⟨dx, vs, e.trans h, q.lw l, z⟩
  | .exc c f, ⟨cls, d, h, q, x⟩ => ⟨cls, d, e.trans h, q.lw l (fun dd fs ed => hx dd fs (x dd ed)), fun dd ed hm => by
      have q2 := q.2
      cases f with
      | none => rw [q2] at ed; cases ed
      | some p =>
        obtain ⟨d2, v, e2, hd, _⟩ := q2
        rw [ed] at e2; cases e2
        exact x dd ed (hb dd (by rw [hd]; exact fun z => nomatch z) hm)⟩
theorem RepO.stay {a : Addr} (l : Le α H α' H') (r : Rel K L α M H) (e : H' a = H a) (hb : ∀ b, H b ≠ none → b ∈ α' → b ∈ α) {o : MO} (h : RepO K L α H a o) : RepO K L α' H' a o := h.stayW l.lw e (fun dd fs n z => l.keep _ _ z n) hb
/-- a new tuple -/
theorem Le.tup {p : Addr} {vs : List V} (n : H p = none) : Le α H α (upd H p (.tup vs)) := by
  refine ⟨⟨[], by simp, by simp⟩, fun a o h _ => ?_, fun a h => ?_, fun a xs h => ?_, fun a o xs h => ?_⟩
  · rw [upd_ne (ne_of_none h n)]; exact h
  · by_cases q : a = p
    · rw [q, upd_same]; exact fun z => nomatch z
    · rw [upd_ne q]; exact h
  · rw [upd_ne (ne_of_none h n)]; exact h
  · rw [upd_ne (ne_of_none h n)]; exact h
theorem Le.new {p : Addr} {o : HO} (n : H p = none) : Le α H (α ++ [p]) (upd H p o) := by
  refine ⟨⟨[p], rfl, fun b hb => by rw [List.mem_singleton.mp hb]; exact n⟩, fun a o h _ => ?_, fun a h => ?_, fun a xs h => ?_, fun a o xs h => ?_⟩
  · rw [upd_ne (ne_of_none h n)]; exact h
  · by_cases q : a = p
    · rw [q, upd_same]; exact fun z => nomatch z
    · rw [upd_ne q]; exact h
  · rw [upd_ne (ne_of_none h n)]; exact h
  · rw [upd_ne (ne_of_none h n)]; exact h
theorem Le.write {p : Addr} {o u : HO} (hm : p ∈ α) (hu : H p = some u) (ou : Ours u) (nf : ∀ o' u', u ≠ .frz o' u' := by intro _ _ z; cases z) : Le α H α (upd H p o) := by
  refine ⟨⟨[], by simp, by simp⟩, fun a o h hn => ?_, fun a h => ?_, fun a xs h => ?_, fun a o xs h => ?_⟩
  · have ne : a ≠ p := fun z => hn (by rw [z]; exact hm)
    rw [upd_ne ne]; exact h
  · by_cases q : a = p
    · rw [q, upd_same]; exact fun z => nomatch z
    · rw [upd_ne q]; exact h
  · have ne : a ≠ p := fun z => by rw [z, hu] at h; cases h; exact ou
    rw [upd_ne ne]; exact h
  · have ne : a ≠ p := fun z => by rw [z, hu] at h; cases h; exact nf _ _ rfl
    rw [upd_ne ne]; exact h
theorem Lw.write {p : Addr} {o u : HO} (hu : H p = some u) (ou : Ours u) : Lw α H α (upd H p o) := by
  refine ⟨⟨[], by simp⟩, fun a xs h => ?_, fun a o xs h => ?_⟩
  · have ne : a ≠ p := fun z => by rw [z, hu] at h; cases h; exact ou
    rw [upd_ne ne]; exact h
  · have ne : a ≠ p := fun z => by rw [z, hu] at h; cases h; exact ou
    rw [upd_ne ne]; exact h
theorem Rel.tup (r : Rel K L α M H) {p : Addr} {vs : List V} (n : H p = none) : Rel K L α M (upd H p (.tup vs)) := by
  refine ⟨r.len, r.nd, fun i o a h1 h2 => (r.ob i o a h1 h2).stay (Le.tup n) r ?_ fun _ _ h => h⟩
  obtain ⟨u, hu, _⟩ := (r.ob i o a h1 h2).ours
  rw [upd_ne (ne_of_none hu n)]
theorem Rel.new (r : Rel K L α M H) {p : Addr} {ho : HO} {o : MO} (n : H p = none) (q : RepO K L (α ++ [p]) (upd H p ho) p o) : Rel K L (α ++ [p]) (M ++ [o]) (upd H p ho) := by
  have np : p ∉ α := fun hm => by
    obtain ⟨u, hu, _⟩ := r.mem hm
    rw [n] at hu; cases hu
  refine ⟨by rw [List.length_append, List.length_append, r.len]; rfl, List.nodup_append.mpr ⟨r.nd, by simp, fun a ha b hb => by rw [List.mem_singleton.mp hb]; exact fun z => np (z ▸ ha)⟩, fun i x a h1 h2 => ?_⟩
  by_cases hi : i < M.length
  · rw [List.getElem?_append_left hi] at h1
    rw [List.getElem?_append_left (by rw [r.len]; exact hi)] at h2
    have q' := r.ob i x a h1 h2
    obtain ⟨u, hu, _⟩ := q'.ours
    refine q'.stay (Le.new n) r (by rw [upd_ne (ne_of_none hu n)]) fun b hb hm => ?_
    rcases List.mem_append.mp hm with z | z
    · exact z
    · rw [List.mem_singleton.mp z] at hb; exact absurd n hb
  · rw [List.getElem?_append_right (by omega)] at h1
    rw [List.getElem?_append_right (by rw [r.len]; omega), r.len] at h2
    have e : i - M.length = 0 := by
      cases z : i - M.length with
      | zero => rfl
      | succ k => rw [z] at h1; simp at h1
    rw [e] at h1 h2
    have e1 : o = x := by simpa using h1
    have e2 : p = a := by simpa using h2
    subst e1 e2
    exact q
theorem Rel.write (r : Rel K L α M H) {n : Nat} {p : Addr} {ho : HO} {o : MO} (hp : α[n]? = some p) (q : RepO K L α (upd H p ho) p o) : Rel K L α (M.set n o) (upd H p ho) := by
  have hm : p ∈ α := List.mem_of_getElem? hp
  obtain ⟨u, hu, ou⟩ := r.mem hm
  refine ⟨by rw [List.length_set, r.len], r.nd, fun i x a h1 h2 => ?_⟩
  by_cases hi : i = n
  · subst hi
    rw [hp] at h2; cases h2
    have hn : i < M.length := by
      rw [← r.len]
      exact (List.getElem?_eq_some_iff.mp hp).1
    rw [List.getElem?_set_self hn] at h1
    cases h1
    exact q
  · rw [List.getElem?_set_ne (Ne.symm hi)] at h1
    have ne : a ≠ p := fun z => hi (r.inj (z ▸ h2) hp)
    exact (r.ob i x a h1 h2).stayW (Lw.write hu ou) (by rw [upd_ne ne]) (fun dd fs nm z => by
      have ne2 : dd ≠ p := fun e => nm (by rw [e]; exact hm)
      rw [upd_ne ne2]; exact z) fun _ _ h => h
end
/-- slots -/
abbrev Sl := List (Option D)
def Slots (K : PySem.W.Frag) (α : List Addr) (H : Hp) (s : Sl) (σ : St) : Prop := s.length = σ.length ∧ ∀ (i : Nat) (d : D), s[i]? = some (some d) → ∃ v, σ[i]? = some (some v) ∧ Rep K α H d v
theorem Slots.lw {K : PySem.W.Frag} {α α' : List Addr} {H H' : Hp} (l : Lw α H α' H') {s : Sl} {σ : L2.St} (h : Slots K α H s σ) : Slots K α' H' s σ := ⟨h.1, fun i d e => let ⟨v, h1, h2⟩ := h.2 i d e; ⟨v, h1, h2.lw l⟩⟩
theorem Slots.le {K : PySem.W.Frag} {α α' : List Addr} {H H' : Hp} (l : Le α H α' H') {s : Sl} {σ : St} (h : Slots K α H s σ) : Slots K α' H' s σ := ⟨h.1, fun i d e => let ⟨v, h1, h2⟩ := h.2 i d e; ⟨v, h1, h2.le l⟩⟩
theorem Slots.set {K : PySem.W.Frag} {α : List Addr} {H : Hp} {s : Sl} {σ : St} (h : Slots K α H s σ) (i : Nat) {d : D} {v : V} (r : Rep K α H d v) : Slots K α H (s.set i (some d)) (σ.set i (some v)) := by
  refine ⟨by rw [List.length_set, List.length_set, h.1], fun j x e => ?_⟩
  by_cases hj : i = j
  · subst hj
    by_cases hi : i < s.length
    · rw [List.getElem?_set_self hi] at e
      cases e
      exact ⟨v, by rw [List.getElem?_set_self (by rw [← h.1]; exact hi)], r⟩
    · rw [List.getElem?_eq_none (by rw [List.length_set]; omega)] at e; cases e
  · rw [List.getElem?_set_ne hj] at e ⊢
    exact h.2 j x e
theorem Slots.del {K : PySem.W.Frag} {α : List Addr} {H : Hp} {s : Sl} {σ : St} (h : Slots K α H s σ) (i : Nat) (v : Option V) : Slots K α H (s.set i none) (σ.set i v) := by
  refine ⟨by rw [List.length_set, List.length_set, h.1], fun j x e => ?_⟩
  by_cases hj : i = j
  · subst hj
    by_cases hi : i < s.length
    · rw [List.getElem?_set_self hi] at e; cases e
    · rw [List.getElem?_eq_none (by rw [List.length_set]; omega)] at e; cases e
  · rw [List.getElem?_set_ne hj] at e ⊢
    exact h.2 j x e
end Fl
namespace Fl
open PySem PySem.Spec L2
/-- what a step gives: a value and a store, or an error of the class c, or nothing that is told -/
inductive Res (A : Type) where
  | ok (a : A) (M : Mem) | exc (c : Nat) (f : Option (Nat × D)) (M : Mem) | bad
def Res.bind {A B : Type} (r : Res A) (g : A → Mem → Res B) : Res B := match r with
  | .ok a M => g a M
  | .exc c f M => .exc c f M
  | .bad => .bad
inductive SR where
  | nx (s : Sl) (M : Mem) | rt (d : D) (M : Mem) | bk (s : Sl) (M : Mem) | ct (s : Sl) (M : Mem) | exc (c : Nat) (f : Option (Nat × D)) (s : Sl) (M : Mem) | bad
abbrev EF := Sl → Mem → Res D
abbrev TF := Sl → Mem → Res Bool
abbrev AF := Sl → Mem → Res (List D)
abbrev SF := Sl → Mem → SR
def Res.toS {A : Type} (r : Res A) (s : Sl) (g : A → Mem → SR) : SR := match r with
  | .ok a M => g a M
  | .exc c f M => .exc c f s M
  | .bad => .bad
abbrev W3 := Value → Option Addr → Hp → Prop
def PostR {A B : Type} (K : PySem.W.Frag) (L : Lay) (R : List Addr → Hp → A → B → Prop) (r : Res A) (α : List Addr) (H : Hp) (Q : B → Hp → Prop) (w : W3) : Prop := match r with
  | .ok a M => ∀ α' H' b, Le α H α' H' → Rel K L α' M H' → R α' H' a b → Q b H'
  | .exc c f M => ∀ α' H' cls d, Le α H α' H' → Rel K L α' M H' → XRep K L α' H' c f cls d → w cls d H'
  | .bad => False
def PostS (K : PySem.W.Frag) (L : Lay) (W : WX) (D : Ends) (α : List Addr) (H : Hp) : SR → Prop
  | .nx s M => ∀ α' H' σ, Le α H α' H' → Rel K L α' M H' → Slots K α' H' s σ → D.nx σ H'
  | .bk s M => ∀ α' H' σ, Le α H α' H' → Rel K L α' M H' → Slots K α' H' s σ → D.bk σ H'
  | .ct s M => ∀ α' H' σ, Le α H α' H' → Rel K L α' M H' → Slots K α' H' s σ → D.ct σ H'
  | .rt d M => ∀ α' H' v, Le α H α' H' → Rel K L α' M H' → Rep K α' H' d v → D.rt v H'
  | .exc c f s M => ∀ α' H' σ cls d, Le α H α' H' → Rel K L α' M H' → Slots K α' H' s σ → XRep K L α' H' c f cls d → W cls d σ H'
  | .bad => False
section
variable {K : PySem.W.Frag} {L : Lay} {α α' : List Addr} {H H' : Hp} {A B C B' : Type} {R : List Addr → Hp → A → B → Prop} {R' : List Addr → Hp → C → B' → Prop}
theorem PostR.le {r : Res A} {Q : B → Hp → Prop} {w : W3} (l : Le α H α' H') (h : PostR K L R r α H Q w) : PostR K L R r α' H' Q w := by
  cases r with
  | ok a M => exact fun α2 H2 b l2 => h α2 H2 b (l.trans l2)
  | exc c f M => exact fun α2 H2 cls d l2 => h α2 H2 cls d (l.trans l2)
  | bad => exact h
theorem PostS.le {r : SR} {W : WX} {D : Ends} (l : Le α H α' H') (h : PostS K L W D α H r) : PostS K L W D α' H' r := by
  cases r with
  | nx s M => exact fun α2 H2 b l2 => h α2 H2 b (l.trans l2)
  | bk s M => exact fun α2 H2 b l2 => h α2 H2 b (l.trans l2)
  | ct s M => exact fun α2 H2 b l2 => h α2 H2 b (l.trans l2)
  | rt s M => exact fun α2 H2 b l2 => h α2 H2 b (l.trans l2)
  | exc c f s M => exact fun α2 H2 σ cls d l2 => h α2 H2 σ cls d (l.trans l2)
  | bad => exact h
theorem PostR.imp {r : Res A} {Q Q' : B → Hp → Prop} {w : W3} (h : PostR K L R r α H Q w) (hq : ∀ b H, Q b H → Q' b H) : PostR K L R r α H Q' w := by
  cases r with
  | ok a M => exact fun α2 H2 b l r2 rr => hq _ _ (h α2 H2 b l r2 rr)
  | exc c f M => exact h
  | bad => exact h
/-- what stands behind a step -/
def Then (K : PySem.W.Frag) (L : Lay) (R : List Addr → Hp → A → B → Prop) (α : List Addr) (H : Hp) (T : A → Mem → List Addr → Hp → Prop) (b : B) (H1 : Hp) : Prop :=
  ∃ a α1 M1, Le α H α1 H1 ∧ Rel K L α1 M1 H1 ∧ R α1 H1 a b ∧ T a M1 α1 H1
theorem PostR.bind {r : Res A} {g : A → Mem → Res C} {Q : B' → Hp → Prop} {w : W3} (h : PostR K L R' (r.bind g) α H Q w) :
    PostR K L R r α H (Then K L R α H fun a M1 α1 H1 => PostR K L R' (g a M1) α1 H1 Q w) w := by
  cases r with
  | ok a M => exact fun α1 H1 b l r1 rr => ⟨a, α1, M, l, r1, rr, PostR.le (r := g a M) l h⟩
  | exc c f M => exact h
  | bad => exact h
theorem PostR.toS {r : Res A} {s : Sl} {σ : L2.St} {g : A → Mem → SR} {W : WX} {D : Ends} (sl : Slots K α H s σ) (h : PostS K L W D α H (r.toS s g)) :
    PostR K L R r α H (Then K L R α H fun a M1 α1 H1 => PostS K L W D α1 H1 (g a M1)) (fun c d H' => W c d σ H') := by
  cases r with
  | ok a M => exact fun α1 H1 b l r1 rr => ⟨a, α1, M, l, r1, rr, PostS.le (r := g a M) l h⟩
  | exc c f M => exact fun α1 H1 cls d l r1 x => h α1 H1 σ cls d l r1 (sl.le l) x
  | bad => exact h
theorem PostR.pure {a : A} {M : Mem} {b : B} {Q : B → Hp → Prop} {w : W3} (h : PostR K L R (.ok a M) α H Q w) (r : Rel K L α M H) (rr : R α H a b) : Q b H := h α H b (Le.refl _ _) r rr
end
abbrev RB : List Addr → Hp → Bool → Bool → Prop := fun _ _ a b => a = b
/-- the readings -/
def LE (K : PySem.W.Frag) (L : Lay) (W : WX) (f : EF) : TE := fun σ H Q => ∃ α M s, Rel K L α M H ∧ Slots K α H s σ ∧ PostR K L (Rep K) (f s M) α H Q (fun c d H' => W c d σ H')
def LT (K : PySem.W.Frag) (L : Lay) (W : WX) (f : TF) : TT := fun σ H Q => ∃ α M s, Rel K L α M H ∧ Slots K α H s σ ∧ PostR K L RB (f s M) α H Q (fun c d H' => W c d σ H')
def LA (K : PySem.W.Frag) (L : Lay) (W : WX) (f : AF) : TA := fun σ H Q => ∃ α M s, Rel K L α M H ∧ Slots K α H s σ ∧ PostR K L (Reps K) (f s M) α H Q (fun c d H' => W c d σ H')
def LS (K : PySem.W.Frag) (L : Lay) (W : WX) (f : SF) : TS := fun D σ H => ∃ α M s, Rel K L α M H ∧ Slots K α H s σ ∧ PostS K L W D α H (f s M)
abbrev FE (X : Cx) (L : Lay) (W : WX) (e : Expr) (f : EF) : Prop := PE X e (LE X.K L W f)
abbrev FT (X : Cx) (L : Lay) (W : WX) (e : Expr) (f : TF) : Prop := PT X e (LT X.K L W f)
abbrev FW (X : Cx) (L : Lay) (W : WX) (e : Expr) (f : TF) : Prop := PW X e (LT X.K L W f)
abbrev FA (X : Cx) (L : Lay) (W : WX) (es : List Expr) (f : AF) : Prop := PA X es (LA X.K L W f)
abbrev FS (X : Cx) (L : Lay) (W : WX) (st : Stmt) (f : SF) : Prop := PS X st (LS X.K L W f)
abbrev FSs (X : Cx) (L : Lay) (W : WX) (st : List Stmt) (f : SF) : Prop := PSs X st (LS X.K L W f)
section
variable {X : Cx}
theorem peImp {e : Expr} {t t' : TE} (h : PE X e t) (i : ∀ σ H Q, t' σ H Q → t σ H Q) : PE X e t' := ⟨fun pins s σ H Q I q => h.run pins s σ H Q I (i σ H Q q)⟩
theorem ptImp {e : Expr} {t t' : TT} (h : PT X e t) (i : ∀ σ H Q, t' σ H Q → t σ H Q) : PT X e t' := ⟨fun pins s σ H Q I q => h.run pins s σ H Q I (i σ H Q q)⟩
theorem pwImp {e : Expr} {t t' : TT} (h : PW X e t) (i : ∀ σ H Q, t' σ H Q → t σ H Q) : PW X e t' := ⟨fun wh pins s σ H Q I q => h.run wh pins s σ H Q I (i σ H Q q)⟩
theorem paImp {e : List Expr} {t t' : TA} (h : PA X e t) (i : ∀ σ H Q, t' σ H Q → t σ H Q) : PA X e t' := ⟨fun pos pins s σ H Q I q => h.run pos pins s σ H Q I (i σ H Q q)⟩
theorem psImp {e : Stmt} {t t' : TS} (h : PS X e t) (i : ∀ D σ H, t' D σ H → t D σ H) : PS X e t' := ⟨fun pins s σ H D I q => h.run pins s σ H D I (i D σ H q)⟩
theorem pssImp {e : List Stmt} {t t' : TS} (h : PSs X e t) (i : ∀ D σ H, t' D σ H → t D σ H) : PSs X e t' := ⟨fun pins s σ H D I q => h.run pins s σ H D I (i D σ H q)⟩
end
section
variable {K : PySem.W.Frag} {L : Lay} {W : WX} {σ : L2.St} {H H' : Hp} {α α' : List Addr} {M : Mem} {s : Sl}
/-- a reading from what stands -/
theorem LE.mk {f : EF} {Q : VK} (r : Rel K L α M H) (sl : Slots K α H s σ) (h : PostR K L (Rep K) (f s M) α H Q (fun c d H' => W c d σ H')) : LE K L W f σ H Q := ⟨α, M, s, r, sl, h⟩
/-! ### the functions -/
def dC (d : D) : EF := fun _ M => .ok d M
def dVar (i : Nat) : EF := fun s M => match s[i]? with
  | some (some d) => .ok d M
  | _ => .bad
def dOp2 (g : D → D → Mem → Res D) (a b : EF) : EF := fun s M => (a s M).bind fun x M1 => (b s M1).bind fun y M2 => g x y M2
def dOp1 (g : D → Mem → Res D) (a : EF) : EF := fun s M => (a s M).bind g
def dOpN (g : List D → Mem → Res D) (a : AF) : EF := fun s M => (a s M).bind g
def dNil : AF := fun _ M => .ok [] M
def dCons (a : EF) (r : AF) : AF := fun s M => (a s M).bind fun x M1 => (r s M1).bind fun xs M2 => .ok (x :: xs) M2
def tVal (a : EF) : TF := fun s M => (a s M).bind fun x M1 => match x with
  | .bl b => .ok b M1
  | _ => .bad
def tNotF (a : TF) : TF := fun s M => (a s M).bind fun x M1 => .ok (!x) M1
def tAndF (a b : TF) : TF := fun s M => (a s M).bind fun x M1 => match x with
  | true => b s M1
  | false => .ok false M1
def tOrF (a b : TF) : TF := fun s M => (a s M).bind fun x M1 => match x with
  | true => .ok true M1
  | false => b s M1
def dAnd (a b : EF) : EF := fun s M => (a s M).bind fun x M1 => match x with
  | .bl true => b s M1
  | .bl false => .ok (.bl false) M1
  | _ => .bad
def dOr (a b : EF) : EF := fun s M => (a s M).bind fun x M1 => match x with
  | .bl true => .ok (.bl true) M1
  | .bl false => b s M1
  | _ => .bad
def dNot (a : EF) : EF := fun s M => (a s M).bind fun x M1 => match x with
  | .bl b => .ok (.bl (!b)) M1
  | _ => .bad
def dIfE (c : TF) (a b : EF) : EF := fun s M => (c s M).bind fun x M1 => match x with
  | true => a s M1
  | false => b s M1
def sNext : SF := fun s M => .nx s M
def SR.seq (r : SR) (u : SF) : SR := match r with
  | .nx s M => u s M
  | r => r
def sSeq (t u : SF) : SF := fun s M => (t s M).seq u
def sDrop (a : EF) : SF := fun s M => (a s M).toS s fun _ M1 => .nx s M1
def sRet (a : EF) : SF := fun s M => (a s M).toS s fun d M1 => .rt d M1
def sSet (i : Nat) (a : EF) : SF := fun s M => (a s M).toS s fun d M1 => .nx (s.set i (some d)) M1
def sIf (c : TF) (t u : SF) : SF := fun s M => (c s M).toS s fun b M1 => match b with
  | true => t s M1
  | false => u s M1
/-- the end of a def's body -/
def SR.fin (r : SR) : Res D := match r with
  | .nx _ M => .ok .non M
  | .rt d M => .ok d M
  | .exc c f _ M => .exc c f M
  | _ => .bad
end
section
variable {X : Cx} {L : Lay} {W : WX} {a b e : Expr} {fa fb f : EF} {pos : Pos}
theorem fe_int {i j pos} : FE X L W (.Constant (.int i) j pos) (dC (.int i)) := peImp pe_int fun σ H Q ⟨α, M, s, r, sl, h⟩ => PostR.pure h r (by unfold Rep; rfl)
theorem fe_bl {b j pos} : FE X L W (.Constant (.bool b) j pos) (dC (.bl b)) := peImp pe_bl fun σ H Q ⟨α, M, s, r, sl, h⟩ => PostR.pure h r (by unfold Rep; rfl)
theorem fe_non {j pos} : FE X L W (.Constant .none j pos) (dC .non) := peImp pe_non fun σ H Q ⟨α, M, s, r, sl, h⟩ => PostR.pure h r (by unfold Rep; rfl)
theorem fe_str {x j pos} : FE X L W (.Constant (.str x) j pos) (dC (.str x)) := peImp pe_str fun σ H Q ⟨α, M, s, r, sl, h⟩ => PostR.pure h r (by unfold Rep; rfl)
theorem fv (i : Nat) {x : Str} {pos : Pos} (hN : X.N[i]? = some x := by rfl) (hv : Vis X.env.scope x := by first | exact Or.inl rfl | exact Or.inr (Or.inl rfl) | exact Or.inr (Or.inr rfl)) (hd : (x == ("__debug__" : Str)) = false := by decide)
    (hcd : (x == ("__classdict__" : Str)) = false := by decide) : FE X L W (.Name x pos) (dVar i) := peImp (pe_var hN hv hd hcd) fun σ H Q ⟨α, M, s, r, sl, h⟩ => by
  unfold dVar at h
  cases q : s[i]? with
  | none => rw [q] at h; exact h.elim
  | some o =>
    cases o with
    | none => rw [q] at h; exact h.elim
    | some d =>
      rw [q] at h
      obtain ⟨v, e1, rr⟩ := sl.2 i d q
      exact ⟨v, e1, PostR.pure h r rr⟩
/-- two values in a row -/
def rF2 (K : PySem.W.Frag) (L : Lay) (g : D → D → Mem → Res D) (w : W3) : R2 := fun x y H Q => ∃ α M dx dy, Rel K L α M H ∧ Rep K α H dx x ∧ Rep K α H dy y ∧ PostR K L (Rep K) (g dx dy M) α H Q w
/-- the function g of two values does what the operator does -/
def Op2 (X : Cx) (L : Lay) (f : Value → Value → Sem Value) (g : D → D → Mem → Res D) : Prop := ∀ w, OpR X f (rF2 X.K L g w)
theorem op_case {f : Value → Value → Sem Value} {r : R2} (h : ∀ x y H Q, r x y H Q → ∃ r', OpR X f r' ∧ r' x y H Q) : OpR X f r := fun pins s σ H x y v u Q I rx ry q => by
  obtain ⟨r', h1, h2⟩ := h x y H Q q
  exact h1 pins s σ H x y v u Q I rx ry h2
theorem two_go {K : PySem.W.Frag} {g : D → D → Mem → Res D} {σ : L2.St} {H : Hp} {Q : VK} (h : LE K L W (dOp2 g fa fb) σ H Q) : LE K L W fa σ H fun x H1 => LE K L W fb σ H1 fun y H2 => rF2 K L g (fun c d H' => W c d σ H') x y H2 Q := by
  obtain ⟨α, M, s, r, sl, h⟩ := h
  refine ⟨α, M, s, r, sl, (PostR.bind (R := Rep K) h).imp fun x H1 ⟨dx, α1, M1, l1, r1, rx, h1⟩ => ?_⟩
  refine ⟨α1, M1, s, r1, sl.le l1, (PostR.bind (R := Rep K) h1).imp fun y H2 ⟨dy, α2, M2, l2, r2, ry, h2⟩ => ?_⟩
  exact ⟨α2, M2, dx, dy, r2, rx.le l2, ry, h2⟩
theorem fe_op {op : Operator} {g : D → D → Mem → Res D} (ho : Op2 X L (binaryOp op) g) (ha : FE X L W a fa) (hb : FE X L W b fb) : FE X L W (.BinOp a op b pos) (dOp2 g fa fb) :=
  ⟨fun pins s σ H Q I h => (pe_op (ho (fun c d H' => W c d σ H')) ha hb).run pins s σ H Q I (two_go h)⟩
theorem fe_cmp {op : CmpOp} {g : D → D → Mem → Res D} (ho : Op2 X L (compareOp op) g) (ha : FE X L W a fa) (hb : FE X L W b fb) (hm : behindInMarks op b = false := by first | exact nomark _ | rfl) : FE X L W (.Compare a [op] [b] pos) (dOp2 g fa fb) :=
  ⟨fun pins s σ H Q I h => (pe_cmpR (ho (fun c d H' => W c d σ H')) ha hb hm).run pins s σ H Q I (two_go h)⟩
theorem tval_go {K : PySem.W.Frag} {σ : L2.St} {H : Hp} {Q : Bool → Hp → Prop} (h : LT K L W (tVal f) σ H Q) : LE K L W f σ H fun x H1 => ∃ k, x = .bl k ∧ Q k H1 := by
  obtain ⟨α, M, s, r, sl, h⟩ := h
  refine ⟨α, M, s, r, sl, (PostR.bind (R := Rep K) h).imp fun x H1 ⟨dx, α1, M1, l1, r1, rx, h1⟩ => ?_⟩
  cases dx <;> try exact h1.elim
  unfold Rep at rx
  exact ⟨_, rx, PostR.pure h1 r1 rfl⟩
theorem ft_cmp {op : CmpOp} {g : D → D → Mem → Res D} (ho : Op2 X L (compareOp op) g) (ha : FE X L W a fa) (hb : FE X L W b fb) (hm : behindInMarks op b = false := by first | exact nomark _ | rfl) : FT X L W (.Compare a [op] [b] pos) (tVal (dOp2 g fa fb)) :=
  ⟨fun pins s σ H Q I h => (pt_cmpR (ho (fun c d H' => W c d σ H')) ha hb hm).run pins s σ H Q I (two_go (tval_go h))⟩
theorem ft_val (h : FE X L W e f) (he : ∀ whole, isTrue e X.env whole = (do let v ← whole; standAt e.pos; holding [v] (truthy v)) := by intro _; rfl) : FT X L W e (tVal f) :=
  ptImp (pt_val h he) fun σ H Q q => tval_go q
theorem ft_not {f : TF} (h : FT X L W a f) : FT X L W (.UnaryOp .Not a pos) (tNotF f) := ptImp (pt_not h) fun σ H Q ⟨α, M, s, r, sl, q⟩ =>
  ⟨α, M, s, r, sl, (PostR.bind (R := RB) q).imp fun b H1 ⟨x, α1, M1, l1, r1, rx, h1⟩ => by subst rx; exact PostR.pure h1 r1 rfl⟩
theorem fw_and1 {f : TF} (h : FT X L W a f) : FW X L W (.BoolOp .And [a] pos) f := pw_and1 h
theorem fw_or1 {f : TF} (h : FT X L W a f) : FW X L W (.BoolOp .Or [a] pos) f := pw_or1 h
theorem fw_and {f g : TF} {rest : List Expr} (ha : FT X L W a f) (hb : FW X L W (.BoolOp .And (b :: rest) pos) g) : FW X L W (.BoolOp .And (a :: b :: rest) pos) (tAndF f g) := pwImp (pw_and ha hb) fun σ H Q ⟨α, M, s, r, sl, q⟩ =>
  ⟨α, M, s, r, sl, (PostR.bind (R := RB) q).imp fun b H1 ⟨x, α1, M1, l1, r1, rx, h1⟩ => by
    subst rx
    cases x with
    | true => exact iteT ⟨α1, M1, s, r1, sl.le l1, h1⟩
    | false => exact iteF (PostR.pure h1 r1 rfl)⟩
theorem fw_or {f g : TF} {rest : List Expr} (ha : FT X L W a f) (hb : FW X L W (.BoolOp .Or (b :: rest) pos) g) : FW X L W (.BoolOp .Or (a :: b :: rest) pos) (tOrF f g) := pwImp (pw_or ha hb) fun σ H Q ⟨α, M, s, r, sl, q⟩ =>
  ⟨α, M, s, r, sl, (PostR.bind (R := RB) q).imp fun b H1 ⟨x, α1, M1, l1, r1, rx, h1⟩ => by
    subst rx
    cases x with
    | false => exact iteF ⟨α1, M1, s, r1, sl.le l1, h1⟩
    | true => exact iteT (PostR.pure h1 r1 rfl)⟩
theorem fw_t {f : TF} (h : FW X L W e f) : FT X L W e f := h.pt
theorem fe_one {op} (h : FE X L W a f) : FE X L W (.BoolOp op [a] pos) f := pe_one h
theorem fe_and {rest : List Expr} (ha : FE X L W a fa) (hb : FE X L W (.BoolOp .And (b :: rest) pos) fb) : FE X L W (.BoolOp .And (a :: b :: rest) pos) (dAnd fa fb) := peImp (pe_and ha hb) fun σ H Q ⟨α, M, s, r, sl, q⟩ =>
  ⟨α, M, s, r, sl, (PostR.bind (R := Rep _) q).imp fun b H1 ⟨x, α1, M1, l1, r1, rx, h1⟩ => by
    cases x <;> try exact h1.elim
    rename_i k
    unfold Rep at rx
    refine ⟨k, rx, ?_⟩
    cases k with
    | true => exact iteT ⟨α1, M1, s, r1, sl.le l1, h1⟩
    | false => exact iteF (PostR.pure h1 r1 (by unfold Rep; rfl))⟩
theorem fe_not (ha : FE X L W a fa) : FE X L W (.UnaryOp .Not a pos) (dNot fa) := peImp (pe_not ha) fun σ H Q ⟨α, M, s, r, sl, q⟩ =>
  ⟨α, M, s, r, sl, (PostR.bind (R := Rep _) q).imp fun b H1 ⟨x, α1, M1, l1, r1, rx, h1⟩ => by
    cases x <;> try exact h1.elim
    unfold Rep at rx
    exact ⟨_, rx, PostR.pure h1 r1 (by unfold Rep; rfl)⟩⟩
theorem fe_if {c : Expr} {fc : TF} (hc : FT X L W c fc) (ha : FE X L W a fa) (hb : FE X L W b fb) : FE X L W (.IfExp c a b pos) (dIfE fc fa fb) := peImp (pe_ifExp hc ha hb) fun σ H Q ⟨α, M, s, r, sl, q⟩ =>
  ⟨α, M, s, r, sl, (PostR.bind (R := RB) q).imp fun b H1 ⟨x, α1, M1, l1, r1, rx, h1⟩ => by
    subst rx
    cases x with
    | true => exact iteT ⟨α1, M1, s, r1, sl.le l1, h1⟩
    | false => exact iteF ⟨α1, M1, s, r1, sl.le l1, h1⟩⟩
theorem fa_nil : FA X L W [] dNil := paImp pa_nil fun σ H Q ⟨α, M, s, r, sl, q⟩ => PostR.pure q r reps_nil
theorem fa_cons {es : List Expr} {t : AF} (ha : FE X L W e f) (hr : FA X L W es t) (hs : starEach (e :: es) X.env = (false, eval e X.env) :: starEach es X.env := by rfl) : FA X L W (e :: es) (dCons f t) :=
  paImp (pa_cons ha hr hs) fun σ H Q ⟨α, M, s, r, sl, q⟩ => ⟨α, M, s, r, sl, (PostR.bind (R := Rep _) q).imp fun x H1 ⟨dx, α1, M1, l1, r1, rx, h1⟩ =>
    ⟨α1, M1, s, r1, sl.le l1, (PostR.bind (R := Reps _) h1).imp fun y H2 ⟨dy, α2, M2, l2, r2, ry, h2⟩ => PostR.pure h2 r2 (reps_cons (rx.le l2) ry)⟩⟩
/-! ### statements -/
theorem fss_nil : FSs X L W [] sNext := pssImp pss_nil fun D σ H ⟨α, M, s, r, sl, q⟩ => q α H σ (Le.refl _ _) r sl
theorem seq_go {K : PySem.W.Frag} {t u : SF} {D : Ends} {σ : L2.St} {H : Hp} (h : LS K L W (sSeq t u) D σ H) : LS K L W t { D with nx := LS K L W u D } σ H := by
  obtain ⟨α, M, s, r, sl, q⟩ := h
  refine ⟨α, M, s, r, sl, ?_⟩
  unfold sSeq at q
  cases e : t s M with
  | nx s1 M1 =>
    rw [e] at q
    exact fun α' H' σ' l r' sl' => ⟨α', M1, s1, r', sl', PostS.le (r := u s1 M1) l q⟩
  | _ => rw [e] at q; exact q
theorem fss_cons {st : Stmt} {rest : List Stmt} {t u : SF} (h1 : FS X L W st t) (h2 : FSs X L W rest u) : FSs X L W (st :: rest) (sSeq t u) := pssImp (pss_cons h1 h2) fun D σ H q => seq_go q
theorem fss_one {st : Stmt} {t : SF} (h1 : FS X L W st t) : FSs X L W [st] t := pss_one h1
theorem fs_expr (he : FE X L W e f) (hs : swapsWith e none pos.line X.env = pure false := by rfl) : FS X L W (.Expr e pos) (sDrop f) := psImp (ps_expr he hs) fun D σ H ⟨α, M, s, r, sl, q⟩ =>
  ⟨α, M, s, r, sl, (PostR.toS (R := Rep _) sl q).imp fun x H1 ⟨dx, α1, M1, l1, r1, rx, h1⟩ => h1 α1 H1 σ (Le.refl _ _) r1 (sl.le l1)⟩
theorem fs_ret (he : FE X L W e f) : FS X L W (.Return (some e) pos) (sRet f) := psImp (ps_ret he) fun D σ H ⟨α, M, s, r, sl, q⟩ =>
  ⟨α, M, s, r, sl, (PostR.toS (R := Rep _) sl q).imp fun x H1 ⟨dx, α1, M1, l1, r1, rx, h1⟩ => h1 α1 H1 x (Le.refl _ _) r1 rx⟩
theorem fs_set {i : Nat} {x : Str} {pos' : Pos} (hN : X.N.Nodup) (hi : X.N[i]? = some x) (hx : Loc X.env.scope x) (he : FE X L W e f) (hs : swapsWith e (some (.Name x pos')) pos.line X.env = pure false := by rfl) (hf : X.fn x = true ∨ X.env.scope.names.lookup x = some .local := by first | exact .inl rfl | exact .inr rfl | assumption) :
    FS X L W (.Assign [.Name x pos'] e pos) (sSet i f) := psImp (ps_set hN hi hx he hs hf) fun D σ H ⟨α, M, s, r, sl, q⟩ =>
  ⟨α, M, s, r, sl, (PostR.toS (R := Rep _) sl q).imp fun x H1 ⟨dx, α1, M1, l1, r1, rx, h1⟩ => h1 α1 H1 _ (Le.refl _ _) r1 ((sl.le l1).set i rx)⟩
theorem fs_if {c : Expr} {t u : List Stmt} {fc : TF} {ft fu : SF} (hc : FT X L W c fc) (ht : FSs X L W t ft) (hu : FSs X L W u fu) : FS X L W (.If c t u pos) (sIf fc ft fu) := psImp (ps_if hc ht hu) fun D σ H ⟨α, M, s, r, sl, q⟩ =>
  ⟨α, M, s, r, sl, (PostR.toS (R := RB) sl q).imp fun b H1 ⟨x, α1, M1, l1, r1, rx, h1⟩ => by
    subst rx
    cases x with
    | true => exact iteT ⟨α1, M1, s, r1, sl.le l1, h1⟩
    | false => exact iteF ⟨α1, M1, s, r1, sl.le l1, h1⟩⟩
end
end Fl
namespace Fl
open PySem PySem.Spec L2
/-! ### reading -/
def listAt (M : Mem) (n : Nat) : Option (List D) := match M[n]? with
  | some (.lst ds) => some ds
  | _ => none
def isNonD : D → Bool
  | .non => true
  | _ => false
/-- the items of a list or a tuple -/
def seqOf (M : Mem) : D → Option (List D)
  | .tup ds => some ds
  | .rol ds => some ds
  | .ref n => listAt M n
  | _ => none
theorem listAt_some {M : Mem} {n : Nat} {ds : List D} (h : listAt M n = some ds) : M[n]? = some (.lst ds) := by
  unfold listAt at h
  split at h
  · rename_i e
    cases h
    exact e
  · cases h
section
variable {K : PySem.W.Frag} {L : Lay} {α : List Addr} {M : Mem} {H : Hp}
theorem Rel.list (r : Rel K L α M H) {n : Nat} {ds : List D} (h : listAt M n = some ds) : ∃ a vs, α[n]? = some a ∧ H a = some (.lst vs) ∧ Reps K α H ds vs := by
  obtain ⟨a, ha, vs, hv, hr⟩ := r.at (listAt_some h)
  exact ⟨a, vs, ha, hv, hr⟩
theorem Rep.ref {n : Nat} {v : V} (h : Rep K α H (.ref n) v) : ∃ a, α[n]? = some a ∧ v = .ref a := by unfold Rep at h; exact h
theorem Rep.tup {ds : List D} {v : V} (h : Rep K α H (.tup ds) v) : ∃ t vs, v = .ref t ∧ TupAt K H t vs ∧ Reps K α H ds vs := by unfold Rep at h; exact h
theorem Rep.rol {ds : List D} {v : V} (h : Rep K α H (.rol ds) v) : ∃ t vs, v = .ref t ∧ RolAt K H t vs ∧ Reps K α H ds vs := by unfold Rep at h; exact h
theorem Rep.non {v : V} (h : Rep K α H .non v) : v = .non := by unfold Rep at h; exact h
theorem Rep.bl {b : Bool} {v : V} (h : Rep K α H (.bl b) v) : v = .bl b := by unfold Rep at h; exact h
theorem Rep.int {b : Int} {v : V} (h : Rep K α H (.int b) v) : v = .int b := by unfold Rep at h; exact h
theorem Rep.str {b : Str} {v : V} (h : Rep K α H (.str b) v) : v = .str b := by unfold Rep at h; exact h
theorem rep_bl {b : Bool} : Rep K α H (.bl b) (.bl b) := by unfold Rep; rfl
theorem rep_int {b : Int} : Rep K α H (.int b) (.int b) := by unfold Rep; rfl
theorem rep_str {b : Str} : Rep K α H (.str b) (.str b) := by unfold Rep; rfl
theorem rep_non : Rep K α H .non .non := by unfold Rep; rfl
theorem rep_ref {n : Nat} {a : Addr} (h : α[n]? = some a) : Rep K α H (.ref n) (.ref a) := by unfold Rep; exact ⟨a, h, rfl⟩
theorem rep_tup {ds : List D} {t : Addr} {vs : List V} (h : H t = some (.tup vs)) (h2 : Reps K α H ds vs) : Rep K α H (.tup ds) (.ref t) := by unfold Rep; exact ⟨t, vs, rfl, .inl h, h2⟩
theorem Rep.seq (r : Rel K L α M H) {d : D} {v : V} {ds : List D} (h : Rep K α H d v) (hs : seqOf M d = some ds) : ∃ a vs, v = .ref a ∧ (SqL K H a vs ∨ SqT K H a vs) ∧ Reps K α H ds vs := by
  cases d <;> try (cases hs; done)
  · cases hs
    obtain ⟨t, vs, e, ht, hr⟩ := h.tup
    exact ⟨t, vs, e, .inr ht.sq, hr⟩
  · cases hs
    obtain ⟨t, vs, e, ht, hr⟩ := h.rol
    exact ⟨t, vs, e, .inl ht.sq, hr⟩
  · obtain ⟨a, ha, e⟩ := h.ref
    obtain ⟨a', vs, ha', hv, hr⟩ := r.list hs
    rw [ha] at ha'; cases ha'
    exact ⟨a, vs, e, .inl (.of hv), hr⟩
theorem isNon {d : D} {v : V} (h : Rep K α H d v) : isNonD d = decide (v = .non) := by
  cases d
  · rw [h.non]; rfl
  · rw [h.bl]; rfl
  · rw [h.int]; rfl
  · rw [h.str]; rfl
  · obtain ⟨t, vs, e, _⟩ := h.tup; rw [e]; rfl
  · obtain ⟨t, vs, e, _⟩ := h.rol; rw [e]; rfl
  · obtain ⟨t, _, e⟩ := h.ref; rw [e]; rfl
end
/-! ### as data -/
def allSome {A B : Type} (f : A → Option B) : List A → Option (List B)
  | [] => some []
  | d :: ds => match f d with
    | some p => (match allSome f ds with
      | some ps => some (p :: ps)
      | none => none)
    | none => none
def toPy (M : Mem) : Nat → D → Option PyData
  | 0, _ => none
  | _ + 1, .non => some .none
  | _ + 1, .bl b => some (.bool b)
  | _ + 1, .int i => some (.int i)
  | _ + 1, .str s => some (.str s)
  | k + 1, .tup ds => (allSome (toPy M k) ds).map .tuple
  | k + 1, .rol ds => (allSome (toPy M k) ds).map .list
  | k + 1, .ref n => match listAt M n with
    | some ds => (allSome (toPy M k) ds).map .list
    | none => none
section
variable {K : PySem.W.Frag} {L : Lay} {α : List Addr} {M : Mem} {H : Hp}
theorem allSome_dp {f : D → Option PyData} (hf : ∀ (d : D) (v : V) (p : PyData), f d = some p → Rep K α H d v → Dp K H v p) : ∀ (ds : List D) (vs : List V) (ps : List PyData), allSome f ds = some ps → Reps K α H ds vs → DpAll K H vs ps
  | [], vs, ps, h, q => by unfold allSome at h; cases h; unfold Reps at q; subst q; exact .nil
  | d :: ds, vs, ps, h, q => by
    unfold allSome at h
    unfold Reps at q
    obtain ⟨x, xs, rfl, h1, h2⟩ := q
    split at h
    · rename_i p e1
      split at h
      · rename_i ps' e2
        cases h
        exact .cons (hf d x p e1 h1) (allSome_dp hf ds xs ps' e2 h2)
      · cases h
    · cases h
theorem toPy_dp (r : Rel K L α M H) : ∀ (k : Nat) (d : D) (v : V) (p : PyData), toPy M k d = some p → Rep K α H d v → Dp K H v p
  | 0, _, _, _, h, _ => by unfold toPy at h; cases h
  | k + 1, .non, v, p, h, q => by unfold toPy at h; cases h; rw [q.non]; exact .non
  | k + 1, .bl b, v, p, h, q => by unfold toPy at h; cases h; rw [q.bl]; exact .bl b
  | k + 1, .int b, v, p, h, q => by unfold toPy at h; cases h; rw [q.int]; exact .int b
  | k + 1, .str b, v, p, h, q => by unfold toPy at h; cases h; rw [q.str]; exact .str b
  | k + 1, .tup ds, v, p, h, q => by
    unfold toPy at h
    cases e : allSome (toPy M k) ds with
    | none => rw [e] at h; cases h
    | some ps =>
      rw [e] at h; cases h
      obtain ⟨t, vs, rfl, ht, hr⟩ := q.tup
      exact .tup ht.sq (allSome_dp (toPy_dp r k) ds vs ps e hr)
  | k + 1, .rol ds, v, p, h, q => by
    unfold toPy at h
    cases e : allSome (toPy M k) ds with
    | none => rw [e] at h; cases h
    | some ps =>
      rw [e] at h; cases h
      obtain ⟨t, vs, rfl, ht, hr⟩ := q.rol
      exact .lst ht.sq (allSome_dp (toPy_dp r k) ds vs ps e hr)
  | k + 1, .ref n, v, p, h, q => by
    unfold toPy at h
    cases e0 : listAt M n with
    | none => rw [e0] at h; cases h
    | some ds =>
      rw [e0] at h
      dsimp only at h
      cases e : allSome (toPy M k) ds with
      | none => rw [e] at h; cases h
      | some ps =>
        rw [e] at h; cases h
        obtain ⟨a, ha, rfl⟩ := q.ref
        obtain ⟨a', vs, ha', hv, hr⟩ := r.list e0
        rw [ha] at ha'; cases ha'
        exact .lst (.of hv) (allSome_dp (toPy_dp r k) ds vs ps e hr)
end
/-- == of data -/
def pyEq (M : Mem) (x y : D) : Option Bool := match toPy M 9 x, toPy M 9 y with
  | some a, some b => match SeqAt.shaped a && SeqAt.shaped b with
    | true => some (PyData.eqv a b)
    | false => none
  | _, _ => none
def pyIn (M : Mem) (x : D) (ds : List D) : Option Bool := match toPy M 9 x, allSome (toPy M 8) ds with
  | some a, some bs => match SeqAt.shaped a && SeqAt.shaped (.list bs) with
    | true => some (bs.any fun z => PyData.eqv z a)
    | false => none
  | _, _ => none
def okB (M : Mem) : Option Bool → Res D
  | some b => .ok (.bl b) M
  | none => .bad
def newL (M : Mem) (ds : List D) : Res D := match decide (ds.length ≤ sizeLine) with
  | true => .ok (.ref M.length) (M ++ [.lst ds])
  | false => .bad
/-! ### the operators -/
def gAdd : D → D → Mem → Res D
  | .int i, .int j, M => .ok (.int (i + j)) M
  | .str i, .str j, M => match decide (i.length + j.length ≤ sizeLine) with
    | true => .ok (.str (i ++ j)) M
    | false => .bad
  | .tup xs, .tup ys, M => match decide (xs.length + ys.length ≤ sizeLine) with
    | true => .ok (.tup (xs ++ ys)) M
    | false => .bad
  | .ref m, .ref n, M => match listAt M m, listAt M n with
    | some xs, some ys => newL M (xs ++ ys)
    | _, _ => .bad
  | _, _, _ => .bad
def gSub : D → D → Mem → Res D
  | .int i, .int j, M => .ok (.int (i - j)) M
  | _, _, _ => .bad
def gMul : D → D → Mem → Res D
  | .int i, .int j, M => match decide ((-(2 ^ 64) < i ∧ i < 2 ^ 64) ∨ (-(2 ^ 64) < j ∧ j < 2 ^ 64)) with
    | true => .ok (.int (i * j)) M
    | false => .bad
  | .ref m, .int k, M => match listAt M m with
    | some xs => match decide (-(2 ^ 63) ≤ k ∧ k < 2 ^ 63 ∧ xs.length * k.toNat ≤ sizeLine) with
      | true => .ok (.ref M.length) (M ++ [.lst (List.replicate k.toNat xs).flatten])
      | false => .bad
    | none => .bad
  | .tup xs, .int k, M => match decide (xs ≠ [] ∧ 2 ≤ k ∧ k ≤ 1000 ∧ xs.length ≤ 1000) with
    | true => .ok (.tup (List.replicate k.toNat xs).flatten) M
    | false => .bad
  | _, _, _ => .bad
def gDiv : D → D → Mem → Res D
  | .int i, .int j, M => match decide (0 < j ∧ j < 1073741824) with
    | true => .ok (.int (i / j)) M
    | false => .bad
  | _, _, _ => .bad
def gMod : D → D → Mem → Res D
  | .int i, .int j, M => match decide (0 < j) with
    | true => .ok (.int (i % j)) M
    | false => .bad
  | _, _, _ => .bad
def gPow : D → D → Mem → Res D
  | .int i, .int j, M => match decide (0 ≤ j ∧ j ≤ 1000000 ∧ i.natAbs < 2 ^ 64) with
    | true => .ok (.int (i ^ j.toNat)) M
    | false => .bad
  | _, _, _ => .bad
def gLt : D → D → Mem → Res D
  | .int i, .int j, M => .ok (.bl (decide (i < j))) M
  | _, _, _ => .bad
def gLe : D → D → Mem → Res D
  | .int i, .int j, M => .ok (.bl (decide (i ≤ j))) M
  | _, _, _ => .bad
def gGt : D → D → Mem → Res D
  | .int i, .int j, M => .ok (.bl (decide (j < i))) M
  | _, _, _ => .bad
def gGe : D → D → Mem → Res D
  | .int i, .int j, M => .ok (.bl (decide (j ≤ i))) M
  | _, _, _ => .bad
def gEq : D → D → Mem → Res D := fun x y M => okB M (pyEq M x y)
def gNe : D → D → Mem → Res D := fun x y M => okB M ((pyEq M x y).map (!·))
/-- x is None, True, False (the right one is written) -/
def gIs : D → D → Mem → Res D
  | .non, .non, M => .ok (.bl true) M
  | _, .non, M => .ok (.bl false) M
  | .bl a, .bl b, M => .ok (.bl (decide (a = b))) M
  | _, _, _ => .bad
section
variable {X : Cx} {L : Lay} {w : W3}
theorem dt {p : Prop} [Decidable p] (h : decide p = true) : p := of_decide_eq_true h
theorem o_add : Op2 X L (binaryOp .Add) gAdd := fun w => op_case fun x y H Q ⟨α, M, dx, dy, r, rx, ry, h⟩ => by
  unfold gAdd at h
  split at h
  · exact ⟨_, op_add, _, _, rx.int, ry.int, PostR.pure h r rep_int⟩
  · split at h
    · rename_i c
      exact ⟨_, op_add_str, _, _, rx.str, ry.str, dt c, PostR.pure h r rep_str⟩
    · exact h.elim
  · split at h
    · rename_i c
      obtain ⟨t, vs, e, ht, hr⟩ := rx.tup
      obtain ⟨t', vs', e', ht', hr'⟩ := ry.tup
      refine ⟨_, op_catA, t, t', vs, vs', e, e', ht.sq, ht'.sq, by rw [← hr.length, ← hr'.length]; exact dt c, ?_⟩
      have mk : ∀ v, Rep X.K α H (.tup _) v → Q v H := fun v rv => PostR.pure h r rv
      have nl : ∀ {ds : List D}, Reps X.K α H ds [] → ds = [] := fun {ds} q => by
        cases ds with
        | nil => rfl
        | cons a b => unfold Reps at q; obtain ⟨_, _, q, _⟩ := q; cases q
      refine ⟨fun ex => ?_, fun nx ey => ?_, fun nx ny p hp => ?_⟩
      · subst ex
        have q := nl hr
        subst q
        exact mk _ (by unfold Rep; exact ⟨t', vs', rfl, ht', hr'⟩)
      · subst ey
        have q := nl hr'
        subst q
        exact mk _ (by rw [List.append_nil]; unfold Rep; exact ⟨t, vs, rfl, ht, hr⟩)
      · have l := Le.tup (α := α) (vs := vs ++ vs') hp
        exact h α _ _ l (r.tup hp) (rep_tup upd_same ((hr.le l).append (hr'.le l)))
    · exact h.elim
  · split at h
    · rename_i xs ys e1 e2
      unfold newL at h
      split at h
      · rename_i c
        obtain ⟨a, ha, rfl⟩ := rx.ref
        obtain ⟨b, hb, rfl⟩ := ry.ref
        obtain ⟨a', vs, ha', hv, hr⟩ := r.list e1
        obtain ⟨b', vs', hb', hv', hr'⟩ := r.list e2
        rw [ha] at ha'; cases ha'
        rw [hb] at hb'; cases hb'
        refine ⟨_, op_cat, a, b, vs, vs', rfl, rfl, hv, hv', ?_, fun p hp => ?_⟩
        · rw [← hr.length, ← hr'.length, ← List.length_append]; exact dt c
        · have l := Le.new (α := α) (o := .lst (vs ++ vs')) hp
          exact h _ _ _ l (r.new (o := .lst _) hp ⟨_, upd_same, (hr.le l).append (hr'.le l)⟩) (rep_ref (by rw [← r.len]; simp))
      · exact h.elim
    · exact h.elim
  · exact h.elim
theorem o_sub : Op2 X L (binaryOp .Sub) gSub := fun w => op_case fun x y H Q ⟨α, M, dx, dy, r, rx, ry, h⟩ => by
  unfold gSub at h
  split at h
  · exact ⟨_, op_sub, _, _, rx.int, ry.int, PostR.pure h r rep_int⟩
  · exact h.elim
theorem o_mul : Op2 X L (binaryOp .Mult) gMul := fun w => op_case fun x y H Q ⟨α, M, dx, dy, r, rx, ry, h⟩ => by
  unfold gMul at h
  split at h
  · split at h
    · rename_i c
      have c2 := dt c
      exact ⟨_, op_mul, _, _, rx.int, ry.int, c2, PostR.pure h r rep_int⟩
    · exact h.elim
  · split at h
    · rename_i xs e1
      split at h
      · rename_i c
        obtain ⟨a, ha, rfl⟩ := rx.ref
        obtain ⟨a', vs, ha', hv, hr⟩ := r.list e1
        rw [ha] at ha'; cases ha'
        obtain ⟨c1, c2, c3⟩ := dt c
        refine ⟨_, op_rep, a, _, vs, rfl, ry.int, hv, c1, c2, by rw [← hr.length]; exact c3, fun p hp => ?_⟩
        exact h _ _ _ (Le.new hp) (r.new (o := .lst _) hp ⟨_, upd_same, (hr.le (Le.new hp)).rep _⟩) (rep_ref (by rw [← r.len]; simp))
      · exact h.elim
    · exact h.elim
  · split at h
    · rename_i c
      obtain ⟨c0, c1, c2, c3⟩ := dt c
      obtain ⟨t, vs, e, ht, hr⟩ := rx.tup
      refine ⟨_, op_repT, t, _, vs, e, ry.int, ht.sq, fun z => ?_, c1, c2, by rw [← hr.length]; exact c3, fun p hp => ?_⟩
      · subst z
        have q := hr.length
        exact c0 (List.length_eq_zero_iff.mp q)
      · exact h α _ _ (Le.tup hp) (r.tup hp) (rep_tup upd_same ((hr.le (Le.tup hp)).rep _))
    · exact h.elim
  · exact h.elim
theorem o_div : Op2 X L (binaryOp .FloorDiv) gDiv := fun w => op_case fun x y H Q ⟨α, M, dx, dy, r, rx, ry, h⟩ => by
  unfold gDiv at h
  split at h
  · split at h
    · rename_i c
      have c2 := dt c
      exact ⟨_, op_fdiv, _, _, rx.int, ry.int, c2, PostR.pure h r rep_int⟩
    · exact h.elim
  · exact h.elim
theorem o_mod : Op2 X L (binaryOp .Mod) gMod := fun w => op_case fun x y H Q ⟨α, M, dx, dy, r, rx, ry, h⟩ => by
  unfold gMod at h
  split at h
  · split at h
    · rename_i c
      exact ⟨_, op_mod, _, _, rx.int, ry.int, dt c, PostR.pure h r rep_int⟩
    · exact h.elim
  · exact h.elim
theorem o_pow : Op2 X L (binaryOp .Pow) gPow := fun w => op_case fun x y H Q ⟨α, M, dx, dy, r, rx, ry, h⟩ => by
  unfold gPow at h
  split at h
  · split at h
    · rename_i c
      have c2 := dt c
      exact ⟨_, op_pow, _, _, rx.int, ry.int, c2, PostR.pure h r rep_int⟩
    · exact h.elim
  · exact h.elim
theorem o_le : Op2 X L (compareOp .LtE) gLe := fun w => op_case fun x y H Q ⟨α, M, dx, dy, r, rx, ry, h⟩ => by
  unfold gLe at h
  split at h
  · exact ⟨_, op_le, _, _, rx.int, ry.int, PostR.pure h r rep_bl⟩
  · exact h.elim
theorem o_gt : Op2 X L (compareOp .Gt) gGt := fun w => op_case fun x y H Q ⟨α, M, dx, dy, r, rx, ry, h⟩ => by
  unfold gGt at h
  split at h
  · exact ⟨_, op_gt, _, _, rx.int, ry.int, PostR.pure h r rep_bl⟩
  · exact h.elim
theorem o_ge : Op2 X L (compareOp .GtE) gGe := fun w => op_case fun x y H Q ⟨α, M, dx, dy, r, rx, ry, h⟩ => by
  unfold gGe at h
  split at h
  · exact ⟨_, op_ge, _, _, rx.int, ry.int, PostR.pure h r rep_bl⟩
  · exact h.elim
theorem pyEq_dp {K : PySem.W.Frag} {α : List Addr} {M : Mem} {H : Hp} {dx dy : D} {x y : V} {b : Bool} (r : Rel K L α M H) (h : pyEq M dx dy = some b) (rx : Rep K α H dx x) (ry : Rep K α H dy y) :
    ∃ d e, Dp K H x d ∧ Dp K H y e ∧ SeqAt.shaped d = true ∧ SeqAt.shaped e = true ∧ b = PyData.eqv d e := by
  unfold pyEq at h
  split at h
  · rename_i a b' e1 e2
    split at h
    · rename_i c
      cases h
      exact ⟨a, b', toPy_dp r 9 dx x a e1 rx, toPy_dp r 9 dy y b' e2 ry, (Bool.and_eq_true_iff.mp c).1, (Bool.and_eq_true_iff.mp c).2, rfl⟩
    · cases h
  · cases h
theorem o_eq (hu : X.A.units + 70 < cLine) : Op2 X L (compareOp .Eq) gEq := fun w => op_case fun x y H Q ⟨α, M, dx, dy, r, rx, ry, h⟩ => by
  unfold gEq at h
  cases e : pyEq M dx dy with
  | none => rw [e] at h; exact h.elim
  | some b =>
    rw [e] at h
    obtain ⟨d, e2, h1, h2, h3, h4, rfl⟩ := pyEq_dp r e rx ry
    exact ⟨_, op_eqD (by omega), d, e2, h1, h2, h3, h4, PostR.pure h r rep_bl⟩
theorem o_ne (hu : X.A.units + 70 < cLine) : Op2 X L (compareOp .NotEq) gNe := fun w => op_case fun x y H Q ⟨α, M, dx, dy, r, rx, ry, h⟩ => by
  unfold gNe at h
  cases e : pyEq M dx dy with
  | none => rw [e] at h; exact h.elim
  | some b =>
    rw [e] at h
    obtain ⟨d, e2, h1, h2, h3, h4, rfl⟩ := pyEq_dp r e rx ry
    exact ⟨_, op_neD (by omega), d, e2, h1, h2, h3, h4, PostR.pure h r rep_bl⟩
theorem o_is : Op2 X L (compareOp .Is) gIs := fun w => op_case fun x y H Q ⟨α, M, dx, dy, r, rx, ry, h⟩ => by
  unfold gIs at h
  split at h
  · refine ⟨_, op_isN, ry.non, ?_⟩
    have e := rx.non
    subst e
    exact PostR.pure h r rep_bl
  · rename_i hn
    refine ⟨_, op_isN, ry.non, ?_⟩
    have e := isNon rx
    have e2 : isNonD dx = false := by cases dx <;> first | rfl | exact absurd rfl hn
    rw [← e, e2]
    exact PostR.pure h r rep_bl
  · exact ⟨_, op_is_bl, _, _, rx.bl, ry.bl, PostR.pure h r rep_bl⟩
  · exact h.elim
end
end Fl
namespace Fl
open PySem PySem.Spec L2
/-! ### keys of dicts -/
def OptR (K : PySem.W.Frag) (α : List Addr) (H : Hp) (o : Option D) (v : Option V) : Prop := match o with
  | some d => ∃ u, v = some u ∧ Rep K α H d u
  | none => v = none
theorem OptR.isSome {K : PySem.W.Frag} {α : List Addr} {H : Hp} {o : Option D} {ov : Option V} (h : OptR K α H o ov) : ov.isSome = o.isSome := by
  cases o with
  | none => have q : ov = none := h
            rw [q]; rfl
  | some d => obtain ⟨u, e, _⟩ := h; rw [e]; rfl
def keyOf : D → Option Key
  | .int i => some (.inl i)
  | .str s => some (.inr s)
  | _ => none
def kD : Key → D
  | .inl i => .int i
  | .inr s => .str s
def keysOf : D → Option (List Key)
  | .tup (d :: ds) => allSome keyOf (d :: ds)
  | _ => none
def look {κ : Type} [DecidableEq κ] (kvs : List (κ × D)) (k : κ) : Option D := match kvs with
  | [] => none
  | p :: r => match decide (p.1 = k) with
    | true => some p.2
    | false => look r k
def put {κ : Type} [DecidableEq κ] (kvs : List (κ × D)) (k : κ) (d : D) : List (κ × D) := match kvs with
  | [] => [(k, d)]
  | p :: r => match decide (p.1 = k) with
    | true => (p.1, d) :: r
    | false => p :: put r k d
/-- what the dict at n holds for a key (outside: it is none, or the key does not fit) -/
def dictLook (M : Mem) (n : Nat) (k : D) : Option (Option D) := match M[n]? with
  | some (.dk kvs) => (keyOf k).map (look kvs)
  | some (.fk kvs) => (keyOf k).map (look kvs)
  | some (.dt kvs) => (keysOf k).map (look kvs)
  | some (.ft kvs) => (keysOf k).map (look kvs)
  | _ => none
section
variable {K : PySem.W.Frag} {L : Lay} {α : List Addr} {M : Mem} {H : Hp}
theorem keyOf_rep {d : D} {v : V} {k : Key} (h : keyOf d = some k) (r : Rep K α H d v) : v = kV k ∧ d = kD k := by
  cases d <;> try (cases h; done)
  · cases h; exact ⟨r.int, rfl⟩
  · cases h; exact ⟨r.str, rfl⟩
theorem allKeys_rep : ∀ {ds : List D} {vs : List V} {ks : List Key}, allSome keyOf ds = some ks → Reps K α H ds vs → vs = ks.map kV ∧ ds = ks.map kD
  | [], vs, ks, h, r => by unfold allSome at h; cases h; unfold Reps at r; subst r; exact ⟨rfl, rfl⟩
  | d :: ds, vs, ks, h, r => by
    unfold allSome at h
    unfold Reps at r
    obtain ⟨x, xs, rfl, h1, h2⟩ := r
    split at h
    · rename_i p e1
      split at h
      · rename_i ps e2
        cases h
        obtain ⟨a1, a2⟩ := keyOf_rep e1 h1
        obtain ⟨b1, b2⟩ := allKeys_rep e2 h2
        exact ⟨by rw [a1, b1]; rfl, by rw [List.map_cons, ← a2, ← b2]⟩
      · cases h
    · cases h
theorem keysOf_rep {d : D} {v : V} {ks : List Key} (h : keysOf d = some ks) (r : Rep K α H d v) : ∃ t, v = .ref t ∧ H t = some (.tup (ks.map kV)) ∧ d = .tup (ks.map kD) := by
  unfold keysOf at h
  split at h
  · obtain ⟨t, vs, e, ht, hr⟩ := r.tup
    obtain ⟨e1, e2⟩ := allKeys_rep h hr
    subst e1
    rcases ht with ht | ⟨z, _⟩
    · exact ⟨t, e, ht, by rw [e2]⟩
    · have q := hr.length
      rw [z] at q
      simp at q
  · cases h
theorem look_rep {κ : Type} [DecidableEq κ] {kvs : List (κ × D)} {vs : List (κ × V)} (h : KvR K α H kvs vs) (k : κ) : OptR K α H (look kvs k) (valV vs k) := by
  induction h with
  | nil => exact valV_nil
  | @cons p q ps qs hp _ ih =>
    unfold look
    by_cases e : p.1 = k
    · rw [decide_eq_true e]
      have e' : q.1 = k := hp.1.symm.trans e
      exact ⟨q.2, valV_pos e', hp.2⟩
    · rw [decide_eq_false e]
      have e' : ¬ q.1 = k := fun z => e (hp.1.trans z)
      simp only
      rw [valV_neg e']
      exact ih
theorem KvR.nokey {κ : Type} [DecidableEq κ] {kvs : List (κ × D)} {vs : List (κ × V)} (h : KvR K α H kvs vs) {k : κ} {d : D} {v : V} (rd : Rep K α H d v) (e : valV vs k = none) : KvR K α H (put kvs k d) (vs ++ [(k, v)]) := by
  induction h with
  | nil => exact .cons ⟨rfl, rd⟩ .nil
  | @cons p q ps qs hp _ ih =>
    have nq : ¬ q.1 = k := fun z => by rw [valV_pos z] at e; cases e
    have np : ¬ p.1 = k := fun z => nq (hp.1.symm.trans z)
    unfold put
    rw [decide_eq_false np]
    rw [valV_neg nq] at e
    exact .cons hp (ih e)
theorem put_cons {κ : Type} [DecidableEq κ] (p : κ × D) (r : List (κ × D)) (k : κ) (d : D) : put (p :: r) k d = if p.1 = k then (p.1, d) :: r else p :: put r k d := by
  by_cases e : p.1 = k
  · rw [if_pos e]
    show (match decide (p.1 = k) with | true => (p.1, d) :: r | false => p :: put r k d) = _
    rw [decide_eq_true e]
  · rw [if_neg e]
    show (match decide (p.1 = k) with | true => (p.1, d) :: r | false => p :: put r k d) = _
    rw [decide_eq_false e]
theorem KvR.put {κ : Type} [DecidableEq κ] {kvs : List (κ × D)} {vs : List (κ × V)} (h : KvR K α H kvs vs) (nd : (vs.map (·.1)).Nodup) {k : κ} {d : D} {v : V} (rd : Rep K α H d v) : KvR K α H (Fl.put kvs k d) (putK vs k v) := by
  cases e : valV vs k with
  | none => rw [putK_new v e]; exact h.nokey rd e
  | some w =>
    have hk : putK vs k v = vs.map (fun kv => if kv.1 = k then (kv.1, v) else kv) := by
      unfold putK
      rw [valV_any, e]
      rfl
    rw [hk]
    clear hk
    induction h with
    | nil => rw [valV_nil] at e; cases e
    | @cons p q ps qs hp t ih =>
      rw [put_cons, List.map_cons]
      rw [List.map_cons, List.nodup_cons] at nd
      by_cases z : p.1 = k
      · have z' : q.1 = k := hp.1.symm.trans z
        rw [if_pos z, if_pos z']
        have same : qs.map (fun kv => if kv.1 = k then (kv.1, v) else kv) = qs := by
          refine (List.map_congr_left fun x hx => ?_).trans (List.map_id _)
          have nx : ¬ x.1 = k := fun y => nd.1 (List.mem_map.mpr ⟨x, hx, y.trans z'.symm⟩)
          rw [if_neg nx]; rfl
        rw [same]
        exact .cons ⟨hp.1, rd⟩ t
      · have z' : ¬ q.1 = k := fun y => z (hp.1.trans y)
        rw [if_neg z, if_neg z']
        rw [valV_neg z'] at e
        exact .cons hp (ih nd.2 e)
theorem KvR.length {κ : Type} {kvs : List (κ × D)} {vs : List (κ × V)} (h : KvR K α H kvs vs) : kvs.length = vs.length := Paired.length h
theorem dictLook_rep (r : Rel K L α M H) {n : Nat} {k : D} {v x : V} {o : Option D} (h : dictLook M n k = some o) (rn : Rep K α H (.ref n) x) (rk : Rep K α H k v) :
    ∃ a ov, x = .ref a ∧ DGet H a v ov ∧ OptR K α H o ov := by
  obtain ⟨a, ha, rfl⟩ := rn.ref
  have fin : ∀ {κ : Type} [DecidableEq κ] {kvs : List (κ × D)} {vs : List (κ × V)} (q : KvR K α H kvs vs) (key : κ), OptR K α H (look kvs key) (valV vs key) := fun q key => look_rep q key
  unfold dictLook at h
  split at h
  · rename_i kvs e
    obtain ⟨a', ha', vs, hv, q⟩ := r.at e
    rw [ha] at ha'; cases ha'
    cases ek : keyOf k with
    | none => rw [ek] at h; cases h
    | some key =>
      rw [ek] at h; cases h
      obtain ⟨e1, _⟩ := keyOf_rep ek rk
      subst e1
      exact ⟨a, _, rfl, DGet.k hv, fin q key⟩
  · rename_i kvs e
    obtain ⟨a', ha', o', vs, hv, q⟩ := r.at e
    rw [ha] at ha'; cases ha'
    cases ek : keyOf k with
    | none => rw [ek] at h; cases h
    | some key =>
      rw [ek] at h; cases h
      obtain ⟨e1, _⟩ := keyOf_rep ek rk
      subst e1
      exact ⟨a, _, rfl, .inl ⟨vs, key, .inr ⟨o', hv⟩, rfl, rfl⟩, fin q key⟩
  · rename_i kvs e
    obtain ⟨a', ha', vs, hv, q⟩ := r.at e
    rw [ha] at ha'; cases ha'
    cases ek : keysOf k with
    | none => rw [ek] at h; cases h
    | some key =>
      rw [ek] at h; cases h
      obtain ⟨t, e1, e2, _⟩ := keysOf_rep ek rk
      subst e1
      exact ⟨a, _, rfl, DGet.t hv e2, fin q key⟩
  · rename_i kvs e
    obtain ⟨a', ha', o', vs, hv, q⟩ := r.at e
    rw [ha] at ha'; cases ha'
    cases ek : keysOf k with
    | none => rw [ek] at h; cases h
    | some key =>
      rw [ek] at h; cases h
      obtain ⟨t, e1, e2, _⟩ := keysOf_rep ek rk
      subst e1
      exact ⟨a, _, rfl, .inr ⟨vs, key, t, .inr ⟨o', hv⟩, rfl, e2, rfl⟩, fin q key⟩
  · cases h
end
/-! ### in -/
def inB (M : Mem) (x y : D) : Option Bool := match y with
  | .str s => match x with
    | .str i => some (!(Builtin.Str.occurrences s i 0 s.length 1).isEmpty)
    | _ => none
  | .tup ds => pyIn M x ds
  | .rol ds => pyIn M x ds
  | .ref n => match listAt M n with
    | some ds => pyIn M x ds
    | none => (dictLook M n x).map (·.isSome)
  | _ => none
def gIn : D → D → Mem → Res D := fun x y M => okB M (inB M x y)
def gNotIn : D → D → Mem → Res D := fun x y M => okB M ((inB M x y).map (!·))
/-! ### items and slices -/
def ixF (n : Nat) (i : Int) : Option Nat := match decide (0 ≤ i) with
  | true => (match decide (i < n) with
    | true => some i.toNat
    | false => none)
  | false => (match decide (-(n : Int) ≤ i) with
    | true => some (i + n).toNat
    | false => none)
theorem ixF_eq (n : Nat) (i : Int) : ixF n i = ixN n i := by
  unfold ixF ixN
  by_cases h : 0 ≤ i
  · rw [decide_eq_true h, if_pos h]
    by_cases h2 : i < n
    · rw [decide_eq_true h2, if_pos h2]
    · rw [decide_eq_false h2, if_neg h2]
  · rw [decide_eq_false h, if_neg h]
    by_cases h2 : -(n : Int) ≤ i
    · rw [decide_eq_true h2, if_pos h2]
    · rw [decide_eq_false h2, if_neg h2]
def itemAt (ds : List D) (i : Int) : Option D := match ixF ds.length i with
  | some j => ds[j]?
  | none => none
def okD (M : Mem) : Option D → Res D
  | some d => .ok d M
  | none => .bad
def gIx : D → D → Mem → Res D := fun x y M => match x with
  | .tup ds => (match y with
    | .int i => okD M (itemAt ds i)
    | _ => .bad)
  | .rol ds => (match y with
    | .int i => okD M (itemAt ds i)
    | _ => .bad)
  | .str z => (match y with
    | .int i => (match decide (z.length ≤ sizeLine), atI z.cps.toList i with
      | true, some c => .ok (.str ⟨#[c]⟩) M
      | _, _ => .bad)
    | _ => .bad)
  | .ref n => (match listAt M n with
    | some ds => (match y with
      | .int i => okD M (itemAt ds i)
      | _ => .bad)
    | none => (match dictLook M n y with
      | some (some d) => .ok d M
      | _ => .bad))
  | _ => .bad
theorem itemAt_rep {K : PySem.W.Frag} {α : List Addr} {H : Hp} {ds : List D} {vs : List V} {i : Int} {d : D} (r : Reps K α H ds vs) (h : itemAt ds i = some d) : ∃ v, atI vs i = some v ∧ Rep K α H d v := by
  unfold itemAt at h
  rw [ixF_eq] at h
  split at h
  · rename_i j e
    obtain ⟨v, e1, r1⟩ := r.at h
    refine ⟨v, ?_, r1⟩
    unfold atI
    rw [← r.length, e]
    exact e1
  · cases h
section
variable {X : Cx} {L : Lay} {W : WX} {a b : Expr} {fa fb : EF} {pos : Pos}
theorem ix_case {r : R2} (h : ∀ x y H Q, r x y H Q → ∃ r', IxR X r' ∧ r' x y H Q) : IxR X r := fun value slice pins s σ H x y v u Q I rx ry q hs => by
  obtain ⟨r', h1, h2⟩ := h x y H Q q
  exact h1 value slice pins s σ H x y v u Q I rx ry h2 hs
theorem ix_dict (hu : X.A.units + 1 < cLine) : IxR X (fun x y H Q => ∃ a v, x = .ref a ∧ DGet H a y (some v) ∧ Q v H) := by
  intro value slice pins s σ H x y v u Q I rx ry h hs
  obtain ⟨a, z, rfl, g, q⟩ := h
  obtain rfl : v = Value.ref a := rx
  exact PyProof.Rows.tail_any (dict_typeIs I g) PySem.F.slot_dict_getitem.lookup (d_getItem hu I g ry fun w' s3 I3 rw' => ⟨z, H, I3, rw', q⟩) hs
theorem i_ix (hu : X.A.units + 70 < cLine) (w : W3) : IxR X (rF2 X.K L gIx w) := ix_case fun x y H Q ⟨α, M, dx, dy, r, rx, ry, h⟩ => by
  unfold gIx at h
  split at h
  · rename_i ds
    split at h
    · rename_i i
      obtain ⟨t, vs, e, ht, hr⟩ := rx.tup
      cases ei : itemAt ds i with
      | none => rw [ei] at h; exact h.elim
      | some d =>
        rw [ei] at h
        obtain ⟨v, e1, r1⟩ := itemAt_rep hr ei
        exact ⟨_, ix_tup, t, vs, _, v, e, ry.int, ht.sq, e1, PostR.pure h r r1⟩
    · exact h.elim
  · rename_i ds
    split at h
    · rename_i i
      obtain ⟨t, vs, e, ht, hr⟩ := rx.rol
      cases ei : itemAt ds i with
      | none => rw [ei] at h; exact h.elim
      | some d =>
        rw [ei] at h
        obtain ⟨v, e1, r1⟩ := itemAt_rep hr ei
        exact ⟨_, ix_list, t, vs, _, v, e, ry.int, ht.sq, e1, PostR.pure h r r1⟩
    · exact h.elim
  · split at h
    · split at h
      · rename_i c e
        exact ⟨_, ix_str, _, _, _, rx.str, ry.int, dt (by assumption), e, PostR.pure h r rep_str⟩
      · exact h.elim
    · exact h.elim
  · split at h
    · rename_i ds e1
      split at h
      · rename_i i
        obtain ⟨a, ha, rfl⟩ := rx.ref
        obtain ⟨a', vs, ha', hv, hr⟩ := r.list e1
        rw [ha] at ha'; cases ha'
        cases ei : itemAt ds i with
        | none => rw [ei] at h; exact h.elim
        | some d =>
          rw [ei] at h
          obtain ⟨v, e1, r1⟩ := itemAt_rep hr ei
          exact ⟨_, ix_list, a, vs, _, v, rfl, ry.int, .of hv, e1, PostR.pure h r r1⟩
      · exact h.elim
    · split at h
      · rename_i d e
        obtain ⟨a, ov, rfl, g, u, rfl, ru⟩ := dictLook_rep r e rx ry
        exact ⟨_, ix_dict (by omega), a, u, rfl, g, PostR.pure h r ru⟩
      · exact h.elim
  · exact h.elim
theorem fe_ix (hu : X.A.units + 70 < cLine) (ha : FE X L W a fa) (hb : FE X L W b fb) (hs : PlainIx b := by intro _ _; rfl) : FE X L W (.Subscript a b pos) (dOp2 gIx fa fb) :=
  ⟨fun pins s σ H Q I h => (pe_ix (i_ix hu (fun c d H' => W c d σ H')) ha hb hs).run pins s σ H Q I (two_go h)⟩
/-- a part of a slice -/
abbrev OF := Sl → Mem → Res (Option Int)
abbrev RO : List Addr → Hp → Option Int → Option Int → Prop := fun _ _ a b => a = b
def LO (K : PySem.W.Frag) (L : Lay) (W : WX) (f : OF) : TO := fun σ H Q => ∃ α M s, Rel K L α M H ∧ Slots K α H s σ ∧ PostR K L RO (f s M) α H Q (fun c d H' => W c d σ H')
abbrev FO (X : Cx) (L : Lay) (W : WX) (e : Option Expr) (f : OF) : Prop := PO X e (LO X.K L W f)
def oNone : OF := fun _ M => .ok none M
def oSome (a : EF) : OF := fun s M => (a s M).bind fun x M1 => match x with
  | .int i => .ok (some i) M1
  | _ => .bad
theorem poImp {e : Option Expr} {t t' : TO} (h : PO X e t) (i : ∀ σ H Q, t' σ H Q → t σ H Q) : PO X e t' := ⟨fun pins s σ H Q I q => h.run pins s σ H Q I (i σ H Q q)⟩
theorem fo_none : FO X L W none oNone := poImp po_none fun σ H Q ⟨α, M, s, r, sl, h⟩ => PostR.pure h r rfl
theorem fo_some (h : FE X L W a fa) : FO X L W (some a) (oSome fa) := poImp (po_some h) fun σ H Q ⟨α, M, s, r, sl, h⟩ =>
  ⟨α, M, s, r, sl, (PostR.bind (R := Rep _) h).imp fun x H1 ⟨dx, α1, M1, l1, r1, rx, h1⟩ => by
    cases dx <;> try exact h1.elim
    exact ⟨_, rx.int, PostR.pure h1 r1 rfl⟩⟩
def cutD (xs : List D) (lo hi : Option Int) : List D := (xs.drop (HT.sIx xs.length 0 lo)).take (HT.sIx xs.length xs.length hi - HT.sIx xs.length 0 lo)
theorem cut_rep {K : PySem.W.Frag} {α : List Addr} {H : Hp} {ds : List D} {vs : List V} (r : Reps K α H ds vs) (lo hi : Option Int) : Reps K α H (cutD ds lo hi) (cutV vs lo hi) := by
  unfold cutD cutV
  rw [r.length]
  exact (r.drop _).take _
def gSl (x : D) (lo hi : Option Int) (M : Mem) : Res D := match x with
  | .tup ds => .ok (.tup (cutD ds lo hi)) M
  | .rol ds => .ok (.ref M.length) (M ++ [.lst (cutD ds lo hi)])
  | .ref n => (match listAt M n with
    | some ds => .ok (.ref M.length) (M ++ [.lst (cutD ds lo hi)])
    | none => .bad)
  | .str z => (match decide (z.length ≤ sizeLine) with
    | true => .ok (.str (cutS z lo hi)) M
    | false => .bad)
  | _ => .bad
def dSl (a : EF) (lo hi : OF) : EF := fun s M => (a s M).bind fun x M1 => (lo s M1).bind fun l M2 => (hi s M2).bind fun u M3 => gSl x l u M3
theorem sl_case {r : V → Option Int → Option Int → Hp → VK → Prop} (h : ∀ x lo hi H Q, r x lo hi H Q → ∃ r', SlR X r' ∧ r' x lo hi H Q) : SlR X r := fun pins s σ H x v vl vu lo hi sl Q I rx e pl pu q => by
  obtain ⟨r', h1, h2⟩ := h x lo hi H Q q
  exact h1 pins s σ H x v vl vu lo hi sl Q I rx e pl pu h2
def rFs (K : PySem.W.Frag) (L : Lay) (w : W3) : V → Option Int → Option Int → Hp → VK → Prop := fun x lo hi H Q => ∃ α M dx, Rel K L α M H ∧ Rep K α H dx x ∧ PostR K L (Rep K) (gSl dx lo hi M) α H Q w
theorem s_sl (w : W3) : SlR X (rFs X.K L w) := sl_case fun x lo hi H Q ⟨α, M, dx, r, rx, h⟩ => by
  unfold gSl at h
  split at h
  · rename_i ds
    obtain ⟨t, vs, e, ht, hr⟩ := rx.tup
    refine ⟨_, sl_tupA, t, vs, e, ht.sq, fun z => ?_, fun z p hp => ?_⟩
    · refine PostR.pure h r ?_
      have e1 : cutV vs lo hi = vs := by
        unfold cutV
        rw [z.1, z.2, List.drop_zero, Nat.sub_zero, List.take_length]
      have q := cut_rep hr lo hi
      rw [e1] at q
      unfold Rep
      exact ⟨t, vs, rfl, ht, q⟩
    · exact h α _ _ (Le.tup hp) (r.tup hp) (rep_tup upd_same ((cut_rep hr lo hi).le (Le.tup hp)))
  · obtain ⟨t, vs, e, ht, hr⟩ := rx.rol
    refine ⟨_, sl_list, t, vs, e, ht.sq, fun p hp => ?_⟩
    exact h _ _ _ (Le.new hp) (r.new (o := .lst _) hp ⟨_, upd_same, (cut_rep hr lo hi).le (Le.new hp)⟩) (rep_ref (by rw [← r.len]; simp))
  · split at h
    · rename_i ds e1
      obtain ⟨a, ha, rfl⟩ := rx.ref
      obtain ⟨a', vs, ha', hv, hr⟩ := r.list e1
      rw [ha] at ha'; cases ha'
      refine ⟨_, sl_list, a, vs, rfl, .of hv, fun p hp => ?_⟩
      exact h _ _ _ (Le.new hp) (r.new (o := .lst _) hp ⟨_, upd_same, (cut_rep hr lo hi).le (Le.new hp)⟩) (rep_ref (by rw [← r.len]; simp))
    · exact h.elim
  · split at h
    · rename_i c
      exact ⟨_, sl_str, _, rx.str, dt c, PostR.pure h r rep_str⟩
    · exact h.elim
  · exact h.elim
theorem fe_sl {lo hi : Option Expr} {fl fh : OF} {p2 : Pos} (ha : FE X L W a fa) (hl : FO X L W lo fl) (hh : FO X L W hi fh) : FE X L W (.Subscript a (.Slice lo hi none p2) pos) (dSl fa fl fh) :=
  ⟨fun pins s σ H Q I ⟨α, M, sd, r, sl, h⟩ => (pe_slice (s_sl (L := L) (fun c d H' => W c d σ H')) ha hl hh).run pins s σ H Q I ⟨α, M, sd, r, sl, (PostR.bind (R := Rep _) h).imp fun x H1 ⟨dx, α1, M1, l1, r1, rx, h1⟩ =>
    ⟨α1, M1, sd, r1, sl.le l1, (PostR.bind (R := RO) h1).imp fun l H2 ⟨l', α2, M2, l2, r2, e2, h2⟩ => by
      subst e2
      exact ⟨α2, M2, sd, r2, (sl.le l1).le l2, (PostR.bind (R := RO) h2).imp fun u H3 ⟨u', α3, M3, l3, r3, e3, h3⟩ => by
        subst e3
        exact ⟨α3, M3, dx, r3, (rx.le l2).le l3, h3⟩⟩⟩⟩⟩
end
end Fl
namespace Fl
open PySem PySem.Spec L2
def rFN (K : PySem.W.Frag) (L : Lay) (g : List D → Mem → Res D) (w : W3) : List V → Hp → VK → Prop := fun xs H Q => ∃ α M ds, Rel K L α M H ∧ Reps K α H ds xs ∧ PostR K L (Rep K) (g ds M) α H Q w
def CallF (X : Cx) (L : Lay) (f : Value) (g : List D → Mem → Res D) : Prop := ∀ w, CallR X f (rFN X.K L g w)
section
variable {X : Cx} {L : Lay} {W : WX}
theorem call_case {f : Value} {r : List V → Hp → VK → Prop} (h : ∀ xs H Q, r xs H Q → ∃ r', CallR X f r' ∧ r' xs H Q) : CallR X f r := fun pins s σ H xs us Q I rx q => by
  obtain ⟨r', h1, h2⟩ := h xs H Q q
  exact h1 pins s σ H xs us Q I rx h2
theorem n_go {K : PySem.W.Frag} {g : List D → Mem → Res D} {fa : AF} {σ : L2.St} {H : Hp} {Q : VK} (h : LE K L W (dOpN g fa) σ H Q) : LA K L W fa σ H fun xs H1 => rFN K L g (fun c d H' => W c d σ H') xs H1 Q := by
  obtain ⟨α, M, s, r, sl, h⟩ := h
  exact ⟨α, M, s, r, sl, (PostR.bind (R := Reps K) h).imp fun x H1 ⟨dx, α1, M1, l1, r1, rx, h1⟩ => ⟨α1, M1, dx, r1, rx, h1⟩⟩
theorem fe_cb {x : Str} {p pos : Pos} {e : Expr} {es : List Expr} {id : String} {g : List D → Mem → Res D} {fa : AF} (hc : CallF X L (.builtin id) g) (hg : Gl X x) (hm : X.mg x = none) (hv : bootBuiltins x = some (.builtin id)) (ha : FA X L W (e :: es) fa) (hn : x ≠ "__name__" := by decide) (hdb : (x == ("__debug__" : Str)) = false := by decide)
    (he : starEach (e :: es) X.env = (false, eval e X.env) :: starEach es X.env := by rfl) (hpl : (backTo pos (starEach es X.env)).any (·.1) = false := by rfl) : FE X L W (.Call (.Name x p) (e :: es) [] pos) (dOpN g fa) :=
  ⟨fun pins s σ H Q I h => (pe_callB (hc (fun c d H' => W c d σ H')) hg hm hv ha hn hdb he hpl).run pins s σ H Q I (n_go h)⟩
theorem fe_ct {x : Str} {p pos : Pos} {e : Expr} {es : List Expr} {id : String} {g : List D → Mem → Res D} {fa : AF} (hc : CallF X L (.type id) g) (hg : Gl X x) (hm : X.mg x = none) (hv : bootBuiltins x = some (.type id)) (ha : FA X L W (e :: es) fa) (hn : x ≠ "__name__" := by decide) (hdb : (x == ("__debug__" : Str)) = false := by decide)
    (he : starEach (e :: es) X.env = (false, eval e X.env) :: starEach es X.env := by rfl) (hpl : (backTo pos (starEach es X.env)).any (·.1) = false := by rfl) : FE X L W (.Call (.Name x p) (e :: es) [] pos) (dOpN g fa) :=
  ⟨fun pins s σ H Q I h => (pe_callTy (hc (fun c d H' => W c d σ H')) hg hm hv ha hn hdb he hpl).run pins s σ H Q I (n_go h)⟩
end
section
variable {K : PySem.W.Frag} {α : List Addr} {H : Hp}
theorem Reps.nil {vs : List V} (h : Reps K α H [] vs) : vs = [] := by unfold Reps at h; exact h
theorem Reps.cons {d : D} {ds : List D} {vs : List V} (h : Reps K α H (d :: ds) vs) : ∃ x xs, vs = x :: xs ∧ Rep K α H d x ∧ Reps K α H ds xs := by unfold Reps at h; exact h
theorem Reps.one {d : D} {vs : List V} (h : Reps K α H [d] vs) : ∃ x, vs = [x] ∧ Rep K α H d x := by
  obtain ⟨x, xs, e, h1, h2⟩ := h.cons
  rw [h2.nil] at e
  exact ⟨x, e, h1⟩
end
/-! ### len, list, tuple, sums -/
def gLen : List D → Mem → Res D
  | [.str z], M => (match decide (z.length ≤ sizeLine) with
    | true => .ok (.int z.length) M
    | false => .bad)
  | [d], M => (match seqOf M d with
    | some ds => .ok (.int ds.length) M
    | none => .bad)
  | _, _ => .bad
def gList : List D → Mem → Res D
  | [d], M => (match seqOf M d with
    | some ds => .ok (.ref M.length) (M ++ [.lst ds])
    | none => .bad)
  | _, _ => .bad
def gTuple : List D → Mem → Res D
  | [.tup ds], M => .ok (.tup ds) M
  | [.ref n], M => (match listAt M n with
    | some ds => .ok (.tup ds) M
    | none => .bad)
  | _, _ => .bad
def intsOf : List D → Option (List Int) := allSome fun d => match d with
  | .int i => some i
  | _ => none
def blsOf : List D → Option (List Bool) := allSome fun d => match d with
  | .bl i => some i
  | _ => none
theorem blsOf_map : ∀ {ds : List D} {ns : List Bool}, blsOf ds = some ns → ds = ns.map .bl
  | [], ns, h => by cases h; rfl
  | d :: ds, ns, h => by
    unfold blsOf allSome at h
    split at h
    · rename_i p e1
      split at h
      · rename_i ps e2
        cases h
        rw [blsOf_map (ds := ds) e2]
        cases d <;> first | (cases e1; done) | skip
        cases e1; rfl
      · cases h
    · cases h
def gSum : List D → Mem → Res D
  | [.ref n], M => (match listAt M n with
    | some ds => (match intsOf ds with
      | some ns => .ok (.int ns.sum) M
      | none => .bad)
    | none => .bad)
  | _, _ => .bad
def gAll : List D → Mem → Res D
  | [.ref n], M => (match listAt M n with
    | some ds => (match blsOf ds with
      | some ns => .ok (.bl (ns.all id)) M
      | _ => .bad)
    | none => .bad)
  | _, _ => .bad
def gAny : List D → Mem → Res D
  | [.ref n], M => (match listAt M n with
    | some ds => (match blsOf ds with
      | some ns => .ok (.bl (ns.any id)) M
      | _ => .bad)
    | none => .bad)
  | _, _ => .bad
section
variable {X : Cx} {L : Lay}
theorem c_len : CallF X L (.builtin "len") gLen := fun w => call_case fun xs H Q ⟨α, M, ds, r, rx, h⟩ => by
  unfold gLen at h
  split at h
  · split at h
    · rename_i c
      obtain ⟨x, rfl, r1⟩ := rx.one
      exact ⟨_, call_len_str, _, congrArg (fun z => [z]) r1.str, dt c, PostR.pure h r rep_int⟩
    · exact h.elim
  · split at h
    · rename_i ds e
      obtain ⟨x, rfl, r1⟩ := rx.one
      obtain ⟨a, vs, rfl, hs, hr⟩ := r1.seq r e
      refine ⟨_, call_len_seq, a, vs, rfl, hs, ?_⟩
      rw [← hr.length]
      exact PostR.pure h r rep_int
    · exact h.elim
  · exact h.elim
theorem c_list : CallF X L (.type "list") gList := fun w => call_case fun xs H Q ⟨α, M, ds, r, rx, h⟩ => by
  unfold gList at h
  split at h
  · split at h
    · rename_i ds e
      obtain ⟨x, rfl, r1⟩ := rx.one
      obtain ⟨a, vs, rfl, hs, hr⟩ := r1.seq r e
      refine ⟨_, call_list_of, a, vs, rfl, hs, fun l hl => ?_⟩
      exact h _ _ _ (Le.new hl) (r.new (o := .lst _) hl ⟨_, upd_same, hr.le (Le.new hl)⟩) (rep_ref (by rw [← r.len]; simp))
    · exact h.elim
  · exact h.elim
theorem c_tuple : CallF X L (.type "tuple") gTuple := fun w => call_case fun xs H Q ⟨α, M, ds, r, rx, h⟩ => by
  unfold gTuple at h
  split at h
  · obtain ⟨x, rfl, r1⟩ := rx.one
    obtain ⟨t, vs, rfl, ht, hr⟩ := r1.tup
    exact ⟨_, call_tupleT, t, vs, rfl, ht.sq, PostR.pure h r r1⟩
  · split at h
    · rename_i ds e
      obtain ⟨x, rfl, r1⟩ := rx.one
      obtain ⟨a, ha, rfl⟩ := r1.ref
      obtain ⟨a', vs, ha', hv, hr⟩ := r.list e
      rw [ha] at ha'; cases ha'
      refine ⟨_, call_tuple_of, a, vs, rfl, .inl ⟨.of hv, fun l hl => ?_⟩⟩
      exact h α _ _ (Le.tup hl) (r.tup hl) (rep_tup upd_same (hr.le (Le.tup hl)))
    · exact h.elim
  · exact h.elim
theorem bls_at {K : PySem.W.Frag} {α : List Addr} {M : Mem} {H : Hp} (r : Rel K L α M H) {n : Nat} {ds : List D} {ns : List Bool} {x : V} (e : listAt M n = some ds) (e2 : blsOf ds = some ns) (r1 : Rep K α H (.ref n) x) : ∃ a, x = .ref a ∧ SqL K H a (ns.map V.bl) := by
  obtain ⟨a, ha, rfl⟩ := r1.ref
  obtain ⟨a', vs, ha', hv, hr⟩ := r.list e
  rw [ha] at ha'; cases ha'
  rw [blsOf_map e2] at hr
  exact ⟨a, rfl, by rw [← hr.bls]; exact .of hv⟩
theorem c_all (hc : X.calm = true) : CallF X L (.builtin "all") gAll := fun w => call_case fun xs H Q ⟨α, M, ds, r, rx, h⟩ => by
  unfold gAll at h
  split at h
  · split at h
    · rename_i ds e
      split at h
      · rename_i ns e2
        obtain ⟨x, rfl, r1⟩ := rx.one
        obtain ⟨a, rfl, hs⟩ := bls_at r e e2 r1
        exact ⟨_, cr_all hc, a, ns, rfl, hs, PostR.pure h r rep_bl⟩
      · exact h.elim
    · exact h.elim
  · exact h.elim
theorem c_any (hc : X.calm = true) : CallF X L (.builtin "any") gAny := fun w => call_case fun xs H Q ⟨α, M, ds, r, rx, h⟩ => by
  unfold gAny at h
  split at h
  · split at h
    · rename_i ds e
      split at h
      · rename_i ns e2
        obtain ⟨x, rfl, r1⟩ := rx.one
        obtain ⟨a, rfl, hs⟩ := bls_at r e e2 r1
        exact ⟨_, cr_any hc, a, ns, rfl, hs, PostR.pure h r rep_bl⟩
      · exact h.elim
    · exact h.elim
  · exact h.elim
end
/-! ### lists, tuples as they are written -/
def dTup (a : AF) : EF := fun s M => (a s M).bind fun ds M1 => match decide (ds.length ≤ sizeLine) with
  | true => .ok (.tup ds) M1
  | false => .bad
def dLst (a : AF) : EF := fun s M => (a s M).bind fun ds M1 => match decide (ds.length ≤ sizeLine) with
  | true => .ok (.ref M1.length) (M1 ++ [.lst ds])
  | false => .bad
section
variable {X : Cx} {L : Lay} {W : WX} {es : List Expr} {fa : AF} {pos : Pos}
theorem fe_tup {x1} (h : FA X L W es fa) : FE X L W (.Tuple es x1 pos) (dTup fa) := peImp (pe_tup h) fun σ H Q ⟨α, M, s, r, sl, q⟩ =>
  ⟨α, M, s, r, sl, (PostR.bind (R := Reps _) q).imp fun xs H1 ⟨ds, α1, M1, l1, r1, rx, h1⟩ => by
    dsimp only at h1
    split at h1
    · rename_i c
      refine ⟨by rw [← rx.length]; exact dt c, fun p hp => ?_⟩
      exact h1 α1 _ _ (Le.tup hp) (r1.tup hp) (rep_tup upd_same (rx.le (Le.tup hp)))
    · exact h1.elim⟩
theorem fe_lst (h : FA X L W es fa) : FE X L W (.List es pos) (dLst fa) := peImp (pe_lst h) fun σ H Q ⟨α, M, s, r, sl, q⟩ =>
  ⟨α, M, s, r, sl, (PostR.bind (R := Reps _) q).imp fun xs H1 ⟨ds, α1, M1, l1, r1, rx, h1⟩ => by
    dsimp only at h1
    split at h1
    · rename_i c
      refine ⟨by rw [← rx.length]; exact dt c, fun p hp => ?_⟩
      exact h1 _ _ _ (Le.new hp) (r1.new (o := .lst _) hp ⟨_, upd_same, rx.le (Le.new hp)⟩) (rep_ref (by rw [← r1.len]; simp))
    · exact h1.elim⟩
end
end Fl
namespace Fl
open PySem PySem.Spec L2
/-- a def that does what the function S does -/
def spF (K : PySem.W.Frag) (L : Lay) (S : List D → Mem → Res D) : Sp := fun vs H Q E => ∃ α M ds, Rel K L α M H ∧ Reps K α H ds vs ∧ PostR K L (Rep K) (S ds M) α H Q E
/-- S takes n values -/
def Arity (n : Nat) (S : List D → Mem → Res D) : Prop := ∀ ds M, ds.length ≠ n → S ds M = .bad
theorem spF_len {K : PySem.W.Frag} {L : Lay} {n : Nat} {S : List D → Mem → Res D} (h : Arity n S) : ∀ vs H Q E, spF K L S vs H Q E → vs.length = n := fun vs H Q E ⟨α, M, ds, r, rs, p⟩ => by
  by_cases e : ds.length = n
  · rw [← rs.length]; exact e
  · rw [h ds M e] at p; exact p.elim
section
variable {X : Cx} {L : Lay} {W : WX} {k n : Nat} {f C : Addr} {fd : FuncData} {ps ks : List Str} {S : List D → Mem → Res D} {g : List Value → List Value → List Value} {gV : List V → List V → List V}
theorem run_g {sp : Sp} {pins : List (Addr × Obj)} {σ : L2.St} {H : Hp} {s : Shared} {Q : VK} {us ws : List Value} {vs zs : List V} (F : FnOk X.prog X.w X.K X.mg X.base (L2.CX X.prog X.w) k f fd ps sp) (hr : Room k X.A) (hb : KBn X.K fd ps n ks g gV) (tk : Takes X W)
    (I : Inv X pins σ H s) (r : Vals vs us) (rz : Vals zs ws) (l1 : vs.length = n) (l2 : zs.length = ks.length) (h : sp (gV vs zs) H Q (WE W σ)) : wpAny (model X.prog X.w) X.A (call (.ref f) us (ks.zip ws)) (EP X pins σ Q) X.xe s := by
  refine wpAny_call (codeAny_mono (F.run X.A X.stack s H ⟨us, ks.zip ws⟩ (g us ws) (gV vs zs) Q (WE W σ) hr I.env0 (hb.to s us ws I.kIn (r.length.symm.trans l1) (rz.length.symm.trans l2)) (hb.rel r rz) h) fun r s' hq => ?_)
  cases r with
  | error e => exact passAt tk σ pins H s e s' I hq
  | ok fl => cases fl <;> first | exact I.after hq | exact False.elim hq
/-- the values of a call in the row of the parameters -/
structure GRel (K : PySem.W.Frag) (gD : List D → List D → List D) (gV : List V → List V → List V) : Prop where
  to : ∀ {α : List Addr} {H : Hp} {ds es : List D} {vs zs : List V}, Reps K α H ds vs → Reps K α H es zs → Reps K α H (gD ds es) (gV vs zs)
def lenIs (n : Nat) (l : List D) (r : Res D) : Res D := match decide (l.length = n) with
  | true => r
  | false => .bad
/-- f(e, .., k = v, ..) -/
def dCall (n m : Nat) (S : List D → Mem → Res D) (gD : List D → List D → List D) (fa fk : AF) : EF := fun s M => (fa s M).bind fun xs M1 => (fk s M1).bind fun zs M2 => lenIs n xs (lenIs m zs (S (gD xs zs) M2))
theorem lenIs_post {K : PySem.W.Frag} {α : List Addr} {H : Hp} {R : List Addr → Hp → D → V → Prop} {r : Res D} {Q : VK} {w : W3} {l : List D} (h : PostR K L R (lenIs n l r) α H Q w) : l.length = n ∧ PostR K L R r α H Q w := by
  unfold lenIs at h
  split at h
  · rename_i c
    exact ⟨dt c, h⟩
  · exact h.elim
abbrev FK (X : Cx) (L : Lay) (W : WX) (kws : List Keyword) (f : AF) : Prop := PK X kws (LA X.K L W f)
theorem pkImp {e : List Keyword} {t t' : TA} (h : PK X e t) (i : ∀ σ H Q, t' σ H Q → t σ H Q) : PK X e t' := ⟨fun pos pins s σ H Q I q => h.run pos pins s σ H Q I (i σ H Q q)⟩
theorem fk_nil : FK X L W [] dNil := pkImp pk_nil fun σ H Q ⟨α, M, s, r, sl, q⟩ => PostR.pure q r reps_nil
theorem fk_cons {nm : Option Str} {e : Expr} {kpos : Pos} {kws : List Keyword} {fe : EF} {t : AF} (ha : FE X L W e fe) (hr : FK X L W kws t) : FK X L W (⟨nm, e, kpos⟩ :: kws) (dCons fe t) := pkImp (pk_cons ha hr) fun σ H Q ⟨α, M, s, r, sl, q⟩ =>
  ⟨α, M, s, r, sl, (PostR.bind (R := Rep _) q).imp fun x H1 ⟨dx, α1, M1, l1, r1, rx, h1⟩ =>
    ⟨α1, M1, s, r1, sl.le l1, (PostR.bind (R := Reps _) h1).imp fun y H2 ⟨dy, α2, M2, l2, r2, ry, h2⟩ => PostR.pure h2 r2 (reps_cons (rx.le l2) ry)⟩⟩
variable {x m : Str} {p pos apos : Pos} {e o : Expr} {es : List Expr} {kws : List Keyword} {fa fk : AF} {fo : EF} {gD : List D → List D → List D}
theorem fe_call (F : FnOk X.prog X.w X.K X.mg X.base (L2.CX X.prog X.w) k f fd ps (spF X.K L S)) (hr : Room k X.A) (tk : Takes X W) (hg : Gl X x) (hm : X.mg x = some (.ref f)) (hk : PySem.W.keepIn X.K (.ref f) = true) (hb : KBn X.K fd ps n [] g gV) (hG : GRel X.K gD gV)
    (ha : FA X L W (e :: es) fa) (hdb : (x == ("__debug__" : Str)) = false := by decide) (he : starEach (e :: es) X.env = (false, eval e X.env) :: starEach es X.env := by rfl) (hpl : (backTo pos (starEach es X.env)).any (·.1) = false := by rfl) :
    FE X L W (.Call (.Name x p) (e :: es) [] pos) (dCall n 0 S gD fa dNil) := by
  refine ⟨fun pins s σ H Q I ⟨α, M, sd, r, sl, h⟩ => ?_⟩
  refine wpAny_Call_Name_kw (ld_glob I hg hm ?_ hdb)
  refine PySem.W.callWith_K (h₀ := X.base) I.ok.mod.kin hk (thn (ha.run pos pins s σ H _ I ⟨α, M, sd, r, sl, (PostR.bind (R := Reps _) h).imp fun xs H1 q => q⟩) fun us s1 ⟨vs, H1, I1, rv, q⟩ => ⟨I1.kIn, ?_⟩) he hpl
  obtain ⟨ds, α1, M1, l1, r1, rs, h1⟩ := q
  obtain ⟨n1, h1⟩ := lenIs_post h1
  obtain ⟨_, h1⟩ := lenIs_post h1
  exact run_g (us := us) (ws := []) (vs := vs) (zs := []) F hr hb tk I1 rv .nil (rs.length.symm.trans n1) rfl ⟨α1, M1, _, r1, hG.to rs reps_nil, h1⟩
theorem fe_callK (F : FnOk X.prog X.w X.K X.mg X.base (L2.CX X.prog X.w) k f fd ps (spF X.K L S)) (hr : Room k X.A) (tk : Takes X W) (hg : Gl X x) (hm : X.mg x = some (.ref f)) (hk : PySem.W.keepIn X.K (.ref f) = true) (hb : KBn X.K fd ps n ks g gV) (hG : GRel X.K gD gV)
    (ha : FA X L W (e :: es) fa) (hkw : FK X L W kws fk) (hall : (backToKw pos (keywordEach kws X.env)).all (·.1.isSome) = true := by rfl) (hks : (backToKw pos (keywordEach kws X.env)).filterMap (·.1) = ks := by rfl)
    (hdb : (x == ("__debug__" : Str)) = false := by decide) (he : starEach (e :: es) X.env = (false, eval e X.env) :: starEach es X.env := by rfl)
    (hpl : ((backTo pos (starEach (e :: es) X.env)).any (·.1) || (backToKw pos (keywordEach kws X.env)).any (·.1.isNone)) = false := by rfl) :
    FE X L W (.Call (.Name x p) (e :: es) kws pos) (dCall n ks.length S gD fa fk) := by
  refine ⟨fun pins s σ H Q I ⟨α, M, sd, r, sl, h⟩ => ?_⟩
  refine wpAny_Call_Name_kw (ld_glob I hg hm ?_ hdb)
  refine PySem.W.callWith_KW (h₀ := X.base) I.ok.mod.kin hk hall (thn (ha.run pos pins s σ H _ I ⟨α, M, sd, r, sl, (PostR.bind (R := Reps _) h).imp fun xs H1 q => q⟩) fun us s1 ⟨vs, H1, I1, rv, q⟩ => ?_) hpl he
  obtain ⟨ds, α1, M1, l1, r1, rs, h1⟩ := q
  refine thn (hkw.run pos pins s1 σ H1 _ I1 ⟨α1, M1, sd, r1, sl.le l1, (PostR.bind (R := Reps _) h1).imp fun xs H1 q => q⟩) fun ws s2 ⟨zs, H2, I2, rz, q⟩ => ⟨I2.kIn, ?_⟩
  obtain ⟨es', α2, M2, l2, r2, re, h2⟩ := q
  obtain ⟨n1, h2⟩ := lenIs_post h2
  obtain ⟨n2, h2⟩ := lenIs_post h2
  rw [hks]
  exact run_g (us := us) (ws := ws) (vs := vs) (zs := zs) F hr hb tk I2 rv rz (rs.length.symm.trans n1) (re.length.symm.trans n2) ⟨α2, M2, _, r2, hG.to (rs.le l2) re, h2⟩
/-! ### objects -/
theorem FsR.length {K : PySem.W.Frag} {α : List Addr} {H : Hp} {fs : List (Nat × D)} {vs : List (Str × V)} (h : FsR K L α H fs vs) : fs.length = vs.length := Paired.length h
/-! ### methods -/
/-! ### C(e, .., k = v, ..): the instance, then its __init__ -/
end
end Fl
namespace Fl
open PySem PySem.Spec L2
/-! ### targets -/
/-- the slots at is alone are changed -/
def Own (is : List Nat) (σ σ' : L2.St) : Prop := σ'.length = σ.length ∧ ∀ j, j ∉ is → σ'[j]? = σ[j]?
theorem Own.refl (is : List Nat) (σ : L2.St) : Own is σ σ := ⟨rfl, fun _ _ => rfl⟩
theorem Own.set {is : List Nat} {σ : L2.St} {i : Nat} {v : Option V} (h : i ∈ is) : Own is σ (σ.set i v) := ⟨by rw [List.length_set], fun j hj => by
  have ne : i ≠ j := fun z => hj (by rw [← z]; exact h)
  rw [List.getElem?_set_ne ne]⟩
theorem Own.trans {is : List Nat} {a b c : L2.St} (h : Own is a b) (h' : Own is b c) : Own is a c := ⟨h'.1.trans h.1, fun j hj => (h'.2 j hj).trans (h.2 j hj)⟩
theorem Own.wipe {is : List Nat} {σ σ' : L2.St} (h : Own is (wipe σ is) σ') : L2.wipe σ' is = L2.wipe σ is := by
  have hl : σ'.length = σ.length := h.1.trans (wipe_length σ is)
  have key : ∀ (τ : L2.St) (ks : List Nat) (j : Nat), j ∈ ks → j < τ.length → (L2.wipe τ ks)[j]? = some none := by
    intro τ ks
    induction ks with
    | nil => intro j hj; cases hj
    | cons v vs ih =>
      intro j hj hlt
      unfold L2.wipe
      by_cases e : v = j
      · subst e
        rw [List.getElem?_set_self (by rw [wipe_length]; exact hlt)]
      · rw [List.getElem?_set_ne e]
        rcases List.mem_cons.mp hj with q | q
        · exact absurd q.symm e
        · exact ih j q hlt
  refine List.ext_getElem? fun j => ?_
  by_cases hj : j ∈ is
  · by_cases hlt : j < σ.length
    · rw [key σ' is j hj (by omega), key σ is j hj hlt]
    · rw [List.getElem?_eq_none (by rw [wipe_length]; omega), List.getElem?_eq_none (by rw [wipe_length]; omega)]
  · rw [wipe_out hj, h.2 j hj]
abbrev GF := D → Sl → Mem → Res Sl
abbrev GsF := List D → Sl → Option Sl
abbrev RSl (K : PySem.W.Frag) (is : List Nat) (σ : L2.St) : List Addr → Hp → Sl → L2.St → Prop := fun α H s σ' => Slots K α H s σ' ∧ Own is σ σ'
def LG (K : PySem.W.Frag) (L : Lay) (W : WX) (is : List Nat) (f : GF) : TG := fun v σ H Q => ∃ α M s d, Rel K L α M H ∧ Slots K α H s σ ∧ Rep K α H d v ∧ PostR K L (RSl K is σ) (f d s M) α H (fun σ' H' => Own is σ σ' → Q σ' H') (fun c d H' => W c d σ H')
def LGs (K : PySem.W.Frag) (L : Lay) (is : List Nat) (f : GsF) : TGs := fun vs σ H Q => ∃ α M s ds s2, Rel K L α M H ∧ Slots K α H s σ ∧ Reps K α H ds vs ∧ f ds s = some s2 ∧ ∀ σ', Slots K α H s2 σ' → Own is σ σ' → Q σ' H
abbrev FG (X : Cx) (L : Lay) (W : WX) (is : List Nat) (tg : Expr) (f : GF) : Prop := PG X tg (LG X.K L W is f)
abbrev FGs (X : Cx) (L : Lay) (is : List Nat) (ts : List Expr) (f : GsF) : Prop := PGs X ts (LGs X.K L is f)
def gN (i : Nat) : GF := fun d s M => .ok (s.set i (some d)) M
def gsNil : GsF := fun ds s => match ds with
  | [] => some s
  | _ => none
def gsCons (i : Nat) (r : GsF) : GsF := fun ds s => match ds with
  | d :: ds => r ds (s.set i (some d))
  | _ => none
def gT (n : Nat) (r : GsF) : GF := fun d s M => match d with
  | .tup ds => (match decide (ds.length = n), r ds s with
    | true, some s2 => .ok s2 M
    | _, _ => .bad)
  | _ => .bad
section
variable {X : Cx} {L : Lay} {W : WX} {is : List Nat} {pos : Pos}
theorem pgImp {e : Expr} {t t' : TG} (h : PG X e t) (i : ∀ v σ H Q, t' v σ H Q → t v σ H Q) : PG X e t' := ⟨fun pins s σ H v u Q I r q => h.run pins s σ H v u Q I r (i v σ H Q q)⟩
theorem pgsImp {e : List Expr} {t t' : TGs} (h : PGs X e t) (i : ∀ v σ H Q, t' v σ H Q → t v σ H Q) : PGs X e t' := ⟨fun pins s σ H v u Q I r q => h.run pins s σ H v u Q I r (i v σ H Q q)⟩
theorem fg_name {i : Nat} {x : Str} (hm : i ∈ is) (hN : X.N.Nodup) (hi : X.N[i]? = some x) (hx : Loc X.env.scope x) (hf : X.fn x = true ∨ X.env.scope.names.lookup x = some .local := by first | exact .inl rfl | exact .inr rfl | assumption) : FG X L W is (.Name x pos) (gN i) :=
  pgImp (pg_name hN hi hx hf) fun v σ H Q ⟨α, M, s, d, r, sl, rd, h⟩ => PostR.pure h r ⟨sl.set i rd, Own.set hm⟩ (Own.set hm)
theorem fgs_nil : FGs X L is [] gsNil := pgsImp pgs_nil fun vs σ H Q ⟨α, M, s, ds, s2, r, sl, rd, e, h⟩ => by
  cases ds with
  | nil => cases e; exact ⟨rd.nil, h σ sl (Own.refl _ _)⟩
  | cons a b => cases e
theorem fgs_cons {i : Nat} {x : Str} {es : List Expr} {f : GsF} (hm : i ∈ is) (hN : X.N.Nodup) (hi : X.N[i]? = some x) (hx : Loc X.env.scope x) (h2 : FGs X L is es f) (hf : X.fn x = true ∨ X.env.scope.names.lookup x = some .local := by first | exact .inl rfl | exact .inr rfl | assumption)
    (hs : (assignEach (.Name x pos :: es) X.env).map (·.2) = assign (.Name x pos) X.env :: (assignEach es X.env).map (·.2) := by rfl) : FGs X L is (.Name x pos :: es) (gsCons i f) :=
  pgsImp (pgs_cons (pg_name hN hi hx hf) h2 hs) fun vs σ H Q ⟨α, M, s, ds, s2, r, sl, rd, e, h⟩ => by
    cases ds with
    | nil => cases e
    | cons d ds =>
      obtain ⟨v, vs', rfl, h1, h3⟩ := rd.cons
      exact ⟨v, vs', rfl, α, M, _, ds, s2, r, sl.set i h1, h3, e, fun σ' q o => h σ' q ((Own.set hm).trans o)⟩
theorem fg_tup {es : List Expr} {k n : Nat} {f : GsF} (hc : X.calm = true) (h : FGs X L is es f) (hn : (assignEach es X.env).length = n := by rfl) (hst : (assignEach es X.env).findIdx? (·.1) = none := by rfl) : FG X L W is (.Tuple es k pos) (gT n f) :=
  pgImp (pg_tup hc h hn hst) fun v σ H Q ⟨α, M, s, d, r, sl, rd, q⟩ => by
    cases d <;> try exact q.elim
    rename_i ds
    unfold gT at q
    dsimp only at q
    split at q
    · rename_i s2 e1 e2
      obtain ⟨t, vs, rfl, ht, hr⟩ := rd.tup
      exact ⟨t, vs, rfl, ht.sq, by rw [← hr.length]; exact dt e1, α, M, s, ds, s2, r, sl, hr, e2, fun σ' h1 o => PostR.pure q r ⟨h1, o⟩ o⟩
    · exact q.elim
/-- x = e to any target -/
def sAsg (f : EF) (g : GF) : SF := fun s M => (f s M).toS s fun d M1 => (g d s M1).toS s fun s2 M2 => .nx s2 M2
theorem fs_asg {tg e : Expr} {f : EF} {g : GF} (he : FE X L W e f) (hg : FG X L W is tg g) (hs : swapsWithSole [tg] e pos.line X.env = pure false := by rfl) (hw : swappedStores [tg] e X.env = pure none := by rfl)
    (h1 : (assignEach [tg] X.env).map (·.2) = [assign tg X.env] := by rfl) : FS X L W (.Assign [tg] e pos) (sAsg f g) := psImp (ps_asg he hg hs hw h1) fun D σ H ⟨α, M, s, r, sl, q⟩ =>
  ⟨α, M, s, r, sl, (PostR.toS (R := Rep _) sl q).imp fun x H1 ⟨dx, α1, M1, l1, r1, rx, h1⟩ =>
    ⟨α1, M1, s, dx, r1, sl.le l1, rx, (PostR.toS (R := RSl _ is σ) (sl.le l1) h1).imp fun σ' H2 ⟨s2, α2, M2, l2, r2, ⟨q1, q2⟩, h2⟩ _ => h2 α2 H2 σ' (Le.refl _ _) r2 q1⟩⟩
end
/-! ### what is walked -/
/-- at turn i: the next item, the end, or nothing that is told -/
abbrev ItF := Nat → Mem → Option (Option D)
def ItAt (K : PySem.W.Frag) (L : Lay) (α : List Addr) (H : Hp) (M : Mem) (J : It) (i : Nat) : Option (Option D) → Prop
  | none => True
  | some none => J.stop i H
  | some (some d) => J.go i H ∧ ∀ x H2, J.yld i H x H2 → Le α H α H2 ∧ Rel K L α M H2 ∧ Rep K α H2 d x
/-- what a walk leans on -/
structure Lx (α : List Addr) (H : Hp) (α' : List Addr) (H' : Hp) : Prop where
  ext : ∃ β, α' = α ++ β
  tups : ∀ a xs, H a = some (.tup xs) → H' a = some (.tup xs)
  rols : ∀ a o u, H a = some (.frz o u) → H' a = some (.frz o u)
theorem Le.lx {α α' : List Addr} {H H' : Hp} (l : Le α H α' H') : Lx α H α' H' := ⟨let ⟨β, e, _⟩ := l.ext; ⟨β, e⟩, l.tups, l.rols⟩
theorem Lx.lw {α α' : List Addr} {H H' : Hp} (l : Lx α H α' H') : Lw α H α' H' := ⟨l.ext, l.tups, fun a o xs h => l.rols a o _ h⟩
theorem Lx.trans {α α1 α2 : List Addr} {H H1 H2 : Hp} (a : Lx α H α1 H1) (b : Lx α1 H1 α2 H2) : Lx α H α2 H2 :=
  ⟨let ⟨β, e⟩ := a.ext; let ⟨γ, e'⟩ := b.ext; ⟨β ++ γ, by rw [e', e, List.append_assoc]⟩, fun x xs h => b.tups x xs (a.tups x xs h), fun x o xs h => b.rols x o xs (a.rols x o xs h)⟩
theorem Lx.get {α α' : List Addr} {H H' : Hp} (l : Lx α H α' H') {n : Nat} {a : Addr} (h : α[n]? = some a) : α'[n]? = some a := l.lw.get h
def RIt (K : PySem.W.Frag) (L : Lay) : List Addr → Hp → ItF × Nat → It → Prop := fun α H nx J => ∀ i α' H' M', Lx α H α' H' → Rel K L α' M' H' → ItAt K L α' H' M' J i (nx.1 i M')
theorem RIt.le {K : PySem.W.Frag} {L : Lay} {α α' : List Addr} {H H' : Hp} {nx : ItF × Nat} {J : It} (l : Le α H α' H') (h : RIt K L α H nx J) : RIt K L α' H' nx J := fun i α2 H2 M2 l2 r2 => h i α2 H2 M2 (l.lx.trans l2) r2
abbrev IF := Sl → Mem → Res (ItF × Nat)
def LI (K : PySem.W.Frag) (L : Lay) (W : WX) (f : IF) : TI := fun σ H R => ∃ α M s, Rel K L α M H ∧ Slots K α H s σ ∧ PostR K L (RIt K L) (f s M) α H R (fun c d H' => W c d σ H')
abbrev FI (X : Cx) (L : Lay) (W : WX) (tg iter : Expr) (f : IF) : Prop := PI X tg iter (LI X.K L W f)
def nxL (n : Nat) : ItF := fun i M => match listAt M n with
  | some ds => some ds[i]?
  | none => none
def nxT (ds : List D) : ItF := fun i _ => some ds[i]?
def nxR (lo : Int) (n : Nat) : ItF := fun i _ => match decide (i < n) with
  | true => some (some (.int (lo + i)))
  | false => some none
/-- over a list or a tuple -/
def iSeq (f : EF) : IF := fun s M => (f s M).bind fun d M1 => match d with
  | .tup ds => .ok (nxT ds, ds.length + 1) M1
  | .ref n => (match listAt M1 n with
    | some ds => .ok (nxL n, ds.length + 1) M1
    | none => .bad)
  | _ => .bad
def iRng1 (a : AF) : IF := fun s M => (a s M).bind fun ds M1 => match ds with
  | [.int j] => (match decide (-(2 ^ 62) ≤ j ∧ j < 2 ^ 62) with
    | true => .ok (nxR 0 j.toNat, j.toNat + 1) M1
    | false => .bad)
  | _ => .bad
section
variable {X : Cx} {L : Lay} {W : WX} {pos : Pos} {tg e : Expr} {f : EF}
theorem piImp {t t' : TI} (h : PI X tg e t) (i : ∀ σ H Q, t' σ H Q → t σ H Q) : PI X tg e t' := ⟨fun pins s σ H Q I q => h.run pins s σ H Q I (i σ H Q q)⟩
/-- a record newly laid is ours to walk -/
theorem own_it {X : Cx} {pins : List (Addr × Obj)} {σ : L2.St} {H : Hp} {s : Shared} (I : L2.Inv X pins σ H s) : ∀ b ∈ [s.heap.objs.size], FpOk X pins H b := fun b hb => by
  rw [List.mem_singleton.mp hb]
  exact I.fpOk (Nat.le_refl _) I.fresh
theorem it_seq {X : Cx} {tg : Expr} {pins : List (Addr × Obj)} {σ : L2.St} {H : Hp} {s : Shared} {a : Addr} {xs : List V} {R : It → Hp → Prop} (I : L2.Inv X pins σ H s)
    (h : (SqL X.K H a xs ∧ R (Itl X.K a) H) ∨ (SqT X.K H a xs ∧ R (Itt X.K a) H)) : wpAny (model X.prog X.w) X.A (pyIter (.ref a)) (PIE X pins σ tg R) X.xe s := by
  have keep : ∀ (o : Obj) b u, s.heap.get? b = some u → (s.heap.push o).get? b = some u := fun o b u e => Heap.get?_push_of_some o e
  rcases h with ⟨hq, q⟩ | ⟨hq, q⟩
  · obtain ⟨its, _, p, _⟩ := I.list hq
    exact wpAny_pyIter_list p.isList ⟨_, _, _, _, H, rfl, I.kept (t' := s.toks) (keep _),
      turn_list a s.heap.objs.size, ⟨_, Heap.get?_push_size _ rfl, rfl, rfl⟩, own_it I, q⟩
  · obtain ⟨its, _, p, _⟩ := I.tuple hq
    have p' : s.heap.IsTuple a its.toArray := p
    exact wpAny_pyIter_tuple p' ⟨_, _, _, _, H, rfl, I.kept (t' := s.toks) (keep _),
      turn_tuple a s.heap.objs.size, ⟨_, Heap.get?_push_size _ rfl, rfl, rfl⟩, own_it I, q⟩
theorem fi_seq (he : FE X L W e f) : FI X L W tg e (iSeq f) := ⟨fun pins s σ H R I ⟨α, M, sd, r, sl, h⟩ => by
  refine thn (he.run pins s σ H _ I ⟨α, M, sd, r, sl, PostR.bind (R := Rep _) h⟩) fun v s1 ⟨x, H1, I1, rx, ⟨dx, α1, M1, l1, r1, rd, h1⟩⟩ => ?_
  dsimp only at h1
  split at h1
  · rename_i ds
    obtain ⟨t, vs, rfl, ht, hr⟩ := rd.tup
    cases rx
    refine it_seq I1 (.inr ⟨ht.sq, PostR.pure (R := RIt _ _) h1 r1 fun i α' H' M' l' r' => ?_⟩)
    have ht' := (ht.lw l'.lw).sq
    have hr' := hr.lw l'.lw
    show ItAt X.K L α' H' M' (Itt X.K t) i (some ds[i]?)
    cases e1 : ds[i]? with
    | none => exact ⟨vs, ht', by rw [← hr'.length]; exact List.getElem?_eq_none_iff.mp e1⟩
    | some d =>
      obtain ⟨v, e2, rv⟩ := hr'.at e1
      refine ⟨⟨vs, v, ht', e2⟩, fun x H2 y => ?_⟩
      obtain ⟨rfl, y⟩ := y
      have e3 := y vs ht'
      rw [e2] at e3; cases e3
      exact ⟨Le.refl _ _, r', rv⟩
  · rename_i n
    split at h1
    · rename_i ds e0
      obtain ⟨a, ha, rfl⟩ := rd.ref
      obtain ⟨a', vs, ha', hv, hr⟩ := r1.list e0
      rw [ha] at ha'; cases ha'
      cases rx
      refine it_seq I1 (.inl ⟨.of hv, PostR.pure (R := RIt _ _) h1 r1 fun i α' H' M' l' r' => ?_⟩)
      show ItAt X.K L α' H' M' (Itl X.K a) i (nxL n i M')
      unfold nxL
      cases e1 : listAt M' n with
      | none => trivial
      | some es =>
        obtain ⟨a2, us, ha2, hu, hr2⟩ := r'.list e1
        rw [l'.get ha] at ha2; cases ha2
        show ItAt X.K L α' H' M' (Itl X.K a) i (some es[i]?)
        cases e2 : es[i]? with
        | none => exact ⟨us, .of hu, by rw [← hr2.length]; exact List.getElem?_eq_none_iff.mp e2⟩
        | some d =>
          obtain ⟨v, e3, rv⟩ := hr2.at e2
          refine ⟨⟨us, v, .of hu, e3⟩, fun x H2 y => ?_⟩
          obtain ⟨rfl, y⟩ := y
          have e4 := y us (.of hu)
          rw [e3] at e4; cases e4
          exact ⟨Le.refl _ _, r', rv⟩
    · exact h1.elim
  · exact h1.elim⟩
theorem rng_it {K : PySem.W.Frag} {α : List Addr} {H : Hp} {lo : Int} {n m : Nat} : RIt K L α H (nxR lo n, m) (Itr lo n) := fun i α' H' M' l' r' => by
  show ItAt K L α' H' M' (Itr lo n) i (nxR lo n i M')
  unfold nxR
  by_cases c : i < n
  · rw [decide_eq_true c]
    refine ⟨c, fun x H2 y => ?_⟩
    obtain ⟨rfl, rfl⟩ := y
    exact ⟨Le.refl _ _, r', rep_int⟩
  · rw [decide_eq_false c]
    exact Nat.le_of_not_lt c
theorem fi_rng1 {a : Expr} {fa : AF} {p : Pos} (hg : Gl X "range") (hm : X.mg "range" = none) (ha : FA X L W [a] fa) (hs : starEach [a] X.env = [(false, eval a X.env)] := by rfl) : FI X L W tg (.Call (.Name "range" p) [a] [] pos) (iRng1 fa) :=
  piImp (pi_range1 hg hm ha hs) fun σ H R ⟨α, M, s, r, sl, h⟩ => ⟨α, M, s, r, sl, (PostR.bind (R := Reps _) h).imp fun vs H1 ⟨ds, α1, M1, l1, r1, rs, h1⟩ => by
    dsimp only at h1
    split at h1
    · split at h1
      · rename_i c
        obtain ⟨x, rfl, rx⟩ := rs.one
        exact ⟨_, congrArg (fun z => [z]) rx.int, (dt c).1, (dt c).2, PostR.pure (R := RIt _ _) h1 r1 rng_it⟩
      · exact h1.elim
    · exact h1.elim⟩
end
/-! ### for -/
def sForL (nx : ItF) (g : GF) (body : SF) : Nat → Nat → SF
  | 0, _, _, _ => .bad
  | k + 1, i, s, M => match nx i M with
    | none => .bad
    | some none => .nx s M
    | some (some d) => (g d s M).toS s fun s1 M1 => match body s1 M1 with
      | .nx s2 M2 => sForL nx g body k (i + 1) s2 M2
      | .ct s2 M2 => sForL nx g body k (i + 1) s2 M2
      | .bk s2 M2 => .nx s2 M2
      | .rt d M2 => .rt d M2
      | .exc c f s2 M2 => .exc c f s2 M2
      | .bad => .bad
def sFor (fi : IF) (g : GF) (body : SF) : SF := fun s M => (fi s M).toS s fun nx M1 => sForL nx.1 g body nx.2 0 s M1
section
variable {X : Cx} {L : Lay} {W : WX} {pos : Pos} {tg iter : Expr} {body : List Stmt} {fi : IF} {g : GF} {fb : SF} {is : List Nat}
theorem fs_for (hp : PassesOwn (model X.prog X.w) X.A X.env X.xe) (hc : X.calm = true) (hi : FI X L W tg iter fi) (hg : FG X L W is tg g) (hb : FSs X L W body fb) (hs : ∀ x, foldedSetIterable iter X.env x = pure x := by intro _; rfl) : FS X L W (.For tg iter body [] pos) (sFor fi g fb) :=
  psImp (ps_for hp hc hi hg hb hs) fun D σ H ⟨α, M, s, r, sl, h⟩ => ⟨α, M, s, r, sl, (PostR.toS (R := RIt _ _) sl h).imp fun J H1 ⟨nx, α1, M1, l1, r1, it, h1⟩ => by
    refine ⟨fun i m σ H => ∃ α M s, Rel X.K L α M H ∧ Slots X.K α H s σ ∧ RIt X.K L α H nx J ∧ PostS X.K L W D α H (sForL nx.1 g fb m i s M), ⟨nx.2, α1, M1, s, r1, sl.le l1, it, h1⟩, ?_⟩
    rintro i m σ H ⟨α, M, s, r, sl, it, h⟩
    cases m with
    | zero => exact h.elim
    | succ k =>
      have q := it i α H M (Le.refl _ _).lx r
      unfold sForL at h
      cases e : nx.1 i M with
      | none => rw [e] at h; exact h.elim
      | some o =>
        rw [e] at h q
        cases o with
        | none => exact .inl ⟨q, h α H σ (Le.refl _ _) r sl⟩
        | some d =>
          obtain ⟨q1, q2⟩ := q
          refine .inr ⟨q1, fun σ H => ∃ α M s, Rel X.K L α M H ∧ Slots X.K α H s σ ∧ RIt X.K L α H nx J ∧ PostS X.K L W D α H (sForL nx.1 g fb k (i + 1) s M), fun σ' H' z => ⟨k, Nat.lt_succ_self _, z⟩, fun x H2 y => ?_⟩
          obtain ⟨l2, r2, rd⟩ := q2 x H2 y
          dsimp only at h
          have h' := PostS.le l2 h
          refine ⟨α, M, s, d, r2, sl.le l2, rd, (PostR.toS (R := RSl _ is σ) (sl.le l2) h').imp fun σ' H3 ⟨s1, α3, M3, l3, r3, ⟨q3, _⟩, h3⟩ _ => ?_⟩
          refine ⟨α3, M3, s1, r3, q3, ?_⟩
          have it3 := (it.le l2).le l3
          dsimp only at h3
          cases eb : fb s1 M3 with
          | nx s2 M2 => rw [eb] at h3; exact fun α' H' σ' l r' sl' => ⟨α', M2, s2, r', sl', it3.le l, PostS.le l h3⟩
          | ct s2 M2 => rw [eb] at h3; exact fun α' H' σ' l r' sl' => ⟨α', M2, s2, r', sl', it3.le l, PostS.le l h3⟩
          | bk s2 M2 => rw [eb] at h3; exact h3
          | rt d M2 => rw [eb] at h3; exact h3
          | exc c f s2 M2 => rw [eb] at h3; exact h3
          | bad => rw [eb] at h3; exact h3⟩
end
/-! ### while -/
/-! ### list comprehensions -/
def wipeD (s : Sl) : List Nat → Sl
  | [] => s
  | v :: vs => (wipeD s vs).set v none
theorem Slots.wipe {K : PySem.W.Frag} {α : List Addr} {H : Hp} {s : Sl} {σ : L2.St} (h : Slots K α H s σ) : ∀ is : List Nat, Slots K α H (wipeD s is) (L2.wipe σ is)
  | [] => h
  | v :: vs => (Slots.wipe h vs).del v none
/-- what is raised within a comprehension's block is not told of -/
def Res.noX {A : Type} (r : Res A) : Res A := match r with
  | .ok a M => .ok a M
  | _ => .bad
def lcL (nx : ItF) (g : GF) (tt : TF) (te : EF) (s : Sl) : Nat → Nat → Mem → Res (List D)
  | 0, _, _ => .bad
  | k + 1, i, M => match nx i M with
    | none => .bad
    | some none => .ok [] M
    | some (some d) => (g d s M).noX.bind fun s1 M1 => (tt s1 M1).noX.bind fun b M2 => match b with
      | true => (te s1 M2).noX.bind fun y M3 => (lcL nx g tt te s k (i + 1) M3).bind fun ys M4 => .ok (y :: ys) M4
      | false => lcL nx g tt te s k (i + 1) M2
def dLc (fi : IF) (g : GF) (tt : TF) (te : EF) (is : List Nat) : EF := fun s M => (fi s M).bind fun nx M1 => match decide (nx.2 ≤ sizeLine) with
  | true => (lcL nx.1 g tt te (wipeD s is) nx.2 0 M1).bind fun ys M2 => .ok (.ref M2.length) (M2 ++ [.lst ys])
  | false => .bad
abbrev FTs (X : Cx) (L : Lay) (W : WX) (es : List Expr) (f : TF) : Prop := PTs X es (LT X.K L W f)
def tYesF : TF := fun _ M => .ok true M
abbrev W0 : WX := fun _ _ _ _ => False
section
variable {X : Cx} {L : Lay} {W : WX}
theorem ptsImp {e : List Expr} {t t' : TT} (h : PTs X e t) (i : ∀ σ H Q, t' σ H Q → t σ H Q) : PTs X e t' := ⟨fun pins s σ H Q I q => h.run pins s σ H Q I (i σ H Q q)⟩
theorem fts_nil : FTs X L W [] tYesF := ptsImp pts_nil fun σ H Q ⟨α, M, s, r, sl, h⟩ => PostR.pure h r rfl
theorem fts_one {c : Expr} {f : TF} (h : FT X L W c f) : FTs X L W [c] f := pts_one h
theorem nox_bind {K : PySem.W.Frag} {A B C B' : Type} {R : List Addr → Hp → A → B → Prop} {R' : List Addr → Hp → C → B' → Prop} {r : Res A} {g : A → Mem → Res C} {α α0 : List Addr} {H H0 : Hp} {Q : B' → Hp → Prop} {w : W3} (h : PostR K L R' (r.noX.bind g) α0 H0 Q w) (w' : W3) :
    PostR K L R r α H (Then K L R α H fun a M1 _ _ => PostR K L R' (g a M1) α0 H0 Q w) w' := by
  cases r with
  | ok a M => exact fun α1 H1 b l r1 rr => ⟨a, α1, M, l, r1, rr, h⟩
  | exc c f M => exact False.elim h
  | bad => exact False.elim h
/-- an object of ours that is not a place of the store changes: what is told of the store stays -/
theorem out_lw {α : List Addr} {H : Hp} {p : Addr} {o : HO} {xs : List V} (h : H p = some (.lst xs)) : Lw α H α (upd H p o) :=
  ⟨⟨[], by simp⟩, fun a ys e => by
    have ne : a ≠ p := fun z => by rw [z, h] at e; cases e
    rw [upd_ne ne]; exact e, fun a q ys e => by
    have ne : a ≠ p := fun z => by rw [z, h] at e; cases e
    rw [upd_ne ne]; exact e⟩
theorem out_le {α α' : List Addr} {H H' : Hp} {p : Addr} {o : HO} (l : Le α H α' H') (n : H p = none) (hp : p ∉ α') : Le α H α' (upd H' p o) := by
  refine ⟨l.ext, fun a u h hn => ?_, fun a h => ?_, fun a ys h => ?_, fun a q ys h => ?_⟩
  · rw [upd_ne (ne_of_none h n)]; exact l.keep a u h hn
  · by_cases e : a = p
    · rw [e, upd_same]; exact fun z => nomatch z
    · rw [upd_ne e]; exact l.dom a h
  · rw [upd_ne (ne_of_none h n)]; exact l.tups a ys h
  · rw [upd_ne (ne_of_none h n)]; exact l.rols a q ys h
theorem out_rel {K : PySem.W.Frag} {α : List Addr} {M : Mem} {H : Hp} {p : Addr} {o : HO} {xs : List V} (r : Rel K L α M H) (h : H p = some (.lst xs)) (hp : p ∉ α) : Rel K L α M (upd H p o) :=
  ⟨r.len, r.nd, fun i x a h1 h2 => (r.ob i x a h1 h2).stayW (out_lw h) (by rw [upd_ne (fun z => hp (by rw [← z]; exact List.mem_of_getElem? h2))]) (fun dd fs _ e => by
    have ne : dd ≠ p := fun z => by rw [z, h] at e; cases e
    rw [upd_ne ne]; exact e) fun _ _ z => z⟩
/-- D is told of at last -/
theorem out_in {K : PySem.W.Frag} {α : List Addr} {M : Mem} {H : Hp} {p : Addr} {xs : List V} {ds : List D} (r : Rel K L α M H) (h : H p = some (.lst xs)) (hp : p ∉ α) (q : Reps K α H ds xs) : Rel K L (α ++ [p]) (M ++ [.lst ds]) H := by
  have lw : Lw α H (α ++ [p]) H := ⟨⟨[p], rfl⟩, fun _ _ e => e, fun _ _ _ e => e⟩
  refine ⟨by rw [List.length_append, List.length_append, r.len]; rfl, List.nodup_append.mpr ⟨r.nd, by simp, fun a ha b hb => by rw [List.mem_singleton.mp hb]; exact fun z => hp (by rw [← z]; exact ha)⟩, fun i x a h1 h2 => ?_⟩
  by_cases hi : i < M.length
  · rw [List.getElem?_append_left hi] at h1
    rw [List.getElem?_append_left (by rw [r.len]; exact hi)] at h2
    have q' := r.ob i x a h1 h2
    cases x with
    | exc c f =>
      obtain ⟨cls, d, e1, e2, e3⟩ := q'
      refine ⟨cls, d, e1, e2.lw lw (fun _ _ _ z => z), fun dd ed hm => ?_⟩
      rcases List.mem_append.mp hm with z | z
      · exact e3 dd ed z
      · have ep := List.mem_singleton.mp z
        have e4 := e2.2
        cases f with
        | none => rw [e4] at ed; cases ed
        | some pf =>
          obtain ⟨d2, v, e5, e6, _⟩ := e4
          rw [ed] at e5; cases e5
          rw [ep, h] at e6; cases e6
    | lst ds => obtain ⟨vs, e1, e2⟩ := q'; exact ⟨vs, e1, e2.lw lw⟩
    | dk ds => obtain ⟨vs, e1, e2⟩ := q'; exact ⟨vs, e1, e2.lw lw⟩
    | dt ds => obtain ⟨vs, e1, e2⟩ := q'; exact ⟨vs, e1, e2.lw lw⟩
    | fk ds => obtain ⟨o, vs, e1, e2⟩ := q'; exact ⟨o, vs, e1, e2.lw lw⟩
    | ft ds => obtain ⟨o, vs, e1, e2⟩ := q'; exact ⟨o, vs, e1, e2.lw lw⟩
    | dn ds => obtain ⟨vs, e1, e2⟩ := q'; exact ⟨vs, e1, e2.lw lw⟩
    | fn ds => obtain ⟨o, vs, e1, e2⟩ := q'; exact ⟨o, vs, e1, e2.lw lw⟩
    | ins c fs => obtain ⟨dx, vs, e1, e2, e3⟩ := q'; exact ⟨dx, vs, e1, e2.lw lw, e3⟩
  · rw [List.getElem?_append_right (by omega)] at h1
    rw [List.getElem?_append_right (by rw [r.len]; omega), r.len] at h2
    have e : i - M.length = 0 := by
      cases z : i - M.length with
      | zero => rfl
      | succ k => rw [z] at h1; simp at h1
    rw [e] at h1 h2
    have e1 : MO.lst ds = x := by simpa using h1
    have e2 : p = a := by simpa using h2
    subst e1 e2
    exact ⟨xs, h, q.lw lw⟩
theorem bind_bind {A B C : Type} (r : Res A) (f : A → Mem → Res B) (g : B → Mem → Res C) : (r.bind f).bind g = r.bind fun a M => (f a M).bind g := by cases r <;> rfl
theorem lc_go {K : PySem.W.Frag} {fi : IF} {g : GF} {tt : TF} {te : EF} {is : List Nat} {σ : L2.St} {H : Hp} {Q : VK} (h : LE K L W (dLc fi g tt te is) σ H Q) : tLc (LI K L W fi) (LG K L W0 is g) (LT K L W0 tt) (LE K L W0 te) is σ H Q := by
  obtain ⟨α, M, s, r, sl, h⟩ := h
  refine ⟨α, M, s, r, sl, (PostR.bind (R := RIt _ _) h).imp fun J H1 ⟨nx, α1, M1, l1, r1, it, h1⟩ D hD => ?_⟩
  dsimp only at h1
  split at h1
  · rename_i hz
    have hz := dt hz
    have sl1 := (sl.le l1).wipe is
    have nd : D ∉ α1 := fun hm => by
      obtain ⟨u, hu, _⟩ := r1.mem hm
      rw [hD] at hu; cases hu
    -- what holds between two turns
    refine ⟨fun i m H => ∃ α M acc accV, i + m = nx.2 ∧ acc.length ≤ i ∧ Le α1 H1 α H ∧ Rel K L α M H ∧ H D = some (.lst accV) ∧ D ∉ α ∧ Reps K α H acc accV ∧
      PostR K L (Rep K) ((lcL nx.1 g tt te (wipeD s is) m i M).bind fun ys M2 => .ok (.ref M2.length) (M2 ++ [.lst (acc ++ ys)])) α1 H1 Q (fun c d H' => W c d σ H'), ⟨nx.2, ?_⟩, ?_⟩
    · have rT : Rel K L α1 M1 (upd H1 D (.lst [])) := ⟨r1.len, r1.nd, fun i x a e1 e2 => by
        obtain ⟨u, hu, _⟩ := (r1.ob i x a e1 e2).ours
        refine (r1.ob i x a e1 e2).stayW ⟨⟨[], by simp⟩, fun a ys e => by rw [upd_ne (ne_of_none e hD)]; exact e, fun a q ys e => by rw [upd_ne (ne_of_none e hD)]; exact e⟩ (by rw [upd_ne (ne_of_none hu hD)]) (fun dd fs _ e => by rw [upd_ne (ne_of_none e hD)]; exact e) fun _ _ z => z⟩
      exact ⟨α1, M1, [], [], by omega, Nat.le_refl _, out_le (Le.refl _ _) hD nd, rT, upd_same, nd, reps_nil, h1⟩
    · rintro i m H ⟨α, M, acc, accV, hn, hl, le, r, hH, ndα, hacc, hp⟩
      cases m with
      | zero => exact hp.elim
      | succ k =>
        have q := it i α H M le.lx r
        unfold lcL at hp
        cases e : nx.1 i M with
        | none => rw [e] at hp; exact hp.elim
        | some o =>
          rw [e] at hp q
          cases o with
          | none =>
            refine .inl ⟨q, ?_⟩
            have hp' : PostR K L (Rep K) (.ok (.ref M.length) (M ++ [.lst (acc ++ [])])) α1 H1 Q (fun c d H' => W c d σ H') := hp
            rw [List.append_nil] at hp'
            obtain ⟨β, eβ, fβ⟩ := le.ext
            have le2 : Le α1 H1 (α ++ [D]) H := ⟨⟨β ++ [D], by rw [eβ, List.append_assoc], fun b hb => by
              rcases List.mem_append.mp hb with z | z
              · exact fβ b z
              · rw [List.mem_singleton.mp z]; exact hD⟩, le.keep, le.dom, le.tups, le.rols⟩
            exact hp' _ H _ le2 (out_in r hH ndα hacc) (rep_ref (by rw [← r.len]; simp))
          | some d =>
            obtain ⟨q1, q2⟩ := q
            refine .inr ⟨q1, fun H => ∃ α M acc accV, (i + 1) + k = nx.2 ∧ acc.length ≤ i + 1 ∧ Le α1 H1 α H ∧ Rel K L α M H ∧ H D = some (.lst accV) ∧ D ∉ α ∧ Reps K α H acc accV ∧
              PostR K L (Rep K) ((lcL nx.1 g tt te (wipeD s is) k (i + 1) M).bind fun ys M2 => .ok (.ref M2.length) (M2 ++ [.lst (acc ++ ys)])) α1 H1 Q (fun c d H' => W c d σ H'), fun H' z => ⟨k, Nat.lt_succ_self _, z⟩, fun x H2 y => ?_⟩
            obtain ⟨lx, r2, rd⟩ := q2 x H2 y
            have le2 := le.trans lx
            -- D under a step of ours
            have keepD : ∀ {α α' : List Addr} {H H' : Hp} {M' : Mem}, Le α H α' H' → Rel K L α' M' H' → H D = some (.lst accV) → D ∉ α → H' D = some (.lst accV) ∧ D ∉ α' := fun {α α' H H' M'} l r' e n => by
              refine ⟨l.keep _ _ e n, fun hm => ?_⟩
              obtain ⟨β, eβ, fβ⟩ := l.ext
              rw [eβ] at hm
              rcases List.mem_append.mp hm with z | z
              · exact n z
              · rw [fβ D z] at e; cases e
            obtain ⟨hH2, nd2⟩ := keepD lx r2 hH ndα
            dsimp only at hp
            rw [bind_bind] at hp
            refine ⟨α, M, wipeD s is, d, r2, sl1.le le2, rd, (nox_bind (R := RSl K is (L2.wipe σ is)) hp _).imp fun σ2 H3 ⟨s1, α3, M3, l3, r3, ⟨q3, q4⟩, h3⟩ _ => ⟨q4.wipe, ?_⟩⟩
            obtain ⟨hH3, nd3⟩ := keepD l3 r3 hH2 nd2
            have le3 := le2.trans l3
            dsimp only at h3
            rw [bind_bind] at h3
            refine ⟨α3, M3, s1, r3, q3, (nox_bind (R := RB) h3 _).imp fun b H4 ⟨b', α4, M4, l4, r4, eb, h4⟩ => ?_⟩
            obtain ⟨hH4, nd4⟩ := keepD l4 r4 hH3 nd3
            have le4 := le3.trans l4
            subst eb
            dsimp only at h4
            cases b' with
            | false => exact iteF ⟨α4, M4, acc, accV, by omega, by omega, le4, r4, hH4, nd4, ((hacc.le lx).le l3).le l4, h4⟩
            | true =>
              refine iteT ?_
              dsimp only at h4
              rw [bind_bind] at h4
              refine ⟨α4, M4, s1, r4, q3.le l4, (nox_bind (R := Rep K) h4 _).imp fun y H5 ⟨dy, α5, M5, l5, r5, ry, h5⟩ => ?_⟩
              obtain ⟨hH5, nd5⟩ := keepD l5 r5 hH4 nd4
              have le5 := le4.trans l5
              have hacc5 := (((hacc.le lx).le l3).le l4).le l5
              refine ⟨accV, hH5, ?_, α5, M5, acc ++ [dy], accV ++ [y], by omega, by rw [List.length_append, List.length_singleton]; omega, out_le le5 hD nd5, out_rel r5 hH5 nd5, upd_same, nd5, (hacc5.append (reps_cons ry reps_nil)).lw (out_lw hH5), ?_⟩
              · rw [← hacc5.length]; omega
              · dsimp only at h5
                rw [bind_bind] at h5
                have ea : ∀ ys : List Fl.D, acc ++ [dy] ++ ys = acc ++ (dy :: ys) := fun ys => by simp
                simp only [ea]
                exact h5
  · exact h1.elim
theorem fe_lc {elt tg iter : Expr} {ifs : List Expr} {scope : Scope} {own : List (Str × Nat)} {pos : Pos} {fi : IF} {g : GF} {tt : TF} {te : EF} {is : List Nat} (hc : X.calm = true) (hN : X.N.Nodup) (hi : FI X L W tg iter fi) (ok : BlkOk X.N X.env.scope scope own) (ei : own.map (·.2) = is)
    (hg : ∀ (s : Shared) (H : Hp) (C : Addr) (cl : List (Str × Addr)) (fp : List Addr), FG (X.blk s H scope (compEnvC scope cl C X.env) fp) L W0 is tg g) (ht : ∀ (s : Shared) (H : Hp) (C : Addr) (cl : List (Str × Addr)) (fp : List Addr), FTs (X.blk s H scope (compEnvC scope cl C X.env) fp) L W0 ifs tt)
    (he : ∀ (s : Shared) (H : Hp) (C : Addr) (cl : List (Str × Addr)) (fp : List Addr), FE (X.blk s H scope (compEnvC scope cl C X.env) fp) L W0 elt te) (hs : ∀ x, foldedSetIterable iter X.env x = pure x := by intro _; rfl) :
    FE X L W (.ListComp elt [⟨tg, iter, ifs, 0⟩] scope pos) (dLc fi g tt te is) := by
  subst ei
  exact peImp (pe_lc hc hN hi ok hg ht he hs) fun σ H Q h => lc_go h
end
end Fl
namespace Fl
open PySem PySem.Spec L2
open PyProof.Rows (envOfC)
/-! ### a def -/
def startD (n : Nat) (ds : List D) : Sl := ds.map some ++ List.replicate (n - ds.length) none
theorem start_slots {K : PySem.W.Frag} {α : List Addr} {H : Hp} {N : List Str} {ds : List D} {vs : List V} (h : Reps K α H ds vs) : Slots K α H (startD N.length ds) (L2.start N vs) := by
  have hl := h.length
  unfold startD L2.start
  refine ⟨by rw [List.length_append, List.length_append, List.length_map, List.length_map, List.length_replicate, List.length_replicate, hl], fun i d e => ?_⟩
  by_cases hi : i < ds.length
  · rw [List.getElem?_append_left (by rw [List.length_map]; exact hi), List.getElem?_map] at e
    rw [List.getElem?_append_left (by rw [List.length_map]; omega), List.getElem?_map]
    cases q : ds[i]? with
    | none => rw [q] at e; cases e
    | some x =>
      rw [q] at e
      have e' : x = d := Option.some.inj (Option.some.inj e)
      subst e'
      obtain ⟨v, e1, r⟩ := h.at q
      exact ⟨v, by rw [e1]; rfl, r⟩
  · rw [List.getElem?_append_right (by rw [List.length_map]; omega), List.getElem?_replicate] at e
    split at e <;> cases e
section
variable {P : Program} {w : World} {K : PySem.W.Frag} {L : Lay} {mg : Str → Option Value} {base : Heap} {x qual : Str} {params : Arguments} {body : List Stmt} {scope : Scope} {dvs : List V} {kws : List (Str × V)} {f : Addr} {fd : FuncData} {N ps : List Str} {k : Nat} {S : List D → Mem → Res D} {fb : SF}
abbrev WD (E : XK) : WX := fun cls d _ H => E cls d H
theorem def_ok (F : FunD K x qual params body scope dvs kws f fd) (sc : FnScope N ps scope) (ar : Arity ps.length S)
    (hb : ∀ (cdv : Value) (A : Around) (outer : List Env) (s : Shared) (H : Hp) (E : XK), Room k (A.deeper (envOfC qual scope s.heap.objs.size f cdv)) → Takes (cxOf (L2.CX P w) P w K mg base N qual scope f cdv A outer s H E) (WD E) →
      PassesOwn (model P w) (A.deeper (envOfC qual scope s.heap.objs.size f cdv)) (envOfC qual scope s.heap.objs.size f cdv) (cxOf (L2.CX P w) P w K mg base N qual scope f cdv A outer s H E).xe →
      FSs (cxOf (L2.CX P w) P w K mg base N qual scope f cdv A outer s H E) L (WD E) body fb)
    (hS : ∀ ds M, ds.length = ps.length → S ds M = (fb (startD N.length ds) M).fin) : FnOk P w K mg base (L2.CX P w) (k + 1) f fd ps (spF K L S) := by
  refine F.ok sc (spF_len ar) fun cdv A outer s H vs Q E hr h => ⟨_, hb cdv A outer s H E hr (takes_of rfl rfl rfl rfl) (passes_of rfl), ?_⟩
  have hl := spF_len ar _ _ _ _ h
  obtain ⟨α, M, ds, r, rs, p⟩ := h
  refine ⟨α, M, _, r, start_slots rs, ?_⟩
  rw [hS ds M (rs.length.trans hl)] at p
  cases e : fb (startD N.length ds) M with
  | nx s1 M1 => rw [e] at p; exact fun α' H' σ l r' _ => p α' H' .non l r' rep_non
  | rt d M1 => rw [e] at p; exact p
  | bk s1 M1 => rw [e] at p; exact p.elim
  | ct s1 M1 => rw [e] at p; exact p.elim
  | exc c f s1 M1 => rw [e] at p; exact fun α' H' σ cls d l r' _ => p α' H' cls d l r'
  | bad => rw [e] at p; exact p.elim
end
/-! ### something new that is no place of the store -/
/-! ### raise -/
def sRaise (c : Nat) : SF := fun s M => .exc c none s M
def sRaise1 (c i : Nat) (fa : EF) : SF := fun s M => (fa s M).toS s fun d M1 => .exc c (some (i, d)) s M1
/-- what the written part says of an error's class without own __init__ -/
structure ExK (K : PySem.W.Frag) (mg : Str → Option Value) (x : Str) (C : Addr) : Prop where
  gC : mg x = some (.ref C)
  ex : PySem.W.excIn K C [.type "ValueError", .type "Exception", .type "BaseException", .type "object"] "ValueError.__new__" = true
  kp : PySem.W.keepIn K (.ref C) = true
  sb : PySem.W.subIn K (.ref C) (.type "BaseException") = some true
  ty : PySem.W.typeIn K (.ref C) = some (.type "type")
section
variable {X : Cx} {L : Lay} {W : WX} {x m : Str} {j : Nat} {p p2 p3 pos : Pos} {e : Expr} {f : EF}
theorem fs_raise {c : Nat} (hc : X.calm = true) (tk : Takes X W) (T : ExK X.K X.mg x (L.cls c)) (hg : Gl X x) (hdb : (x == ("__debug__" : Str)) = false := by decide) : FS X L W (.Raise (some (.Call (.Name x p) [.Constant (.str m) j p2] [] p3)) none pos) (sRaise c) :=
  psImp (ps_raise hc tk (pmk_own PySem.F.excBase_ValueError T.ex T.gC T.kp (raises_own T.sb T.ty) hg hdb)) fun D σ H ⟨α, M, s, r, sl, h⟩ => h α H σ _ _ (Le.refl _ _) r sl ⟨rfl, rfl⟩
end
end Fl
namespace Fl
open PySem PySem.Spec L2
/-! ### an object that stands already is told of from here on -/
section
variable {X : Cx} {pins : List (Addr × Obj)} {σ : L2.St} {H : Hp} {s : Shared} {a : Addr} {o : HO} {oe : Obj} {vs : Array Value}
theorem Inv.track (I : L2.Inv X pins σ H s) (he : s.heap.get? a = some oe) (hd : oe.data = .fields vs) (na : H a = none) (n0 : X.s_0.heap.get? a = none) (nL : a ≠ X.env.locals) (np : ∀ p ∈ X.pn ++ pins, p.1 ≠ a) (ob : ObjOk X.prog X.w (upd H a o) s.heap a o) : L2.Inv X pins σ (upd H a o) s := by
  have ne0 : ∀ b ob, X.s_0.heap.get? b = some ob → b ≠ a := fun b ob e z => by rw [z, n0] at e; cases e
  have neC : ∀ x c, X.env.cells.lookup x = some c → c ≠ a := fun x c e z => by
    obtain ⟨v, oc, h1, h2⟩ := I.cell x c e
    rw [z, he] at h1; cases h1
    rw [hd] at h2; cases h2
  refine { ok := I.ok, os := I.os, bare := I.bare, loc := I.loc, cell := I.cell, len := I.len, base := ?_, free := ?_, freeC := ?_, pin := ?_, hok := ?_ }
  · exact ⟨I.base.keep, I.base.slot, fun b ob e n hx => by rw [upd_ne (ne0 b ob e)]; exact I.base.free b ob e n hx, I.base.there,
      fun b xs e => by rw [upd_ne (ne_of_none (I.base.tups b xs e) na)]; exact I.base.tups b xs e,
      fun b ob u e => by rw [upd_ne (ne_of_none (I.base.frzs b ob u e) na)]; exact I.base.frzs b ob u e,
      fun b ps e => by
        obtain ⟨m, q⟩ := I.base.tbls b ps e
        exact ⟨m, by rw [upd_ne (ne_of_none q na)]; exact q⟩⟩
  · rw [upd_ne (Ne.symm nL)]; exact I.free
  · intro x c e
    rw [upd_ne (neC x c e)]; exact I.freeC x c e
  · intro p hp
    obtain ⟨h1, h2, h3⟩ := I.pin p hp
    exact ⟨h1, by rw [upd_ne (np p hp)]; exact h2, h3⟩
  · intro b u e
    by_cases hb : b = a
    · subst hb
      rw [upd_same] at e; cases e
      exact ob
    · rw [upd_ne hb] at e
      exact (I.hok b u e).stay (fun _ _ _ q => q) (fun c q => by rw [upd_ne (ne_of_none q na)]; exact q) fun c xs q => by rw [upd_ne (ne_of_none q na)]; exact q
end
theorem exH_ok {P : Program} {w : World} {H : Hp} {h : Heap} {a : Addr} {cls : Value} {d : Option Addr} {oe : Obj} {vs : Array Value} (he : h.get? a = some oe) (hz : Zc cls d oe) (hd : oe.data = .fields vs) : ObjOk P w H h a (ExH cls d a) :=
  ⟨⟨oe, vs, he, hz, hd⟩, ⟨oe, he⟩, fun _ _ ⟨o, v, q, r⟩ k => ⟨o, v, k o q, r⟩⟩
/-! ### try: body, then clauses with a name each -/
/-- a clause: which classes it takes, the slot of its name, what its suite does -/
abbrev Clause := (Nat → Option Bool) × Nat × SF
def unname (i : Nat) : SR → SR
  | .nx s M => .nx (s.set i none) M
  | .bk s M => .bk (s.set i none) M
  | .ct s M => .ct (s.set i none) M
  | .rt d M => .rt d M
  | _ => .bad
def handle : List Clause → Nat → Option (Nat × D) → SF
  | [], c, f, s, M => .exc c f s M
  | (tab, i, su) :: r, c, f, s, M => match tab c with
    | some true => unname i (su (s.set i (some (.ref M.length))) (M ++ [.exc c f]))
    | some false => handle r c f s M
    | none => .bad
def sTry (fb : SF) (cl : List Clause) : SF := fun s M => match fb s M with
  | .exc c f s1 M1 => handle cl c f s1 M1
  | r => r
/-- an except suite's context -/
abbrev sx (X : Cx) (a : Addr) : Cx := { X with A := X.A.mark (some (.ref a)), calm := false, xe := fun _ _ => False }
inductive HdF (X : Cx) (L : Lay) : List ExceptHandler → List Clause → Prop
  | nil : HdF X L [] []
  | cons {x n : Str} {cv : Value} {i : Nat} {tab : Nat → Option Bool} {su : SF} {b₀ : Stmt} {suite : List Stmt} {np pos' : Pos} {hds : List ExceptHandler} {l : List Clause} (hc : Names X x cv) (hi : X.N[i]? = some n) (hln : X.env.kindOf n = some .local)
      (ht : ∀ c b, tab c = some b → PySem.W.exmOne X.K (.ref (L.cls c)) cv = some b) (hsu : ∀ a : Addr, FSs (sx X a) L W0 (b₀ :: suite) su) (r : HdF X L hds l) :
      HdF X L (.ExceptHandler (some (.Name x np)) (some n) (b₀ :: suite) pos' :: hds) ((tab, i, su) :: l)
/-- what is wanted of an error of the body -/
def wTry (K : PySem.W.Frag) (L : Lay) (W : WX) (cl : List Clause) (D : Ends) : WX := fun cls d σ H => ∃ c f s α M, Rel K L α M H ∧ Slots K α H s σ ∧ XRep K L α H c f cls d ∧ PostS K L W D α H (handle cl c f s M)
theorem sx_ok {X : Cx} (ok : X.Ok) (a : Addr) : (sx X a).Ok :=
  { mod := ok.mod, kind := ok.kind, glob := ok.glob, blt := ok.blt, above := ok.above, inj := ok.inj, has := ok.has, cab := ok.cab, hd := fun z => Bool.noConfusion z, frames := ok.frames, stk := ok.stk, exf := ok.exf, bs := ok.bs, bsz := ok.bsz, noex := ok.noex, exfs := ok.exfs, funs := ok.funs, frf := ok.frf }
theorem Inv.sx {X : Cx} {pins : List (Addr × Obj)} {σ : L2.St} {H : Hp} {s : Shared} (I : L2.Inv X pins σ H s) (a : Addr) : L2.Inv (sx X a) pins σ H s :=
  { ok := sx_ok I.ok a, os := I.os, bare := I.bare, base := I.base, loc := I.loc, cell := I.cell, free := I.free, freeC := I.freeC, pin := I.pin, hok := I.hok, len := I.len }
theorem Inv.unsx {X : Cx} {pins : List (Addr × Obj)} {σ : L2.St} {H : Hp} {s : Shared} {a : Addr} (ok : X.Ok) (I : L2.Inv (Fl.sx X a) pins σ H s) : L2.Inv X pins σ H s :=
  { ok := ok, os := I.os, bare := I.bare, base := I.base, loc := I.loc, cell := I.cell, free := I.free, freeC := I.freeC, pin := I.pin, hok := I.hok, len := I.len }
section
variable {X : Cx} {L : Lay} {W : WX} {body : List Stmt} {h₀ : ExceptHandler} {hds : List ExceptHandler} {cl : List Clause} {pos : Pos} {fb : SF}
theorem fs_try (hs : X.stack = X.env :: X.outer) (hf : X.env.frame = some X.env.locals) (hex : X.ex = []) (hN : X.N.Nodup) (tk : Takes X W)
    (hb : ∀ (W' : WX) (pn : List (Addr × Obj)) (xe : Value → Shared → Prop), Takes (X.tr pn xe) W' → PassesOwn (model X.prog X.w) X.A X.env xe → FSs (X.tr pn xe) L W' body fb)
    (hh : HdF X L (h₀ :: hds) cl) : FS X L W (.Try body (h₀ :: hds) [] [] pos) (sTry fb cl) := by
  refine ⟨fun pins s0 σ0 H0 D I ⟨α, M, sd, r, sl, h⟩ => ?_⟩
  have ok := I.ok
  have hfr : X.A.frames = some (X.env :: X.outer) := ok.frames.trans (congrArg some hs)
  -- the body's reading, with the wish of the clauses
  have hbody : LS X.K L (wTry X.K L W cl D) fb D σ0 H0 := by
    refine ⟨α, M, sd, r, sl, ?_⟩
    unfold sTry at h
    cases e : fb sd M with
    | exc c f s1 M1 => rw [e] at h; exact fun α' H' σ cls d l r' sl' x => ⟨c, f, s1, α', M1, r', sl', x, PostS.le l h⟩
    | nx s1 M1 => rw [e] at h; exact h
    | bk s1 M1 => rw [e] at h; exact h
    | ct s1 M1 => rw [e] at h; exact h
    | rt d M1 => rw [e] at h; exact h
    | bad => rw [e] at h; exact h
  refine wpAny_Try_except (wpAny_mono ((hb (wTry X.K L W cl D) (X.pn ++ pins) (fun e s₁ => wpAny (model X.prog X.w) X.A (noteFrame e X.env) (fun _ s₂ => wpAny (model X.prog X.w) X.A (setFlight e none) (fun _ s₃ =>
    wpAny (model X.prog X.w) X.A (handleBy e X.env (h₀ :: hds)) (SP X pins D) X.xe s₃) X.xe s₂) X.xe s₁) (fun u s' xx => ?_) PassesOwn.looking).run [] s0 σ0 H0 D (I.toTry _) hbody) (fun f s1 hsp => ?_) (fun e s1 he => he))
  · -- an error
    obtain ⟨a, B, sI, pins', σ, H, cls, d, rfl, J', nb, up, sky, na, os, ag, c, f, s1, α1, M1, r1, sl1, x1, h1⟩ := xx
    have J : L2.Inv X pins σ H sI := J'.ofTry ok
    have sky' : Sky B (X.env :: X.outer) a (Zc cls d) X.env.locals s'.heap := hs ▸ sky
    refine Sky.land (s := s') (env := X.env) Zc.steady hfr hf sky' fun h3 fl3 up3 => ?_
    have J3 : L2.Inv X pins σ H { s' with heap := h3 } := J.landed nb fl3.1 (up.trans up3) os ag
    obtain ⟨oe3, vs3, he3, hz3, hd3⟩ := fl3.there
    -- the error's object is none of the frames, and new
    have nfr : a ∉ frs (X.env :: X.outer) := fun hm => by
      obtain ⟨_, o', e', hnf⟩ := fl3.2.2.1.mem hm
      rw [he3] at e'; cases e'
      exact hnf _ hd3
    have nL : a ≠ X.env.locals := fun z => nfr (List.mem_filterMap.mpr ⟨X.env, List.mem_cons_self, hf.trans (congrArg some z.symm)⟩)
    have nI : sI.heap.get? a = none := by
      cases e : sI.heap.get? a with
      | none => rfl
      | some o =>
        have q := nb a o e (by rw [hs]; exact nfr)
        rw [fl3.2.1] at q; cases q
    have n0 : X.s_0.heap.get? a = none := by
      cases e : X.s_0.heap.get? a with
      | none => rfl
      | some o =>
        obtain ⟨o', q⟩ := J.base.there a o e (by rw [hex]; exact fun z => nomatch z)
        rw [nI] at q; cases q
    have np : ∀ p ∈ X.pn ++ pins, p.1 ≠ a := fun p hp z => by
      have q := (J.pin p hp).1
      rw [z, nI] at q; cases q
    -- clause by clause
    have go : ∀ {hds' : List ExceptHandler} {l' : List Clause}, HdF X L hds' l' → PostS X.K L W D α1 H (handle l' c f s1 M1) → wpAny (model X.prog X.w) X.A (handleBy (.ref a) X.env hds') (SP X pins D) X.xe { s' with heap := h3 } := by
      intro hds' l' hk
      induction hk with
      | nil =>
        intro hp
        refine wpAny_handleBy_nil ?_
        obtain ⟨_, _, _, oe, vs, T, oT, ts', he, _, hd, hv1, _⟩ := id fl3
        have fin : wpAny (model X.prog X.w) X.A (setFlight (.ref a) X.env.frame) (fun _ s4 => wpAny (model X.prog X.w) X.A (throw (.ref a) : Sem Flow) (SP X pins D) X.xe s4) X.xe { s' with heap := h3 } := by
          rw [hf]
          exact HandSPX.setFlight_upZ fl3 fun h4 hh4 up4 => wpAny_throw (tk _ _ ⟨a, B, sI, pins, σ, H, cls, d, rfl, J, nb, (up.trans up3).trans up4, .inr (.inr (hs ▸ hh4)), na, os, ag, hp α1 H σ cls d (Le.refl _ _) r1 sl1 x1⟩)
        unfold PySem.passOn
        refine wpAny_bind (wpAny_field he hd hv1 ?_)
        rw [if_neg (show ¬ ((Value.ref T == Value.none) = true) from fun z => by simp at z)]
        first
          | exact wpAny_bind fin
          | exact wpAny_bind (wpAny_pure (wpAny_bind fin))
      | @cons x n cv i tab su b₀ suite np' pos' hds2 l2 hc hi hln ht hsu _ ih =>
        intro hp
        unfold handle at hp
        cases et : tab c with
        | none => rw [et] at hp; exact hp.elim
        | some b =>
          rw [et] at hp
          have hb1 : PySem.W.exmOne X.K cls cv = some b := by rw [x1.1]; exact ht c b et
          have S3 := Inv.sx J3 a
          have LT : PySem.W.Looks (model X.prog X.w) h3 (typeOf (.ref a)) cls := fun A Q E s k q => wpAny_typeOf_ref (k _ _ he3) (hz3.1 ▸ q)
          have LM := PySem.W.exm_one (M := model X.prog X.w) J3.kIn LT hb1
          have test : ∀ {Q : Value → Shared → Prop} {E : Value → Shared → Prop}, Q cv { s' with heap := h3 } → wpAny (model X.prog X.w) (X.A.mark (some (.ref a))) (eval (.Name x np') X.env) Q E { s' with heap := h3 } := fun {Q E} q => by
            obtain ⟨hg, hdbg, hm⟩ := hc
            rcases hm with hm | ⟨hm, hv, hnn⟩
            · exact ld_glob (X := Fl.sx X a) S3 hg hm q hdbg
            · exact ld_blt (X := Fl.sx X a) S3 hg hm hv q hnn hdbg
          refine wpAny_handleBy_cons (codeAny_handlers_test (test (LM.here ?_))) (fun q => nomatch q)
          cases b with
          | false => exact ih hp
          | true =>
            refine codeAny_handlers_suite_as (HandSPX.lands_againZ fl3 fun h4 fl4 up4 => ?_)
            have J4 : L2.Inv X pins σ H { s' with heap := h4 } := J.landed nb fl4.1 ((up.trans up3).trans up4) os ag
            obtain ⟨oe4, vs4, he4, hz4, hd4⟩ := fl4.there
            have T4 : L2.Inv X pins σ (upd H a (ExH cls d a)) { s' with heap := h4 } := Inv.track J4 he4 hd4 na n0 nL np (exH_ok he4 hz4 hd4)
            have out := x1.out r1
            have rx : Rel X.K L (α1 ++ [a]) (M1 ++ [.exc c f]) (upd H a (ExH cls d a)) := r1.new (o := .exc c f) na ⟨cls, d, upd_same, x1.lw (Le.new na).lw (fun dd fs _ q => by rw [upd_ne (ne_of_none q na)]; exact q), fun dd ed hm => by
              rcases List.mem_append.mp hm with z | z
              · exact out dd ed z
              · have x2 := x1.2
                cases f with
                | none => rw [x2] at ed; cases ed
                | some pf =>
                  obtain ⟨d2, v, e2, hd2, _⟩ := x2
                  rw [ed] at e2; cases e2
                  rw [List.mem_singleton.mp z, na] at hd2; cases hd2⟩
            have lx : Le α1 H (α1 ++ [a]) (upd H a (ExH cls d a)) := Le.new na
            have rr : Rep X.K (α1 ++ [a]) (upd H a (ExH cls d a)) (.ref M1.length) (.ref a) := rep_ref (by rw [← r1.len]; simp)
            refine store_ok (X := Fl.sx X a) (v := .ref a) (Inv.sx T4 a) hN hi (.inl hln) rfl (fun s5 S5 => ?_) (.inr hln)
            -- the ends of the suite
            have end_ : ∀ {σ6 : L2.St} {H6 : Hp} {s6 : Shared} {Q : Shared → Prop}, L2.Inv (Fl.sx X a) pins σ6 H6 s6 → (∀ s7, L2.Inv X pins (σ6.set i none) H6 s7 → Q s7) →
                wpAny (model X.prog X.w) X.A (do bindName X.env n .none; unbindBehindTheSuite X.env n pos') (fun _ s7 => Q s7) X.xe s6 := fun S6 hq => gone_ok (Inv.unsx ok S6) hN hi hln hq
            have hq := PostS.le lx hp
            refine wpAny_mono ((hsu a).run pins s5 _ _ { nx := fun σ' H' => D.nx (σ'.set i none) H', rt := D.rt, bk := fun σ' H' => D.bk (σ'.set i none) H', ct := fun σ' H' => D.ct (σ'.set i none) H' } S5 ⟨_, _, _, rx, (sl1.le lx).set i rr, ?_⟩) (fun fl s6 hsp => ?_) (fun _ _ z => z.elim)
            · cases es : su (s1.set i (some (.ref M1.length))) (M1 ++ [.exc c f]) with
              | nx s2 M2 => simp only [es] at hq; exact fun α' H' σ' l r' sl' => hq α' H' _ l r' (sl'.del i none)
              | bk s2 M2 => simp only [es] at hq; exact fun α' H' σ' l r' sl' => hq α' H' _ l r' (sl'.del i none)
              | ct s2 M2 => simp only [es] at hq; exact fun α' H' σ' l r' sl' => hq α' H' _ l r' (sl'.del i none)
              | rt d M2 => simp only [es] at hq; exact hq
              | exc c f s2 M2 => simp only [es] at hq; exact hq.elim
              | bad => simp only [es] at hq; exact hq.elim
            · cases fl with
              | next => obtain ⟨σ6, H6, S6, q6⟩ := hsp; exact end_ S6 fun s7 J7 => ⟨_, _, J7, q6⟩
              | brk => obtain ⟨σ6, H6, S6, q6⟩ := hsp; exact end_ S6 fun s7 J7 => ⟨_, _, J7, q6⟩
              | cont => obtain ⟨σ6, H6, S6, q6⟩ := hsp; exact end_ S6 fun s7 J7 => ⟨_, _, J7, q6⟩
              | ret u => obtain ⟨v6, σ6, H6, S6, r6, q6⟩ := hsp; exact end_ S6 fun s7 J7 => ⟨_, _, _, J7, r6, q6⟩
    exact go hh h1
  · -- no error
    cases f with
    | next => obtain ⟨σ', H', J', q⟩ := hsp; exact wpAny_execs_nil ⟨σ', H', J'.ofTry ok, q⟩
    | brk => obtain ⟨σ', H', J', q⟩ := hsp; exact ⟨σ', H', J'.ofTry ok, q⟩
    | cont => obtain ⟨σ', H', J', q⟩ := hsp; exact ⟨σ', H', J'.ofTry ok, q⟩
    | ret u => obtain ⟨v, σ', H', J', r, q⟩ := hsp; exact ⟨v, σ', H', J'.ofTry ok, r, q⟩
end
end Fl
namespace Fl
open PySem PySem.Spec L2
/-! ### isinstance -/
inductive TyK where
  | non | bl | int | str | tup | lst | dct | ins (c : Nat) | exc (c : Nat)
def tyO (M : Mem) (n : Nat) : Option TyK := match M[n]? with
  | some (.lst _) => some .lst
  | some (.dk _) => some .dct
  | some (.dt _) => some .dct
  | some (.fk _) => some .dct
  | some (.ins c _) => some (.ins c)
  | some (.exc c _) => some (.exc c)
  | _ => none
def tyK (M : Mem) : D → Option TyK
  | .non => some .non
  | .bl _ => some .bl
  | .int _ => some .int
  | .str _ => some .str
  | .tup _ => some .tup
  | .rol _ => some .lst
  | .ref n => tyO M n
def tyVal (L : Lay) : TyK → Value
  | .non => .type "NoneType"
  | .bl => .type "bool"
  | .int => .type "int"
  | .str => .type "str"
  | .tup => .type "tuple"
  | .lst => .type "list"
  | .dct => .type "dict"
  | .ins c => .ref (L.cls c)
  | .exc c => .ref (L.cls c)
/-- what the written part says of an own class, for isinstance -/
structure InsF (K : PySem.W.Frag) (C : Addr) : Prop where
  cl : Cls K C
  ha : PySem.W.findIn K (.ref C) "__class__" = some (some (.builtin "object.__class__"))
  hn : PySem.W.specialIn K (.builtin "object.__class__") "__get__" = some (some (.builtin "getset_descriptor.__get__"))
  ht : PySem.W.takesIn K (.builtin "object.__class__") = some true
  hm : PySem.W.mroIn K C (.type "object") = some true
def gIsi (tab : TyK → Option Bool) : D → Mem → Res D := fun d M => okB M ((tyK M d).bind tab)
theorem tyX_of {K : PySem.W.Frag} {L : Lay} {α : List Addr} {M : Mem} {H : Hp} {d : D} {v : V} {k : TyK} (r : Rel K L α M H) (e : tyK M d = some k) (rd : Rep K α H d v) (hne : ∀ c, k ≠ .exc c) (hi : ∀ c, k = .ins c → InsF K (L.cls c)) : TyX K H v (tyVal L k) := by
  cases d with
  | non => cases e; rw [rd.non]; exact .base .non
  | bl b => cases e; rw [rd.bl]; exact .base (.bl b)
  | int b => cases e; rw [rd.int]; exact .base (.int b)
  | str b => cases e; rw [rd.str]; exact .base (.str b)
  | tup ds =>
    cases e
    obtain ⟨t, vs, rfl, ht, _⟩ := rd.tup
    rcases ht with ht | ⟨_, o, its, n, h1, h2, _⟩
    · exact .base (.tup ht)
    · exact .kTuple h1 h2
  | rol ds =>
    cases e
    obtain ⟨t, vs, rfl, ht, _⟩ := rd.rol
    rcases ht with ⟨o, ht⟩ | ⟨o, its, n, h1, h2, _⟩
    · exact .base (.frz ht)
    · exact .kList h1 h2
  | ref n =>
    obtain ⟨a, ha, rfl⟩ := rd.ref
    have e' : tyO M n = some k := e
    clear e
    have e := e'
    unfold tyO at e
    split at e
    · rename_i eo
      cases e
      obtain ⟨a', ha', vs, hv, _⟩ := r.at eo
      rw [ha] at ha'; cases ha'
      exact .base (.lst hv)
    · rename_i eo
      cases e
      obtain ⟨a', ha', vs, hv, _⟩ := r.at eo
      rw [ha] at ha'; cases ha'
      exact .base (.dK hv)
    · rename_i eo
      cases e
      obtain ⟨a', ha', vs, hv, _⟩ := r.at eo
      rw [ha] at ha'; cases ha'
      exact .base (.dT hv)
    · rename_i eo
      cases e
      obtain ⟨a', ha', o, vs, hv, _⟩ := r.at eo
      rw [ha] at ha'; cases ha'
      exact .fDict hv
    · rename_i c fs eo
      cases e
      obtain ⟨a', ha', dx, vs, hv, _⟩ := r.at eo
      rw [ha] at ha'; cases ha'
      obtain ⟨h1, h2, h3, h4, h5⟩ := hi c rfl
      exact .base (.ins hv h1 h2 h3 h4 h5)
    · cases e
      exact absurd rfl (hne _)
    · cases e
/-- .. of an error's class -/
structure XcF (K : PySem.W.Frag) (C : Addr) : Prop where
  cl : (PySem.W.clsIn K C).isSome = true
  ga : PySem.W.findIn K (.ref C) "__getattribute__" = some (some (.builtin "BaseException.__getattribute__"))
  gg : PySem.W.findIn K (.ref C) "__getattr__" = some none
  sb : PySem.W.subIn K (.ref C) (.type "BaseException") = some true
  ha : PySem.W.findIn K (.ref C) "__class__" = some (some (.builtin "object.__class__"))
  hn : PySem.W.specialIn K (.builtin "object.__class__") "__get__" = some (some (.builtin "getset_descriptor.__get__"))
  ht : PySem.W.takesIn K (.builtin "object.__class__") = some true
  hm : PySem.W.mroIn K C (.type "object") = some true
structure TabOk (K : PySem.W.Frag) (L : Lay) (tab : TyK → Option Bool) (cv : Value) : Prop where
  kit : ∀ k b, tab k = some b → PySem.W.kitOne K (tyVal L k) cv = some b
  ins : ∀ c b, tab (.ins c) = some b → InsF K (L.cls c)
  exc : ∀ c b, tab (.exc c) = some b → XcF K (L.cls c)
/-- an error of the class at C stands at a -/
def ErrAt (H : Hp) (a C : Addr) : Prop := ∃ d, H a = some (ExH (.ref C) d a) ∧ (d = none ∨ ∃ dd fs, d = some dd ∧ H dd = some (.xd fs))
theorem err_inst {X : Cx} {pins : List (Addr × Obj)} {σ : L2.St} {H : Hp} {s : Shared} {a C : Addr} (I : L2.Inv X pins σ H s) (h : ErrAt H a C) : ∃ (ox : Obj) (od : Option Obj), PySem.W.InstAt s.heap a ox C od := by
  obtain ⟨d, ha, hd⟩ := h
  obtain ⟨⟨oe, vs, he, hz, hdat⟩, _⟩ := I.hok a _ ha
  have nc : PySem.W.notCls oe := by unfold PySem.W.notCls; rw [hdat]
  rcases hd with rfl | ⟨dd, fs, rfl, hdd⟩
  · exact ⟨oe, none, he, hz.1, nc, by rw [hz.2]; trivial⟩
  · obtain ⟨mA, hns, _⟩ := (show ObjOk X.prog X.w H s.heap dd (.xd fs) from I.hok dd _ hdd)
    obtain ⟨od, ho, _⟩ := lookIn_ns hns
    exact ⟨oe, some od, he, hz.1, nc, by rw [hz.2]; exact ho⟩
/-- isinstance(x, c), x perhaps an error -/
def rIsiX (K : PySem.W.Frag) : List V → Hp → VK → Prop := fun xs H Q => ∃ (x c : V) (t u : Value) (b : Bool), xs = [x, c] ∧ ClsV c u ∧ (TyX K H x t ∨ ∃ a C, x = .ref a ∧ t = .ref C ∧ ErrAt H a C ∧ XcF K C) ∧ PySem.W.kitOne K t u = some b ∧ Q (.bl b) H
theorem call_isiX {X : Cx} : CallR X (.builtin "isinstance") (rIsiX X.K) := fun pins s σ H xs us Q I r h => by
  obtain ⟨x, c, t, u, b, rfl, k, ty, e, q⟩ := h
  rcases ty with ty | ⟨a, C, rfl, rfl, er, T⟩
  · exact call_isi pins s σ H _ us Q I r ⟨x, c, t, u, b, rfl, k, ty, e, q⟩
  · obtain ⟨u1, u2, rfl, r1, r2⟩ := vals2 r
    have e2 := k.eq r2
    subst e2
    obtain rfl : u1 = Value.ref a := r1
    obtain ⟨ox, od, J⟩ := err_inst I er
    exact PySem.W.kia_one (PySem.W.kitx_exc T.cl T.ga T.gg T.sb T.ha T.hn T.ht T.hm) I.kIn J e (fun z => nomatch z) fun tk => ⟨.bl b, H, I.tok tk, rfl, q⟩
section
variable {X : Cx} {L : Lay} {W : WX} {e : Expr} {f : EF} {pos : Pos}
theorem isi_go {K : PySem.W.Frag} {tab : TyK → Option Bool} {cv : Value} {c : V} (T : TabOk K L tab cv) (hcv : ClsV c cv) {σ : L2.St} {H : Hp} {Q : VK} (h : LE K L W (dOp1 (gIsi tab) f) σ H Q) :
    LE K L W f σ H fun x H1 => rIsiX K [x, c] H1 Q := by
  obtain ⟨α, M, s, r, sl, h⟩ := h
  refine ⟨α, M, s, r, sl, (PostR.bind (R := Rep K) h).imp fun x H1 ⟨dx, α1, M1, l1, r1, rx, h1⟩ => ?_⟩
  dsimp only at h1
  unfold gIsi at h1
  cases ek : tyK M1 dx with
  | none => rw [ek] at h1; exact h1.elim
  | some k =>
    rw [ek] at h1
    cases eb : tab k with
    | none =>
      have z : (some k).bind tab = none := eb
      rw [z] at h1; exact h1.elim
    | some b =>
      have z : (some k).bind tab = some b := eb
      rw [z] at h1
      refine ⟨x, c, tyVal L k, cv, b, rfl, hcv, ?_, T.kit k b eb, PostR.pure h1 r1 rep_bl⟩
      by_cases hx : ∃ c, k = .exc c
      · obtain ⟨c', rfl⟩ := hx
        refine .inr ?_
        cases dx <;> try (cases ek; done)
        rename_i n
        obtain ⟨a, ha, rfl⟩ := rx.ref
        have ek' : tyO M1 n = some (.exc c') := ek
        unfold tyO at ek'
        split at ek' <;> try (cases ek'; done)
        rename_i c2 f2 eo
        cases ek'
        obtain ⟨a', ha', cls, d, e1, e2, _⟩ := r1.at eo
        rw [ha] at ha'; cases ha'
        have e3 := e2.1
        subst e3
        refine ⟨a, L.cls c', rfl, rfl, ⟨d, e1, ?_⟩, T.exc c' b eb⟩
        have e4 := e2.2
        cases f2 with
        | none => exact .inl e4
        | some p => obtain ⟨dd, v, z1, z2, _⟩ := e4; exact .inr ⟨dd, _, z1, z2⟩
      · exact .inl (tyX_of r1 ek rx (fun c z => hx ⟨c, z⟩) fun c z => by subst z; exact T.ins c b eb)
/-- isinstance(e, T), T a built-in class by its name -/
theorem fe_isi {tab : TyK → Option Bool} {n : Str} {T : String} {p q : Pos} (ho : TabOk X.K L tab (.type T)) (hg : Gl X "isinstance") (hm : X.mg "isinstance" = none) (hg2 : Gl X n) (hm2 : X.mg n = none) (hv2 : bootBuiltins n = some (.type T)) (he : FE X L W e f)
    (hs : starEach [e, .Name n q] X.env = (false, eval e X.env) :: starEach [.Name n q] X.env := by rfl) (hs2 : starEach [.Name n q] X.env = (false, eval (.Name n q) X.env) :: starEach [] X.env := by rfl) (hn : n ≠ "__name__" := by decide) (hd : (n == ("__debug__" : Str)) = false := by decide)
    (hpl : (backTo pos (starEach [.Name n q] X.env)).any (·.1) = false := by rfl) : FE X L W (.Call (.Name "isinstance" p) [e, .Name n q] [] pos) (dOp1 (gIsi tab) f) :=
  ⟨fun pins s σ H Q I h => (pe_callB call_isiX hg hm (by decide +kernel) (pa_cons he (pa_cons (pe_bltn (v := .ty T) (u := .type T) hg2 hm2 hv2 rfl hn hd) pa_nil hs2) hs) (by decide) (by decide) hs hpl).run pins s σ H Q I (by
    obtain ⟨α, M, sd, r, sl, h⟩ := isi_go ho (.ty T) h
    exact ⟨α, M, sd, r, sl, h.imp fun x H1 q1 => q1⟩)⟩
/-- isinstance(e, C), C an own class -/
theorem fe_isiC {tab : TyK → Option Bool} {n : Str} {C : Addr} {p q : Pos} (ho : TabOk X.K L tab (.ref C)) (hg : Gl X "isinstance") (hm : X.mg "isinstance" = none) (hg2 : Gl X n) (hm2 : X.mg n = some (.ref C)) (he : FE X L W e f)
    (hs : starEach [e, .Name n q] X.env = (false, eval e X.env) :: starEach [.Name n q] X.env := by rfl) (hs2 : starEach [.Name n q] X.env = (false, eval (.Name n q) X.env) :: starEach [] X.env := by rfl) (hd : (n == ("__debug__" : Str)) = false := by decide)
    (hpl : (backTo pos (starEach [.Name n q] X.env)).any (·.1) = false := by rfl) : FE X L W (.Call (.Name "isinstance" p) [e, .Name n q] [] pos) (dOp1 (gIsi tab) f) :=
  ⟨fun pins s σ H Q I h => (pe_callB call_isiX hg hm (by decide +kernel) (pa_cons he (pa_cons (pe_glob (v := .ref C) hg2 hm2 rfl hd) pa_nil hs2) hs) (by decide) (by decide) hs hpl).run pins s σ H Q I (by
    obtain ⟨α, M, sd, r, sl, h⟩ := isi_go ho (.own C) h
    exact ⟨α, M, sd, r, sl, h.imp fun x H1 q1 => q1⟩)⟩
end
def tabInt : TyK → Option Bool
  | .int => some true | .bl => some true | .ins _ => none | .exc _ => none | _ => some false
def tabBool : TyK → Option Bool
  | .bl => some true | .ins _ => none | .exc _ => none | _ => some false
def tabStr : TyK → Option Bool
  | .str => some true | .ins _ => none | .exc _ => none | _ => some false
def tabTup : TyK → Option Bool
  | .tup => some true | .ins _ => none | .exc _ => none | _ => some false
theorem tab_by {K : PySem.W.Frag} {L : Lay} {tab : TyK → Option Bool} {T : String} (hi : ∀ c, tab (.ins c) = none) (hx : ∀ c, tab (.exc c) = none)
    (h : tab .non = kitB "NoneType" T ∧ tab .bl = kitB "bool" T ∧ tab .int = kitB "int" T ∧ tab .str = kitB "str" T ∧ tab .tup = kitB "tuple" T ∧ tab .lst = kitB "list" T ∧ tab .dct = kitB "dict" T) : TabOk K L tab (.type T) := by
  obtain ⟨h1, h2, h3, h4, h5, h6, h7⟩ := h
  refine ⟨fun k b e => ?_, fun c b e => ?_, fun c b e => by rw [hx] at e; cases e⟩
  · cases k with
    | non => exact kit_ty (h1 ▸ e)
    | bl => exact kit_ty (h2 ▸ e)
    | int => exact kit_ty (h3 ▸ e)
    | str => exact kit_ty (h4 ▸ e)
    | tup => exact kit_ty (h5 ▸ e)
    | lst => exact kit_ty (h6 ▸ e)
    | dct => exact kit_ty (h7 ▸ e)
    | ins c => rw [hi] at e; cases e
    | exc c => rw [hx] at e; cases e
  · rw [hi] at e; cases e
section
variable {K : PySem.W.Frag} {L : Lay}
theorem tabInt_ok : TabOk K L tabInt (.type "int") := tab_by (fun _ => rfl) (fun _ => rfl) (by decide +kernel)
theorem tabBool_ok : TabOk K L tabBool (.type "bool") := tab_by (fun _ => rfl) (fun _ => rfl) (by decide +kernel)
theorem tabStr_ok : TabOk K L tabStr (.type "str") := tab_by (fun _ => rfl) (fun _ => rfl) (by decide +kernel)
theorem tabTup_ok : TabOk K L tabTup (.type "tuple") := tab_by (fun _ => rfl) (fun _ => rfl) (by decide +kernel)
end
end Fl
namespace Fl
open PySem PySem.Spec L2
/-! ### names of the module -/
section
variable {X : Cx} {L : Lay} {W : WX} {x : Str} {pos : Pos}
theorem fe_glob {i : Int} {t : Tok} (hg : Gl X x) (hm : X.mg x = some (.int i t)) (hd : (x == ("__debug__" : Str)) = false := by decide) : FE X L W (.Name x pos) (dC (.int i)) :=
  peImp (pe_glob (v := .int i) hg hm ⟨t, rfl⟩ hd) fun σ H Q ⟨α, M, s, r, sl, h⟩ => PostR.pure h r rep_int
end
/-! ### o[i] = v -/
def setIx (M : Mem) (o i v : D) : Option Mem := match o with
  | .ref n => (match M[n]? with
    | some (.lst ds) => (match i with
      | .int k => (match ixF ds.length k with
        | some j => some (M.set n (.lst (ds.set j v)))
        | none => none)
      | _ => none)
    | some (.dk kvs) => (match keyOf i, decide (kvs.length < sizeLine) with
      | some k, true => some (M.set n (.dk (put kvs k v)))
      | _, _ => none)
    | some (.dt kvs) => (match keysOf i, decide (kvs.length < sizeLine) with
      | some k, true => some (M.set n (.dt (put kvs k v)))
      | _, _ => none)
    | _ => none)
  | _ => none
def rFP (K : PySem.W.Frag) (L : Lay) : TSet := fun o i v H Q => ∃ α M od id vd M', Rel K L α M H ∧ Rep K α H od o ∧ Rep K α H id i ∧ Rep K α H vd v ∧ setIx M od id vd = some M' ∧ ∀ H', Le α H α H' → Rel K L α M' H' → Q H'
theorem Inv.dkNd {X : Cx} {pins : List (Addr × Obj)} {σ : L2.St} {H : Hp} {s : Shared} {a : Addr} {kvs : List (Key × V)} (I : L2.Inv X pins σ H s) (h : H a = some (.dK kvs)) : (kvs.map (·.1)).Nodup := by
  obtain ⟨z, hd, vs, rel, dd⟩ := dk_rd I.hok (.inl h)
  have all : ∀ {l : List (Key × V)} {m : List (Key × Value)}, KV l m → l.map (·.1) = m.map (·.1) := by
    intro l m q
    induction q with
    | nil => rfl
    | cons p _ ih => rw [List.map_cons, List.map_cons, p.1, ih]
  rw [all rel]
  obtain ⟨o, es, c, _, _, _, _, _, q⟩ := dd
  exact q
theorem Inv.dtNd {X : Cx} {pins : List (Addr × Obj)} {σ : L2.St} {H : Hp} {s : Shared} {a : Addr} {kvs : List (List Key × V)} (I : L2.Inv X pins σ H s) (h : H a = some (.dT kvs)) : (kvs.map (·.1)).Nodup := by
  obtain ⟨z, hd, vs, rel, dd⟩ := dt_rd I.hok (.inl h)
  have all : ∀ {l : List (List Key × V)} {m : List (List Key × Addr × Value)}, KT H l m → l.map (·.1) = m.map (·.1) := by
    intro l m q
    induction q with
    | nil => rfl
    | cons p _ ih => rw [List.map_cons, List.map_cons, p.1, ih]
  rw [all rel]
  obtain ⟨o, es, c, _, _, _, _, _, q⟩ := dd
  exact q
section
variable {X : Cx} {L : Lay} {W : WX} {is : List Nat} {pos : Pos}
theorem p_set (hu : X.A.units + 1 < cLine) : PSet X (rFP X.K L) := by
  intro pins s σ H o i v ov iv u Q I ro ri rv h
  obtain ⟨α, M, od, id, vd, M', r, qo, qi, qv, e, q⟩ := h
  unfold setIx at e
  split at e
  · rename_i n
    obtain ⟨a, ha, rfl⟩ := qo.ref
    have hm : a ∈ α := List.mem_of_getElem? ha
    split at e
    · rename_i ds eo
      obtain ⟨a', ha', vs, hv, hr⟩ := r.at eo
      rw [ha] at ha'; cases ha'
      split at e
      · rename_i k
        split at e
        · rename_i j ej
          cases e
          have ei := qi.int
          subst ei
          have le : Le α H α (upd H a (.lst (vs.set j v))) := Le.write hm hv trivial
          rw [ixF_eq, hr.length] at ej
          exact set_list pins s σ H _ _ _ _ _ _ Q I ro ri rv ⟨a, vs, k, j, rfl, rfl, hv, ej, q _ le (r.write (o := .lst _) ha ⟨_, upd_same, (hr.le le).set j (qv.le le)⟩)⟩
        · cases e
      · cases e
    · rename_i kvs eo
      obtain ⟨a', ha', vs, hv, hr⟩ := r.at eo
      rw [ha] at ha'; cases ha'
      split at e
      · rename_i k ek el
        cases e
        obtain ⟨e1, _⟩ := keyOf_rep ek qi
        subst e1
        have le : Le α H α (upd H a (.dK (putK vs k v))) := Le.write hm hv trivial
        exact set_dict hu pins s σ H _ _ _ _ _ _ Q I ro ri rv ⟨a, _, rfl, DPut.k hv (by rw [← hr.length]; exact dt el), q _ le (r.write (o := .dk _) ha ⟨_, upd_same, KvR.put (hr.le le) (Inv.dkNd I hv) (qv.le le)⟩)⟩
      · cases e
    · rename_i kvs eo
      obtain ⟨a', ha', vs, hv, hr⟩ := r.at eo
      rw [ha] at ha'; cases ha'
      split at e
      · rename_i k ek el
        cases e
        obtain ⟨t, e1, et, _⟩ := keysOf_rep ek qi
        subst e1
        have le : Le α H α (upd H a (.dT (putK vs k v))) := Le.write hm hv trivial
        exact set_dict hu pins s σ H _ _ _ _ _ _ Q I ro ri rv ⟨a, _, rfl, DPut.t hv et (by rw [← hr.length]; exact dt el), q _ le (r.write (o := .dt _) ha ⟨_, upd_same, KvR.put (hr.le le) (Inv.dtNd I hv) (qv.le le)⟩)⟩
      · cases e
    · cases e
  · cases e
def gIxSet (fo fi : EF) : GF := fun d s M => (fo s M).bind fun o M1 => (fi s M1).bind fun i M2 => match setIx M2 o i d with
  | some M3 => .ok s M3
  | none => .bad
theorem fg_sub {o i : Expr} {fo fi : EF} (hu : X.A.units + 70 < cLine) (ho : FE X L W o fo) (hi : FE X L W i fi)
    (ha : ∀ v, assign (.Subscript o i pos) X.env v = (do
      let ov ← holding [v] (eval o X.env)
      let iv ← holding [v, ov] (eval i X.env)
      standAt pos
      holding [v, ov, iv] (setItem ov iv v)
      release [v, ov, iv] []) := by intro _; rfl) : FG X L W is (.Subscript o i pos) (gIxSet fo fi) :=
  ⟨fun pins s σ H v u Q I rv ⟨α, M, sd, d, r, sl, rd, h⟩ => (pg_sub ho hi (p_set (L := L) (by omega)) ha).run pins s σ H v u Q I rv ⟨α, M, sd, r, sl, (PostR.bind (R := Rep _) h).imp fun x H1 ⟨dx, α1, M1, l1, r1, rx, h1⟩ =>
    ⟨α1, M1, sd, r1, sl.le l1, (PostR.bind (R := Rep _) h1).imp fun y H2 ⟨dy, α2, M2, l2, r2, ry, h2⟩ => by
      dsimp only at h2
      split at h2
      · rename_i M3 e3
        exact ⟨α2, M2, dx, dy, d, M3, r2, rx.le l2, ry, (rd.le l1).le l2, e3, fun H' l r' => h2 α2 H' σ l r' ⟨((sl.le l1).le l2).le l, Own.refl _ _⟩ (Own.refl _ _)⟩
      · exact h2.elim⟩⟩⟩
/-! ### o[i] op= e -/
def gIAdd : D → D → Mem → Res D
  | .int i, .int j, M => .ok (.int (i + j)) M
  | _, _, _ => .bad
/-- what stands at o[i] of a list of ours or a dict -/
def getIx (M : Mem) (o i : D) : Option D := match o with
  | .ref n => (match listAt M n with
    | some ds => (match i with
      | .int k => itemAt ds k
      | _ => none)
    | none => (match dictLook M n i with
      | some (some d) => some d
      | _ => none))
  | _ => none
def sIxAug (fo fi fe : EF) (g : D → D → Mem → Res D) : SF := fun s M => (fo s M).toS s fun o M1 => (fi s M1).toS s fun i M2 => match getIx M2 o i with
  | some x => (fe s M2).toS s fun y M3 => (g x y M3).toS s fun z M4 => (match setIx M4 o i z with
    | some M5 => .nx s M5
    | none => .bad)
  | none => .bad
/-- x op= e, a name -/
def sAug (i : Nat) (fe : EF) (g : D → D → Mem → Res D) : SF := fun s M => match s[i]? with
  | some (some x) => (fe s M).toS s fun y M1 => (g x y M1).toS s fun z M2 => .nx (s.set i (some z)) M2
  | _ => .bad
end
end Fl
namespace Fl
open PySem PySem.Spec L2
/-! ### methods of lists, dicts, texts -/
def rFM (K : PySem.W.Frag) (L : Lay) (g : D → List D → Mem → Res D) (w : W3) : V → List V → Hp → VK → Prop := fun x xs H Q => ∃ α M d ds, Rel K L α M H ∧ Rep K α H d x ∧ Reps K α H ds xs ∧ PostR K L (Rep K) (g d ds M) α H Q w
def MtF (X : Cx) (L : Lay) (id : String) (g : D → List D → Mem → Res D) : Prop := ∀ w, MtR X id (rFM X.K L g w)
def TyOk (K : PySem.W.Frag) (L : Lay) (T : String) (ty : D → Mem → Bool) : Prop := ∀ α M H d v, Rel K L α M H → Rep K α H d v → ty d M = true → tyV K T v H
def dBm (ty : D → Mem → Bool) (g : D → List D → Mem → Res D) (fo : EF) (fa : AF) : EF := fun s M => (fo s M).bind fun x M1 => match ty x M1 with
  | true => (fa s M1).bind fun ds M2 => g x ds M2
  | false => .bad
def tyLst : D → Mem → Bool := fun d M => match d with
  | .ref n => (listAt M n).isSome
  | .rol _ => true
  | _ => false
def tyStr : D → Mem → Bool := fun d _ => match d with
  | .str _ => true
  | _ => false
section
variable {X : Cx} {L : Lay} {W : WX} {o e : Expr} {es : List Expr} {fo : EF} {fa : AF} {name : Str} {apos cpos : Pos} {T id : String} {ty : D → Mem → Bool} {g : D → List D → Mem → Res D}
theorem tyLst_ok : TyOk X.K L "list" tyLst := fun α M H d v r rd h => by
  unfold tyLst at h
  split at h
  · rename_i n
    cases e : listAt M n with
    | none => rw [e] at h; cases h
    | some ds =>
      obtain ⟨a, ha, rfl⟩ := rd.ref
      obtain ⟨a', vs, ha', hv, hr⟩ := r.list e
      rw [ha] at ha'; cases ha'
      exact .inl ⟨rfl, vs, .of hv⟩
  · obtain ⟨t, vs, rfl, ht, _⟩ := rd.rol
    exact .inl ⟨rfl, vs, ht.sq⟩
  · cases h
theorem tyStr_ok : TyOk X.K L "str" tyStr := fun α M H d v r rd h => by
  unfold tyStr at h
  split at h
  · rw [rd.str]; rfl
  · cases h
theorem fe_bm (pa : PlainAttrs T) (slot : Slot T name id) (hty : typeOf (.builtin id) = pure (.type "method_descriptor")) (ht : TyOk X.K L T ty) (hm : MtF X L id g) (ho : FE X L W o fo) (ha : FA X L W (e :: es) fa)
    (hbase : attributeBase o name X.env (eval o X.env) = eval o X.env := by rfl)
    (hfew : ((backTo cpos (starEach (e :: es) X.env)).all (fun x => !x.1) && (backToKw cpos (keywordEach [] X.env)).all (fun x => x.1.isSome)
      && decide ((e :: es).length + ([] : List Keyword).length + (if ([] : List Keyword).isEmpty then 0 else 1) < 30)) = true := by rfl)
    (hline : (apos.endLine == cpos.line) = true := by rfl) (hs : starEach (e :: es) X.env = (false, eval e X.env) :: starEach es X.env := by rfl) (hplain : (backTo cpos (starEach es X.env)).any (·.1) = false := by rfl) :
    FE X L W (.Call (.Attribute o name apos) (e :: es) [] cpos) (dBm ty g fo fa) :=
  ⟨fun pins s σ H Q I ⟨α, M, sd, r, sl, h⟩ => (pe_bm pa slot hty (hm (fun c d H' => W c d σ H')) ho ha hbase hfew hline hs hplain).run pins s σ H Q I ⟨α, M, sd, r, sl, (PostR.bind (R := Rep _) h).imp fun x H1 ⟨dx, α1, M1, l1, r1, rx, h1⟩ => by
    dsimp only at h1
    cases et : ty dx M1 with
    | false => rw [et] at h1; exact h1.elim
    | true =>
      rw [et] at h1
      exact ⟨ht α1 M1 H1 dx x r1 rx et, α1, M1, sd, r1, sl.le l1, (PostR.bind (R := Reps _) h1).imp fun xs H2 ⟨ds, α2, M2, l2, r2, rs, h2⟩ => ⟨α2, M2, dx, ds, r2, rx.le l2, rs, h2⟩⟩⟩⟩
theorem mt_case {r : V → List V → Hp → VK → Prop} (h : ∀ x xs H Q, r x xs H Q → ∃ r', MtR X id r' ∧ r' x xs H Q) : MtR X id r := fun pins s σ H x xs v us Q I rx rxs q => by
  obtain ⟨r', h1, h2⟩ := h x xs H Q q
  exact h1 pins s σ H x xs v us Q I rx rxs h2
/-! lists -/
/-! data in lists -/
def findAt (ps : List PyData) (p : PyData) : Option Nat := match ps with
  | [] => none
  | z :: r => match PyData.eqv z p with
    | true => some 0
    | false => (findAt r p).map (· + 1)
theorem findAt_ok : ∀ {ps : List PyData} {p : PyData} {j : Nat}, findAt ps p = some j → ∃ z, ps[j]? = some z ∧ PyData.eqv z p = true ∧ ∀ (m : Nat) (z' : PyData), m < j → ps[m]? = some z' → PyData.eqv z' p = false
  | [], p, j, h => by cases h
  | z :: r, p, j, h => by
    unfold findAt at h
    cases e : PyData.eqv z p with
    | true =>
      rw [e] at h; cases h
      exact ⟨z, rfl, e, fun m z' hm _ => absurd hm (Nat.not_lt_zero m)⟩
    | false =>
      rw [e] at h
      dsimp only at h
      cases e2 : findAt r p with
      | none => rw [e2] at h; cases h
      | some i =>
        rw [e2] at h; cases h
        obtain ⟨z2, h1, h2, h3⟩ := findAt_ok e2
        refine ⟨z2, by simpa using h1, h2, fun m z' hm hz => ?_⟩
        cases m with
        | zero => simp at hz; rw [← hz]; exact e
        | succ m => exact h3 m z' (Nat.lt_of_succ_lt_succ hm) (by simpa using hz)
/-- the data of a list and of a thing, both of a shape that can be looked through -/
def twoPy (M : Mem) (x : D) (ds : List D) : Option (PyData × List PyData) := match toPy M 9 x, allSome (toPy M 8) ds with
  | some a, some bs => (match SeqAt.shaped a && SeqAt.shaped (.list bs) with
    | true => some (a, bs)
    | false => none)
  | _, _ => none
theorem twoPy_dp {M : Mem} {α : List Addr} {H : Hp} {dx : D} {ds : List D} {x : V} {vs : List V} {a : PyData} {bs : List PyData} (r : Rel X.K L α M H) (h : twoPy M dx ds = some (a, bs)) (rx : Rep X.K α H dx x) (ry : Reps X.K α H ds vs) :
    Dp X.K H x a ∧ DpAll X.K H vs bs ∧ SeqAt.shaped a = true ∧ SeqAt.shaped (.list bs) = true := by
  unfold twoPy at h
  split at h
  · rename_i a' bs' e1 e2
    split at h
    · rename_i c
      cases h
      exact ⟨toPy_dp r 9 dx x a e1 rx, allSome_dp (toPy_dp r 8) ds vs bs e2 ry, (Bool.and_eq_true_iff.mp c).1, (Bool.and_eq_true_iff.mp c).2⟩
    · cases h
  · cases h
def gIndex : D → List D → Mem → Res D := fun d as M => match seqOf M d, as with
  | some ds, [y] => (match twoPy M y ds with
    | some (p, ps) => (match findAt ps p with
      | some j => .ok (.int j) M
      | none => .bad)
    | none => .bad)
  | _, _ => .bad
theorem Rep.lstAt {α : List Addr} {M : Mem} {H : Hp} (r : Rel X.K L α M H) {d : D} {v : V} {ds : List D} (h : Rep X.K α H d v) (hs : seqOf M d = some ds) (ht : tyLst d M = true) : ∃ a vs, v = .ref a ∧ SqL X.K H a vs ∧ Reps X.K α H ds vs := by
  cases d <;> try (cases hs; done)
  · cases ht
  · cases hs
    obtain ⟨t, vs, e, ht, hr⟩ := h.rol
    exact ⟨t, vs, e, ht.sq, hr⟩
  · obtain ⟨a, ha, e⟩ := h.ref
    obtain ⟨a', vs, ha', hv, hr⟩ := r.list hs
    rw [ha] at ha'; cases ha'
    exact ⟨a, vs, e, .of hv, hr⟩
def onLst (g : D → List D → Mem → Res D) : D → List D → Mem → Res D := fun d as M => match tyLst d M with
  | true => g d as M
  | false => .bad
theorem m_index (hu : X.A.units + 70 < cLine) : MtF X L "list.index" (onLst gIndex) := fun w => mt_case fun x xs H Q ⟨α, M, d, ds, r, rx, rs, h⟩ => by
  unfold onLst at h
  split at h
  · rename_i ht
    unfold gIndex at h
    split at h
    · rename_i es y e1
      split at h
      · rename_i p ps ep
        split at h
        · rename_i j ej
          obtain ⟨a, vs, rfl, hs, hr⟩ := Rep.lstAt r rx e1 ht
          obtain ⟨y', rfl, ry⟩ := rs.one
          obtain ⟨h1, h2, h3, h4⟩ := twoPy_dp r ep ry hr
          obtain ⟨z, z1, z2, z3⟩ := findAt_ok ej
          exact ⟨_, mt_indexD (by omega), a, y', p, ps, j, z, rfl, rfl, .lst hs h2, h1, h4, h3, z1, z2, z3, PostR.pure h r rep_int⟩
        · exact h.elim
      · exact h.elim
    · exact h.elim
  · exact h.elim
def rCntD (K : PySem.W.Frag) : V → List V → Hp → VK → Prop := fun x xs H Q => ∃ (a : Addr) (y : V) (d : PyData) (vs : List V) (ds : List PyData), x = V.ref a ∧ xs = [y] ∧ SqL K H a vs ∧ DpAll K H vs ds ∧ Dp K H y d ∧
  SeqAt.shaped (.list ds) = true ∧ SeqAt.shaped d = true ∧ Q (.int (ds.countP fun z => PyData.eqv z d : Nat)) H
theorem mt_countD (hu : X.A.units + 65 < cLine) : MtR X "list.count" (rCntD X.K) := by
  intro pins s σ H x xs v us Q I rx rxs h
  obtain ⟨a, y, d, vs, ds, rfl, rfl, hs, ha, hy, sl, sd, q⟩ := h
  cases rx
  obtain ⟨uy, rfl, ry⟩ := rxs.one
  obtain ⟨bs, r1⟩ := Dp.reads I d y uy hy ry
  have hxs : PyData.canLayAll0 ds = true := SeqAt.canLay_of_shaped sl
  have hroom : X.A.units + 1 + min (PyData.depthAll ds) d.depth < cLine := PyProof.Rows.room_in_shaped sd hu
  obtain ⟨its, rv, ⟨⟨cls, dd, data, sls⟩, n, ho, hc, hdn, hdt⟩, hlen⟩ := I.list hs
  simp only at hc hdt
  subst hc hdt
  obtain ⟨as, h4⟩ := Dp.readsAll I ds _ its ha rv
  have h4' : ReadsAll s.heap its.toArray.toList ds as := h4
  refine call_meets PySem.F.slot_list_count ⟨_, ho, rfl⟩ PySem.F.entry_list_count (PySem.F.args_list_count_2 _ _)
    (SeqAt.list_countAt a its.toArray n dd sls uy (fun u => PyData.eqv (SeqAt.readOf s.heap u) d)) ⟨ho, SeqAt.items_eqAt (vs := its.toArray) h4' r1 hxs (SeqAt.canLay_of_shaped sd) hroom, ?_⟩
  have ec : its.toArray.toList.countP (fun u => PyData.eqv (SeqAt.readOf s.heap u) d) = ds.countP fun z => PyData.eqv z d := by
    rw [← SeqAt.readsAll_map ds its as hxs h4, List.countP_map]
    rfl
  refine ⟨.int (ds.countP fun z => PyData.eqv z d : Nat), H, I.tok _, ⟨s.toks, ?_⟩, q⟩
  rw [ec]
def gCount : D → List D → Mem → Res D := fun d as M => match seqOf M d, as with
  | some ds, [y] => (match twoPy M y ds with
    | some (p, ps) => .ok (.int (ps.countP fun z => PyData.eqv z p : Nat)) M
    | none => .bad)
  | _, _ => .bad
theorem m_count (hu : X.A.units + 70 < cLine) : MtF X L "list.count" (onLst gCount) := fun w => mt_case fun x xs H Q ⟨α, M, d, ds, r, rx, rs, h⟩ => by
  unfold onLst at h
  split at h
  · rename_i ht
    unfold gCount at h
    split at h
    · rename_i es y e1
      split at h
      · rename_i p ps ep
        obtain ⟨a, vs, rfl, hs, hr⟩ := Rep.lstAt r rx e1 ht
        obtain ⟨y', rfl, ry⟩ := rs.one
        obtain ⟨h1, h2, h3, h4⟩ := twoPy_dp r ep ry hr
        exact ⟨_, mt_countD (by omega), a, y', p, vs, ps, rfl, rfl, hs, h2, h1, h4, h3, PostR.pure h r rep_int⟩
      · exact h.elim
    · exact h.elim
  · exact h.elim
end
end Fl
namespace Fl
open PySem PySem.Spec L2
/-! ### a op b op' c -/
def dChain (g g' : D → D → Mem → Res D) (fa fb fc : EF) : EF := fun s M => (fa s M).bind fun x M1 => (fb s M1).bind fun y M2 => (g x y M2).bind fun k M3 => match k with
  | .bl true => (fc s M3).bind fun z M4 => g' y z M4
  | .bl false => .ok (.bl false) M3
  | _ => .bad
section
variable {X : Cx} {L : Lay} {W : WX} {a b c : Expr} {fa fb fc : EF} {pos : Pos} {op op' : CmpOp} {g g' : D → D → Mem → Res D}
theorem chain_go {K : PySem.W.Frag} {σ : L2.St} {H : Hp} {Q : VK} (h : LE K L W (dChain g g' fa fb fc) σ H Q) : tChain (rF2 K L g (fun c d H' => W c d σ H')) (rF2 K L g' (fun c d H' => W c d σ H')) (LE K L W fa) (LE K L W fb) (LE K L W fc) σ H Q := by
  obtain ⟨α, M, s, r, sl, h⟩ := h
  refine ⟨α, M, s, r, sl, (PostR.bind (R := Rep K) h).imp fun x H1 ⟨dx, α1, M1, l1, r1, rx, h1⟩ => ?_⟩
  refine ⟨α1, M1, s, r1, sl.le l1, (PostR.bind (R := Rep K) h1).imp fun y H2 ⟨dy, α2, M2, l2, r2, ry, h2⟩ => ?_⟩
  refine ⟨α2, M2, dx, dy, r2, rx.le l2, ry, (PostR.bind (R := Rep K) h2).imp fun z H3 ⟨dz, α3, M3, l3, r3, rz, h3⟩ => ?_⟩
  dsimp only at h3
  cases dz <;> try exact h3.elim
  rename_i k
  refine ⟨k, rz.bl, ?_⟩
  cases k with
  | false => exact iteF (PostR.pure h3 r3 rep_bl)
  | true =>
    refine iteT ⟨α3, M3, s, r3, ((sl.le l1).le l2).le l3, (PostR.bind (R := Rep K) h3).imp fun u H4 ⟨du, α4, M4, l4, r4, ru, h4⟩ => ?_⟩
    exact ⟨α4, M4, dy, du, r4, (ry.le l3).le l4, ru, h4⟩
theorem fe_chain (ho : Op2 X L (compareOp op) g) (ho' : Op2 X L (compareOp op') g') (ha : FE X L W a fa) (hb : FE X L W b fb) (hc : FE X L W c fc) (hm : lastMarks [op, op'] [b, c] = false := by with_unfolding_all rfl) :
    FE X L W (.Compare a [op, op'] [b, c] pos) (dChain g g' fa fb fc) :=
  ⟨fun pins s σ H Q I h => (pe_chain (ho (fun c d H' => W c d σ H')) (ho' (fun c d H' => W c d σ H')) ha hb hc hm).run pins s σ H Q I (chain_go h)⟩
end
/-! ### f-strings -/
abbrev JF := Str → Sl → Mem → Res Str
abbrev RS : List Addr → Hp → Str → Str → Prop := fun _ _ a b => a = b
def LJ (K : PySem.W.Frag) (L : Lay) (W : WX) (f : JF) (acc : Str) (σ : L2.St) (H : Hp) (Q : Str → Hp → Prop) : Prop := ∃ α M s, Rel K L α M H ∧ Slots K α H s σ ∧ PostR K L RS (f acc s M) α H Q (fun c d H' => W c d σ H')
def FJ (X : Cx) (L : Lay) (W : WX) (es : List Expr) (f : JF) : Prop := ∃ ts, PJ X es ts ∧ ∀ acc σ H Q, LJ X.K L W f acc σ H Q → tJs ts acc σ H Q
def dFmt (fe : EF) : EF := fun s M => (fe s M).bind fun x M1 => match x with
  | .str y => (match decide (y.length ≤ sizeLine) with
    | true => .ok (.str y) M1
    | false => .bad)
  | .int i => (match decide (i.natAbs.log2 < 1920) with
    | true => .ok (.str (toString i)) M1
    | false => .bad)
  | _ => .bad
def jNil : JF := fun acc _ M => .ok acc M
def jCons (fe : EF) (f : JF) : JF := fun acc s M => (fe s M).bind fun x M1 => match x with
  | .str y => (match decide ((acc ++ y).length ≤ sizeLine) with
    | true => f (acc ++ y) s M1
    | false => .bad)
  | _ => .bad
def dJoin (f : JF) : EF := fun s M => (f Str.empty s M).bind fun t M1 => .ok (.str t) M1
section
variable {X : Cx} {L : Lay} {W : WX} {e v1 v2 : Expr} {es : List Expr} {fe : EF} {f : JF} {pos : Pos}
theorem fe_fmt (he : FE X L W e fe) : FE X L W (.FormattedValue e (-1) none pos) (dFmt fe) := peImp (pe_fmt he) fun σ H Q ⟨α, M, s, r, sl, h⟩ =>
  ⟨α, M, s, r, sl, (PostR.bind (R := Rep _) h).imp fun x H1 ⟨dx, α1, M1, l1, r1, rx, h1⟩ => by
    dsimp only at h1
    cases dx <;> try exact h1.elim
    · rename_i i
      cases e : decide (i.natAbs.log2 < 1920) with
      | false => simp only [e] at h1; exact h1.elim
      | true => simp only [e] at h1; exact .inr ⟨i, rx.int, dt e, PostR.pure h1 r1 rep_str⟩
    · rename_i y
      cases e : decide (y.length ≤ sizeLine) with
      | false => simp only [e] at h1; exact h1.elim
      | true => simp only [e] at h1; exact .inl ⟨y, rx.str, dt e, PostR.pure h1 r1 rep_str⟩⟩
theorem fj_nil : FJ X L W [] jNil := ⟨[], .nil, fun acc σ H Q ⟨α, M, s, r, sl, h⟩ => PostR.pure (R := RS) h r rfl⟩
theorem fj_cons (he : FE X L W e fe) (hr : FJ X L W es f) : FJ X L W (e :: es) (jCons fe f) := by
  obtain ⟨ts, p, q⟩ := hr
  refine ⟨_, .cons he p, fun acc σ H Q ⟨α, M, s, r, sl, h⟩ => ?_⟩
  refine ⟨α, M, s, r, sl, (PostR.bind (R := Rep _) h).imp fun x H1 ⟨dx, α1, M1, l1, r1, rx, h1⟩ => ?_⟩
  dsimp only at h1
  cases dx <;> try exact h1.elim
  rename_i y
  cases e : decide ((acc ++ y).length ≤ sizeLine) with
  | false => simp only [e] at h1; exact h1.elim
  | true => simp only [e] at h1; exact ⟨y, rx.str, dt e, q _ _ _ _ ⟨α1, M1, s, r1, sl.le l1, h1⟩⟩
theorem fe_join (h : FJ X L W (v1 :: v2 :: es) f) : FE X L W (.JoinedStr (v1 :: v2 :: es) pos) (dJoin f) := by
  obtain ⟨ts, p, q⟩ := h
  exact peImp (pe_joined p) fun σ H Q ⟨α, M, s, r, sl, h⟩ => q _ _ _ _ ⟨α, M, s, r, sl, (PostR.bind (R := RS) h).imp fun x H1 ⟨dx, α1, M1, l1, r1, rx, h1⟩ => PostR.pure (R := Rep _) h1 r1 (by subst rx; exact rep_str)⟩
/-! ### xs[::-1] -/
end
end Fl
namespace Fl
open PySem PySem.Spec L2
/-! ### get, setdefault -/
/-! setdefault of any dict of ours -/
end Fl
namespace Fl
open PySem PySem.Spec L2 PyProof.Rows
/-! ### set(l), l a list of ints -/
end Fl
namespace Fl
open PySem PySem.Spec L2
/-! ### sorting, as plain functions -/
def insS {A : Type} (le : A → A → Bool) (x : A) : List A → List A
  | [] => [x]
  | y :: r => match le x y with
    | true => x :: y :: r
    | false => y :: insS le x r
def isortS {A : Type} (le : A → A → Bool) : List A → List A
  | [] => []
  | x :: r => insS le x (isortS le r)
def leI (a b : Int) : Bool := decide (a ≤ b)
def sortI (ns : List Int) : List Int := isortS leI ns
/-- without repeats -/
def nubI : List Int → List Int
  | [] => []
  | x :: r => match r.contains x with
    | true => nubI r
    | false => x :: nubI r
def sortNub (ns : List Int) : List Int := sortI (nubI ns)
/-! ### sorted(set(x)) -/
def dSortSet (fe : EF) : EF := fun s M => (fe s M).bind fun d M1 => match seqOf M1 d with
  | some ds => (match intsOf ds with
    | some ns => (match decide (ns.length < 64) with
      | true => .ok (.ref M1.length) (M1 ++ [.lst ((sortNub ns).map .int)])
      | false => .bad)
    | none => .bad)
  | none => .bad
end Fl
namespace Fl
open PySem PySem.Spec L2 PyProof.Rows
/-! ### t[::-1] of a tuple -/
section
variable {X : Cx} {L : Lay} {W : WX} {e : Expr} {fe : EF}
/-! ### tuple(range(n)) -/
def dTupRg (fe : EF) : EF := fun s M => (fe s M).bind fun d M1 => match d with
  | .int n => (match decide (0 ≤ n ∧ n ≤ 16777216) with
    | true => .ok (.tup ((List.range n.toNat).map fun i => .int (i : Nat))) M1
    | false => .bad)
  | _ => .bad
end
/-! ### sorted(xs), xs data that can be compared -/
end Fl
namespace Fl
open PySem PySem.Spec L2 PyProof.Rows
/-! ### t * 1 -/
theorem tuple_mul1 (l : Addr) (its : Array Value) (n : Nat) (dd : Option Addr) (sl : Array (Option Value)) (u : Tok) :
    Meets (Builtin.«tuple.__mul__» ⟨[.ref l, .int 1 u], []⟩) (fun _ R s => s.heap.get? l = some { cls := .type "tuple", dict := dd, data := .seq its n, slots := sl } ∧ R (.ok (.ret (Value.ref l))) s) :=
  .of_wp fun prog w A R s h => by
    obtain ⟨hp, g, d, tk, os⟩ := s
    obtain ⟨hl, h⟩ := h
    have f1 := AutoSeq1.idx_int
    wp_walk using wpAny_loadPart' hl
    repeat (first
      | (refine wpAny_ite_false (decide_eq_false (by simp)) ?_; wp_walk using wpAny_loadPart' hl)
      | (refine wpAny_ite_true (decide_eq_true (by simp)) ?_; wp_walk using wpAny_loadPart' hl))
    exact ⟨_, rfl, h⟩
def gMulX : D → D → Mem → Res D := fun x y M => match x, y with
  | .tup xs, .int k => (match decide (k = 1) with
    | true => .ok (.tup xs) M
    | false => gMul (.tup xs) (.int k) M)
  | _, _ => gMul x y M
section
variable {X : Cx} {L : Lay}
theorem op_rep1 : OpR X (binaryOp .Mult) (fun x y H Q => ∃ l xs, x = .ref l ∧ y = .int 1 ∧ SqT X.K H l xs ∧ Q (.ref l) H) := by
  intro pins s σ H x y v u Q I rx ry h
  obtain ⟨l, xs, rfl, rfl, hT, q⟩ := h
  cases rx
  obtain ⟨t, rfl⟩ := ry
  obtain ⟨its, r, ⟨⟨cls, dd, data, sl⟩, ho, hc, n, hd⟩, hs⟩ := I.tuple hT
  simp only at hc hd
  subst hc hd
  exact wpAny_binaryOp_repeat_ref (T := "tuple") (U := "int") (by decide) ⟨_, ho, rfl⟩ (fun s' => typeIs_int s' 1 t) noFill_tuple_mul F.fills_int_mul F.slot_int_rmul repeat_tuple F.slot_int_index.lookup
    (call_meets F.slot_int_rmul (typeIs_int s 1 t) F.entry_int_rmul (F.args_int_rmul_2 _ _) (int_rmul_tuple 1 t l its.toArray n dd sl)
      ⟨ho, rfl, ⟨_, ho, rfl⟩, call_meets F.slot_tuple_mul ⟨_, ho, rfl⟩ F.entry_tuple_mul (F.args_tuple_mul_2 _ _) (tuple_mul1 l its.toArray n dd sl t) ⟨ho, ⟨.ref l, H, I, rfl, q⟩⟩⟩)
theorem o_mulX : Op2 X L (binaryOp .Mult) gMulX := fun w => op_case fun x y H Q ⟨α, M, dx, dy, r, rx, ry, h⟩ => by
  unfold gMulX at h
  split at h
  · split at h
    · rename_i xs k c
      have c := dt c
      subst c
      obtain ⟨t, vs, e, ht, hr⟩ := rx.tup
      subst e
      exact ⟨_, op_rep1, t, vs, rfl, ry.int, ht.sq, PostR.pure h r rx⟩
    · exact ⟨_, o_mul w, α, M, _, _, r, rx, ry, h⟩
  · exact ⟨_, o_mul w, α, M, _, _, r, rx, ry, h⟩
end
end Fl
namespace Fl
open PySem PySem.Spec L2
theorem hu70 {k : Nat} {A : Around} (hr : Room k A) : A.units + 70 < cLine := by have := hr.un; omega
theorem bb_len : bootBuiltins "len" = some (.builtin "len") := by decide +kernel
theorem bb_all : bootBuiltins "all" = some (.builtin "all") := by decide +kernel
theorem bb_any : bootBuiltins "any" = some (.builtin "any") := by decide +kernel
theorem bb_list : bootBuiltins "list" = some (.type "list") := by decide +kernel
theorem bb_tuple : bootBuiltins "tuple" = some (.type "tuple") := by decide +kernel
theorem bb_int : bootBuiltins "int" = some (.type "int") := by decide +kernel
theorem bb_bool : bootBuiltins "bool" = some (.type "bool") := by decide +kernel
theorem bb_str : bootBuiltins "str" = some (.type "str") := by decide +kernel
/-! ### a new dict -/
/-! ### binding -/
section
variable {K : PySem.W.Frag} {x qual : Str} {params : Arguments} {body : List Stmt} {scope : Scope} {kws : List (Str × V)} {f : Addr} {fd : FuncData} {ps : List Str} {n : Nat}
theorem kb_plain (hb : Binds K fd ps []) (hn : n = ps.length) : KBn K fd ps n [] (fun us _ => us) (fun vs _ => vs) :=
  ⟨fun s us ws X l1 l2 => by
    have e : ws = [] := List.length_eq_zero_iff.mp (by simpa using l2)
    subst e
    have q := hb s us X (by rw [List.append_nil, l1, hn])
    rw [List.append_nil] at q
    exact q, fun r _ => r⟩
theorem FunD.kbN (F : FunD K x qual params body scope [] kws f fd) (n : Nat) (ks : List Str) (g : {α : Type} → List α → List α → List α)
    (hrel : ∀ {vs zs : List V} {us ws : List Value}, Vals vs us → Vals zs ws → Vals (g vs zs) (g us ws))
    (h : ∀ (kV doc pm : Value) (an : Option Addr) (cdv ct : Value) (us ws : List Value), us.length = n → ws.length = ks.length → bindArgs (PySem.W.fnOf x qual params body scope .none kV doc pm an cdv ct) ⟨us, ks.zip ws⟩ = pure (ps.zip (g us ws))) :
    KBn K fd ps n ks (fun us ws => g us ws) (fun vs zs => g vs zs) := by
  obtain ⟨oc, od, dV, kV, doc, pm, an, cdv, ct, osl, rfl, lk, hcd, hD, hK⟩ := F.ex
  rcases hD with ⟨_, rfl⟩ | ⟨e, _⟩
  · exact ⟨fun s us ws X l1 l2 => .of_eq (h kV doc pm an cdv ct us ws l1 l2), fun r1 r2 => hrel r1 r2⟩
  · exact absurd rfl e
theorem gr_plain : GRel K (fun xs _ => xs) (fun vs _ => vs) := ⟨fun r _ => r⟩
theorem gr_app : GRel K (fun xs zs => xs ++ zs) (fun vs zs => vs ++ zs) := ⟨fun r r2 => r.append r2⟩
end
end Fl
namespace Fl
open PySem PySem.Spec L2
/-! ### the names of fields and methods -/
def nmL0 : List Str := ["worth", "nexts", "votes", "asked", "stack", "done", "houses", "few", "signers", "first", "liars", "cheats", "board", "rooms", "posts", "issued", "world", "purse", "many", "spent", "got", "owners", "need", "chosen", "house", "may_vote", "hear", "new_votes", "can_settle", "take"]
def nmL1 : List Str := ["go_on", "settle", "state", "load", "sign", "votes_for", "is_paper", "paper", "papers", "honest", "room", "look_liar", "look_purse", "order_to_all", "paper_to_all", "next_number", "ask", "left_at", "cheat", "lie", "signed", "show", "letters", "come", "sums", "settled", "voted", "waits", "is_still", "add"]
def nmL2 : List Str := ["signers_of", "good", "has", "order", "ready", "is_sure", "two_faced"]
def nmList : List Str := nmL0 ++ nmL1 ++ nmL2
def nmOf (i : Nat) : Str := match nmList[i]? with
  | some x => x
  | none => ⟨Array.replicate (i + 100) 46⟩
theorem nmOf_inj : ∀ i j, nmOf i = nmOf j → i = j := by
  have hn : nmList.Nodup := by decide +kernel
  have hs : ∀ x ∈ nmList, x.cps.size < 100 := by decide +kernel
  intro i j h
  unfold nmOf at h
  cases e1 : nmList[i]? with
  | some x =>
    cases e2 : nmList[j]? with
    | some y =>
      simp only [e1, e2] at h
      rw [h, ← e2] at e1
      obtain ⟨hi, _⟩ := List.getElem?_eq_some_iff.mp (e1.trans e2)
      exact (List.getElem?_inj hi hn).mp e1
    | none =>
      simp only [e1, e2] at h
      have z := hs x (List.mem_of_getElem? e1)
      rw [h] at z
      simp at z; omega
  | none =>
    cases e2 : nmList[j]? with
    | some y =>
      simp only [e1, e2] at h
      have z := hs y (List.mem_of_getElem? e2)
      rw [← h] at z
      simp at z; omega
    | none =>
      simp only [e1, e2] at h
      have z : (Array.replicate (i + 100) 46).size = (Array.replicate (j + 100) 46).size := by
        injection h with h; rw [h]
      simp at z; exact z
/-! ### defaults -/
section
variable {K : PySem.W.Frag} {ds : List D} {dv : List V}
theorem gr_dfl (h : ∀ α H, Reps K α H ds dv) : GRel K (fun xs _ => xs ++ ds) (fun vs _ => vs ++ dv) := ⟨fun r _ => r.append (h _ _)⟩
end
/-! ### -e -/
def gNeg : D → Mem → Res D := fun d M => match d with
  | .int i => .ok (.int (-i)) M
  | _ => .bad
/-! ### the law's end -/
theorem law_end {K : PySem.W.Frag} {L : Lay} {S : List D → Mem → Res D} {H : Hp} {a : Addr} {ns : List Int} (h : ∃ M, S [.rol (ns.map .int)] [] = .ok (.bl true) M) (hO : Only H) (hS : SqL K H a (ns.map V.int)) :
    spF K L S [.ref a] H (fun v _ => v = .bl true) fun _ _ _ => False := by
  obtain ⟨M, h⟩ := h
  have ro : RolAt K H a (ns.map V.int) := by
    rcases hS with (hS | ⟨o, hS⟩) | hS
    · rcases hO a with q | ⟨o, xs, q⟩ <;> (rw [hS] at q; cases q)
    · exact .inl ⟨o, hS⟩
    · exact .inr hS
  refine ⟨[], [], [.rol (ns.map .int)], ⟨rfl, List.nodup_nil, fun n o a h => by simp at h⟩, reps_cons (by unfold Rep; exact ⟨a, _, rfl, ro, reps_int⟩) reps_nil, ?_⟩
  rw [h]
  exact fun α' H' v _ _ rv => rv.bl
def CXA (P : Program) : CXT := fun o H s E u s' => ∃ w, L2.CX P w o H s E u s'
theorem FnOk.anyW {P : Program} {w : World} {K : PySem.W.Frag} {mg : Str → Option Value} {base : Heap} {k : Nat} {f : Addr} {fd : FuncData} {ps : List Str} {sp : Sp} (F : FnOk P w K mg base (L2.CX P w) k f fd ps sp) : FnOk P w K mg base (CXA P) k f fd ps sp :=
  ⟨F.len, fun A outer s H args us vs Q E hr he hb hv hs => codeAny_mono (F.run A outer s H args us vs Q E hr he hb hv hs) fun r s' h => by
    cases r with
    | error e => exact ⟨w, h⟩
    | ok fl => cases fl <;> exact h⟩
theorem cxa_none {P : Program} (H : Hp) (s : Shared) (e : Value) (s' : Shared) (h : CXA P [] H s (fun _ _ _ => False) e s') : False := by
  obtain ⟨w, a, B, H', cls, d, _, _, _, _, _, _, _, z⟩ := h
  exact z
end Fl
namespace Fl
open PySem PySem.Spec L2
/-! ### a Hook with further facts -/
abbrev AlX : Type := He.AlD × Bool
def obsX (fa : List He.Fa) (fn : List He.DefD) (xs : List (PySem.W.Frag → Bool)) (K : PySem.W.Frag) : AlX := (He.obsD fa fn K, xs.all fun x => x K)
def obsXG (n : Nat) (fa : List He.Fa) (fn : List He.DefD) (xs : List (PySem.W.Frag → Bool)) (g : Addr → Option Obj) : AlX := obsX fa fn xs (He.frG g (He.asD g n))
def SaysX (fa : List He.Fa) (fn : List He.DefD) (xs : List (PySem.W.Frag → Bool)) (K : PySem.W.Frag) : Prop := He.SaysD fa fn K ∧ ∀ x ∈ xs, x K = true
def hookX (n : Nat) (fa : List He.Fa) (fn : List He.DefD) (xs : List (PySem.W.Frag → Bool)) : PySem.W.Hook where
  α := AlX
  obs := fun s => obsXG n fa fn xs s.heap.get?
  val := fun _ => (He.valD fn, true)
  says := fun _ h => ∃ K : PySem.W.Frag, K.In h ∧ SaysX fa fn xs K
  of := fun _ _ e => ⟨_, He.frG_in, congrArg (fun z : AlX => z.1) e, fun x hx => List.all_eq_true.mp (congrArg (fun z : AlX => z.2) e) x hx⟩
  keeps := fun _ _ _ ⟨K, hK, c⟩ k => ⟨K, PySem.W.Frag.In.keeps hK k, c⟩
theorem obsXG_eq {n : Nat} {fa : List He.Fa} {fn : List He.DefD} {xs : List (PySem.W.Frag → Bool)} {g : Addr → Option Obj} {s : Shared} (h : ∀ a, g a = s.heap.get? a) : obsXG n fa fn xs g = (hookX n fa fn xs).obs s := by
  have e : g = s.heap.get? := funext h
  rw [e]; rfl
/-! ### facts of classes -/
def okO {A : Type} [DecidableEq A] (a b : A) : Bool := decide (a = b)
def xcB (K : PySem.W.Frag) (C : Addr) : Bool :=
  ((PySem.W.clsIn K C).isSome && (He.eqO (PySem.W.findIn K (.ref C) "__getattribute__") (some (some (.builtin "BaseException.__getattribute__"))) && (He.eqO (PySem.W.findIn K (.ref C) "__getattr__") (some none) && okO (PySem.W.subIn K (.ref C) (.type "BaseException")) (some true)))) &&
  (He.eqO (PySem.W.findIn K (.ref C) "__class__") (some (some (.builtin "object.__class__"))) && (He.eqO (PySem.W.specialIn K (.builtin "object.__class__") "__get__") (some (some (.builtin "getset_descriptor.__get__"))) &&
    (okO (PySem.W.takesIn K (.builtin "object.__class__")) (some true) && okO (PySem.W.mroIn K C (.type "object")) (some true))))
theorem xcB_ok {K : PySem.W.Frag} {C : Addr} (h : xcB K C = true) : XcF K C := by
  unfold xcB at h
  obtain ⟨h1, h2⟩ := He.ba h
  obtain ⟨a1, h1⟩ := He.ba h1
  obtain ⟨a2, h1⟩ := He.ba h1
  obtain ⟨a3, a4⟩ := He.ba h1
  obtain ⟨b1, h2⟩ := He.ba h2
  obtain ⟨b2, h2⟩ := He.ba h2
  obtain ⟨b3, b4⟩ := He.ba h2
  exact ⟨a1, He.eqO_ok a2, He.eqO_ok a3, of_decide_eq_true a4, He.eqO_ok b1, He.eqO_ok b2, of_decide_eq_true b3, of_decide_eq_true b4⟩
/-! ### the refusals: classes 6 to 17, 6 the base of all -/
def exRow : List Nat := [6, 7, 8, 9, 10, 11, 12, 13, 14, 15, 16, 17]
def exSub (c d : Nat) : Bool := decide (d = 6) || decide (c = d)
def isEx (c : Nat) : Bool := decide (6 ≤ c ∧ c ≤ 17)
theorem isEx_mem {c : Nat} (h : isEx c = true) : c ∈ exRow := by
  have h := of_decide_eq_true h
  unfold exRow
  simp only [List.mem_cons, List.not_mem_nil, or_false]
  omega
/-- all that is asked of the refusals' classes -/
def exB (cls : PySem.W.Frag → Nat → Addr) (K : PySem.W.Frag) : Bool :=
  exRow.all fun c => xcB K (cls K c) && (okO (PySem.W.kitOne K (.ref (cls K c)) (.type "ValueError")) (some true) &&
    exRow.all fun d => okO (PySem.W.exmOne K (.ref (cls K c)) (.ref (cls K d))) (some (exSub c d)) && okO (PySem.W.kitOne K (.ref (cls K c)) (.ref (cls K d))) (some (exSub c d)))
structure ExAll (K : PySem.W.Frag) (L : Lay) : Prop where
  xc : ∀ c, isEx c = true → XcF K (L.cls c)
  ve : ∀ c, isEx c = true → PySem.W.kitOne K (.ref (L.cls c)) (.type "ValueError") = some true
  em : ∀ c d, isEx c = true → isEx d = true → PySem.W.exmOne K (.ref (L.cls c)) (.ref (L.cls d)) = some (exSub c d)
  kt : ∀ c d, isEx c = true → isEx d = true → PySem.W.kitOne K (.ref (L.cls c)) (.ref (L.cls d)) = some (exSub c d)
theorem exB_ok {cls : PySem.W.Frag → Nat → Addr} {K : PySem.W.Frag} {L : Lay} (hL : L.cls = cls K) (h : exB cls K = true) : ExAll K L := by
  unfold exB at h
  have h1 := List.all_eq_true.mp h
  refine ⟨fun c hc => ?_, fun c hc => ?_, fun c d hc hd => ?_, fun c d hc hd => ?_⟩
  all_goals
    rw [hL]
    obtain ⟨a1, a2⟩ := He.ba (h1 c (isEx_mem hc))
    obtain ⟨a2, a3⟩ := He.ba a2
  · exact xcB_ok a1
  · exact of_decide_eq_true a2
  · exact of_decide_eq_true (He.ba (List.all_eq_true.mp a3 d (isEx_mem hd))).1
  · exact of_decide_eq_true (He.ba (List.all_eq_true.mp a3 d (isEx_mem hd))).2
def tabX (d : Nat) : TyK → Option Bool
  | .exc c => (match isEx c with
    | true => some (exSub c d)
    | false => none)
  | _ => none
def tabVE : TyK → Option Bool
  | .exc c => (match isEx c with
    | true => some true
    | false => none)
  | _ => none
def tabC (d : Nat) : Nat → Option Bool := fun c => match isEx c with
  | true => some (exSub c d)
  | false => none
section
variable {K : PySem.W.Frag} {L : Lay}
theorem tabX_ok (T : ExAll K L) (d : Nat) (hd : isEx d = true) : TabOk K L (tabX d) (.ref (L.cls d)) := by
  refine ⟨fun k b e => ?_, fun c b e => (by cases e), fun c b e => ?_⟩
  · cases k <;> try (cases e; done)
    rename_i c
    unfold tabX at e
    cases hc : isEx c with
    | false => simp only [hc] at e; cases e
    | true =>
      simp only [hc] at e
      cases e
      exact T.kt c d hc hd
  · unfold tabX at e
    cases hc : isEx c with
    | false => simp only [hc] at e; cases e
    | true => exact T.xc c hc
theorem tabVE_ok (T : ExAll K L) : TabOk K L tabVE (.type "ValueError") := by
  refine ⟨fun k b e => ?_, fun c b e => (by cases e), fun c b e => ?_⟩
  · cases k <;> try (cases e; done)
    rename_i c
    unfold tabVE at e
    cases hc : isEx c with
    | false => simp only [hc] at e; cases e
    | true =>
      simp only [hc] at e
      cases e
      exact T.ve c hc
  · unfold tabVE at e
    cases hc : isEx c with
    | false => simp only [hc] at e; cases e
    | true => exact T.xc c hc
theorem tabC_ok (T : ExAll K L) (d : Nat) (hd : isEx d = true) : ∀ c b, tabC d c = some b → PySem.W.exmOne K (.ref (L.cls c)) (.ref (L.cls d)) = some b := fun c b e => by
  unfold tabC at e
  cases hc : isEx c with
  | false => simp only [hc] at e; cases e
  | true =>
    simp only [hc] at e
    cases e
    exact T.em c d hc hd
theorem bb_VE : bootBuiltins "ValueError" = some (.type "ValueError") := by decide +kernel
end
theorem exk_of {K : PySem.W.Frag} {mg : Str → Option Value} {x : Str} {C : Addr} (g : mg x = some (.ref C)) (c : (He.Fa.exc x).ok K = true) (hC : He.ga K x = C := by rfl) : ExK K mg x C := by
  obtain ⟨h1, h2, h3, h4⟩ := He.exc_ok c
  subst hC
  exact ⟨g, h1, h2, h3, h4⟩
end Fl
namespace Wk
open PySem PySem.Spec PyProof.Rows L2 Fl
def top (i : Nat) : Stmt := PySem.Challenge.pw_manypurses_k17_whole_texts.main.body.getD i (.Pass ⟨0, 0, 0, 0⟩)
abbrev s__law_town : Stmt := top 27
abbrev N__law_town : List Str := ["_law_script"]
abbrev p__law_town : List Str := ["_law_script"]
theorem sc__law_town : FnScope N__law_town p__law_town (defScope s__law_town) := ⟨rfl, rfl, rfl, by decide +kernel, rfl, by decide +kernel, by decide +kernel⟩
abbrev s__law_draw : Stmt := top 28
abbrev N__law_draw : List Str := ["_law_town_here", "_law_many", "_law_row", "_law_at", "_law_cell", "_law_mixed"]
abbrev p__law_draw : List Str := ["_law_town_here", "_law_many"]
theorem sc__law_draw : FnScope N__law_draw p__law_draw (defScope s__law_draw) := ⟨rfl, rfl, rfl, by decide +kernel, rfl, by decide +kernel, by decide +kernel⟩
abbrev s__law_pick : Stmt := top 29
abbrev N__law_pick : List Str := ["_law_town_here", "_law_some"]
abbrev p__law_pick : List Str := ["_law_town_here", "_law_some"]
theorem sc__law_pick : FnScope N__law_pick p__law_pick (defScope s__law_pick) := ⟨rfl, rfl, rfl, by decide +kernel, rfl, by decide +kernel, by decide +kernel⟩
abbrev s__law_refusal : Stmt := top 30
abbrev N__law_refusal : List Str := ["_law_caught", "_law_kinds", "_law_words"]
abbrev p__law_refusal : List Str := ["_law_caught"]
theorem sc__law_refusal : FnScope N__law_refusal p__law_refusal (defScope s__law_refusal) := ⟨rfl, rfl, rfl, by decide +kernel, rfl, by decide +kernel, by decide +kernel⟩
abbrev s_number_in : Stmt := top 23
abbrev N_number_in : List Str := ["word", "fine", "sign"]
abbrev p_number_in : List Str := ["word"]
theorem sc_number_in : FnScope N_number_in p_number_in (defScope s_number_in) := ⟨rfl, rfl, rfl, by decide +kernel, rfl, by decide +kernel, by decide +kernel⟩
abbrev s_is_whole : Stmt := top 13
abbrev N_is_whole : List Str := ["thing", "low", "high"]
abbrev p_is_whole : List Str := ["thing", "low", "high"]
theorem sc_is_whole : FnScope N_is_whole p_is_whole (defScope s_is_whole) := ⟨rfl, rfl, rfl, by decide +kernel, rfl, by decide +kernel, by decide +kernel⟩
abbrev s_is_order : Stmt := top 18
abbrev N_is_order : List Str := ["thing", "purses", "purse", "number", "goal", "much"]
abbrev p_is_order : List Str := ["thing", "purses"]
theorem sc_is_order : FnScope N_is_order p_is_order (defScope s_is_order) := ⟨rfl, rfl, rfl, by decide +kernel, rfl, by decide +kernel, by decide +kernel⟩
abbrev s_order_read : Stmt := top 24
abbrev N_order_read : List Str := ["text", "halves", "left", "right", "order"]
abbrev p_order_read : List Str := ["text"]
theorem sc_order_read : FnScope N_order_read p_order_read (defScope s_order_read) := ⟨rfl, rfl, rfl, by decide +kernel, rfl, by decide +kernel, by decide +kernel⟩
abbrev s_paper_read : Stmt := top 25
abbrev N_paper_read : List Str := ["text", "halves", "signers", "one", "word"]
abbrev p_paper_read : List Str := ["text"]
theorem sc_paper_read : FnScope N_paper_read p_paper_read (defScope s_paper_read) := ⟨rfl, rfl, rfl, by decide +kernel, rfl, by decide +kernel, by decide +kernel⟩
abbrev s__law_read : Stmt := top 31
abbrev N__law_read : List Str := ["_law_kind", "_law_text", "_law_caught", "_law_told", "e"]
abbrev p__law_read : List Str := ["_law_kind", "_law_text"]
theorem sc__law_read : FnScope N__law_read p__law_read (defScope s__law_read) := ⟨rfl, rfl, rfl, by decide +kernel, rfl, by decide +kernel, by decide +kernel⟩
abbrev s_look_order : Stmt := top 19
abbrev N_look_order : List Str := ["thing", "purses"]
abbrev p_look_order : List Str := ["thing", "purses"]
theorem sc_look_order : FnScope N_look_order p_look_order (defScope s_look_order) := ⟨rfl, rfl, rfl, by decide +kernel, rfl, by decide +kernel, by decide +kernel⟩
abbrev s_order_text : Stmt := top 21
abbrev N_order_text : List Str := ["order", "purse", "number", "goal", "much"]
abbrev p_order_text : List Str := ["order"]
theorem sc_order_text : FnScope N_order_text p_order_text (defScope s_order_text) := ⟨rfl, rfl, rfl, by decide +kernel, rfl, by decide +kernel, by decide +kernel⟩
abbrev s_paper_text : Stmt := top 22
abbrev N_paper_text : List Str := ["paper", "fine", "one"]
abbrev p_paper_text : List Str := ["paper"]
theorem sc_paper_text : FnScope N_paper_text p_paper_text (defScope s_paper_text) := ⟨rfl, rfl, rfl, by decide +kernel, rfl, by decide +kernel, by decide +kernel⟩
abbrev s__law_written : Stmt := top 32
abbrev N__law_written : List Str := ["_law_kind", "_law_thing", "_law_caught", "_law_told", "e"]
abbrev p__law_written : List Str := ["_law_kind", "_law_thing"]
theorem sc__law_written : FnScope N__law_written p__law_written (defScope s__law_written) := ⟨rfl, rfl, rfl, by decide +kernel, rfl, by decide +kernel, by decide +kernel⟩
abbrev s_law : Stmt := top 33
abbrev N_law : List Str := ["_law_script", "_law_town_here", "_law_purse", "_law_order", "_law_text", "_law_signers", "_law_line", "_law_at", "_law_sign", "_law_worse", "_law_found", "_law_odd", "_law_k", "_law_one"]
abbrev p_law : List Str := ["_law_script"]
theorem sc_law : FnScope N_law p_law (defScope s_law) := ⟨rfl, rfl, rfl, by decide +kernel, rfl, by decide +kernel, by decide +kernel⟩
def clsName : Nat → Str := fun c => (["law", "law", "law", "law", "law", "law", "PurseError", "BadNumber", "BadOrder", "BadHouses", "NoHouse", "NoPurse", "NoLetter", "NotNow", "TooMuch", "BadPaper", "BadCut", "BadText"] : List Str).getD c "law"
abbrev clsOf (K : PySem.W.Frag) (c : Nat) : Addr := He.ga K (clsName c)
abbrev Ly (K : PySem.W.Frag) : Lay := ⟨nmOf, clsOf K, 0, nmOf_inj⟩
abbrev A__law_town (K : PySem.W.Frag) : Addr := He.fAd K ("_law_town", none)
def d__law_town : He.DefD := ⟨("_law_town", none), "_law_town", "_law_town", defArgs s__law_town, defBody s__law_town, defScope s__law_town, [], []⟩
abbrev A__law_draw (K : PySem.W.Frag) : Addr := He.fAd K ("_law_draw", none)
def d__law_draw : He.DefD := ⟨("_law_draw", none), "_law_draw", "_law_draw", defArgs s__law_draw, defBody s__law_draw, defScope s__law_draw, [], []⟩
abbrev A__law_pick (K : PySem.W.Frag) : Addr := He.fAd K ("_law_pick", none)
def d__law_pick : He.DefD := ⟨("_law_pick", none), "_law_pick", "_law_pick", defArgs s__law_pick, defBody s__law_pick, defScope s__law_pick, [], []⟩
abbrev A__law_refusal (K : PySem.W.Frag) : Addr := He.fAd K ("_law_refusal", none)
def d__law_refusal : He.DefD := ⟨("_law_refusal", none), "_law_refusal", "_law_refusal", defArgs s__law_refusal, defBody s__law_refusal, defScope s__law_refusal, [], []⟩
abbrev A_number_in (K : PySem.W.Frag) : Addr := He.fAd K ("number_in", none)
def d_number_in : He.DefD := ⟨("number_in", none), "number_in", "number_in", defArgs s_number_in, defBody s_number_in, defScope s_number_in, [], []⟩
abbrev A_is_whole (K : PySem.W.Frag) : Addr := He.fAd K ("is_whole", none)
def d_is_whole : He.DefD := ⟨("is_whole", none), "is_whole", "is_whole", defArgs s_is_whole, defBody s_is_whole, defScope s_is_whole, [], []⟩
abbrev A_is_order (K : PySem.W.Frag) : Addr := He.fAd K ("is_order", none)
def d_is_order : He.DefD := ⟨("is_order", none), "is_order", "is_order", defArgs s_is_order, defBody s_is_order, defScope s_is_order, [], [("purses", (.int 8))]⟩
abbrev A_order_read (K : PySem.W.Frag) : Addr := He.fAd K ("order_read", none)
def d_order_read : He.DefD := ⟨("order_read", none), "order_read", "order_read", defArgs s_order_read, defBody s_order_read, defScope s_order_read, [], []⟩
abbrev A_paper_read (K : PySem.W.Frag) : Addr := He.fAd K ("paper_read", none)
def d_paper_read : He.DefD := ⟨("paper_read", none), "paper_read", "paper_read", defArgs s_paper_read, defBody s_paper_read, defScope s_paper_read, [], []⟩
abbrev A__law_read (K : PySem.W.Frag) : Addr := He.fAd K ("_law_read", none)
def d__law_read : He.DefD := ⟨("_law_read", none), "_law_read", "_law_read", defArgs s__law_read, defBody s__law_read, defScope s__law_read, [], []⟩
abbrev A_look_order (K : PySem.W.Frag) : Addr := He.fAd K ("look_order", none)
def d_look_order : He.DefD := ⟨("look_order", none), "look_order", "look_order", defArgs s_look_order, defBody s_look_order, defScope s_look_order, [], [("purses", (.int 8))]⟩
abbrev A_order_text (K : PySem.W.Frag) : Addr := He.fAd K ("order_text", none)
def d_order_text : He.DefD := ⟨("order_text", none), "order_text", "order_text", defArgs s_order_text, defBody s_order_text, defScope s_order_text, [], []⟩
abbrev A_paper_text (K : PySem.W.Frag) : Addr := He.fAd K ("paper_text", none)
def d_paper_text : He.DefD := ⟨("paper_text", none), "paper_text", "paper_text", defArgs s_paper_text, defBody s_paper_text, defScope s_paper_text, [], []⟩
abbrev A__law_written (K : PySem.W.Frag) : Addr := He.fAd K ("_law_written", none)
def d__law_written : He.DefD := ⟨("_law_written", none), "_law_written", "_law_written", defArgs s__law_written, defBody s__law_written, defScope s__law_written, [], []⟩
abbrev A_law (K : PySem.W.Frag) : Addr := He.fAd K ("law", none)
def d_law : He.DefD := ⟨("law", none), "law", "law", defArgs s_law, defBody s_law, defScope s_law, [], []⟩
def fn : List He.DefD := [d__law_town, d__law_draw, d__law_pick, d__law_refusal, d_number_in, d_is_whole, d_is_order, d_order_read, d_paper_read, d__law_read, d_look_order, d_order_text, d_paper_text, d__law_written, d_law]
def fa0 : List He.Fa := [.glo "_law_town", .glo "_law_draw", .glo "_law_pick", .glo "_law_refusal", .glo "number_in", .glo "is_whole", .glo "is_order", .glo "order_read", .glo "paper_read", .glo "_law_read", .glo "look_order", .glo "order_text", .glo "paper_text", .glo "_law_written", .glo "law", .free "ValueError", .free "all", .free "any", .free "bool", .free "int", .free "isinstance", .free "len", .free "list", .free "range", .free "str", .free "tuple", .int "MOST_NUMBER" 99, .int "MOST_PURSES" 8, .int "MOST_SUM" 1000, .glo "BadCut"]
def fa1 : List He.Fa := [.glo "BadHouses", .glo "BadNumber", .glo "BadOrder", .glo "BadPaper", .glo "BadText", .glo "NoHouse", .glo "NoLetter", .glo "NoPurse", .glo "NotNow", .glo "PurseError", .glo "TooMuch", .exc "BadOrder", .exc "BadPaper", .exc "BadText"]
def fa : List He.Fa := fa0 ++ fa1
def xs : List (PySem.W.Frag → Bool) := [exB clsOf]
abbrev Rw : PySem.W.OpenRow := PySem.W.OpenLaw.row PySem.Challenge.rw_manypurses_k17_whole_texts
abbrev hk : PySem.W.Hook := hookX 4 fa fn xs
def ob (s : PySem.W.SharedT) : AlX := obsXG 4 fa fn xs (HandSHeadRun.getT s)
theorem ob_eq (s : PySem.W.SharedT) : ob s = hk.obs s.abs := obsXG_eq (HandSHeadRun.getT_eq s)
def loose0 : List Str := ["__name__", "PurseError", "BadNumber", "BadOrder", "BadHouses", "NoHouse", "NoPurse", "NoLetter", "NotNow", "TooMuch", "BadPaper", "BadCut", "BadText", "is_whole", "MOST_PURSES", "MOST_SUM", "MOST_NUMBER", "is_order", "look_order", "order_text", "paper_text", "number_in", "order_read", "paper_read", "_law_town", "_law_draw", "_law_pick", "_law_refusal", "_law_read", "_law_written"]
def loose : List Str := loose0
theorem run (w : World) : HandSHeadRun.RunEq Rw (PySem.W.view Rw.prog [33]) hk ob 4000 loose w := by
  intro os
  kernel_rfl
end Wk
namespace Fl
open PySem
def f__law_town : SF := (sRet (dLst (dCons (dIfE (tVal (dOp2 gNe (dVar 0) (dLst dNil))) (dOpN gList (dCons (dVar 0) dNil)) (dLst (dCons (dC (.int 0)) dNil))) (dCons (dC (.int 0)) dNil))))
def S__law_town : List D → Mem → Res D := fun ds M => match decide (ds.length = 1) with
  | true => (f__law_town (startD 1 ds) M).fin
  | false => .bad
def f_is_whole : SF := (sRet (dAnd (dOp1 (gIsi tabInt) (dVar 0)) (dAnd (dNot (dOp1 (gIsi tabBool) (dVar 0))) (dChain gLe gLe (dVar 1) (dVar 0) (dVar 2)))))
def S_is_whole : List D → Mem → Res D := fun ds M => match decide (ds.length = 3) with
  | true => (f_is_whole (startD 3 ds) M).fin
  | false => .bad
def f_is_order : SF := (sSeq (sIf (tOrF (tNotF (tVal (dOp1 (gIsi tabTup) (dVar 0)))) (tVal (dOp2 gNe (dOpN gLen (dCons (dVar 0) dNil)) (dC (.int 4))))) (sRet (dC (.bl false))) sNext) (sSeq (sAsg (dVar 0) (gT 4 (gsCons 2 (gsCons 3 (gsCons 4 (gsCons 5 gsNil)))))) (sSeq (sIf (tOrF (tNotF (tVal (dCall 3 0 S_is_whole (fun xs _ => xs) (dCons (dVar 2) (dCons (dC (.int 0)) (dCons (dOp2 gSub (dVar 1) (dC (.int 1))) dNil))) dNil))) (tOrF (tNotF (tVal (dCall 3 0 S_is_whole (fun xs _ => xs) (dCons (dVar 4) (dCons (dC (.int 0)) (dCons (dOp2 gSub (dVar 1) (dC (.int 1))) dNil))) dNil))) (tVal (dOp2 gEq (dVar 2) (dVar 4))))) (sRet (dC (.bl false))) sNext) (sRet (dAnd (dCall 3 0 S_is_whole (fun xs _ => xs) (dCons (dVar 3) (dCons (dC (.int 0)) (dCons (dC (.int 99)) dNil))) dNil) (dCall 3 0 S_is_whole (fun xs _ => xs) (dCons (dVar 5) (dCons (dC (.int 1)) (dCons (dC (.int 1000)) dNil))) dNil))))))
def S_is_order : List D → Mem → Res D := fun ds M => match decide (ds.length = 2) with
  | true => (f_is_order (startD 6 ds) M).fin
  | false => .bad
def f__law_draw : SF := (sSeq (sSet 2 (dOp2 gIx (dVar 0) (dC (.int 0)))) (sSeq (sAsg (dOp2 gAdd (dOp2 gIx (dVar 0) (dC (.int 1))) (dC (.int 1))) (gIxSet (dVar 0) (dC (.int 1)))) (sSeq (sSet 3 (dOp2 gMod (dOp2 gIx (dVar 0) (dC (.int 1))) (dOpN gLen (dCons (dVar 2) dNil)))) (sSeq (sSet 4 (dOp2 gIx (dVar 2) (dVar 3))) (sSeq (sIf (tVal (dOp2 gGe (dVar 4) (dC (.int 1000000000000000000)))) (sSeq (sAsg (dOp2 gDiv (dVar 4) (dVar 1)) (gIxSet (dVar 2) (dVar 3))) (sRet (dOp2 gMod (dVar 4) (dVar 1)))) sNext) (sSeq (sSet 5 (dOp2 gMod (dOp2 gAdd (dVar 4) (dOp2 gMulX (dC (.int 104729)) (dOp2 gIx (dVar 0) (dC (.int 1))))) (dC (.int 4294967291)))) (sSeq (sSet 5 (dOp2 gMod (dOp2 gPow (dVar 5) (dC (.int 5))) (dC (.int 4294967279)))) (sRet (dOp2 gMod (dOp2 gDiv (dOp2 gMod (dOp2 gAdd (dOp2 gMulX (dOp2 gDiv (dVar 5) (dC (.int 64))) (dC (.int 69621))) (dVar 5)) (dC (.int 4294967231))) (dC (.int 8))) (dVar 1))))))))))
def S__law_draw : List D → Mem → Res D := fun ds M => match decide (ds.length = 2) with
  | true => (f__law_draw (startD 6 ds) M).fin
  | false => .bad
def f__law_pick : SF := (sRet (dOp2 gIx (dVar 1) (dCall 2 0 S__law_draw (fun xs _ => xs) (dCons (dVar 0) (dCons (dOpN gLen (dCons (dVar 1) dNil)) dNil)) dNil)))
def S__law_pick : List D → Mem → Res D := fun ds M => match decide (ds.length = 2) with
  | true => (f__law_pick (startD 2 ds) M).fin
  | false => .bad
def f_look_order : SF := (sIf (tNotF (tVal (dCall 1 1 S_is_order (fun xs zs => xs ++ zs) (dCons (dVar 0) dNil) (dCons (dVar 1) dNil)))) (sRaise 8) sNext)
def S_look_order : List D → Mem → Res D := fun ds M => match decide (ds.length = 2) with
  | true => (f_look_order (startD 2 ds) M).fin
  | false => .bad
end Fl
namespace Fl
open PySem
def f__law_refusal : SF := (sSeq (sSet 1 (dLst (dCons (dOp1 (gIsi (tabX 7)) (dVar 0)) (dCons (dOp1 (gIsi (tabX 8)) (dVar 0)) (dCons (dOp1 (gIsi (tabX 9)) (dVar 0)) dNil))))) (sSeq (sSet 1 (dOp2 gAdd (dVar 1) (dLst (dCons (dOp1 (gIsi (tabX 10)) (dVar 0)) (dCons (dOp1 (gIsi (tabX 11)) (dVar 0)) (dCons (dOp1 (gIsi (tabX 12)) (dVar 0)) dNil)))))) (sSeq (sSet 1 (dOp2 gAdd (dVar 1) (dLst (dCons (dOp1 (gIsi (tabX 13)) (dVar 0)) (dCons (dOp1 (gIsi (tabX 14)) (dVar 0)) (dCons (dOp1 (gIsi (tabX 15)) (dVar 0)) dNil)))))) (sSeq (sSet 1 (dOp2 gAdd (dVar 1) (dLst (dCons (dOp1 (gIsi (tabX 16)) (dVar 0)) (dCons (dOp1 (gIsi (tabX 17)) (dVar 0)) dNil))))) (sSeq (sIf (tOrF (tVal (dOp2 gNe (dBm tyLst (onLst gCount) (dVar 1) (dCons (dC (.bl true)) dNil)) (dC (.int 1)))) (tOrF (tNotF (tVal (dOp1 (gIsi (tabX 6)) (dVar 0)))) (tNotF (tVal (dOp1 (gIsi tabVE) (dVar 0)))))) (sRet (dC (.str "odd"))) sNext) (sSeq (sSet 2 (dLst (dCons (dC (.str "number")) (dCons (dC (.str "order")) (dCons (dC (.str "houses")) (dCons (dC (.str "house")) (dCons (dC (.str "purse")) (dCons (dC (.str "letter")) (dCons (dC (.str "now")) (dCons (dC (.str "much")) (dCons (dC (.str "paper")) (dCons (dC (.str "cut")) (dCons (dC (.str "text")) dNil))))))))))))) (sRet (dOp2 gIx (dVar 2) (dBm tyLst (onLst gIndex) (dVar 1) (dCons (dC (.bl true)) dNil))))))))))
def S__law_refusal : List D → Mem → Res D := fun ds M => match decide (ds.length = 1) with
  | true => (f__law_refusal (startD 3 ds) M).fin
  | false => .bad
def f_order_text : SF := (sSeq (sDrop (dCall 1 0 S_look_order (fun xs _ => xs ++ [(.int 8)]) (dCons (dVar 0) dNil) dNil)) (sSeq (sAsg (dVar 0) (gT 4 (gsCons 1 (gsCons 2 (gsCons 3 (gsCons 4 gsNil)))))) (sRet (dJoin (jCons (dFmt (dVar 1)) (jCons (dC (.str ".")) (jCons (dFmt (dVar 2)) (jCons (dC (.str ": ")) (jCons (dFmt (dVar 4)) (jCons (dC (.str " to ")) (jCons (dFmt (dVar 3)) jNil)))))))))))
def S_order_text : List D → Mem → Res D := fun ds M => match decide (ds.length = 1) with
  | true => (f_order_text (startD 5 ds) M).fin
  | false => .bad
end Fl
namespace Fl
open PySem PySem.Spec L2 PyProof.Rows
/-! ### a list comprehension whose element may raise -/
section
variable {M : Model} {A : Around} {E : Value → Shared → Prop} {s : Shared} {Z : Obj → Prop} {base : Heap} {env : Env} {outer l : List Env} {L e : Addr}
/-- an exception that another frame noted, or that flies, is noted here -/
theorem note_other {fl : Value} {Q : Unit → Shared → Prop} (hZ : HandSPX.Steady Z) (hfr : A.frames = some (env :: outer)) (hf : env.frame = some L) (hne : (fl == rawInt L) = false)
    (hkb : base.StaysIn s.heap) (hen : base.get? e = none) (hl : s.heap.FunFrames base (env :: outer)) (ht : HandSPX.TracedZ s.heap base e Z fl)
    (hQ : ∀ h', HandSPX.HeldZ base (env :: outer) e Z L h' → s.heap.UpToSlots h' → Q () { s with heap := h' }) : wpAny M A (noteFrame (.ref e) env) Q E s := by
  obtain ⟨oe, vs, T, oT, ts, he, hz, hd, h1, hnT, hTe, hT, hdT, h3⟩ := ht
  have other : ∀ b, b ≠ T → (s.heap.update T (Obj.mapFields (·.setIfInBounds 3 Value.none))).get? b = s.heap.get? b := fun b hb => Heap.get?_update_other _ _ (Ne.symm hb)
  have rec_ : ∀ b o, s.heap.get? b = some o → (∀ vs, o.data ≠ .fields vs) → b ≠ T := fun b o hb hnf q => by
    subst q
    rw [hT] at hb; cases hb
    exact hnf ts hdT
  unfold noteFrame
  simp only [hf]
  refine wpAny_bind (wpAny_field he hd h1 ?_)
  rw [if_pos (show (Value.ref T != Value.none) = true from by simp)]
  refine wpAny_bind (wpAny_field hT hdT h3 ?_)
  rw [if_neg (by rw [hne]; exact Bool.false_ne_true)]
  refine wpAny_bind (wpAny_setField hT hdT (Array.getElem?_eq_some_iff.mp h3).1 ?_)
  refine HandSPX.wpAny_entryZ hZ hfr (hl.of_keeps fun b o hb hnf => ⟨o, (other b (rec_ b o hb hnf)).trans hb, rfl⟩) hf ((other e (Ne.symm hTe)).trans he)
    (fun b o hbo => (other b fun q => by rw [q, hnT] at hbo; cases hbo).trans (hkb b o hbo)) hen hd (Array.getElem?_eq_some_iff.mp h1).1 hz fun h' hN => ?_
  obtain ⟨x1, x2, x3, x4⟩ := hN
  exact hQ h' ⟨x1, hen, x2, x3⟩ fun b o hb hnf => x4 b o ((other b (rec_ b o hb hnf)).trans hb) hnf
/-- whatever is in the air is noted here -/
theorem note_sky {C : Addr} {Q : Unit → Shared → Prop} (hZ : HandSPX.Steady Z) (hfr : A.frames = some (env :: outer)) (hf : env.frame = some L) (hC : C ≠ L) (sky : Sky base (env :: outer) e Z C s.heap)
    (hQ : ∀ h', HandSPX.HeldZ base (env :: outer) e Z L h' → s.heap.UpToSlots h' → Q () { s with heap := h' }) : wpAny M A (noteFrame (.ref e) env) Q E s := by
  rcases sky with ⟨hB, hn, hl, oe, vs, he, hz, hd, h1⟩ | ⟨a1, a2, a3, a4⟩ | ⟨a1, a2, a3, a4⟩
  · exact HandSPX.look_newZ hZ hfr hl hf he hB hn hd h1 hz hQ
  · exact note_other hZ hfr hf (by simp [rawInt]) a1 a2 a3 a4 hQ
  · refine note_other hZ hfr hf ?_ a1 a2 a3 a4 hQ
    refine beq_eq_false_iff_ne.mpr fun z => hC ?_
    injection z with z
    exact Int.ofNat.inj z
end
theorem sky_hide {B B' : Heap} {l : List Env} {a L : Addr} {Z : Obj → Prop} {h : Heap} (k : ∀ b o, B'.get? b = some o → B.get? b = some o) (x : Sky B l a Z L h) : Sky B' l a Z L h := by
  have none_ : ∀ b, B.get? b = none → B'.get? b = none := fun b hb => by
    cases q : B'.get? b with
    | none => rfl
    | some o => rw [k b o q] at hb; cases hb
  have fun_ : ∀ {l : List Env}, h.FunFrames B l → h.FunFrames B' l := fun {l} hl => funFrames_none hl fun L hL => by
    obtain ⟨q, _⟩ := hl.mem hL
    exact none_ L q
  have tr : ∀ {fl : Value}, HandSPX.TracedZ h B a Z fl → HandSPX.TracedZ h B' a Z fl := fun ⟨oe, vs, T, oT, ts, h1, h2, h3, h4, h5, h6⟩ => ⟨oe, vs, T, oT, ts, h1, h2, h3, h4, none_ T h5, h6⟩
  rcases x with ⟨hB, hn, hl, r⟩ | ⟨a1, a2, a3, a4⟩ | ⟨a1, a2, a3, a4⟩
  · exact .inl ⟨fun b o e => hB b o (k b o e), none_ _ hn, fun_ hl, r⟩
  · exact .inr (.inl ⟨fun b o e => a1 b o (k b o e), none_ _ a2, fun_ a3, tr a4⟩)
  · exact .inr (.inr ⟨fun b o e => a1 b o (k b o e), none_ _ a2, fun_ a3, tr a4⟩)
/-- what is taken by the air of a comprehension of ours: the exception goes on in the def's own frame -/
theorem takes_comp {X : Cx} {pins : List (Addr × Obj)} {σ : L2.St} {H3 : Hp} {s3 : Shared} {W : WX} {scope : Scope} {cl : List (Str × Addr)} {fp : List Addr} {pn : List (Addr × Obj)}
    (hst : X.stack = X.env :: X.outer) (hfm : X.env.frame = some X.env.locals) (tk : Takes X W) (I3 : L2.Inv X pins σ H3 s3) (f3 : ∀ b ∈ fp, FpOk X pins H3 b ∧ b < s3.heap.objs.size) :
    Takes ((X.blk s3 H3 scope (compEnvC scope cl s3.heap.objs.size X.env) fp).tr pn (notedBy (model X.prog X.w) X.A (compEnvC scope cl s3.heap.objs.size X.env) (CompFails (model X.prog X.w) X.A X.xe (compEnvC scope cl s3.heap.objs.size X.env)))) (fun c d _ H' => W c d σ H') := by
  rintro u s' ⟨a, B, sI, pins', σ', H', cls, d, rfl, J, nb, up, sky, na, os, ag, w⟩
  obtain ⟨C, hC⟩ : ∃ C, C = s3.heap.objs.size := ⟨_, rfl⟩
  rw [← hC]
  rw [← hC] at J sky
  have sky : Sky B X.stack a (Zc cls d) C s'.heap := sky
  have nb : ∀ b o, sI.heap.get? b = some o → b ∉ frs X.stack → B.get? b = some o := nb
  have hfr : X.A.frames = some (X.env :: X.outer) := by rw [I3.ok.frames, hst]
  have frLt : ∀ b ∈ frs X.stack, b < s3.heap.objs.size := fun b hb => by
    obtain ⟨_, o, e, _⟩ := I3.stack.mem hb
    exact Heap.lt_size e
  have CL : C ≠ X.env.locals := fun z => by
    have : X.env.locals ∈ frs X.stack := by
      rw [hst]
      exact List.mem_filterMap.mpr ⟨X.env, List.mem_cons_self, hfm⟩
    have := frLt _ this
    rw [← z, hC] at this
    exact Nat.lt_irrefl _ this
  have JC : H' C = none := J.free
  obtain ⟨m, hn, _⟩ := J.loc
  have hn : sI.heap.Ns C m := hn
  obtain ⟨B', b1, b2⟩ := restrict B fun b => decide (b ≠ C)
  obtain ⟨G, g1, g2⟩ := restrict sI.heap fun b => decide (b ≠ C)
  have bk : ∀ b o, B'.get? b = some o → b ≠ C ∧ B.get? b = some o := fun b o e => by
    by_cases q : b = C
    · rw [b2 b (by simp [q])] at e; cases e
    · exact ⟨q, by rw [b1 b (by simp [q])] at e; exact e⟩
  have gk : ∀ b o, G.get? b = some o → b ≠ C ∧ sI.heap.get? b = some o := fun b o e => by
    by_cases q : b = C
    · rw [g2 b (by simp [q])] at e; cases e
    · exact ⟨q, by rw [g1 b (by simp [q])] at e; exact e⟩
  have bC : B'.get? C = none := b2 C (by simp)
  -- the def's state without the block
  have I9 : L2.Inv X pins σ H' { sI with heap := G } := by
    have Jb : Un (frs X.stack) fp H3 H' s3.heap sI.heap := J.base
    have nC : ∀ b o, s3.heap.get? b = some o → b ≠ C := fun b o e => by
      rw [hC]
      exact Nat.ne_of_lt (Heap.lt_size e)
    refine I3.call' (ch := fp) (show sI.os = s3.os from J.os) ⟨fun b o e n hb hc => ?_, fun b o e n hb hc => ?_, Jb.free, fun b o e hc => ?_, Jb.tups, Jb.frzs, Jb.tbls⟩ ?_ J.bare fun b hb => ⟨(f3 b hb).1.2.2.2.1, (f3 b hb).1.2.1, (f3 b hb).1.2.2.2.2.1, (f3 b hb).1.2.2.2.2.2⟩
    · rw [g1 b (by simpa using nC b o e)]
      exact Jb.keep b o e n hb hc
    · obtain ⟨sl, q⟩ := Jb.slot b o e n hb hc
      exact ⟨sl, by rw [g1 b (by simpa using nC b o e)]; exact q⟩
    · obtain ⟨o', q⟩ := Jb.there b o e hc
      exact ⟨o', by rw [g1 b (by simpa using nC b o e)]; exact q⟩
    · intro b o q
      refine (J.hok b o q).stay (fun c u hc r => ?_) (fun _ r => r) fun _ _ r => r
      have ne : c ≠ C := fun z => by
        rcases hc with hc | hc
        · rw [← hc, z, JC] at q; cases q
        · rw [z, JC] at hc; cases hc
      rw [g1 c (by simpa using ne)]
      exact r
  show wpAny _ _ (noteFrame (.ref a) (compEnvC scope cl C X.env)) _ _ _
  rw [noteFrame_env (cenv := compEnvC scope cl C X.env) (env := X.env) _ rfl]
  rw [hst] at sky
  refine note_sky Zc.steady hfr hfm CL (sky_hide (fun b o e => (bk b o e).2) sky) fun h1 held up1 => ?_
  have n1 : h1.Ns C m := (hn.upToSlots up).upToSlots up1
  refine ⟨m, n1, fun h2 m2 hn2 hs2 => ?_⟩
  obtain ⟨d1, d2, d3, oe, vs, T, oT, ts, he, hz, hd, e1, hnT, hTe, hT, hdT, e3⟩ := held
  obtain ⟨oL, es, ep, hoL, hdL, _⟩ := id n1
  have neE : a ≠ C := fun q => by
    rw [q] at he
    have he : h1.get? C = some oe := he
    rw [hoL] at he; cases he
    rw [hdL] at hd; cases hd
  have neT : T ≠ C := fun q => by
    rw [q] at hT
    have hT : h1.get? C = some oT := hT
    rw [hoL] at hT; cases hT
    rw [hdL] at hdT; cases hdT
  have held2 : HandSPX.HeldZ B' (X.env :: X.outer) a (Zc cls d) X.env.locals h2 := ⟨fun b o e => (hs2.2 b (bk b o e).1).trans (d1 b o e), d2, Heap.FunFrames.sameBut hs2 hn2 d3, oe, vs, T, oT, ts, (hs2.2 a neE).trans he, hz, hd, e1, hnT, hTe, (hs2.2 T neT).trans hT, hdT, e3⟩
  unfold PySem.passOn
  refine wpAny_bind (wpAny_field ((hs2.2 a neE).trans he) hd e1 ?_)
  rw [if_neg (show ¬ ((Value.ref T == Value.none) = true) from by simp)]
  show wpAny _ _ (do setFlight (.ref a) X.env.frame; throw (.ref a)) _ _ _
  rw [hfm]
  refine wpAny_bind (HandSPX.setFlight_onZ held2 fun h3 held3 up3 => wpAny_throw (tk _ _ ?_))
  refine ⟨a, B', { sI with heap := G }, pins, σ, H', cls, d, rfl, I9, fun b o e hb => ?_, fun b o e hnf => ?_, .inr (.inr (by rw [hst]; exact held3)), na, os, ag, w⟩
  · obtain ⟨q1, q2⟩ := gk b o e
    rw [b1 b (by simpa using q1)]
    exact nb b o q2 hb
  · obtain ⟨q1, q2⟩ := gk b o e
    obtain ⟨sl, r1⟩ := up b o q2 hnf
    obtain ⟨sl2, r2⟩ := up1 b _ r1 hnf
    obtain ⟨sl3, r3⟩ := up3 b _ ((hs2.2 b q1).trans r2) hnf
    exact ⟨sl3, r3⟩
theorem lc_coreX {X : Cx} {pins : List (Addr × Obj)} {s : Shared} {σ : L2.St} {H : Hp} {Q : VK} {W : WX} {elt tg iter : Expr} {ifs : List Expr} {scope : Scope} {own : List (Str × Nat)} {pos : Pos} {wi : TI} {g : TG} {tt : TT} {te : TE}
    (hst : X.stack = X.env :: X.outer) (hfm : X.env.frame = some X.env.locals) (tk : Takes X W) (hc : X.calm = true) (hN : X.N.Nodup) (I : L2.Inv X pins σ H s) (hi : PI X tg iter wi) (ok : BlkOk X.N X.env.scope scope own)
    (hg : ∀ (s : Shared) (H : Hp) (C : Addr) (cl : List (Str × Addr)) (fp : List Addr), PG (X.blk s H scope (compEnvC scope cl C X.env) fp) tg g) (ht : ∀ (s : Shared) (H : Hp) (C : Addr) (cl : List (Str × Addr)) (fp : List Addr), PTs (X.blk s H scope (compEnvC scope cl C X.env) fp) ifs tt)
    (he : ∀ (s : Shared) (H : Hp) (C : Addr) (cl : List (Str × Addr)) (fp : List Addr) (pn : List (Addr × Obj)) (xe : Value → Shared → Prop), Takes ((X.blk s H scope (compEnvC scope cl C X.env) fp).tr pn xe) (fun c d _ H' => W c d σ H') → PE ((X.blk s H scope (compEnvC scope cl C X.env) fp).tr pn xe) elt te)
    (hs : ∀ x, foldedSetIterable iter X.env x = pure x) (h : tLc wi g tt te (own.map (·.2)) σ H Q) :
    wpAny (model X.prog X.w) X.A (eval (.ListComp elt [⟨tg, iter, ifs, 0⟩] scope pos) X.env) (EP X pins σ Q) X.xe s := by
  have hfree : ∀ y ∈ scope.names, y.2 = .free → ∃ c, X.env.cells.lookup y.1 = some c := fun y hy e =>
    (ok.free y hy e).elim (fun k => I.ok.has _ (.inl k)) fun k => I.ok.has _ (.inr k)
  rw [eval_ListComp]
  refine comprehension_at (use := none) rfl hs (closure_ok hfree) ok.kind (fun y hy e => by rw [ok.uniq y hy, e]) (thn (hi.run pins s σ H _ I h) fun xv s1 hx => thn hx fun itv s2 h2 => ?_)
  obtain ⟨it, fp, tn, J, H2, rfl, I2, T, st2, f2, q⟩ := h2
  refine wpAny_newObj_type (newEnv_comp ?_) (by show 0 ≤ sizeLine; decide)
  obtain ⟨D, hD⟩ : ∃ D, D = s2.heap.objs.size := ⟨_, rfl⟩
  have hDn : H2 D = none := I2.hok.fresh (Nat.le_of_eq hD.symm)
  obtain ⟨Wt, ⟨m0, w0⟩, turn⟩ := q D hDn
  rw [← hD]
  obtain ⟨s3, e3⟩ : ∃ s3 : Shared, s3 = { s2 with heap := s2.heap.push { cls := .type "list", data := .seq ([] : List Value).toArray } } := ⟨_, rfl⟩
  have h3 : s3.heap = s2.heap.push { cls := .type "list", data := .seq ([] : List Value).toArray } := by rw [e3]
  have I3 : L2.Inv X pins σ (upd H2 D (.lst [])) s3 := by
    rw [e3]
    refine I2.laid (t' := s2.toks) (fun b o e => Heap.get?_push_of_some _ e) (Nat.le_of_eq hD.symm) ⟨Nat.zero_le _, [], 0, .nil, ?_⟩
    rw [hD]
    exact Heap.get?_push_size _ rfl
  have f3 : ∀ b ∈ fp, FpOk X pins (upd H2 D (.lst [])) b ∧ b < s3.heap.objs.size := fun b hb => by
    obtain ⟨o, e, _⟩ := T.obj _ _ st2 b hb
    have hlt := Heap.lt_size e
    exact ⟨⟨by rw [upd_ne (by rw [hD]; exact Nat.ne_of_lt hlt)]; exact (f2 b hb).1, (f2 b hb).2⟩, by rw [h3, Heap.size_push]; exact Nat.lt_succ_of_lt hlt⟩
  have st3 : tn 0 s3.heap := T.keep _ _ _ st2 fun b _ o e => by rw [h3]; exact Heap.get?_push_of_some _ e
  have I4 := block_start I3 ok hN f3
  rw [← e3]
  obtain ⟨cl, hcl⟩ : ∃ cl, cl = cellsFrom (s3.heap.objs.size + 1) scope.names (cloFrom X.env.cells scope.names []) := ⟨_, rfl⟩
  rw [← hcl] at I4
  have tkC : ∀ pn, Takes ((X.blk s3 (upd H2 D (.lst [])) scope (compEnvC scope cl s3.heap.objs.size X.env) fp).tr pn (notedBy (model X.prog X.w) X.A (compEnvC scope cl s3.heap.objs.size X.env) (CompFails (model X.prog X.w) X.A X.xe (compEnvC scope cl s3.heap.objs.size X.env)))) (fun c d _ H' => W c d σ H') :=
    fun pn => takes_comp hst hfm tk I3 f3
  have pg := hg s3 (upd H2 D (.lst [])) s3.heap.objs.size cl fp
  have pt := ht s3 (upd H2 D (.lst [])) s3.heap.objs.size cl fp
  have pe := fun pn => he s3 (upd H2 D (.lst [])) s3.heap.objs.size cl fp pn _ (tkC pn)
  rw [← hcl]
  show codeAny _ _ (.compStart (.ListComp elt [⟨tg, iter, ifs, 0⟩] scope pos) 0 (.ref it) (.ref D) (compEnvC scope cl s3.heap.objs.size X.env)) (compEnds (model X.prog X.w) X.A X.xe none (EP X pins σ Q) (.ref D) (compEnvC scope cl s3.heap.objs.size X.env)) { s3 with heap := pushCells (s3.heap.push { cls := .type "dict", data := .dict #[] }) scope.names }
  have nfp : ∀ b ∈ fp, (upd H2 D (.lst [])) b = none := fun b hb => (f3 b hb).1.1
  have cL : (compEnvC scope cl s3.heap.objs.size X.env).locals = s3.heap.objs.size := rfl
  clear tkC
  generalize hce : compEnvC scope cl s3.heap.objs.size X.env = ce at I4 pg pt pe cL ⊢
  generalize hH3 : upd H2 D (.lst []) = H3 at I3 I4 pg pt pe w0 nfp f3
  generalize hs4 : ({ s3 with heap := pushCells (s3.heap.push { cls := .type "dict", data := .dict #[] }) scope.names } : Shared) = s4 at I4 ⊢
  have st4 : tn 0 s4.heap := T.keep _ _ _ st3 fun b _ o e => by rw [← hs4]; exact pushCells_keeps _ _ _ _ (Heap.get?_push_of_some _ e)
  have stat : ∀ {σ' : L2.St} {H' : Hp} {s' : Shared}, L2.Inv (X.blk s3 H3 scope ce fp) [] σ' H' s' → (∀ b ∈ fp, H' b = none) → ∀ b ∈ fp, FpOk (X.blk s3 H3 scope ce fp) [] H' b := fun {σ' H' s'} I' hn b hb =>
    ⟨hn b hb, (I'.ok.exf b hb).1, I'.ok.exfs b hb, .inl hb, fun x c e => (I'.ok.exf b hb).2 x c e, fun p hp => absurd (show p ∈ ([] : List (Addr × Obj)) ++ [] from hp) (by simp)⟩
  have loop : codeAny (model X.prog X.w) X.A (.compLoop (.ListComp elt [⟨tg, iter, ifs, 0⟩] scope pos) 0 (.ref it) (.ref D) ce) (compEnds (model X.prog X.w) X.A X.xe none (EP X pins σ Q) (.ref D) ce) s4 := by
    refine compLoop_any (fun n s' => ∃ i H', L2.Inv (X.blk s3 H3 scope ce fp) [] (L2.wipe σ (own.map (·.2))) H' s' ∧ tn i s'.heap ∧ (∀ b ∈ fp, H' b = none) ∧ Wt i n H') ?_ m0 ⟨0, H3, I4, st4, nfp, w0⟩
    rintro n s5 ⟨i, H5, I5, st5, n5, w5⟩
    rcases turn i n H5 w5 with ⟨stop, qq⟩ | ⟨go, Nx, hNx, step⟩
    · refine thnF (T.done (X.blk s3 H3 scope ce fp) rfl rfl rfl hc i [] s5 _ H5 (fun _ _ => False) I5 (stat I5 n5) st5 stop) fun r s6 ⟨hr, I6⟩ => ?_
      subst hr
      have I7 : L2.Inv X pins σ H5 s6 := I3.call' (ch := fp) I6.os I6.base I6.hok I6.bare fun b hb => ⟨(f3 b hb).1.2.2.2.1, (f3 b hb).1.2.1, (f3 b hb).1.2.2.2.2.1, (f3 b hb).1.2.2.2.2.2⟩
      have nC : H5 s3.heap.objs.size = none := by
        have z : H5 ce.locals = none := I6.free
        rw [cL] at z
        exact z
      obtain ⟨m, hn, _⟩ := I6.loc
      obtain ⟨x0, x1, x2, x3, x4, x5⟩ := I3.fpOk (Nat.le_refl _) nC
      refine ⟨m, hn, fun h'' sb => ?_⟩
      rw [cL] at sb
      exact ⟨.ref D, H5, I7.turned (t' := s6.toks) (fun b o hb e => (sb.2 b hb).trans e) x0 x1 x3 x4 x5, rfl, qq⟩
    · refine thnF (T.item (X.blk s3 H3 scope ce fp) rfl rfl rfl hc i [] s5 _ H5 (fun _ _ => False) I5 (stat I5 n5) st5 go) fun r s6 ⟨u, hr, h6⟩ => ?_
      subst hr
      refine thnF h6 fun _ s7 ⟨x, H7, I7, r7, y7, st7, n7⟩ => ?_
      have I7' := I7.pinned (stat I7 n7) (T.obj _ _ st7)
      refine thnF (pg.run _ s7 _ H7 x u _ I7' r7 (step x H7 y7)) fun _ s8 ⟨σ8, H8, I8, hw8, q8⟩ => ?_
      refine thnF (pt.run _ s8 σ8 H8 _ I8 q8) fun b s9 ⟨H9, I9, q9⟩ => ?_
      have fin : ∀ {s' : Shared} {H' : Hp}, L2.Inv (X.blk s3 H3 scope ce fp) ([] ++ pinsAt fp s7.heap) σ8 H' s' → Nx H' → ∃ m, m < n ∧ ∃ i H', L2.Inv (X.blk s3 H3 scope ce fp) [] (L2.wipe σ (own.map (·.2))) H' s' ∧ tn i s'.heap ∧ (∀ b ∈ fp, H' b = none) ∧ Wt i m H' := fun {s' H'} I' nx => by
        obtain ⟨m', hm, w'⟩ := hNx H' nx
        have pin' : ∀ b ∈ fp, ∀ o, s7.heap.get? b = some o → s'.heap.get? b = some o ∧ H' b = none := fun b hb o e =>
          let z := I'.pin (b, o) (List.mem_append_right _ (List.mem_append_right _ (mem_pinsAt hb e)))
          ⟨z.1, z.2.1⟩
        refine ⟨m', hm, i + 1, H', (I'.unpinned (pins := [])).weak (by rw [← hw8, wipe_length]) (fun j v e => ?_), T.keep _ _ _ st7 fun b hb o e => (pin' b hb o e).1, fun b hb => ?_, w'⟩
        · rw [← hw8] at e
          exact (wipe_some e).1
        · obtain ⟨o, e, _⟩ := T.obj _ _ st7 b hb
          exact (pin' b hb o e).2
      cases b with
      | false =>
        simp only [Bool.false_eq_true, if_false] at q9 ⊢
        exact fin I9 q9
      | true =>
        simp only [if_true] at q9 ⊢
        refine wpAny_mono ((pe _).run _ s9 σ8 H9 _ (I9.toTry _) q9) (fun z s10 ⟨yv, H10, I10, r10, acc, hD10, hz10, nx⟩ => ?_) fun _ _ x => x
        exact app_ok (X := X.blk s3 H3 scope ce fp) (I10.ofTry I9.ok) hD10 hz10 r10 fun s11 I11 => fin I11 nx
  exact codeAny_compStart_list loop (T.self X.A 0 _ _ _ st4 loop)
/-- the loop; what the element raises goes on -/
def lcLX (nx : ItF) (g : GF) (tt : TF) (te : EF) (s : Sl) : Nat → Nat → Mem → Res (List D)
  | 0, _, _ => .bad
  | k + 1, i, M => match nx i M with
    | none => .bad
    | some none => .ok [] M
    | some (some d) => (g d s M).noX.bind fun s1 M1 => (tt s1 M1).noX.bind fun b M2 => match b with
      | true => (te s1 M2).bind fun y M3 => (lcLX nx g tt te s k (i + 1) M3).bind fun ys M4 => .ok (y :: ys) M4
      | false => lcLX nx g tt te s k (i + 1) M2
def dLcX (fi : IF) (g : GF) (tt : TF) (te : EF) (is : List Nat) : EF := fun s M => (fi s M).bind fun nx M1 => match decide (nx.2 ≤ sizeLine) with
  | true => (lcLX nx.1 g tt te (wipeD s is) nx.2 0 M1).bind fun ys M2 => .ok (.ref M2.length) (M2 ++ [.lst ys])
  | false => .bad
section
variable {X : Cx} {L : Lay} {W : WX}
theorem x_bind {K : PySem.W.Frag} {A B C B' : Type} {R : List Addr → Hp → A → B → Prop} {R' : List Addr → Hp → C → B' → Prop} {r : Res A} {g : A → Mem → Res C} {α α0 : List Addr} {H H0 : Hp} {Q : B' → Hp → Prop} {w : W3} (l : Le α0 H0 α H) (h : PostR K L R' (r.bind g) α0 H0 Q w) :
    PostR K L R r α H (Then K L R α H fun a M1 _ _ => PostR K L R' (g a M1) α0 H0 Q w) w := by
  cases r with
  | ok a M => exact fun α1 H1 b l r1 rr => ⟨a, α1, M, l, r1, rr, h⟩
  | exc c f M => exact fun α1 H1 cls d l1 r1 x => h α1 H1 cls d (l.trans l1) r1 x
  | bad => exact False.elim h
theorem lc_goX {K : PySem.W.Frag} {fi : IF} {g : GF} {tt : TF} {te : EF} {is : List Nat} {σ : L2.St} {H : Hp} {Q : VK} (h : LE K L W (dLcX fi g tt te is) σ H Q) : tLc (LI K L W fi) (LG K L W0 is g) (LT K L W0 tt) (LE K L (fun c d _ H' => W c d σ H') te) is σ H Q := by
  obtain ⟨α, M, s, r, sl, h⟩ := h
  refine ⟨α, M, s, r, sl, (PostR.bind (R := RIt _ _) h).imp fun J H1 ⟨nx, α1, M1, l1, r1, it, h1⟩ D hD => ?_⟩
  dsimp only at h1
  split at h1
  · rename_i hz
    have hz := dt hz
    have sl1 := (sl.le l1).wipe is
    have nd : D ∉ α1 := fun hm => by
      obtain ⟨u, hu, _⟩ := r1.mem hm
      rw [hD] at hu; cases hu
    -- what holds between two turns
    refine ⟨fun i m H => ∃ α M acc accV, i + m = nx.2 ∧ acc.length ≤ i ∧ Le α1 H1 α H ∧ Rel K L α M H ∧ H D = some (.lst accV) ∧ D ∉ α ∧ Reps K α H acc accV ∧
      PostR K L (Rep K) ((lcLX nx.1 g tt te (wipeD s is) m i M).bind fun ys M2 => .ok (.ref M2.length) (M2 ++ [.lst (acc ++ ys)])) α1 H1 Q (fun c d H' => W c d σ H'), ⟨nx.2, ?_⟩, ?_⟩
    · have rT : Rel K L α1 M1 (upd H1 D (.lst [])) := ⟨r1.len, r1.nd, fun i x a e1 e2 => by
        obtain ⟨u, hu, _⟩ := (r1.ob i x a e1 e2).ours
        refine (r1.ob i x a e1 e2).stayW ⟨⟨[], by simp⟩, fun a ys e => by rw [upd_ne (ne_of_none e hD)]; exact e, fun a q ys e => by rw [upd_ne (ne_of_none e hD)]; exact e⟩ (by rw [upd_ne (ne_of_none hu hD)]) (fun dd fs _ e => by rw [upd_ne (ne_of_none e hD)]; exact e) fun _ _ z => z⟩
      exact ⟨α1, M1, [], [], by omega, Nat.le_refl _, out_le (Le.refl _ _) hD nd, rT, upd_same, nd, reps_nil, h1⟩
    · rintro i m H ⟨α, M, acc, accV, hn, hl, le, r, hH, ndα, hacc, hp⟩
      cases m with
      | zero => exact hp.elim
      | succ k =>
        have q := it i α H M le.lx r
        unfold lcLX at hp
        cases e : nx.1 i M with
        | none => rw [e] at hp; exact hp.elim
        | some o =>
          rw [e] at hp q
          cases o with
          | none =>
            refine .inl ⟨q, ?_⟩
            have hp' : PostR K L (Rep K) (.ok (.ref M.length) (M ++ [.lst (acc ++ [])])) α1 H1 Q (fun c d H' => W c d σ H') := hp
            rw [List.append_nil] at hp'
            obtain ⟨β, eβ, fβ⟩ := le.ext
            have le2 : Le α1 H1 (α ++ [D]) H := ⟨⟨β ++ [D], by rw [eβ, List.append_assoc], fun b hb => by
              rcases List.mem_append.mp hb with z | z
              · exact fβ b z
              · rw [List.mem_singleton.mp z]; exact hD⟩, le.keep, le.dom, le.tups, le.rols⟩
            exact hp' _ H _ le2 (out_in r hH ndα hacc) (rep_ref (by rw [← r.len]; simp))
          | some d =>
            obtain ⟨q1, q2⟩ := q
            refine .inr ⟨q1, fun H => ∃ α M acc accV, (i + 1) + k = nx.2 ∧ acc.length ≤ i + 1 ∧ Le α1 H1 α H ∧ Rel K L α M H ∧ H D = some (.lst accV) ∧ D ∉ α ∧ Reps K α H acc accV ∧
              PostR K L (Rep K) ((lcLX nx.1 g tt te (wipeD s is) k (i + 1) M).bind fun ys M2 => .ok (.ref M2.length) (M2 ++ [.lst (acc ++ ys)])) α1 H1 Q (fun c d H' => W c d σ H'), fun H' z => ⟨k, Nat.lt_succ_self _, z⟩, fun x H2 y => ?_⟩
            obtain ⟨lx, r2, rd⟩ := q2 x H2 y
            have le2 := le.trans lx
            -- D under a step of ours
            have keepD : ∀ {α α' : List Addr} {H H' : Hp} {M' : Mem}, Le α H α' H' → Rel K L α' M' H' → H D = some (.lst accV) → D ∉ α → H' D = some (.lst accV) ∧ D ∉ α' := fun {α α' H H' M'} l r' e n => by
              refine ⟨l.keep _ _ e n, fun hm => ?_⟩
              obtain ⟨β, eβ, fβ⟩ := l.ext
              rw [eβ] at hm
              rcases List.mem_append.mp hm with z | z
              · exact n z
              · rw [fβ D z] at e; cases e
            obtain ⟨hH2, nd2⟩ := keepD lx r2 hH ndα
            dsimp only at hp
            rw [bind_bind] at hp
            refine ⟨α, M, wipeD s is, d, r2, sl1.le le2, rd, (nox_bind (R := RSl K is (L2.wipe σ is)) hp _).imp fun σ2 H3 ⟨s1, α3, M3, l3, r3, ⟨q3, q4⟩, h3⟩ _ => ⟨q4.wipe, ?_⟩⟩
            obtain ⟨hH3, nd3⟩ := keepD l3 r3 hH2 nd2
            have le3 := le2.trans l3
            dsimp only at h3
            rw [bind_bind] at h3
            refine ⟨α3, M3, s1, r3, q3, (nox_bind (R := RB) h3 _).imp fun b H4 ⟨b', α4, M4, l4, r4, eb, h4⟩ => ?_⟩
            obtain ⟨hH4, nd4⟩ := keepD l4 r4 hH3 nd3
            have le4 := le3.trans l4
            subst eb
            dsimp only at h4
            cases b' with
            | false => exact iteF ⟨α4, M4, acc, accV, by omega, by omega, le4, r4, hH4, nd4, ((hacc.le lx).le l3).le l4, h4⟩
            | true =>
              refine iteT ?_
              dsimp only at h4
              rw [bind_bind] at h4
              refine ⟨α4, M4, s1, r4, q3.le l4, (x_bind (R := Rep K) le4 h4).imp fun y H5 ⟨dy, α5, M5, l5, r5, ry, h5⟩ => ?_⟩
              obtain ⟨hH5, nd5⟩ := keepD l5 r5 hH4 nd4
              have le5 := le4.trans l5
              have hacc5 := (((hacc.le lx).le l3).le l4).le l5
              refine ⟨accV, hH5, ?_, α5, M5, acc ++ [dy], accV ++ [y], by omega, by rw [List.length_append, List.length_singleton]; omega, out_le le5 hD nd5, out_rel r5 hH5 nd5, upd_same, nd5, (hacc5.append (reps_cons ry reps_nil)).lw (out_lw hH5), ?_⟩
              · rw [← hacc5.length]; omega
              · dsimp only at h5
                rw [bind_bind] at h5
                have ea : ∀ ys : List Fl.D, acc ++ [dy] ++ ys = acc ++ (dy :: ys) := fun ys => by simp
                simp only [ea]
                exact h5
  · exact h1.elim
theorem fe_lcX {elt tg iter : Expr} {ifs : List Expr} {scope : Scope} {own : List (Str × Nat)} {pos : Pos} {fi : IF} {g : GF} {tt : TF} {te : EF} {is : List Nat} (hst : X.stack = X.env :: X.outer) (hfm : X.env.frame = some X.env.locals) (tk : Takes X W) (hc : X.calm = true) (hN : X.N.Nodup) (hi : FI X L W tg iter fi) (ok : BlkOk X.N X.env.scope scope own) (ei : own.map (·.2) = is)
    (hg : ∀ (s : Shared) (H : Hp) (C : Addr) (cl : List (Str × Addr)) (fp : List Addr), FG (X.blk s H scope (compEnvC scope cl C X.env) fp) L W0 is tg g) (ht : ∀ (s : Shared) (H : Hp) (C : Addr) (cl : List (Str × Addr)) (fp : List Addr), FTs (X.blk s H scope (compEnvC scope cl C X.env) fp) L W0 ifs tt)
    (he : ∀ (W' : WX) (s : Shared) (H : Hp) (C : Addr) (cl : List (Str × Addr)) (fp : List Addr) (pn : List (Addr × Obj)) (xe : Value → Shared → Prop), Takes ((X.blk s H scope (compEnvC scope cl C X.env) fp).tr pn xe) W' → FE ((X.blk s H scope (compEnvC scope cl C X.env) fp).tr pn xe) L W' elt te) (hs : ∀ x, foldedSetIterable iter X.env x = pure x := by intro _; rfl) :
    FE X L W (.ListComp elt [⟨tg, iter, ifs, 0⟩] scope pos) (dLcX fi g tt te is) := by
  subst ei
  exact ⟨fun pins s σ H Q I h => lc_coreX hst hfm tk hc hN I hi ok hg ht (fun s H C cl fp pn xe t => he _ s H C cl fp pn xe t) hs (lc_goX h)⟩
end
end Fl
namespace Fl
open PySem PySem.Spec L2
/-! ### texts: split, join, int, str, signs -/
section
variable {K : PySem.W.Frag} {α : List Addr} {H : Hp}
theorem reps_str : ∀ {ys : List Str}, Reps K α H (ys.map D.str) (ys.map V.str)
  | [] => reps_nil
  | _ :: _ => reps_cons rep_str reps_str
theorem Reps.strs : ∀ {ys : List Str} {vs : List V}, Reps K α H (ys.map D.str) vs → vs = ys.map V.str
  | [], _, h => by rw [List.map_nil] at h; unfold Reps at h; exact h
  | y :: ys, vs, h => by
    rw [List.map_cons] at h
    unfold Reps at h
    obtain ⟨x, xs, rfl, h1, h2⟩ := h
    rw [h1.str, Reps.strs h2]; rfl
end
def strsOf : List D → Option (List Str)
  | [] => some []
  | .str s :: r => (match strsOf r with
    | some ys => some (s :: ys)
    | none => none)
  | _ :: _ => none
theorem strsOf_map : ∀ {ds : List D} {ys : List Str}, strsOf ds = some ys → ds = ys.map D.str
  | [], ys, h => by cases h; rfl
  | .str s :: r, ys, h => by
    unfold strsOf at h
    cases e2 : strsOf r with
    | none => rw [e2] at h; cases h
    | some zs =>
      rw [e2] at h; cases h
      rw [strsOf_map e2]; rfl
  | .non :: _, _, h => by simp [strsOf] at h
  | .bl _ :: _, _, h => by simp [strsOf] at h
  | .int _ :: _, _, h => by simp [strsOf] at h
  | .tup _ :: _, _, h => by simp [strsOf] at h
  | .rol _ :: _, _, h => by simp [strsOf] at h
  | .ref _ :: _, _, h => by simp [strsOf] at h
theorem strsOf_str : ∀ ys : List Str, strsOf (ys.map D.str) = some ys
  | [] => rfl
  | y :: ys => by rw [List.map_cons]; unfold strsOf; rw [strsOf_str ys]
def gSplit : D → List D → Mem → Res D := fun d as M => match d, as with
  | .str a, [.str b] => (match decide ((b.length == 0) = false ∧ a.length + 2 ≤ sizeLine) with
    | true => .ok (.ref M.length) (M ++ [.lst ((Txt.split a b).map D.str)])
    | false => .bad)
  | _, _ => .bad
def gJoin : D → List D → Mem → Res D := fun d as M => match d, as with
  | .str a, [.ref n] => (match listAt M n with
    | some ds => (match strsOf ds with
      | some ys => (match decide ((ys.map (·.length)).sum + ys.length * a.length ≤ 16777216) with
        | true => .ok (.str (Txt.join a ys)) M
        | false => .bad)
      | none => .bad)
    | none => .bad)
  | _, _ => .bad
def gIntS : List D → Mem → Res D
  | [.str a], M => (match decide (a.length ≤ 640), intText? a with
    | true, some n => .ok (.int n) M
    | _, _ => .bad)
  | _, _ => .bad
def gStrI : List D → Mem → Res D
  | [.int i], M => (match decide (i.natAbs.log2 < 1920) with
    | true => .ok (.str (toString i)) M
    | false => .bad)
  | _, _ => .bad
/-- over the signs of a text -/
def nxS (x : Str) : ItF := fun i _ => match x.cps[i]? with
  | some c => some (some (.str ⟨#[c]⟩))
  | none => some none
def iStrF (f : EF) : IF := fun s M => (f s M).bind fun d M1 => match d with
  | .str x => .ok (nxS x, x.cps.size + 1) M1
  | _ => .bad
/-- a sign in a text -/
def gInS : D → D → Mem → Res D := fun x y M => match x, y with
  | .str ⟨⟨[c]⟩⟩, .str z => .ok (.bl (decide (c ∈ z.cps.toList))) M
  | _, _ => .bad
section
variable {X : Cx} {L : Lay} {W : WX} {tg e : Expr} {f : EF}
theorem m_split : MtF X L "str.split" gSplit := fun w => mt_case fun x xs H Q ⟨α, M, d, ds, r, rx, rs, h⟩ => by
  unfold gSplit at h
  split at h
  · rename_i a b
    split at h
    · rename_i c
      obtain ⟨y, rfl, ry⟩ := rs.one
      exact ⟨_, mt_split, a, b, rx.str, by rw [ry.str], (dt c).1, (dt c).2, fun p hp => h _ _ _ (Le.new hp) (r.new (o := .lst _) hp ⟨_, upd_same, reps_str⟩) (rep_ref (by rw [← r.len]; simp))⟩
    · exact h.elim
  · exact h.elim
theorem m_join : MtF X L "str.join" gJoin := fun w => mt_case fun x xs H Q ⟨α, M, d, ds, r, rx, rs, h⟩ => by
  unfold gJoin at h
  split at h
  · rename_i a n
    split at h
    · rename_i es e1
      split at h
      · rename_i ys e2
        split at h
        · rename_i c
          obtain ⟨y, rfl, ry⟩ := rs.one
          obtain ⟨b, hb, rfl⟩ := ry.ref
          obtain ⟨b', vs, hb', hv, hr⟩ := r.list e1
          rw [hb] at hb'; cases hb'
          rw [strsOf_map e2] at hr
          exact ⟨_, mt_join, a, b, ys, rx.str, rfl, .inl (by rw [← hr.strs]; exact .of hv), dt c, PostR.pure h r rep_str⟩
        · exact h.elim
      · exact h.elim
    · exact h.elim
  · exact h.elim
theorem c_intS : CallF X L (.type "int") gIntS := fun w => call_case fun xs H Q ⟨α, M, ds, r, rx, h⟩ => by
  unfold gIntS at h
  split at h
  · split at h
    · rename_i c e1
      obtain ⟨x, rfl, r1⟩ := rx.one
      exact ⟨_, call_int_str, _, _, congrArg (fun z => [z]) r1.str, e1, dt c, PostR.pure h r rep_int⟩
    · exact h.elim
  · exact h.elim
theorem c_strI : CallF X L (.type "str") gStrI := fun w => call_case fun xs H Q ⟨α, M, ds, r, rx, h⟩ => by
  unfold gStrI at h
  split at h
  · split at h
    · rename_i c
      obtain ⟨x, rfl, r1⟩ := rx.one
      exact ⟨_, call_str_int, _, congrArg (fun z => [z]) r1.int, dt c, PostR.pure h r rep_str⟩
    · exact h.elim
  · exact h.elim
theorem fi_str (he : FE X L W e f) : FI X L W tg e (iStrF f) := piImp (pi_str he) fun σ H R ⟨α, M, s, r, sl, h⟩ => ⟨α, M, s, r, sl, (PostR.bind (R := Rep _) h).imp fun x H1 ⟨dx, α1, M1, l1, r1, rd, h1⟩ => by
  dsimp only at h1
  split at h1
  · rename_i z
    refine ⟨z, rd.str, PostR.pure (R := RIt _ _) h1 r1 fun i α' H' M' l' r' => ?_⟩
    show ItAt X.K L α' H' M' (Its z) i (nxS z i M')
    unfold nxS
    cases e1 : z.cps[i]? with
    | none => exact Array.getElem?_eq_none_iff.mp e1
    | some c =>
      refine ⟨(Array.getElem?_eq_some_iff.mp e1).1, fun x H2 y => ?_⟩
      obtain ⟨rfl, c', e2, rfl⟩ := y
      rw [e1] at e2; cases e2
      exact ⟨Le.refl _ _, r', rep_str⟩
  · exact h1.elim⟩
theorem op_inS : Op2 X L (compareOp .In) gInS := fun w => op_case fun x y H Q ⟨α, M, d, d2, r, rx, ry, h⟩ => by
  unfold gInS at h
  split at h
  · rename_i c z
    exact ⟨_, op_in_sign, c, z, rx.str, ry.str, PostR.pure h r rep_bl⟩
  · exact h.elim
end
end Fl
namespace Fl
open PySem
def f_number_in : SF := (sSeq (sSet 1 (dAnd (dChain gLe gLe (dC (.int 1)) (dOpN gLen (dCons (dVar 0) dNil)) (dC (.int 4))) (dOpN gAll (dCons (dLc (iStrF (dVar 0)) (gN 2) tYesF (dOp2 gInS (dVar 2) (dC (.str "0123456789"))) [2]) dNil)))) (sSeq (sIf (tOrF (tNotF (tVal (dVar 1))) (tAndF (tVal (dOp2 gGt (dOpN gLen (dCons (dVar 0) dNil)) (dC (.int 1)))) (tVal (dOp2 gEq (dOp2 gIx (dVar 0) (dC (.int 0))) (dC (.str "0")))))) (sRaise 17) sNext) (sRet (dOpN gIntS (dCons (dVar 0) dNil)))))
def S_number_in : List D → Mem → Res D := fun ds M => match decide (ds.length = 1) with
  | true => (f_number_in (startD 3 ds) M).fin
  | false => .bad
def f_order_read : SF := (sSeq (sIf (tNotF (tVal (dOp1 (gIsi tabStr) (dVar 0)))) (sRaise 17) sNext) (sSeq (sSet 1 (dBm tyStr gSplit (dVar 0) (dCons (dC (.str ": ")) dNil))) (sSeq (sIf (tVal (dOp2 gNe (dOpN gLen (dCons (dVar 1) dNil)) (dC (.int 2)))) (sRaise 17) sNext) (sSeq (sSet 2 (dBm tyStr gSplit (dOp2 gIx (dVar 1) (dC (.int 0))) (dCons (dC (.str ".")) dNil))) (sSeq (sSet 3 (dBm tyStr gSplit (dOp2 gIx (dVar 1) (dC (.int 1))) (dCons (dC (.str " to ")) dNil))) (sSeq (sIf (tOrF (tVal (dOp2 gNe (dOpN gLen (dCons (dVar 2) dNil)) (dC (.int 2)))) (tVal (dOp2 gNe (dOpN gLen (dCons (dVar 3) dNil)) (dC (.int 2))))) (sRaise 17) sNext) (sSeq (sSet 4 (dTup (dCons (dCall 1 0 S_number_in (fun xs _ => xs) (dCons (dOp2 gIx (dVar 2) (dC (.int 0))) dNil) dNil) (dCons (dCall 1 0 S_number_in (fun xs _ => xs) (dCons (dOp2 gIx (dVar 2) (dC (.int 1))) dNil) dNil) (dCons (dCall 1 0 S_number_in (fun xs _ => xs) (dCons (dOp2 gIx (dVar 3) (dC (.int 1))) dNil) dNil) (dCons (dCall 1 0 S_number_in (fun xs _ => xs) (dCons (dOp2 gIx (dVar 3) (dC (.int 0))) dNil) dNil) dNil)))))) (sSeq (sIf (tNotF (tVal (dCall 1 0 S_is_order (fun xs _ => xs ++ [(.int 8)]) (dCons (dVar 4) dNil) dNil))) (sRaise 17) sNext) (sRet (dVar 4))))))))))
def S_order_read : List D → Mem → Res D := fun ds M => match decide (ds.length = 1) with
  | true => (f_order_read (startD 5 ds) M).fin
  | false => .bad
def f_paper_read : SF := (sSeq (sIf (tNotF (tVal (dOp1 (gIsi tabStr) (dVar 0)))) (sRaise 17) sNext) (sSeq (sSet 1 (dBm tyStr gSplit (dVar 0) (dCons (dC (.str " by ")) dNil))) (sSeq (sIf (tVal (dOp2 gNe (dOpN gLen (dCons (dVar 1) dNil)) (dC (.int 2)))) (sRaise 17) sNext) (sSeq (sSet 2 (dIfE (tVal (dOp2 gNe (dOp2 gIx (dVar 1) (dC (.int 1))) (dC (.str "")))) (dOpN gTuple (dCons (dLcX (iSeq (dBm tyStr gSplit (dOp2 gIx (dVar 1) (dC (.int 1))) (dCons (dC (.str " ")) dNil))) (gN 4) tYesF (dCall 1 0 S_number_in (fun xs _ => xs) (dCons (dVar 4) dNil) dNil) [4]) dNil)) (dTup dNil))) (sSeq (sIf (tVal (dOpN gAny (dCons (dLc (iSeq (dVar 2)) (gN 3) tYesF (dOp2 gGt (dVar 3) (dC (.int 15))) [3]) dNil))) (sRaise 17) sNext) (sRet (dTup (dCons (dCall 1 0 S_order_read (fun xs _ => xs) (dCons (dOp2 gIx (dVar 1) (dC (.int 0))) dNil) dNil) (dCons (dVar 2) dNil)))))))))
def S_paper_read : List D → Mem → Res D := fun ds M => match decide (ds.length = 1) with
  | true => (f_paper_read (startD 5 ds) M).fin
  | false => .bad
def f__law_read : SF := (sSeq (sSet 2 (dC .non)) (sSeq (sSet 3 (dC .non)) (sSeq (sTry (sSet 3 (dIfE (tVal (dOp2 gEq (dVar 0) (dC (.int 0)))) (dCall 1 0 S_order_read (fun xs _ => xs) (dCons (dVar 1) dNil) dNil) (dCall 1 0 S_paper_read (fun xs _ => xs) (dCons (dVar 1) dNil) dNil))) [(tabC 6, 4, (sSet 2 (dVar 4)))]) (sRet (dIfE (tVal (dOp2 gIs (dVar 2) (dC .non))) (dVar 3) (dCall 1 0 S__law_refusal (fun xs _ => xs) (dCons (dVar 2) dNil) dNil))))))
def S__law_read : List D → Mem → Res D := fun ds M => match decide (ds.length = 2) with
  | true => (f__law_read (startD 5 ds) M).fin
  | false => .bad
def f_paper_text : SF := (sSeq (sSet 1 (dAnd (dOp1 (gIsi tabTup) (dVar 0)) (dAnd (dOp2 gEq (dOpN gLen (dCons (dVar 0) dNil)) (dC (.int 2))) (dAnd (dCall 1 0 S_is_order (fun xs _ => xs ++ [(.int 8)]) (dCons (dOp2 gIx (dVar 0) (dC (.int 0))) dNil) dNil) (dOp1 (gIsi tabTup) (dOp2 gIx (dVar 0) (dC (.int 1)))))))) (sSeq (sIf (tOrF (tNotF (tVal (dVar 1))) (tNotF (tVal (dOpN gAll (dCons (dLc (iSeq (dOp2 gIx (dVar 0) (dC (.int 1)))) (gN 2) tYesF (dAnd (dOp1 (gIsi tabInt) (dVar 2)) (dAnd (dNot (dOp1 (gIsi tabBool) (dVar 2))) (dChain gLe gLe (dC (.int 0)) (dVar 2) (dC (.int 15))))) [2]) dNil))))) (sRaise 15) sNext) (sRet (dOp2 gAdd (dOp2 gAdd (dCall 1 0 S_order_text (fun xs _ => xs) (dCons (dOp2 gIx (dVar 0) (dC (.int 0))) dNil) dNil) (dC (.str " by "))) (dBm tyStr gJoin (dC (.str " ")) (dCons (dLc (iSeq (dOp2 gIx (dVar 0) (dC (.int 1)))) (gN 2) tYesF (dOpN gStrI (dCons (dVar 2) dNil)) [2]) dNil))))))
def S_paper_text : List D → Mem → Res D := fun ds M => match decide (ds.length = 1) with
  | true => (f_paper_text (startD 3 ds) M).fin
  | false => .bad
def f__law_written : SF := (sSeq (sSet 2 (dC .non)) (sSeq (sSet 3 (dC .non)) (sSeq (sTry (sSet 3 (dIfE (tVal (dOp2 gEq (dVar 0) (dC (.int 0)))) (dCall 1 0 S_order_text (fun xs _ => xs) (dCons (dVar 1) dNil) dNil) (dCall 1 0 S_paper_text (fun xs _ => xs) (dCons (dVar 1) dNil) dNil))) [(tabC 6, 4, (sSet 2 (dVar 4)))]) (sRet (dIfE (tVal (dOp2 gIs (dVar 2) (dC .non))) (dVar 3) (dCall 1 0 S__law_refusal (fun xs _ => xs) (dCons (dVar 2) dNil) dNil))))))
def S__law_written : List D → Mem → Res D := fun ds M => match decide (ds.length = 2) with
  | true => (f__law_written (startD 5 ds) M).fin
  | false => .bad
def f_law : SF := (sSeq (sSet 1 (dCall 1 0 S__law_town (fun xs _ => xs) (dCons (dVar 0) dNil) dNil)) (sSeq (sSet 2 (dCall 2 0 S__law_draw (fun xs _ => xs) (dCons (dVar 1) (dCons (dC (.int 8)) dNil)) dNil)) (sSeq (sSet 3 (dTup (dCons (dVar 2) (dCons (dCall 2 0 S__law_pick (fun xs _ => xs) (dCons (dVar 1) (dCons (dLst (dCons (dC (.int 0)) (dCons (dC (.int 9)) (dCons (dC (.int 99)) (dCons (dCall 2 0 S__law_draw (fun xs _ => xs) (dCons (dVar 1) (dCons (dC (.int 100)) dNil)) dNil) dNil))))) dNil)) dNil) (dCons (dOp2 gMod (dOp2 gAdd (dVar 2) (dC (.int 1))) (dC (.int 8))) (dCons (dCall 2 0 S__law_pick (fun xs _ => xs) (dCons (dVar 1) (dCons (dLst (dCons (dC (.int 1)) (dCons (dC (.int 1000)) (dCons (dOp2 gAdd (dC (.int 1)) (dCall 2 0 S__law_draw (fun xs _ => xs) (dCons (dVar 1) (dCons (dC (.int 999)) dNil)) dNil)) dNil)))) dNil)) dNil) dNil)))))) (sSeq (sSet 4 (dOp2 gAdd (dOp2 gAdd (dOp2 gAdd (dOp2 gAdd (dOp2 gAdd (dOp2 gAdd (dOpN gStrI (dCons (dOp2 gIx (dVar 3) (dC (.int 0))) dNil)) (dC (.str "."))) (dOpN gStrI (dCons (dOp2 gIx (dVar 3) (dC (.int 1))) dNil))) (dC (.str ": "))) (dOpN gStrI (dCons (dOp2 gIx (dVar 3) (dC (.int 3))) dNil))) (dC (.str " to "))) (dOpN gStrI (dCons (dOp2 gIx (dVar 3) (dC (.int 2))) dNil)))) (sSeq (sSet 5 (dOpN gTuple (dCons (dLc (iRng1 (dCons (dC (.int 16)) dNil)) (gN 12) (tVal (dOp2 gEq (dCall 2 0 S__law_draw (fun xs _ => xs) (dCons (dVar 1) (dCons (dC (.int 2)) dNil)) dNil) (dC (.int 0)))) (dVar 12) [12]) dNil))) (sSeq (sSet 6 (dOp2 gAdd (dOp2 gAdd (dVar 4) (dC (.str " by "))) (dBm tyStr gJoin (dC (.str " ")) (dCons (dLc (iSeq (dVar 5)) (gN 13) tYesF (dOpN gStrI (dCons (dVar 13) dNil)) [13]) dNil)))) (sSeq (sIf (tOrF (tVal (dOp2 gNe (dCall 1 0 S_order_text (fun xs _ => xs) (dCons (dVar 3) dNil) dNil) (dVar 4))) (tVal (dOp2 gNe (dCall 1 0 S_paper_text (fun xs _ => xs) (dCons (dTup (dCons (dVar 3) (dCons (dVar 5) dNil))) dNil) dNil) (dVar 6)))) (sRet (dC (.bl false))) sNext) (sSeq (sIf (tOrF (tVal (dOp2 gNe (dCall 1 0 S_order_read (fun xs _ => xs) (dCons (dVar 4) dNil) dNil) (dVar 3))) (tVal (dOp2 gNe (dCall 1 0 S_paper_read (fun xs _ => xs) (dCons (dVar 6) dNil) dNil) (dTup (dCons (dVar 3) (dCons (dVar 5) dNil)))))) (sRet (dC (.bl false))) sNext) (sSeq (sSet 7 (dCall 2 0 S__law_draw (fun xs _ => xs) (dCons (dVar 1) (dCons (dOp2 gAdd (dOpN gLen (dCons (dVar 6) dNil)) (dC (.int 1))) dNil)) dNil)) (sSeq (sSet 8 (dCall 2 0 S__law_pick (fun xs _ => xs) (dCons (dVar 1) (dCons (dLst (dCons (dC (.str "0")) (dCons (dC (.str " ")) (dCons (dC (.str ".")) (dCons (dC (.str "x")) (dCons (dC (.str ": ")) (dCons (dC (.str " to ")) (dCons (dC (.str "1")) (dCons (dC (.str "-")) dNil))))))))) dNil)) dNil)) (sSeq (sFor (iSeq (dLst (dCons (dOp2 gAdd (dOp2 gAdd (dSl (dVar 6) oNone (oSome (dVar 7))) (dVar 8)) (dSl (dVar 6) (oSome (dVar 7)) oNone)) (dCons (dOp2 gAdd (dSl (dVar 6) oNone (oSome (dVar 7))) (dSl (dVar 6) (oSome (dOp2 gAdd (dVar 7) (dC (.int 1)))) oNone)) (dCons (dVar 4) (dCons (dC (.str "")) (dCons (dOp2 gAdd (dVar 6) (dC (.str " "))) (dCons (dOp2 gAdd (dVar 4) (dC (.str " by 16"))) (dCons (dOp2 gAdd (dVar 4) (dC (.str " by 01"))) dNil))))))))) (gN 9) (sSeq (sSet 10 (dCall 2 0 S__law_read (fun xs _ => xs) (dCons (dC (.int 1)) (dCons (dVar 9) dNil)) dNil)) (sSeq (sIf (tAndF (tVal (dOp2 gNe (dVar 10) (dC (.str "text")))) (tOrF (tNotF (tVal (dOp1 (gIsi tabTup) (dVar 10)))) (tVal (dOp2 gNe (dCall 2 0 S__law_written (fun xs _ => xs) (dCons (dC (.int 1)) (dCons (dVar 10) dNil)) dNil) (dVar 9))))) (sRet (dC (.bl false))) sNext) (sSeq (sSet 10 (dCall 2 0 S__law_read (fun xs _ => xs) (dCons (dC (.int 0)) (dCons (dVar 9) dNil)) dNil)) (sIf (tAndF (tVal (dOp2 gNe (dVar 10) (dC (.str "text")))) (tOrF (tNotF (tVal (dOp1 (gIsi tabTup) (dVar 10)))) (tVal (dOp2 gNe (dCall 2 0 S__law_written (fun xs _ => xs) (dCons (dC (.int 0)) (dCons (dVar 10) dNil)) dNil) (dVar 9))))) (sRet (dC (.bl false))) sNext))))) (sSeq (sFor (iSeq (dLst (dCons (dC .non) (dCons (dC (.int 5)) (dCons (dLst (dCons (dVar 4) dNil)) (dCons (dC (.bl true)) dNil)))))) (gN 11) (sIf (tOrF (tVal (dOp2 gNe (dCall 2 0 S__law_read (fun xs _ => xs) (dCons (dC (.int 0)) (dCons (dVar 11) dNil)) dNil) (dC (.str "text")))) (tVal (dOp2 gNe (dCall 2 0 S__law_read (fun xs _ => xs) (dCons (dC (.int 1)) (dCons (dVar 11) dNil)) dNil) (dC (.str "text"))))) (sRet (dC (.bl false))) sNext)) (sSeq (sFor (iSeq (dLst (dCons (dC .non) (dCons (dC (.int 5)) (dCons (dTup (dCons (dVar 3) dNil)) (dCons (dLst (dCons (dVar 3) (dCons (dVar 5) dNil))) (dCons (dTup (dCons (dVar 3) (dCons (dLst (dCons (dC (.int 1)) dNil)) dNil))) (dCons (dTup (dCons (dVar 3) (dCons (dTup (dCons (dC (.int 16)) dNil)) dNil))) (dCons (dTup (dCons (dVar 3) (dCons (dTup (dCons (dC (.bl true)) dNil)) dNil))) (dCons (dTup (dCons (dVar 3) (dCons (dTup (dCons (dOp2 gSub (dC (.int 0)) (dC (.int 1))) dNil)) dNil))) (dCons (dTup (dCons (dTup (dCons (dC (.int 0)) (dCons (dC (.int 0)) (dCons (dC (.int 0)) (dCons (dC (.int 1)) dNil))))) (dCons (dTup dNil) dNil))) dNil))))))))))) (gN 11) (sIf (tVal (dOp2 gNe (dCall 2 0 S__law_written (fun xs _ => xs) (dCons (dC (.int 1)) (dCons (dVar 11) dNil)) dNil) (dC (.str "paper")))) (sRet (dC (.bl false))) sNext)) (sRet (dAnd (dOp2 gEq (dCall 2 0 S__law_read (fun xs _ => xs) (dCons (dC (.int 0)) (dCons (dC (.str "0.0: 5 to 0")) dNil)) dNil) (dC (.str "text"))) (dAnd (dOp2 gEq (dCall 2 0 S__law_read (fun xs _ => xs) (dCons (dC (.int 0)) (dCons (dC (.str "0.100: 5 to 1")) dNil)) dNil) (dC (.str "text"))) (dOp2 gEq (dCall 2 0 S__law_read (fun xs _ => xs) (dCons (dC (.int 1)) (dCons (dOp2 gAdd (dVar 4) (dC (.str " by 16"))) dNil)) dNil) (dC (.str "text")))))))))))))))))))
def S_law : List D → Mem → Res D := fun ds M => match decide (ds.length = 1) with
  | true => (f_law (startD 14 ds) M).fin
  | false => .bad
end Fl
namespace Fl
open PySem
/-! ### the combinators as equations -/
section
variable {A B : Type} {a : A} {M : Mem} {s : Sl} {c : Nat} {f : Option (Nat × D)} {d x y : D}
@[simp] theorem bind_ok (g : A → Mem → Res B) : (Res.ok a M).bind g = g a M := rfl
@[simp] theorem bind_exc (g : A → Mem → Res B) : (Res.exc c f M : Res A).bind g = .exc c f M := rfl
@[simp] theorem bind_bad (g : A → Mem → Res B) : (Res.bad : Res A).bind g = .bad := rfl
@[simp] theorem toS_ok (g : A → Mem → SR) : (Res.ok a M).toS s g = g a M := rfl
@[simp] theorem toS_exc (g : A → Mem → SR) : (Res.exc c f M : Res A).toS s g = .exc c f s M := rfl
@[simp] theorem toS_bad (g : A → Mem → SR) : (Res.bad : Res A).toS s g = .bad := rfl
@[simp] theorem seq_nx (u : SF) : (SR.nx s M).seq u = u s M := rfl
@[simp] theorem seq_rt (u : SF) : (SR.rt d M).seq u = .rt d M := rfl
@[simp] theorem seq_bk (u : SF) : (SR.bk s M).seq u = .bk s M := rfl
@[simp] theorem seq_ct (u : SF) : (SR.ct s M).seq u = .ct s M := rfl
@[simp] theorem seq_exc (u : SF) : (SR.exc c f s M).seq u = .exc c f s M := rfl
@[simp] theorem seq_bad (u : SF) : (SR.bad).seq u = .bad := rfl
@[simp] theorem fin_nx : (SR.nx s M).fin = .ok .non M := rfl
@[simp] theorem fin_rt : (SR.rt d M).fin = .ok d M := rfl
@[simp] theorem fin_exc : (SR.exc c f s M).fin = .exc c f M := rfl
@[simp] theorem noX_ok : (Res.ok a M).noX = .ok a M := rfl
variable {fa fb fc : EF} {ft fu : TF} {t u : SF} {i : Nat}
@[simp] theorem dC_ap : dC d s M = .ok d M := rfl
@[simp] theorem dVar_ap : dVar i s M = match s[i]? with
  | some (some d) => .ok d M
  | _ => .bad := rfl
@[simp] theorem dOp2_ap (g : D → D → Mem → Res D) : dOp2 g fa fb s M = (fa s M).bind fun x M1 => (fb s M1).bind fun y M2 => g x y M2 := rfl
@[simp] theorem dOp1_ap (g : D → Mem → Res D) : dOp1 g fa s M = (fa s M).bind g := rfl
@[simp] theorem dOpN_ap (g : List D → Mem → Res D) (a : AF) : dOpN g a s M = (a s M).bind g := rfl
@[simp] theorem dNil_ap : dNil s M = .ok [] M := rfl
@[simp] theorem dCons_ap (r : AF) : dCons fa r s M = (fa s M).bind fun x M1 => (r s M1).bind fun xs M2 => .ok (x :: xs) M2 := rfl
def isB : D → Mem → Res Bool
  | .bl b, M => .ok b M
  | _, _ => .bad
@[simp] theorem isB_bl {b : Bool} : isB (.bl b) M = .ok b M := rfl
@[simp] theorem tVal_ap : tVal fa s M = (fa s M).bind isB := by
  unfold tVal
  congr 1
  funext x M1
  cases x <;> rfl
@[simp] theorem tNotF_ap : tNotF ft s M = (ft s M).bind fun x M1 => .ok (!x) M1 := rfl
def ifR {A : Type} (b : Bool) (x y : A) : A := match b with
  | true => x
  | false => y
@[simp] theorem ifR_t {A : Type} (x y : A) : ifR true x y = x := rfl
@[simp] theorem ifR_f {A : Type} (x y : A) : ifR false x y = y := rfl
@[simp] theorem tAndF_ap : tAndF ft fu s M = (ft s M).bind fun x M1 => ifR x (fu s M1) (.ok false M1) := by
  unfold tAndF
  congr 1
@[simp] theorem tOrF_ap : tOrF ft fu s M = (ft s M).bind fun x M1 => ifR x (.ok true M1) (fu s M1) := by
  unfold tOrF
  congr 1
@[simp] theorem dAnd_ap : dAnd fa fb s M = (fa s M).bind fun x M1 => (isB x M1).bind fun b M2 => ifR b (fb s M2) (.ok (.bl false) M2) := by
  unfold dAnd
  congr 1
  funext x M1
  cases x <;> try rfl
  rename_i b
  cases b <;> rfl
@[simp] theorem dOr_ap : dOr fa fb s M = (fa s M).bind fun x M1 => (isB x M1).bind fun b M2 => ifR b (.ok (.bl true) M2) (fb s M2) := by
  unfold dOr
  congr 1
  funext x M1
  cases x <;> try rfl
  rename_i b
  cases b <;> rfl
@[simp] theorem dNot_ap : dNot fa s M = (fa s M).bind fun x M1 => (isB x M1).bind fun b M2 => .ok (.bl (!b)) M2 := by
  unfold dNot
  congr 1
  funext x M1
  cases x <;> rfl
@[simp] theorem dIfE_ap : dIfE ft fa fb s M = (ft s M).bind fun x M1 => ifR x (fa s M1) (fb s M1) := by
  unfold dIfE
  congr 1
@[simp] theorem sNext_ap : sNext s M = .nx s M := rfl
@[simp] theorem sSeq_ap : sSeq t u s M = (t s M).seq u := rfl
@[simp] theorem sDrop_ap : sDrop fa s M = (fa s M).toS s fun _ M1 => .nx s M1 := rfl
@[simp] theorem sRet_ap : sRet fa s M = (fa s M).toS s fun d M1 => .rt d M1 := rfl
@[simp] theorem sSet_ap : sSet i fa s M = (fa s M).toS s fun d M1 => .nx (s.set i (some d)) M1 := rfl
@[simp] theorem sIf_ap : sIf ft t u s M = (ft s M).toS s fun b M1 => ifR b (t s M1) (u s M1) := by
  unfold sIf
  congr 1
@[simp] theorem sRaise_ap : sRaise c s M = .exc c none s M := rfl
@[simp] theorem sRaise1_ap : sRaise1 c i fa s M = (fa s M).toS s fun d M1 => .exc c (some (i, d)) s M1 := rfl
@[simp] theorem sAsg_ap (g : GF) : sAsg fa g s M = (fa s M).toS s fun d M1 => (g d s M1).toS s fun s2 M2 => .nx s2 M2 := rfl
@[simp] theorem gN_ap : gN i d s M = .ok (s.set i (some d)) M := rfl
@[simp] theorem gsNil_ap : gsNil [] s = some s := rfl
@[simp] theorem gsCons_ap (r : GsF) {ds : List D} : gsCons i r (d :: ds) s = r ds (s.set i (some d)) := rfl
@[simp] theorem gT_ap (n : Nat) (r : GsF) {ds : List D} : gT n r (.tup ds) s M = match decide (ds.length = n), r ds s with
  | true, some s2 => .ok s2 M
  | _, _ => .bad := rfl
@[simp] theorem gIxSet_ap : gIxSet fa fb d s M = (fa s M).bind fun o M1 => (fb s M1).bind fun i M2 => match setIx M2 o i d with
  | some M3 => .ok s M3
  | none => .bad := rfl
@[simp] theorem sIxAug_ap (g : D → D → Mem → Res D) : sIxAug fa fb fc g s M = (fa s M).toS s fun o M1 => (fb s M1).toS s fun i M2 => match getIx M2 o i with
  | some x => (fc s M2).toS s fun y M3 => (g x y M3).toS s fun z M4 => (match setIx M4 o i z with
    | some M5 => .nx s M5
    | none => .bad)
  | none => .bad := rfl
@[simp] theorem sAug_ap (g : D → D → Mem → Res D) : sAug i fa g s M = match s[i]? with
  | some (some x) => (fa s M).toS s fun y M1 => (g x y M1).toS s fun z M2 => .nx (s.set i (some z)) M2
  | _ => .bad := rfl
@[simp] theorem lenIs_ap {n : Nat} {l : List D} {r : Res D} : lenIs n l r = match decide (l.length = n) with
  | true => r
  | false => .bad := rfl
@[simp] theorem dCall_ap {n m : Nat} {S : List D → Mem → Res D} {gD : List D → List D → List D} {a k : AF} : dCall n m S gD a k s M = (a s M).bind fun xs M1 => (k s M1).bind fun zs M2 => lenIs n xs (lenIs m zs (S (gD xs zs) M2)) := rfl
@[simp] theorem dTup_ap {a : AF} : dTup a s M = (a s M).bind fun ds M1 => match decide (ds.length ≤ sizeLine) with
  | true => .ok (.tup ds) M1
  | false => .bad := rfl
@[simp] theorem dLst_ap {a : AF} : dLst a s M = (a s M).bind fun ds M1 => match decide (ds.length ≤ sizeLine) with
  | true => .ok (.ref M1.length) (M1 ++ [.lst ds])
  | false => .bad := rfl
@[simp] theorem oNone_ap : oNone s M = .ok none M := rfl
def isI : D → Mem → Res (Option Int)
  | .int i, M => .ok (some i) M
  | _, _ => .bad
@[simp] theorem isI_int {k : Int} : isI (.int k) M = .ok (some k) M := rfl
@[simp] theorem oSome_ap : oSome fa s M = (fa s M).bind isI := by
  unfold oSome
  congr 1
  funext x M1
  cases x <;> rfl
@[simp] theorem dSl_ap (l h : OF) : dSl fa l h s M = (fa s M).bind fun x M1 => (l s M1).bind fun l M2 => (h s M2).bind fun u M3 => gSl x l u M3 := rfl
@[simp] theorem dChain_ap (g g' : D → D → Mem → Res D) : dChain g g' fa fb fc s M = (fa s M).bind fun x M1 => (fb s M1).bind fun y M2 => (g x y M2).bind fun k M3 => (isB k M3).bind fun b M4 => ifR b ((fc s M4).bind fun z M5 => g' y z M5) (.ok (.bl false) M4) := by
  unfold dChain
  congr 1
  funext x M1
  congr 1
  funext y M2
  congr 1
  funext k M3
  cases k <;> try rfl
  rename_i b
  cases b <;> rfl
@[simp] theorem dBm_ap (ty : D → Mem → Bool) (g : D → List D → Mem → Res D) (a : AF) : dBm ty g fa a s M = (fa s M).bind fun x M1 => match ty x M1 with
  | true => (a s M1).bind fun ds M2 => g x ds M2
  | false => .bad := rfl
@[simp] theorem dTupRg_ap : dTupRg fa s M = (fa s M).bind fun d M1 => match d with
  | .int n => (match decide (0 ≤ n ∧ n ≤ 16777216) with
    | true => .ok (.tup ((List.range n.toNat).map fun i => .int (i : Nat))) M1
    | false => .bad)
  | _ => .bad := rfl
@[simp] theorem dSortSet_ap : dSortSet fa s M = (fa s M).bind fun d M1 => match seqOf M1 d with
  | some ds => (match intsOf ds with
    | some ns => (match decide (ns.length < 64) with
      | true => .ok (.ref M1.length) (M1 ++ [.lst ((sortNub ns).map .int)])
      | false => .bad)
    | none => .bad)
  | none => .bad := rfl
@[simp] theorem tYesF_ap : tYesF s M = .ok true M := rfl
end
/-! ### the operators -/
section
variable {M : Mem} {i j : Int} {xs ys : List D} {n : Nat}
@[simp] theorem gAdd_int : gAdd (.int i) (.int j) M = .ok (.int (i + j)) M := rfl
@[simp] theorem gAdd_tup : gAdd (.tup xs) (.tup ys) M = match decide (xs.length + ys.length ≤ sizeLine) with
  | true => .ok (.tup (xs ++ ys)) M
  | false => .bad := rfl
@[simp] theorem gAdd_ref {m : Nat} : gAdd (.ref m) (.ref n) M = match listAt M m, listAt M n with
  | some xs, some ys => newL M (xs ++ ys)
  | _, _ => .bad := rfl
@[simp] theorem gSub_int : gSub (.int i) (.int j) M = .ok (.int (i - j)) M := rfl
@[simp] theorem gIAdd_int : gIAdd (.int i) (.int j) M = .ok (.int (i + j)) M := rfl
@[simp] theorem gLt_int : gLt (.int i) (.int j) M = .ok (.bl (decide (i < j))) M := rfl
@[simp] theorem gLe_int : gLe (.int i) (.int j) M = .ok (.bl (decide (i ≤ j))) M := rfl
@[simp] theorem gGt_int : gGt (.int i) (.int j) M = .ok (.bl (decide (j < i))) M := rfl
@[simp] theorem gGe_int : gGe (.int i) (.int j) M = .ok (.bl (decide (j ≤ i))) M := rfl
@[simp] theorem gNeg_int : gNeg (.int i) M = .ok (.int (-i)) M := rfl
theorem gMulX_int (h : (-(2 ^ 64) < i ∧ i < 2 ^ 64) ∨ (-(2 ^ 64) < j ∧ j < 2 ^ 64)) : gMulX (.int i) (.int j) M = .ok (.int (i * j)) M := by
  show (match decide ((-(2 ^ 64) < i ∧ i < 2 ^ 64) ∨ (-(2 ^ 64) < j ∧ j < 2 ^ 64)) with | true => Res.ok (D.int (i * j)) M | false => Res.bad) = _
  rw [decide_eq_true h]
theorem gDiv_int (h : 0 < j) (h2 : j < 1073741824) : gDiv (.int i) (.int j) M = .ok (.int (i / j)) M := by
  show (match decide (0 < j ∧ j < 1073741824) with | true => Res.ok (D.int (i / j)) M | false => Res.bad) = _
  rw [decide_eq_true ⟨h, h2⟩]
theorem gMod_int (h : 0 < j) : gMod (.int i) (.int j) M = .ok (.int (i % j)) M := by
  show (match decide (0 < j) with | true => Res.ok (D.int (i % j)) M | false => Res.bad) = _
  rw [decide_eq_true h]
theorem gPow_int (h : 0 ≤ j) (h2 : j ≤ 1000000) (h3 : i.natAbs < 2 ^ 64) : gPow (.int i) (.int j) M = .ok (.int (i ^ j.toNat)) M := by
  show (match decide (0 ≤ j ∧ j ≤ 1000000 ∧ i.natAbs < 2 ^ 64) with | true => Res.ok (D.int (i ^ j.toNat)) M | false => Res.bad) = _
  rw [decide_eq_true ⟨h, h2, h3⟩]
theorem itemAt_nat {ds : List D} {k : Nat} (h : k < ds.length) : itemAt ds (k : Int) = ds[k]? := by
  unfold itemAt ixF
  rw [decide_eq_true (by omega : (0 : Int) ≤ k)]
  simp only [decide_eq_true (by omega : (k : Int) < ds.length)]
  rfl
theorem itemAt_int {ds : List D} {i : Int} (h0 : 0 ≤ i) (h : i < ds.length) : itemAt ds i = ds[i.toNat]? := by
  obtain ⟨k, rfl⟩ : ∃ k : Nat, i = k := ⟨i.toNat, by omega⟩
  rw [itemAt_nat (by omega)]; rfl
@[simp] theorem itemAt_0 {a : D} {r : List D} : itemAt (a :: r) 0 = some a := itemAt_nat (k := 0) (by simp)
@[simp] theorem itemAt_1 {a b : D} {r : List D} : itemAt (a :: b :: r) 1 = some b := itemAt_nat (k := 1) (by simp)
@[simp] theorem itemAt_2 {a b c : D} {r : List D} : itemAt (a :: b :: c :: r) 2 = some c := itemAt_nat (k := 2) (by simp)
@[simp] theorem itemAt_3 {a b c d : D} {r : List D} : itemAt (a :: b :: c :: d :: r) 3 = some d := itemAt_nat (k := 3) (by simp)
@[simp] theorem okD_some {d : D} : okD M (some d) = .ok d M := rfl
@[simp] theorem okB_some {b : Bool} : okB M (some b) = .ok (.bl b) M := rfl
@[simp] theorem gIx_tup : gIx (.tup xs) (.int i) M = okD M (itemAt xs i) := rfl
@[simp] theorem gIx_ref {y : D} : gIx (.ref n) y M = match listAt M n with
  | some ds => (match y with
    | .int i => okD M (itemAt ds i)
    | _ => .bad)
  | none => (match dictLook M n y with
    | some (some d) => .ok d M
    | _ => .bad) := rfl
@[simp] theorem gSl_tup {lo hi : Option Int} : gSl (.tup xs) lo hi M = .ok (.tup (cutD xs lo hi)) M := rfl
@[simp] theorem gSl_ref {lo hi : Option Int} : gSl (.ref n) lo hi M = match listAt M n with
  | some ds => .ok (.ref M.length) (M ++ [.lst (cutD ds lo hi)])
  | none => .bad := rfl
@[simp] theorem gIsi_ap {tab : TyK → Option Bool} {d : D} : gIsi tab d M = okB M ((tyK M d).bind tab) := rfl
@[simp] theorem gEq_ap {x y : D} : gEq x y M = okB M (pyEq M x y) := rfl
@[simp] theorem gNe_ap {x y : D} : gNe x y M = okB M ((pyEq M x y).map (!·)) := rfl
@[simp] theorem gIn_ap {x y : D} : gIn x y M = okB M (inB M x y) := rfl
@[simp] theorem gNotIn_ap {x y : D} : gNotIn x y M = okB M ((inB M x y).map (!·)) := rfl
@[simp] theorem gLen_tup : gLen [.tup xs] M = .ok (.int xs.length) M := rfl
@[simp] theorem gLen_ref : gLen [.ref n] M = match listAt M n with
  | some ds => .ok (.int ds.length) M
  | none => .bad := rfl
@[simp] theorem gList_tup : gList [.tup xs] M = .ok (.ref M.length) (M ++ [.lst xs]) := rfl
@[simp] theorem gList_ref : gList [.ref n] M = match listAt M n with
  | some ds => .ok (.ref M.length) (M ++ [.lst ds])
  | none => .bad := rfl
@[simp] theorem gTuple_tup : gTuple [.tup xs] M = .ok (.tup xs) M := rfl
@[simp] theorem gTuple_ref : gTuple [.ref n] M = match listAt M n with
  | some ds => .ok (.tup ds) M
  | none => .bad := rfl
@[simp] theorem gAll_ref : gAll [.ref n] M = match listAt M n with
  | some ds => (match blsOf ds with
    | some ns => .ok (.bl (ns.all id)) M
    | _ => .bad)
  | none => .bad := rfl
@[simp] theorem gAny_ref : gAny [.ref n] M = match listAt M n with
  | some ds => (match blsOf ds with
    | some ns => .ok (.bl (ns.any id)) M
    | _ => .bad)
  | none => .bad := rfl
@[simp] theorem gSum_ref : gSum [.ref n] M = match listAt M n with
  | some ds => (match intsOf ds with
    | some ns => .ok (.int ns.sum) M
    | none => .bad)
  | none => .bad := rfl
theorem blsOf_mk (ns : List Bool) : blsOf (ns.map .bl) = some ns := by
  induction ns with
  | nil => rfl
  | cons a r ih =>
    unfold blsOf at ih ⊢
    rw [List.map_cons, allSome, ih]
/-! the store -/
theorem listAt_of {ds : List D} (h : M[n]? = some (.lst ds)) : listAt M n = some ds := by
  unfold listAt
  rw [h]
@[simp] theorem listAt_new {ds : List D} : listAt (M ++ [.lst ds]) M.length = some ds := by unfold listAt; simp
end
/-! ### things with an equality of their own, as data -/
class Enc (T : Type) where
  enc : T → PyData
  dp : Nat
  eq : ∀ a b : T, PyData.eqv (enc a) (enc b) = true ↔ a = b
  lay : ∀ a : T, PyData.canLay0 (enc a) = true
  dep : ∀ a : T, (enc a).depth ≤ dp
open Enc
theorem Enc.eqv {T : Type} [Enc T] [DecidableEq T] (a b : T) : PyData.eqv (enc a) (enc b) = decide (a = b) := by
  by_cases h : a = b
  · rw [decide_eq_true h]; exact (Enc.eq a b).mpr h
  · rw [decide_eq_false h]
    cases e : PyData.eqv (enc a) (enc b) with
    | false => rfl
    | true => exact absurd ((Enc.eq a b).mp e) h
instance : Enc Int where
  enc := .int
  dp := 0
  eq := fun a b => by simp [PyData.eqv]
  lay := fun a => by simp [PyData.canLay0]
  dep := fun a => by simp [PyData.depth]
instance : Enc Bool where
  enc := .bool
  dp := 0
  eq := fun a b => by simp [PyData.eqv]
  lay := fun a => by simp [PyData.canLay0]
  dep := fun a => by simp [PyData.depth]
section
variable {T : Type} [Enc T]
theorem encs_eq : ∀ a b : List T, PyData.eqvAll (a.map enc) (b.map enc) = true ↔ a = b
  | [], [] => by simp [PyData.eqvAll]
  | [], _ :: _ => by simp [PyData.eqvAll]
  | _ :: _, [] => by simp [PyData.eqvAll]
  | x :: xs, y :: ys => by
    rw [List.map_cons, List.map_cons, PyData.eqvAll, Bool.and_eq_true, Enc.eq, encs_eq xs ys, List.cons.injEq]
theorem encs_lay : ∀ a : List T, PyData.canLayAll0 (a.map enc) = true
  | [] => by simp [PyData.canLayAll0]
  | x :: xs => by rw [List.map_cons, PyData.canLayAll0, Enc.lay, encs_lay xs]; rfl
theorem encs_dep : ∀ a : List T, PyData.depthAll (a.map enc) ≤ Enc.dp T
  | [] => by simp [PyData.depthAll]
  | x :: xs => by
    rw [List.map_cons, PyData.depthAll]
    exact Nat.max_le.mpr ⟨Enc.dep x, encs_dep xs⟩
/-- a list -/
instance : Enc (List T) where
  enc := fun l => .list (l.map enc)
  dp := Enc.dp T + 1
  eq := fun a b => by rw [PyData.eqv]; exact encs_eq a b
  lay := fun a => by rw [PyData.canLay0]; exact encs_lay a
  dep := fun a => by rw [PyData.depth]; exact Nat.succ_le_succ (encs_dep a)
end
/-- a tuple of likes -/
structure Tup (T : Type) where
  its : List T
deriving DecidableEq
instance {T : Type} [Enc T] : Enc (Tup T) where
  enc := fun l => .tuple (l.its.map enc)
  dp := Enc.dp T + 1
  eq := fun a b => by
    rw [PyData.eqv, encs_eq]
    cases a; cases b; simp
  lay := fun a => by rw [PyData.canLay0]; exact encs_lay a.its
  dep := fun a => by rw [PyData.depth]; exact Nat.succ_le_succ (encs_dep a.its)
instance {S T : Type} [Enc S] [Enc T] : Enc (S × T) where
  enc := fun p => .tuple [enc p.1, enc p.2]
  dp := max (Enc.dp S) (Enc.dp T) + 1
  eq := fun a b => by
    simp only [PyData.eqv, PyData.eqvAll, Bool.and_eq_true, Enc.eq, Bool.and_true]
    exact ⟨fun h => Prod.ext h.1 h.2, fun h => by rw [h]; exact ⟨rfl, rfl⟩⟩
  lay := fun a => by simp [PyData.canLay0, PyData.canLayAll0, Enc.lay]
  dep := fun a => by
    simp only [PyData.depth, PyData.depthAll]
    have h1 := Enc.dep a.1
    have h2 := Enc.dep a.2
    omega
theorem Enc.shaped {T : Type} [Enc T] (h : Enc.dp T ≤ 64) (a : T) : SeqAt.shaped (enc a) = true := by
  unfold SeqAt.shaped
  rw [Enc.lay a, Bool.true_and]
  exact decide_eq_true (Nat.le_trans (Enc.dep a) h)
/-- d stands for a in the store -/
def Vw {T : Type} [Enc T] (M : Mem) (k : Nat) (d : D) (a : T) : Prop := toPy M k d = some (enc a)
theorem pyEq_enc {T : Type} [Enc T] [DecidableEq T] {M : Mem} {x y : D} {a b : T} (hx : Vw M 9 x a) (hy : Vw M 9 y b) (h : Enc.dp T ≤ 64 := by decide) : pyEq M x y = some (decide (a = b)) := by
  unfold pyEq
  rw [hx, hy]
  simp only [Enc.shaped h, Bool.and_true, Enc.eqv]
theorem allSome_map {A B C : Type} {f : B → Option C} {g : A → B} {h : A → C} {l : List A} (e : ∀ a ∈ l, f (g a) = some (h a)) : allSome f (l.map g) = some (l.map h) := by
  induction l with
  | nil => rfl
  | cons a r ih =>
    rw [List.map_cons, allSome, e a List.mem_cons_self, ih fun b hb => e b (List.mem_cons_of_mem _ hb)]
    rfl
/-! views -/
section
variable {M : Mem} {k : Nat}
theorem vw_int (i : Int) : Vw M (k + 1) (.int i) i := rfl
theorem toPys_int (ns : List Int) : allSome (toPy M (k + 1)) (ns.map .int) = some (ns.map enc) := allSome_map fun a _ => rfl
theorem vw_ints {n : Nat} {ns : List Int} (h : listAt M n = some (ns.map .int)) : Vw M (k + 2) (.ref n) ns := by
  unfold Vw toPy
  rw [h]
  show (allSome (toPy M (k + 1)) (ns.map .int)).map PyData.list = _
  rw [toPys_int]; rfl
theorem vw_tup {T : Type} [Enc T] {ds : List D} {l : List T} (hl : allSome (toPy M k) ds = some (l.map enc)) : Vw M (k + 1) (.tup ds) (Tup.mk l) := by
  unfold Vw toPy
  rw [hl]; rfl
end
/-! ### loops -/
/-- the general rule of a loop -/
theorem for_ind {nx : ItF} {g : GF} {body : SF} {ds : List D} (P : Nat → Sl → Mem → Prop) (Q : SR → Prop) {s : Sl} {M : Mem} (h0 : P 0 s M)
    (hn : ∀ i s M, i ≤ ds.length → P i s M → nx i M = some ds[i]?)
    (hs : ∀ i d s M, ds[i]? = some d → P i s M → ∃ s1 M1, g d s M = .ok s1 M1 ∧ ((∃ s2 M2, (body s1 M1 = .nx s2 M2 ∨ body s1 M1 = .ct s2 M2) ∧ P (i + 1) s2 M2) ∨ (∃ s2 M2, body s1 M1 = .bk s2 M2 ∧ Q (.nx s2 M2)) ∨ (∃ d M2, body s1 M1 = .rt d M2 ∧ Q (.rt d M2)) ∨ ∃ c f s2 M2, body s1 M1 = .exc c f s2 M2 ∧ Q (.exc c f s2 M2)))
    (he : ∀ s M, P ds.length s M → Q (.nx s M)) : Q (sForL nx g body (ds.length + 1) 0 s M) := by
  have go : ∀ (k i : Nat) (s : Sl) (M : Mem), i + k = ds.length → P i s M → Q (sForL nx g body (k + 1) i s M) := by
    intro k
    induction k with
    | zero =>
      intro i s M hi hp
      unfold sForL
      have e : i = ds.length := by omega
      rw [hn i s M (by omega) hp, e, List.getElem?_eq_none (Nat.le_refl _)]
      rw [e] at hp
      exact he s M hp
    | succ k ih =>
      intro i s M hi hp
      unfold sForL
      have hlt : i < ds.length := by omega
      rw [hn i s M (by omega) hp, List.getElem?_eq_getElem hlt]
      obtain ⟨s1, M1, eg, h⟩ := hs i _ s M (List.getElem?_eq_getElem hlt) hp
      simp only [eg, toS_ok]
      rcases h with ⟨s2, M2, h1, h2⟩ | ⟨s2, M2, h1, h2⟩ | ⟨d, M2, h1, h2⟩ | ⟨c, f, s2, M2, h1, h2⟩
      · have z := ih (i + 1) s2 M2 (by omega) h2
        rcases h1 with h1 | h1 <;> (rw [h1]; exact z)
      · rw [h1]; exact h2
      · rw [h1]; exact h2
      · rw [h1]; exact h2
  exact go ds.length 0 s M (by omega) h0
/-- the rule of a comprehension: ys is what is made of the items before the i-th -/
theorem lc_ind {nx : ItF} {g : GF} {tt : TF} {te : EF} {s : Sl} {ds : List D} (P : Nat → List D → Mem → Prop) {M : Mem} (h0 : P 0 [] M)
    (hn : ∀ i ys M, i ≤ ds.length → P i ys M → nx i M = some ds[i]?)
    (hs : ∀ i d ys M, ds[i]? = some d → P i ys M → ∃ s1 M1 b M2, g d s M = .ok s1 M1 ∧ tt s1 M1 = .ok b M2 ∧ ((b = true ∧ ∃ y M3, te s1 M2 = .ok y M3 ∧ P (i + 1) (ys ++ [y]) M3) ∨ (b = false ∧ P (i + 1) ys M2))) :
    ∃ ys M', lcL nx g tt te s (ds.length + 1) 0 M = .ok ys M' ∧ P ds.length ys M' := by
  have go : ∀ (k i : Nat) (acc : List D) (M : Mem), i + k = ds.length → P i acc M → ∃ ys M', lcL nx g tt te s (k + 1) i M = .ok ys M' ∧ P ds.length (acc ++ ys) M' := by
    intro k
    induction k with
    | zero =>
      intro i acc M hi hp
      have e : i = ds.length := by omega
      refine ⟨[], M, ?_, by rw [List.append_nil, ← e]; exact hp⟩
      unfold lcL
      rw [hn i acc M (by omega) hp, e, List.getElem?_eq_none (Nat.le_refl _)]
    | succ k ih =>
      intro i acc M hi hp
      have hlt : i < ds.length := by omega
      obtain ⟨s1, M1, b, M2, e1, e2, h⟩ := hs i _ acc M (List.getElem?_eq_getElem hlt) hp
      unfold lcL
      rw [hn i acc M (by omega) hp, List.getElem?_eq_getElem hlt]
      simp only [e1, noX_ok, bind_ok, e2]
      rcases h with ⟨rfl, y, M3, e3, h⟩ | ⟨rfl, h⟩
      · obtain ⟨ys, M', e4, h4⟩ := ih (i + 1) (acc ++ [y]) M3 (by omega) h
        refine ⟨y :: ys, M', ?_, by rw [List.append_cons]; exact h4⟩
        simp only [e3, noX_ok, bind_ok, e4]
      · obtain ⟨ys, M', e4, h4⟩ := ih (i + 1) acc M2 (by omega) h
        exact ⟨ys, M', e4, h4⟩
  obtain ⟨ys, M', e, h⟩ := go ds.length 0 [] M (by omega) h0
  exact ⟨ys, M', e, by simpa using h⟩
/-- .. that changes nothing -/
theorem lc_pure {nx : ItF} {g : GF} {tt : TF} {te : EF} {s : Sl} {ds : List D} {M : Mem} (p : D → Bool) (v : D → D) (hn : ∀ i, i ≤ ds.length → nx i M = some ds[i]?)
    (hs : ∀ d ∈ ds, ∃ s1, g d s M = .ok s1 M ∧ tt s1 M = .ok (p d) M ∧ (p d = true → te s1 M = .ok (v d) M)) : lcL nx g tt te s (ds.length + 1) 0 M = .ok ((ds.filter p).map v) M := by
  obtain ⟨ys, M', e, h1, h2⟩ := lc_ind (nx := nx) (g := g) (tt := tt) (te := te) (s := s) (ds := ds) (M := M) (fun i ys M' => M' = M ∧ ys = ((ds.take i).filter p).map v) ⟨rfl, rfl⟩ (fun i ys M' hi ⟨e, _⟩ => by rw [e]; exact hn i hi) fun i d ys M' hd ⟨e, ey⟩ => by
    subst e ey
    obtain ⟨s1, e1, e2, e3⟩ := hs d (List.mem_of_getElem? hd)
    refine ⟨s1, _, p d, _, e1, e2, ?_⟩
    rw [List.take_add_one, hd]
    cases hp : p d with
    | true => exact .inl ⟨rfl, v d, _, e3 hp, rfl, by simp [hp]⟩
    | false => exact .inr ⟨rfl, rfl, by simp [hp]⟩
  rw [e, h1, h2, List.take_length]
theorem nxT_at {ds : List D} {M : Mem} (i : Nat) : nxT ds i M = some ds[i]? := rfl
theorem nxL_at {ds : List D} {M : Mem} {n : Nat} (h : listAt M n = some ds) (i : Nat) : nxL n i M = some ds[i]? := by
  unfold nxL
  rw [h]
theorem nxR_at {lo : Int} {n : Nat} {M : Mem} (i : Nat) (h : i ≤ n) : nxR lo n i M = some ((List.range n).map fun j => D.int (lo + (j : Nat)))[i]? := by
  unfold nxR
  by_cases c : i < n
  · rw [decide_eq_true c]; simp [c]
  · rw [decide_eq_false c]; simp [c]
/-! ### one statement after the other -/
section
variable {t u : SF} {s s1 : Sl} {M M1 : Mem} {d : D} {c : Nat} {f : Option (Nat × D)} {Q : SR → Prop}
theorem go_nx (h : t s M = .nx s1 M1) (k : Q (u s1 M1)) : Q (sSeq t u s M) := by rw [sSeq_ap, h]; exact k
theorem go_end {r : SR} (h : t s M = r) (k : Q r) : Q (t s M) := by rw [h]; exact k
end
@[simp] theorem ifR_ok {A : Type} {b : Bool} {x y : A} {M : Mem} : ifR b (Res.ok x M) (Res.ok y M) = .ok (ifR b x y) M := by cases b <;> rfl
def lstO : Option MO → Option (List D)
  | some (.lst ds) => some ds
  | _ => none
@[simp] theorem lstO_some {ds : List D} : lstO (some (.lst ds)) = some ds := rfl
theorem listAt_eq {M : Mem} {n : Nat} : listAt M n = lstO M[n]? := by
  unfold listAt lstO
  split <;> simp_all
@[simp] theorem listAt_k {M T : Mem} {k : Nat} : listAt (M ++ T) (M.length + k) = lstO T[k]? := by
  rw [listAt_eq, List.getElem?_append_right (by omega)]
  congr 2
  omega
@[simp] theorem listAt_k0 {M T : Mem} : listAt (M ++ T) M.length = lstO T[0]? := listAt_k (k := 0)
@[simp] theorem set_k {M T : Mem} {k : Nat} {o : MO} : (M ++ T).set (M.length + k) o = M ++ T.set k o := by
  rw [List.set_append_right _ _ (by omega)]
  congr 2
  omega
end Fl
namespace Fl
open PySem
theorem le_line {n : Nat} (h : n ≤ 1000) : n ≤ sizeLine := Nat.le_trans h (by decide)
/-! ### the store grows -/
/-- M' has all of M's objects, but those at A -/
structure Fr (A : List Nat) (M M' : Mem) : Prop where
  len : M.length ≤ M'.length
  old : ∀ n, n < M.length → n ∉ A → M'[n]? = M[n]?
theorem Fr.refl {A : List Nat} {M : Mem} : Fr A M M := ⟨Nat.le_refl _, fun _ _ _ => rfl⟩
theorem Fr.trans {A : List Nat} {M M' M'' : Mem} (h : Fr A M M') (h' : Fr A M' M'') : Fr A M M'' := ⟨Nat.le_trans h.len h'.len, fun n hn ha => (h'.old n (Nat.lt_of_lt_of_le hn h.len) ha).trans (h.old n hn ha)⟩
theorem Fr.mono {A B : List Nat} {M M' : Mem} (h : Fr A M M') (s : ∀ n ∈ A, n ∈ B) : Fr B M M' := ⟨h.len, fun n hn ha => h.old n hn fun z => ha (s n z)⟩
theorem Fr.app {A : List Nat} {M T : Mem} : Fr A M (M ++ T) := ⟨by simp, fun n hn _ => List.getElem?_append_left hn⟩
theorem Fr.get {A : List Nat} {M M' : Mem} (h : Fr A M M') {n : Nat} {o : MO} (e : M[n]? = some o) (ha : n ∉ A) : M'[n]? = some o := by
  rw [h.old n (List.getElem?_eq_some_iff.mp e).1 ha]; exact e
theorem Fr.list {A : List Nat} {M M' : Mem} (h : Fr A M M') {n : Nat} {ds : List D} (e : listAt M n = some ds) (ha : n ∉ A) : listAt M' n = some ds := listAt_of (h.get (listAt_some e) ha)
theorem Fr.set {A : List Nat} {M : Mem} {n : Nat} {o : MO} (h : n ∈ A) : Fr A M (M.set n o) := ⟨by simp, fun m _ hm => by rw [List.getElem?_set_ne (fun z => hm (by rw [← z]; exact h))]⟩
/-! ### the draws: the town at 2, its row at 1 -/
structure Town (M : Mem) : Prop where
  ex : ∃ (k : Int) (cells : List Int), M[2]? = some (.lst [.ref 1, .int k]) ∧ M[1]? = some (.lst (cells.map .int)) ∧ cells ≠ [] ∧ 0 ≤ k
theorem Town.fr {A : List Nat} {M M' : Mem} (t : Town M) (h : Fr A M M') (h1 : 1 ∉ A) (h2 : 2 ∉ A) : Town M' := by
  obtain ⟨k, cells, e1, e2, e3⟩ := t.ex
  exact ⟨k, cells, h.get e1 h2, h.get e2 h1, e3⟩
theorem Town.lt {M : Mem} (t : Town M) : 2 < M.length := by
  obtain ⟨k, cells, e1, _⟩ := t.ex
  exact (List.getElem?_eq_some_iff.mp e1).1
theorem sp_town (ns : List Int) (h : ns.length ≤ 63) : ∃ M, S__law_town [.rol (ns.map .int)] [] = .ok (.ref 2) M ∧ Town M ∧ M.length = 3 := by
  unfold S__law_town f__law_town
  have e : pyEq [.lst []] (.rol (ns.map .int)) (.ref 0) = some (decide (ns = [])) := by
    refine pyEq_enc (T := List Int) ?_ (vw_ints (ns := []) rfl)
    unfold Vw toPy
    rw [toPys_int]; rfl
  by_cases hn : ns = []
  · subst hn
    have e' : pyEq [.lst []] (.rol []) (.ref 0) = some true := by simpa using e
    exact ⟨[.lst [], .lst [.int 0], .lst [.ref 1, .int 0]], by simp [startD, e', sizeLine], ⟨0, [0], by simp⟩, rfl⟩
  · exact ⟨[.lst [], .lst (ns.map .int), .lst [.ref 1, .int 0]], by simp [startD, e, sizeLine, hn, gList, seqOf], ⟨0, ns, by simp [hn]⟩, rfl⟩
theorem sp_draw {M : Mem} {m : Int} (t : Town M) (h0 : 0 < m) (h1 : m < 1073741824) : ∃ v M', S__law_draw [.ref 2, .int m] M = .ok (.int v) M' ∧ 0 ≤ v ∧ v < m ∧ Town M' ∧ Fr [1, 2] M M' ∧ M'.length = M.length := by
  obtain ⟨k, cells, e1, e2, hne, hk⟩ := t.ex
  have l2 := t.lt
  have a1 := listAt_of e1
  have a2 := listAt_of e2
  have hl : 0 < cells.length := List.length_pos_iff.mpr hne
  have hlz : (0 : Int) < (cells.length : Int) := by omega
  unfold S__law_draw f__law_draw
  generalize hat : ((k + 1) % (cells.length : Int)) = at_
  have r1 : 0 ≤ at_ := by rw [← hat]; exact Int.emod_nonneg _ (by omega)
  have r2 : at_ < cells.length := by rw [← hat]; exact Int.emod_lt_of_pos _ hlz
  have hcell : itemAt (cells.map D.int) at_ = some (.int cells[at_.toNat]!) := by
    rw [itemAt_int r1 (by rw [List.length_map]; exact r2), List.getElem?_map, List.getElem?_eq_getElem (by omega)]
    simp [getElem!_pos, show at_.toNat < cells.length by omega]
  generalize cells[at_.toNat]! = cell at hcell
  have s1 : setIx M (.ref 2) (.int 1) (.int (k + 1)) = some (M.set 2 (.lst [.ref 1, .int (k + 1)])) := by
    simp [setIx, e1, ixF]
  have b1 : listAt (M.set 2 (.lst [.ref 1, .int (k + 1)])) 2 = some [.ref 1, .int (k + 1)] := listAt_of (by rw [List.getElem?_set_self l2])
  have b2 : listAt (M.set 2 (.lst [.ref 1, .int (k + 1)])) 1 = some (cells.map .int) := listAt_of (by rw [List.getElem?_set_ne (by decide)]; exact e2)
  generalize hB : M.set 2 (.lst [.ref 1, .int (k + 1)]) = B at b1 b2 s1
  have hBl : B.length = M.length := by rw [← hB]; simp
  have B1 : B[1]? = some (.lst (cells.map .int)) := by rw [← hB, List.getElem?_set_ne (by decide)]; exact e2
  have B2 : B[2]? = some (.lst [.ref 1, .int (k + 1)]) := by rw [← hB, List.getElem?_set_self l2]
  have fB : Fr [1, 2] M B := by rw [← hB]; exact Fr.set (by simp)
  have tB : Town B := ⟨k + 1, cells, B2, B1, hne, by omega⟩
  have m1 : gMod (.int (k + 1)) (.int cells.length) B = .ok (.int at_) B := by rw [gMod_int hlz, hat]
  by_cases hc : 1000000000000000000 ≤ cell
  · have s2 : setIx B (.ref 1) (.int at_) (.int (cell / m)) = some (B.set 1 (.lst ((cells.set at_.toNat (cell / m)).map .int))) := by
      have hix : ixF cells.length at_ = some at_.toNat := by
        unfold ixF
        rw [decide_eq_true r1]
        simp only [decide_eq_true r2]
      simp [setIx, B1, hix, List.map_set]
    refine ⟨cell % m, B.set 1 (.lst ((cells.set at_.toNat (cell / m)).map .int)), ?_, Int.emod_nonneg _ (by omega), Int.emod_lt_of_pos _ h0, ⟨k + 1, cells.set at_.toNat (cell / m), ?_, ?_, ?_, by omega⟩, fB.trans (Fr.set (by simp)), by simp [hBl]⟩
    · simp [startD, a1, s1, b1, m1, b2, hcell, hc, gDiv_int h0 h1, s2, gMod_int h0]
    · rw [List.getElem?_set_ne (by decide)]; exact B2
    · rw [List.getElem?_set_self (by omega)]
    · intro z; rw [List.set_eq_nil_iff] at z; exact hne z
  · have q1 : gMulX (.int 104729) (.int (k + 1)) B = .ok (.int (104729 * (k + 1))) B := gMulX_int (.inl (by omega))
    have q2 : gMod (.int (cell + 104729 * (k + 1))) (.int 4294967291) B = .ok (.int ((cell + 104729 * (k + 1)) % 4294967291)) B := gMod_int (by omega)
    generalize hx : (cell + 104729 * (k + 1)) % 4294967291 = x at q2
    have hx0 : 0 ≤ x := by omega
    have hx1 : x < 4294967291 := by omega
    have q3 : gPow (.int x) (.int 5) B = .ok (.int (x ^ 5)) B := gPow_int (by omega) (by omega) (by omega)
    have q4 : gMod (.int (x ^ 5)) (.int 4294967279) B = .ok (.int (x ^ 5 % 4294967279)) B := gMod_int (by omega)
    generalize hy : x ^ 5 % 4294967279 = y at q4
    have q5 : gDiv (.int y) (.int 64) B = .ok (.int (y / 64)) B := gDiv_int (by omega) (by omega)
    have q6 : gMulX (.int (y / 64)) (.int 69621) B = .ok (.int (y / 64 * 69621)) B := gMulX_int (.inr (by omega))
    have q7 : gMod (.int (y / 64 * 69621 + y)) (.int 4294967231) B = .ok (.int ((y / 64 * 69621 + y) % 4294967231)) B := gMod_int (by omega)
    generalize hz : (y / 64 * 69621 + y) % 4294967231 = z at q7
    have q8 : gDiv (.int z) (.int 8) B = .ok (.int (z / 8)) B := gDiv_int (by omega) (by omega)
    have q9 : gMod (.int (z / 8)) (.int m) B = .ok (.int (z / 8 % m)) B := gMod_int h0
    refine ⟨z / 8 % m, B, ?_, Int.emod_nonneg _ (by omega), Int.emod_lt_of_pos _ h0, tB, fB, hBl⟩
    simp [startD, a1, s1, b1, m1, b2, hcell, hc, q1, q2, q3, q4, q5, q6, q7, q8, q9]
end Fl
namespace Fl
open PySem
/-! ### numbers, orders, papers -/
def tyOk : Option TyK → Bool
  | none => false
  | some (.ins _) => false
  | some (.exc _) => false
  | _ => true
/-- neither an own object nor nothing -/
def okTy (M : Mem) (d : D) : Bool := tyOk (tyK M d)
def wholeB (d : D) (lo hi : Int) : Bool := match d with
  | .int i => decide (lo ≤ i) && decide (i ≤ hi)
  | _ => false
theorem sp_is_whole {M : Mem} {d : D} {lo hi : Int} (h : okTy M d = true) : S_is_whole [d, .int lo, .int hi] M = .ok (.bl (wholeB d lo hi)) M := by
  unfold S_is_whole f_is_whole
  unfold okTy at h
  cases d with
  | int i =>
    by_cases c : lo ≤ i <;> simp [startD, tyK, tabInt, tabBool, wholeB, c]
  | ref n =>
    cases e : tyK M (.ref n) with
    | none => rw [e] at h; cases h
    | some k =>
      rw [e] at h
      have z : tyK M (.ref n) = tyO M n := rfl
      rw [z] at e
      have nk : k ≠ .int ∧ k ≠ .bl := by
        unfold tyO at e
        split at e <;> cases e <;> exact ⟨by simp, by simp⟩
      cases k <;> first | (cases h; done) | (exact absurd rfl nk.1) | (exact absurd rfl nk.2) | simp [startD, tyK, e, tabInt, wholeB]
  | _ => simp [startD, tyK, tabInt, tabBool, wholeB]
theorem pyEq_int {M : Mem} {a b : Int} : pyEq M (.int a) (.int b) = some (decide (a = b)) := pyEq_enc (T := Int) (vw_int a) (vw_int b)
/-- an order of p purses -/
def isOrd (d : D) (p : Int) : Bool := match d with
  | .tup [.int a, .int b, .int c, .int e] => decide (0 ≤ a ∧ a ≤ p - 1 ∧ 0 ≤ c ∧ c ≤ p - 1 ∧ a ≠ c ∧ 0 ≤ b ∧ b ≤ 99 ∧ 1 ≤ e ∧ e ≤ 1000)
  | _ => false
/-- the items of a tuple are of kinds that are known -/
def itTy (M : Mem) : D → Bool
  | .tup ds => ds.all (okTy M)
  | _ => true
theorem len4 {ds : List D} (h : ds.length = 4) : ∃ a b c e, ds = [a, b, c, e] := by
  match ds, h with
  | [a, b, c, e], _ => exact ⟨a, b, c, e, rfl⟩
theorem wholeB_int {d : D} {lo hi : Int} (h : wholeB d lo hi = true) : ∃ i, d = .int i ∧ lo ≤ i ∧ i ≤ hi := by
  cases d <;> simp [wholeB] at h
  exact ⟨_, rfl, h.1, h.2⟩
theorem isOrd_false {a b c e : D} {p : Int} (h : wholeB a 0 (p - 1) = false ∨ wholeB c 0 (p - 1) = false ∨ wholeB b 0 99 = false ∨ wholeB e 1 1000 = false) : isOrd (.tup [a, b, c, e]) p = false := by
  unfold isOrd
  split
  · rename_i i1 i2 i3 i4 z
    injection z with z
    simp only [List.cons.injEq] at z
    obtain ⟨rfl, rfl, rfl, rfl, _⟩ := z
    simp only [wholeB, Bool.and_eq_false_iff, decide_eq_false_iff_not] at h
    apply decide_eq_false
    omega
  · rfl
theorem sp_is_order {M : Mem} {d : D} {p : Int} (h : okTy M d = true) (hi : itTy M d = true) : S_is_order [d, .int p] M = .ok (.bl (isOrd d p)) M := by
  unfold S_is_order f_is_order
  have notTup : ∀ k, tyK M d = some k → k ≠ .tup → isOrd d p = false → (match decide ([d, D.int p].length = 2) with
      | true => (f_is_order (startD 6 [d, .int p]) M).fin
      | false => .bad) = .ok (.bl (isOrd d p)) M := fun k e hk ho => by
    have hk2 : tabTup k = some false := by
      unfold okTy at h
      rw [e] at h
      cases k <;> first | rfl | (exact absurd rfl hk) | (cases h)
    rw [ho]
    simp [f_is_order, startD, e, hk2]
  cases d with
  | tup ds =>
    by_cases hl : ds.length = 4
    · obtain ⟨a, b, c, e, rfl⟩ := len4 hl
      simp only [itTy, List.all_cons, List.all_nil, Bool.and_true, Bool.and_eq_true] at hi
      obtain ⟨ha, hb, hc, he⟩ := hi
      have w1 := sp_is_whole (lo := 0) (hi := p - 1) ha
      have w2 := sp_is_whole (lo := 0) (hi := p - 1) hc
      have w3 := sp_is_whole (lo := 0) (hi := 99) hb
      have w4 := sp_is_whole (lo := 1) (hi := 1000) he
      have q4 : pyEq M (.int 4) (.int 4) = some true := pyEq_int
      cases x1 : wholeB a 0 (p - 1) with
      | false => simp [startD, tyK, tabTup, q4, w1, x1, isOrd_false (.inl x1)]
      | true =>
        cases x2 : wholeB c 0 (p - 1) with
        | false => simp [startD, tyK, tabTup, q4, w1, w2, x1, x2, isOrd_false (.inr (.inl x2))]
        | true =>
          obtain ⟨i, rfl, i1, i2⟩ := wholeB_int x1
          obtain ⟨j, rfl, j1, j2⟩ := wholeB_int x2
          have q5 : pyEq M (.int i) (.int j) = some (decide (i = j)) := pyEq_int
          by_cases hij : i = j
          · have z : isOrd (.tup [.int i, b, .int j, e]) p = false := by
              unfold isOrd
              split
              · rename_i z
                injection z with z
                simp only [List.cons.injEq, D.int.injEq] at z
                apply decide_eq_false
                omega
              · rfl
            subst hij
            simp [startD, tyK, tabTup, q4, w1, w2, x1, x2, q5, z]
          · cases x3 : wholeB b 0 99 with
            | false => simp [startD, tyK, tabTup, q4, w1, w2, w3, x1, x2, x3, q5, hij, isOrd_false (.inr (.inr (.inl x3)))]
            | true =>
              cases x4 : wholeB e 1 1000 with
              | false => simp [startD, tyK, tabTup, q4, w1, w2, w3, w4, x1, x2, x3, x4, q5, hij, isOrd_false (.inr (.inr (.inr x4)))]
              | true =>
                obtain ⟨k, rfl, k1, k2⟩ := wholeB_int x3
                obtain ⟨l, rfl, l1, l2⟩ := wholeB_int x4
                have z : isOrd (.tup [.int i, .int k, .int j, .int l]) p = true := decide_eq_true ⟨i1, i2, j1, j2, hij, k1, k2, l1, l2⟩
                simp [startD, tyK, tabTup, q4, w1, w2, w3, w4, x1, x2, x3, x4, q5, hij, z]
    · have q4 : pyEq M (.int (ds.length : Nat)) (.int 4) = some false := by
        rw [pyEq_int]
        congr 1
        exact decide_eq_false (by omega)
      have z : isOrd (.tup ds) p = false := by
        unfold isOrd
        split
        · rename_i z
          injection z with z
          subst z
          exact absurd rfl hl
        · rfl
      simp [startD, tyK, tabTup, q4, z]
  | ref n =>
    cases e : tyK M (.ref n) with
    | none => unfold okTy at h; rw [e] at h; cases h
    | some k =>
      refine notTup k e (fun z => ?_) rfl
      subst z
      have z : tyO M n = some .tup := e
      unfold tyO at z
      split at z <;> cases z
  | _ => exact notTup _ rfl (by simp) rfl
end Fl
namespace Fl
open PySem
end Fl
namespace Fl
open PySem
/-! ### orders -/
structure Od where
  p : Int
  n : Int
  g : Int
  m : Int
deriving DecidableEq
def Od.d (o : Od) : D := .tup [.int o.p, .int o.n, .int o.g, .int o.m]
def Od.row (o : Od) : List Int := [o.p, o.n, o.g, o.m]
def Od.ok (o : Od) (k : Int) : Prop := 0 ≤ o.p ∧ o.p ≤ k - 1 ∧ 0 ≤ o.g ∧ o.g ≤ k - 1 ∧ o.p ≠ o.g ∧ 0 ≤ o.n ∧ o.n ≤ 99 ∧ 1 ≤ o.m ∧ o.m ≤ 1000
instance {o : Od} {k : Int} : Decidable (o.ok k) := by unfold Od.ok; infer_instance
theorem Od.ord {o : Od} {k : Int} (h : o.ok k) : isOrd o.d k = true := decide_eq_true h
theorem Od.nord {o : Od} {k : Int} (h : ¬ o.ok k) : isOrd o.d k = false := decide_eq_false h
theorem Od.of {d : D} {k : Int} (h : isOrd d k = true) : ∃ o : Od, d = o.d ∧ o.ok k := by
  unfold isOrd at h
  split at h
  · rename_i a b c e
    exact ⟨⟨a, b, c, e⟩, rfl, of_decide_eq_true h⟩
  · cases h
theorem Od.ty {M : Mem} (o : Od) : okTy M o.d = true := rfl
theorem Od.it {M : Mem} (o : Od) : itTy M o.d = true := rfl
theorem Od.vw {M : Mem} {k : Nat} (o : Od) : Vw M (k + 2) o.d (Tup.mk o.row) := vw_tup (ds := o.row.map .int) (toPys_int o.row)
theorem Od.row_inj {a b : Od} : a.row = b.row ↔ a = b := by
  cases a; cases b
  simp [Od.row]
theorem od_eq {M : Mem} {a b : Od} : pyEq M a.d b.d = some (decide (a = b)) := by
  rw [pyEq_enc (T := Tup Int) (Od.vw a) (Od.vw b)]
  congr 1
  simp [Od.row_inj]
theorem sp_look_order {M : Mem} {d : D} {p : Int} (h : okTy M d = true) (hi : itTy M d = true) : S_look_order [d, .int p] M = ifR (isOrd d p) (.ok .non M) (.exc 8 none M) := by
  unfold S_look_order f_look_order
  have z := sp_is_order (p := p) h hi
  cases e : isOrd d p <;> simp [startD, z, e]
theorem sp_pick {M : Mem} {n : Nat} {ds : List D} (t : Town M) (hn : listAt M n = some ds) (hne : n ≠ 1 ∧ n ≠ 2) (h0 : 0 < ds.length) (h1 : ds.length < 1000000) : ∃ d ∈ ds, ∃ M', S__law_pick [.ref 2, .ref n] M = .ok d M' ∧ Town M' ∧ Fr [1, 2] M M' ∧ M'.length = M.length := by
  obtain ⟨v, M', e, v0, v1, t', f, l⟩ := sp_draw (m := ds.length) t (by omega) (by omega)
  have h := f.list hn (by simp [hne])
  have z : itemAt ds v = some (ds.getD v.toNat .non) := by
    rw [itemAt_int v0 v1, List.getD_eq_getElem?_getD, List.getElem?_eq_getElem (by omega)]; rfl
  refine ⟨ds.getD v.toNat .non, ?_, M', ?_, t', f, l⟩
  · rw [List.getD_eq_getElem?_getD, List.getElem?_eq_getElem (by omega)]
    exact List.getElem_mem _
  · unfold S__law_pick f__law_pick
    simp [startD, hn, e, h, z]
/-! ### sums behind orders -/
def sAt (xs : List Int) (i : Int) : Int := xs.getD i.toNat 0
def mv (xs : List Int) (o : Od) : List Int := (xs.set o.p.toNat (sAt xs o.p - o.m)).set o.g.toNat (sAt (xs.set o.p.toNat (sAt xs o.p - o.m)) o.g + o.m)
end Fl
namespace Fl
open PySem
/-! ### what holds behind statements -/
structure Po where
  n : Sl → Mem → Prop
  b : Sl → Mem → Prop := fun _ _ => False
  c : Sl → Mem → Prop := fun _ _ => False
  r : D → Mem → Prop := fun _ _ => False
  x : Nat → Option (Nat × D) → Sl → Mem → Prop := fun _ _ _ _ => False
def Po.of (q : Po) : SR → Prop
  | .nx s M => q.n s M
  | .bk s M => q.b s M
  | .ct s M => q.c s M
  | .rt d M => q.r d M
  | .exc c f s M => q.x c f s M
  | .bad => False
theorem seq_po {q : Po} {r : SR} {u : SF} (h : Po.of { q with n := fun s M => q.of (u s M) } r) : q.of (r.seq u) := by
  cases r <;> exact h
theorem ret_of {Q : D → Mem → Prop} {r : SR} (h : Po.of { n := fun _ M => Q .non M, r := Q } r) : ∃ d M, r.fin = .ok d M ∧ Q d M := by
  cases r <;> first | exact ⟨_, _, rfl, h⟩ | exact h.elim
theorem Po.imp {q q' : Po} {r : SR} (h : q.of r) (hn : ∀ s M, q.n s M → q'.n s M) (hb : ∀ s M, q.b s M → q'.b s M) (hc : ∀ s M, q.c s M → q'.c s M) (hr : ∀ s M, q.r s M → q'.r s M) (hx : ∀ c f s M, q.x c f s M → q'.x c f s M) : q'.of r := by
  cases r
  · exact hn _ _ h
  · exact hr _ _ h
  · exact hb _ _ h
  · exact hc _ _ h
  · exact hx _ _ _ _ h
  · exact h.elim
/-- the rule of a loop -/
theorem for_po {nx : ItF} {g : GF} {body : SF} {ds : List D} {q : Po} (P : Nat → Sl → Mem → Prop) {s : Sl} {M : Mem} (h0 : P 0 s M) (hn : ∀ i s M, i ≤ ds.length → P i s M → nx i M = some ds[i]?)
    (hs : ∀ i d s M, ds[i]? = some d → P i s M → ∃ s1 M1, g d s M = .ok s1 M1 ∧ Po.of { n := P (i + 1), c := P (i + 1), b := q.n, r := q.r, x := q.x } (body s1 M1))
    (he : ∀ s M, P ds.length s M → q.n s M) : q.of (sForL nx g body (ds.length + 1) 0 s M) := by
  refine for_ind (ds := ds) P q.of h0 hn (fun i d s M hd hp => ?_) he
  obtain ⟨s1, M1, e1, h⟩ := hs i d s M hd hp
  refine ⟨s1, M1, e1, ?_⟩
  cases e : body s1 M1 with
  | nx s2 M2 => rw [e] at h; exact .inl ⟨_, _, .inl rfl, h⟩
  | ct s2 M2 => rw [e] at h; exact .inl ⟨_, _, .inr rfl, h⟩
  | bk s2 M2 => rw [e] at h; exact .inr (.inl ⟨_, _, rfl, h⟩)
  | rt s2 M2 => rw [e] at h; exact .inr (.inr (.inl ⟨_, _, rfl, h⟩))
  | exc c f s2 M2 => rw [e] at h; exact .inr (.inr (.inr ⟨_, _, _, _, rfl, h⟩))
  | bad => rw [e] at h; exact h.elim
section
variable {e : EF} {a : AF} {g : GF} {body u : SF} {s : Sl} {M M0 : Mem} {n : Nat} {ds : List D} {q : Po} {j : Int}
theorem iSeq_L (he : e s M = .ok (.ref n) M0) (hl : listAt M0 n = some ds) : iSeq e s M = .ok (nxL n, ds.length + 1) M0 := by
  unfold iSeq
  rw [he]
  simp only [bind_ok, hl]
theorem iSeq_T (he : e s M = .ok (.tup ds) M0) : iSeq e s M = .ok (nxT ds, ds.length + 1) M0 := by
  unfold iSeq
  rw [he]; rfl
theorem iRng1_R (he : a s M = .ok [.int j] M0) (h0 : 0 ≤ j) (h1 : j < 2 ^ 62) : iRng1 a s M = .ok (nxR 0 j.toNat, j.toNat + 1) M0 := by
  unfold iRng1
  rw [he]
  simp only [bind_ok]
  rw [decide_eq_true (by omega)]
/-- over a list -/
theorem end_forL (P : Nat → Sl → Mem → Prop) (he : e s M = .ok (.ref n) M0) (hl : listAt M0 n = some ds) (h0 : P 0 s M0) (hn : ∀ i s M, P i s M → listAt M n = some ds)
    (hs : ∀ i d s M, ds[i]? = some d → P i s M → ∃ s1 M1, g d s M = .ok s1 M1 ∧ Po.of { n := P (i + 1), c := P (i + 1), b := q.n, r := q.r, x := q.x } (body s1 M1))
    (hk : ∀ s M, P ds.length s M → q.n s M) : q.of (sFor (iSeq e) g body s M) := by
  unfold sFor
  rw [iSeq_L he hl]
  exact for_po P h0 (fun i s M _ hp => nxL_at (hn i s M hp) i) hs hk
theorem go_forL (P : Nat → Sl → Mem → Prop) (he : e s M = .ok (.ref n) M0) (hl : listAt M0 n = some ds) (h0 : P 0 s M0) (hn : ∀ i s M, P i s M → listAt M n = some ds)
    (hs : ∀ i d s M, ds[i]? = some d → P i s M → ∃ s1 M1, g d s M = .ok s1 M1 ∧ Po.of { n := P (i + 1), c := P (i + 1), b := fun s M => q.of (u s M), r := q.r, x := q.x } (body s1 M1))
    (hk : ∀ s M, P ds.length s M → q.of (u s M)) : q.of (sSeq (sFor (iSeq e) g body) u s M) :=
  seq_po (end_forL (q := { q with n := fun s M => q.of (u s M) }) P he hl h0 hn hs hk)
/-! one statement after the other -/
theorem end_nx {t : SF} {s1 : Sl} {M1 : Mem} (h : t s M = .nx s1 M1) (k : q.n s1 M1) : q.of (t s M) := by rw [h]; exact k
end
/-! ### comprehensions -/
section
variable {e te : EF} {a : AF} {g : GF} {tt : TF} {is : List Nat} {s : Sl} {M M0 : Mem} {n k : Nat} {ds : List D} {j : Int}
theorem lc_R (P : Nat → List D → Mem → Prop) (he : a s M = .ok [.int j] M0) (j0 : 0 ≤ j) (j1 : j < 100000) (h0 : P 0 [] M0)
    (hs : ∀ (i : Nat) ys M, (i : Int) < j → P i ys M → ∃ s1 M1 b M2, g (.int i) (wipeD s is) M = .ok s1 M1 ∧ tt s1 M1 = .ok b M2 ∧ ((b = true ∧ ∃ y M3, te s1 M2 = .ok y M3 ∧ P (i + 1) (ys ++ [y]) M3) ∨ (b = false ∧ P (i + 1) ys M2))) :
    ∃ ys M', dLc (iRng1 a) g tt te is s M = .ok (.ref M'.length) (M' ++ [.lst ys]) ∧ P j.toNat ys M' := by
  obtain ⟨ys, M', e1, h⟩ := lc_ind (nx := nxR 0 j.toNat) (g := g) (tt := tt) (te := te) (s := wipeD s is) (ds := (List.range j.toNat).map fun i => D.int (0 + (i : Nat))) (M := M0) P h0 (fun i ys M hi _ => nxR_at i (by simpa using hi)) (fun i d ys M hd hp => by
    rw [List.getElem?_map] at hd
    cases e : (List.range j.toNat)[i]? with
    | none => rw [e] at hd; cases hd
    | some w =>
      have e2 := List.getElem?_eq_some_iff.mp e
      obtain ⟨e3, e4⟩ := e2
      rw [List.getElem_range] at e4
      subst e4
      rw [e] at hd
      simp only [Option.map_some, Int.zero_add, Option.some.injEq] at hd
      subst hd
      rw [List.length_range] at e3
      exact hs i ys M (by omega) hp)
  rw [List.length_map, List.length_range] at h e1
  refine ⟨ys, M', ?_, h⟩
  unfold dLc
  rw [iRng1_R he j0 (by omega)]
  simp only [bind_ok]
  rw [decide_eq_true (Nat.le_trans (by omega : j.toNat + 1 ≤ 100000) (by decide : 100000 ≤ sizeLine))]
  simp only [e1, bind_ok]
theorem lc_pT (p : D → Bool) (v : D → D) (he : e s M = .ok (.tup ds) M) (hlen : ds.length < 100000)
    (hs : ∀ d ∈ ds, ∃ s1, g d (wipeD s is) M = .ok s1 M ∧ tt s1 M = .ok (p d) M ∧ (p d = true → te s1 M = .ok (v d) M)) : dLc (iSeq e) g tt te is s M = .ok (.ref M.length) (M ++ [.lst ((ds.filter p).map v)]) := by
  unfold dLc
  rw [iSeq_T he]
  simp only [bind_ok]
  rw [decide_eq_true (Nat.le_trans (by omega : ds.length + 1 ≤ 100000) (by decide : 100000 ≤ sizeLine))]
  simp only [lc_pure p v (fun i _ => nxT_at i) hs, bind_ok]
theorem filter_all {A : Type} {l : List A} : l.filter (fun _ => true) = l := List.filter_eq_self.mpr (by simp)
theorem lc_mT (v : D → D) (he : e s M = .ok (.tup ds) M) (hlen : ds.length < 100000)
    (hs : ∀ d ∈ ds, te ((wipeD s is).set k (some d)) M = .ok (v d) M) : dLc (iSeq e) (gN k) tYesF te is s M = .ok (.ref M.length) (M ++ [.lst (ds.map v)]) := by
  have z := lc_pT (g := gN k) (tt := tYesF) (te := te) (is := is) (fun _ => true) v he hlen fun d hd => ⟨_, rfl, rfl, fun _ => hs d hd⟩
  rw [filter_all] at z
  exact z
end
/-! ### small things -/
theorem ty_lst {M : Mem} {n : Nat} {ds : List D} (h : M[n]? = some (.lst ds)) : tyK M (.ref n) = some .lst := by
  show tyO M n = _
  unfold tyO
  rw [h]
theorem tyLst_of {M : Mem} {n : Nat} {ds : List D} (h : M[n]? = some (.lst ds)) : tyLst (.ref n) M = true := by
  unfold tyLst
  simp [listAt_of h]
theorem Town.app {M T : Mem} (t : Town M) : Town (M ++ T) := t.fr (A := []) Fr.app (by simp) (by simp)
theorem sp_pickL {M : Mem} {ds : List D} (t : Town M) (h0 : 0 < ds.length) (h1 : ds.length < 1000000) : ∃ d ∈ ds, ∃ M', S__law_pick [.ref 2, .ref M.length] (M ++ [.lst ds]) = .ok d M' ∧ Town M' ∧ Fr [1, 2] M M' ∧ M'.length = M.length + 1 := by
  obtain ⟨d, hd, M', e, t', f, l⟩ := sp_pick (t.app (T := [.lst ds])) (n := M.length) listAt_new (by have := t.lt; omega) h0 h1
  exact ⟨d, hd, M', e, t', Fr.app.trans f, by rw [l]; simp⟩
end Fl
namespace Fl
open PySem
/-! ### texts -/
theorem str_len (a b : Str) : (a ++ b).length = a.length + b.length := by
  show (a.cps ++ b.cps).size = _
  rw [Array.size_append]; rfl
/-- a number's text -/
def nt (i : Int) : Str := Str.ofString (toString i)
theorem nt_len {i : Int} (h0 : 0 ≤ i) (h1 : i ≤ 1000) : (nt i).length ≤ 4 := by
  have z : ∀ k, k < 1001 → (nt (k : Nat)).length ≤ 4 := by decide +kernel
  have := z i.toNat (by omega)
  rwa [show ((i.toNat : Nat) : Int) = i by omega] at this
theorem dFmt_int {e : EF} {s : Sl} {M M0 : Mem} {i : Int} (he : e s M = .ok (.int i) M0) (h0 : 0 ≤ i) (h1 : i ≤ 1000) : dFmt e s M = .ok (.str (nt i)) M0 := by
  unfold dFmt
  rw [he]
  simp only [bind_ok]
  have z : i.natAbs.log2 < 1920 := Nat.lt_of_le_of_lt (Nat.log2_le_self _) (by omega)
  rw [decide_eq_true z]
  rfl
theorem jc {e : EF} {f : JF} {acc y : Str} {s : Sl} {M M0 : Mem} (he : e s M = .ok (.str y) M0) (hl : (acc ++ y).length ≤ 1000) : jCons e f acc s M = f (acc ++ y) s M0 := by
  unfold jCons
  rw [he]
  simp only [bind_ok]
  rw [decide_eq_true (le_line hl)]
def oText (o : Od) : Str := Str.empty ++ nt o.p ++ Str.ofString "." ++ nt o.n ++ Str.ofString ": " ++ nt o.m ++ Str.ofString " to " ++ nt o.g
theorem sp_order_text {M : Mem} {o : Od} (h : o.ok 8) : S_order_text [o.d] M = .ok (.str (oText o)) M := by
  have z := sp_look_order (p := 8) (Od.ty (M := M) o) (Od.it o)
  rw [Od.ord h] at z
  obtain ⟨h1, h2, h3, h4, h5, h6, h7, h8, h9⟩ := h
  have l1 := nt_len h1 (by omega)
  have l2 := nt_len h6 (by omega)
  have l3 := nt_len (i := o.m) (by omega) (by omega)
  have l4 := nt_len h3 (by omega)
  have e0 : Str.empty.length = 0 := by decide +kernel
  have e1 : (Str.ofString ".").length = 1 := by decide +kernel
  have e2 : (Str.ofString ": ").length = 2 := by decide +kernel
  have e3 : (Str.ofString " to ").length = 4 := by decide +kernel
  have key : ∃ d M', (f_order_text (startD 5 [o.d]) M).fin = .ok d M' ∧ (d = .str (oText o) ∧ M' = M) := by
    refine ret_of (Q := fun d M' => d = .str (oText o) ∧ M' = M) ?_
    unfold f_order_text
    refine go_nx (by simp [startD, z]; exact ⟨rfl, rfl⟩) ?_
    refine go_nx (s1 := [some o.d, some (.int o.p), some (.int o.n), some (.int o.g), some (.int o.m)]) (M1 := M) (by simp [Od.d]) ?_
    have j : dJoin (jCons (dFmt (dVar 1)) (jCons (dC (.str (Str.ofString "."))) (jCons (dFmt (dVar 2)) (jCons (dC (.str (Str.ofString ": "))) (jCons (dFmt (dVar 4)) (jCons (dC (.str (Str.ofString " to "))) (jCons (dFmt (dVar 3)) jNil)))))))
        [some o.d, some (.int o.p), some (.int o.n), some (.int o.g), some (.int o.m)] M = .ok (.str (oText o)) M := by
      unfold dJoin
      rw [jc (dFmt_int rfl h1 (by omega)) (by simp only [str_len]; omega), jc rfl (by simp only [str_len]; omega), jc (dFmt_int rfl h6 (by omega)) (by simp only [str_len]; omega), jc rfl (by simp only [str_len]; omega), jc (dFmt_int rfl (by omega) (by omega)) (by simp only [str_len]; omega), jc rfl (by simp only [str_len]; omega), jc (dFmt_int rfl h3 (by omega)) (by simp only [str_len]; omega)]
      rfl
    refine go_end (r := .rt (.str (oText o)) M) ?_ ⟨rfl, rfl⟩
    rw [sRet_ap, j]; rfl
  obtain ⟨d, M', e, rfl, rfl⟩ := key
  unfold S_order_text
  simpa using e
theorem eqs_str {a b : Str} : PyData.eqv (.str a) (.str b) = true ↔ a = b := by simp [PyData.eqv]
/-- a text that can be laid -/
abbrev TX := { a : Str // PyData.strOk a = true }
instance : Enc TX where
  enc := fun a => .str a.1
  dp := 0
  eq := fun a b => by rw [eqs_str]; exact ⟨Subtype.ext, fun h => by rw [h]⟩
  lay := fun a => by rw [PyData.canLay0]; exact a.2
  dep := fun a => by simp [PyData.depth]
theorem pyEq_str {M : Mem} {a b : Str} (ha : PyData.strOk a = true) (hb : PyData.strOk b = true) : pyEq M (.str a) (.str b) = some (decide (a = b)) := by
  rw [pyEq_enc (T := TX) (a := ⟨a, ha⟩) (b := ⟨b, hb⟩) (show toPy M 9 (.str a) = _ from rfl) (show toPy M 9 (.str b) = _ from rfl)]
  congr 1
  simp
/-! ### sums of what is no order -/
end Fl
namespace Fl
open PySem PySem.NumText TL
/-! ### texts: numbers, orders, papers -/
theorem sOk_iff {x : Str} : PyData.strOk x = true ↔ ∀ c ∈ tl x, c < 0x110000 := by
  unfold PyData.strOk
  rw [← Array.all_toList, List.all_eq_true]
  exact ⟨fun h c hc => of_decide_eq_true (h c hc), fun h c hc => decide_eq_true (h c hc)⟩
theorem sOk_app {x y : Str} (hx : PyData.strOk x = true) (hy : PyData.strOk y = true) : PyData.strOk (x ++ y) = true := by
  rw [sOk_iff] at *
  intro c hc
  rw [tl_append] at hc
  rcases List.mem_append.mp hc with h | h
  · exact hx c h
  · exact hy c h
theorem sOk_cut {x : Str} {lo hi : Option Int} (hx : PyData.strOk x = true) : PyData.strOk (L2.cutS x lo hi) = true := by
  rw [sOk_iff] at *
  intro c hc
  refine hx c ?_
  have e : tl (L2.cutS x lo hi) = ((tl x).drop (HT.sIx x.length 0 lo)).take (HT.sIx x.length x.length hi - HT.sIx x.length 0 lo) := rfl
  rw [e] at hc
  exact List.mem_of_mem_drop (List.mem_of_mem_take hc)
/-! numbers -/
def dig (c : Nat) : Bool := decide (c ∈ (Str.ofString "0123456789").cps.toList)
theorem dig_iff {c : Nat} : dig c = true ↔ 48 ≤ c ∧ c ≤ 57 := by
  unfold dig
  have e : (Str.ofString "0123456789").cps.toList = [48, 49, 50, 51, 52, 53, 54, 55, 56, 57] := by decide +kernel
  rw [e, decide_eq_true_eq]
  simp
  omega
def wordB (w : Str) : Bool := (decide (1 ≤ w.length) && decide (w.length ≤ 4) && (tl w).all dig) && !(decide (1 < w.length) && decide ((tl w).head? = some 48))
def wordV (w : Str) : Int := (digitsVal (tl w) : Nat)
theorem wordB_iff {w : Str} : wordB w = true ↔ (1 ≤ w.length ∧ w.length ≤ 4) ∧ AllDigits (tl w) ∧ ¬ (1 < w.length ∧ (tl w).head? = some 48) := by
  unfold wordB
  simp only [Bool.and_eq_true, decide_eq_true_eq, List.all_eq_true, Bool.not_eq_true', Bool.and_eq_false_iff, decide_eq_false_iff_not, dig_iff]
  constructor
  · rintro ⟨⟨h1, h2⟩, h3⟩
    exact ⟨h1, h2, by rintro ⟨a, b⟩; rcases h3 with h3 | h3 <;> contradiction⟩
  · rintro ⟨h1, h2, h3⟩
    refine ⟨⟨h1, h2⟩, ?_⟩
    by_cases q : 1 < w.length
    · exact .inr fun z => h3 ⟨q, z⟩
    · exact .inl q
theorem tl_nt (n : Nat) : tl (nt (n : Int)) = numL n := tl_num n
theorem word_nt {w : Str} (h : wordB w = true) : nt (wordV w) = w := by
  obtain ⟨⟨h1, h2⟩, h3, h4⟩ := wordB_iff.mp h
  refine ext_tl ?_
  unfold wordV
  rw [tl_nt]
  unfold numL
  have hl := len_tl w
  generalize tl w = cs at *
  rw [toDigits_digitsVal (cs.length - 1) cs (by omega) h3 ?_]
  · rw [List.map_map]
    refine (List.map_congr_left fun c hc => ?_).trans (List.map_id cs)
    have z : ∀ c, c < 58 → (Char.ofNat c).toNat = c := by decide
    exact z c (by have := h3 c hc; omega)
  · by_cases q : cs.length - 1 = 0
    · exact .inl q
    · refine .inr ?_
      cases cs with
      | nil => simp at hl; omega
      | cons c r =>
        refine ⟨c, r, rfl, ?_⟩
        have := h3 c List.mem_cons_self
        have z : c ≠ 48 := fun e => h4 ⟨by omega, by rw [e]; rfl⟩
        omega
theorem word_int {w : Str} (h : wordB w = true) : intText? w = some (wordV w) := by
  obtain ⟨⟨h1, h2⟩, h3, h4⟩ := wordB_iff.mp h
  refine intText_digits h3 (fun e => ?_) (by omega)
  have hl := len_tl w
  have e' : tl w = [] := e
  rw [e'] at hl
  simp at hl
  omega
theorem word_0 {w : Str} : 0 ≤ wordV w := Int.natCast_nonneg _
theorem nt_word {i : Int} (h0 : 0 ≤ i) (h1 : i ≤ 1000) : wordB (nt i) = true ∧ wordV (nt i) = i := by
  have z : ∀ k, k < 1001 → wordB (nt (k : Nat)) = true ∧ wordV (nt (k : Nat)) = (k : Nat) := by decide +kernel
  have := z i.toNat (by omega)
  rwa [show ((i.toNat : Nat) : Int) = i by omega] at this
theorem nt_free {i : Int} {s : Nat} (h0 : 0 ≤ i) (h : s < 48 ∨ 57 < s) : s ∉ tl (nt i) := by
  have e : i = ((i.toNat : Nat) : Int) := by omega
  rw [e, tl_nt]
  exact numL_free h
theorem nt_ok {i : Int} (h0 : 0 ≤ i) : PyData.strOk (nt i) = true := by
  rw [sOk_iff]
  intro c hc
  have e : i = ((i.toNat : Nat) : Int) := by omega
  rw [e, tl_nt] at hc
  have := numL_digits _ c hc
  omega
theorem nt_ne {i : Int} (h0 : 0 ≤ i) : tl (nt i) ≠ [] := by
  have e : i = ((i.toNat : Nat) : Int) := by omega
  rw [e, tl_nt]
  exact numL_ne _
/-! splits -/
abbrev yC : Str := Str.ofString ": "
abbrev yD : Str := Str.ofString "."
abbrev yT : Str := Str.ofString " to "
abbrev yB : Str := Str.ofString " by "
abbrev yS : Str := Str.ofString " "
abbrev y0 : Str := Str.ofString ""
theorem tlC : tl yC = [58, 32] := by decide +kernel
theorem tlD : tl yD = [46] := by decide +kernel
theorem tlT : tl yT = [32, 116, 111, 32] := by decide +kernel
theorem tlB : tl yB = [32, 98, 121, 32] := by decide +kernel
theorem tlS : tl yS = [32] := by decide +kernel
theorem tl0 : tl y0 = [] := by decide +kernel
theorem split2_eq {a y l r : Str} (h : Txt.split a y = [l, r]) : l ++ y ++ r = a := by
  have z := StrLaws.join_split a y
  rw [h] at z
  exact z
theorem split_two {y : Str} {s : Nat} {S : List Nat} (ey : tl y = s :: S) (hk : y.cps.all (· < 256) = true) {a b : Str} (ha : s ∉ tl a) (hb : s ∉ tl b) : Txt.split (a ++ y ++ b) y = [a, b] := by
  have z := split_join (parts := [a, b]) ey hk (by simp) (by intro p hp; simp only [List.mem_cons, List.not_mem_nil, or_false] at hp; rcases hp with rfl | rfl; exact ha; exact hb)
  rw [join_eq] at z
  exact z
/-- the second sign of the separator stands in neither part, and is not its first -/
theorem split_two2 {y : Str} {s t : Nat} {S : List Nat} (ey : tl y = s :: t :: S) (hne : t ≠ s) (hk : y.cps.all (· < 256) = true) {a b : Str} (ha : t ∉ tl a) (hb : t ∉ tl b) : Txt.split (a ++ y ++ b) y = [a, b] := by
  have key : ∀ (l : List Nat), t ∉ l.drop 1 ∨ l.length ≤ 1 → (∀ c, l[1]? = some c → c ≠ t) → pre (s :: t :: S) l = false := by
    intro l _ h
    cases hp : pre (s :: t :: S) l with
    | false => rfl
    | true =>
      exfalso
      have e : l.take (s :: t :: S).length = s :: t :: S := eq_of_beq hp
      have e2 : (l.take (s :: t :: S).length)[1]? = some t := by rw [e]; rfl
      rw [List.getElem?_take] at e2
      split at e2
      · exact h t e2 rfl
      · cases e2
  refine map_tl_inj ?_
  rw [split_spl _ y (by rw [ey]; simp) (kind_ok hk), tl_append, tl_append, ey, List.append_assoc]
  have hS : (s :: t :: S) ≠ [] := by simp
  rw [spl_part hS ?_, spl_last ?_]
  · simp
  · intro i hi
    refine key _ (.inl fun z => hb (List.mem_of_mem_drop (List.mem_of_mem_drop z))) fun c hc => ?_
    rw [List.getElem?_drop] at hc
    intro e
    subst e
    exact hb (List.mem_of_getElem? hc)
  · intro i hi
    have nx : ∀ c, ((tl a ++ (s :: t :: S ++ tl b)).drop i)[1]? = some c → c ≠ t := by
      intro c hc e
      subst e
      rw [List.getElem?_drop] at hc
      by_cases q : i + 1 < (tl a).length
      · rw [List.getElem?_append_left q] at hc
        exact ha (List.mem_of_getElem? hc)
      · rw [List.getElem?_append_right (by omega), show i + 1 - (tl a).length = 0 by omega] at hc
        simp at hc
        exact hne hc.symm
    by_cases q : ((tl a ++ (s :: t :: S ++ tl b)).drop i).length ≤ 1
    · exact key _ (.inr q) nx
    · cases hp : pre (s :: t :: S) ((tl a ++ (s :: t :: S ++ tl b)).drop i) with
      | false => rfl
      | true =>
        exfalso
        have e : ((tl a ++ (s :: t :: S ++ tl b)).drop i).take (s :: t :: S).length = s :: t :: S := eq_of_beq hp
        have e2 : (((tl a ++ (s :: t :: S ++ tl b)).drop i).take (s :: t :: S).length)[1]? = some t := by rw [e]; rfl
        rw [List.getElem?_take] at e2
        split at e2
        · exact nx t e2 rfl
        · cases e2
/-! orders -/
def ordS (w : Str) : Option Od := match Txt.split w yC with
  | [l, r] => (match Txt.split l yD, Txt.split r yT with
    | [a, b], [c, d] => if (wordB a && wordB b && wordB d && wordB c) = true ∧ (⟨wordV a, wordV b, wordV d, wordV c⟩ : Od).ok 8 then some ⟨wordV a, wordV b, wordV d, wordV c⟩ else none
    | _, _ => none)
  | _ => none
theorem ordS_some {w : Str} {o : Od} (h : ordS w = some o) : ∃ l r a b c d, Txt.split w yC = [l, r] ∧ Txt.split l yD = [a, b] ∧ Txt.split r yT = [c, d] ∧ wordB a = true ∧ wordB b = true ∧ wordB d = true ∧ wordB c = true ∧ o = ⟨wordV a, wordV b, wordV d, wordV c⟩ ∧ o.ok 8 := by
  unfold ordS at h
  split at h
  · rename_i l r e1
    split at h
    · rename_i a b c d e2 e3
      split at h
      · rename_i q
        cases h
        obtain ⟨q1, q2⟩ := q
        simp only [Bool.and_eq_true] at q1
        exact ⟨l, r, a, b, c, d, e1, e2, e3, q1.1.1.1, q1.1.1.2, q1.1.2, q1.2, rfl, q2⟩
      · cases h
    · cases h
  · cases h
theorem ordS_text {w : Str} {o : Od} (h : ordS w = some o) : oText o = w ∧ o.ok 8 := by
  obtain ⟨l, r, a, b, c, d, e1, e2, e3, h1, h2, h3, h4, rfl, ok⟩ := ordS_some h
  refine ⟨?_, ok⟩
  have z1 := split2_eq e1
  have z2 := split2_eq e2
  have z3 := split2_eq e3
  unfold oText
  simp only
  rw [word_nt h1, word_nt h2, word_nt h3, word_nt h4]
  rw [← z1, ← z2, ← z3]
  refine ext_tl ?_
  simp only [tl_append, List.append_assoc]
  rfl
theorem oText_eq (o : Od) : oText o = (nt o.p ++ yD ++ nt o.n) ++ yC ++ (nt o.m ++ yT ++ nt o.g) := by
  refine ext_tl ?_
  unfold oText
  simp only [tl_append, List.append_assoc]
  rfl
theorem text_ordS {o : Od} (h : o.ok 8) : ordS (oText o) = some o := by
  have ok := h
  obtain ⟨h1, h2, h3, h4, h5, h6, h7, h8, h9⟩ := h
  have s1 : Txt.split (oText o) yC = [nt o.p ++ yD ++ nt o.n, nt o.m ++ yT ++ nt o.g] := by
    rw [oText_eq]
    refine split_two tlC (by decide +kernel) ?_ ?_
    · rw [tl_append, tl_append, tlD]
      simp only [List.mem_append, List.mem_singleton, not_or]
      exact ⟨⟨nt_free h1 (by omega), by omega⟩, nt_free h6 (by omega)⟩
    · rw [tl_append, tl_append, tlT]
      simp only [List.mem_append, List.mem_cons, List.not_mem_nil, or_false, not_or]
      exact ⟨⟨nt_free (by omega) (by omega), by omega, by omega, by omega, by omega⟩, nt_free h3 (by omega)⟩
  have s2 : Txt.split (nt o.p ++ yD ++ nt o.n) yD = [nt o.p, nt o.n] := split_two tlD (by decide +kernel) (nt_free h1 (by omega)) (nt_free h6 (by omega))
  have s3 : Txt.split (nt o.m ++ yT ++ nt o.g) yT = [nt o.m, nt o.g] := split_two tlT (by decide +kernel) (nt_free (by omega) (by omega)) (nt_free h3 (by omega))
  have w1 := nt_word h1 (by omega)
  have w2 := nt_word h6 (by omega)
  have w3 := nt_word (i := o.m) (by omega) (by omega)
  have w4 := nt_word h3 (by omega)
  unfold ordS
  rw [s1]
  simp only [s2, s3, w1, w2, w3, w4, Bool.and_self, true_and]
  rw [if_pos ok]
/-! papers -/
def pText (o : Od) (ss : List Int) : Str := oText o ++ yB ++ Txt.join yS (ss.map nt)
def sigS (r : Str) : List Str := if r = y0 then [] else Txt.split r yS
def papS (w : Str) : Option (Od × List Int) := match Txt.split w yB with
  | [l, r] => if (sigS r).all wordB = true ∧ ∀ x ∈ sigS r, wordV x ≤ 15 then (match ordS l with
    | some o => some (o, (sigS r).map wordV)
    | none => none) else none
  | _ => none
theorem papS_some {w : Str} {o : Od} {ss : List Int} (h : papS w = some (o, ss)) : ∃ l r, Txt.split w yB = [l, r] ∧ (sigS r).all wordB = true ∧ (∀ x ∈ sigS r, wordV x ≤ 15) ∧ ordS l = some o ∧ ss = (sigS r).map wordV := by
  unfold papS at h
  split at h
  · rename_i l r e1
    split at h
    · rename_i q
      split at h
      · rename_i o' e2
        cases h
        exact ⟨l, r, e1, q.1, q.2, e2, rfl⟩
      · cases h
    · cases h
  · cases h
theorem join_sigS (r : Str) : Txt.join yS (sigS r) = r := by
  rw [join_eq]
  unfold sigS
  split
  · rename_i e; rw [e]; rfl
  · exact StrLaws.join_split r yS
theorem papS_text {w : Str} {o : Od} {ss : List Int} (h : papS w = some (o, ss)) : pText o ss = w ∧ o.ok 8 ∧ ∀ i ∈ ss, 0 ≤ i ∧ i ≤ 15 := by
  obtain ⟨l, r, e1, h1, h2, h3, rfl⟩ := papS_some h
  obtain ⟨t, ok⟩ := ordS_text h3
  have em : ((sigS r).map wordV).map nt = sigS r := by
    rw [List.map_map]
    refine (List.map_congr_left fun x hx => ?_).trans (List.map_id _)
    exact word_nt (List.all_eq_true.mp h1 x hx)
  refine ⟨?_, ok, ?_⟩
  · unfold pText
    rw [t, em, join_sigS]
    exact split2_eq e1
  · intro i hi
    obtain ⟨x, hx, rfl⟩ := List.mem_map.mp hi
    exact ⟨word_0, h2 x hx⟩
theorem mem_joinL {S : List Nat} {c : Nat} : ∀ {ps : List (List Nat)}, c ∈ joinL S ps → c ∈ S ∨ ∃ p ∈ ps, c ∈ p
  | [], h => by cases h
  | [p], h => .inr ⟨p, by simp, h⟩
  | p :: q :: r, h => by
    have h : c ∈ p ++ (S ++ joinL S (q :: r)) := h
    simp only [List.mem_append] at h
    rcases h with h | h | h
    · exact .inr ⟨p, by simp, h⟩
    · exact .inl h
    · rcases mem_joinL h with z | ⟨x, hx, hc⟩
      · exact .inl z
      · exact .inr ⟨x, List.mem_cons_of_mem _ hx, hc⟩
theorem len_joinL {S : List Nat} {k : Nat} : ∀ {ps : List (List Nat)}, (∀ p ∈ ps, p.length ≤ k) → (joinL S ps).length ≤ ps.length * (k + S.length)
  | [], _ => by simp [joinL]
  | [p], h => by
    have := h p (by simp)
    show p.length ≤ 1 * _
    omega
  | p :: q :: r, h => by
    have h1 := h p (by simp)
    have h2 := len_joinL (S := S) (k := k) (ps := q :: r) fun x hx => h x (List.mem_cons_of_mem _ hx)
    show (p ++ (S ++ joinL S (q :: r))).length ≤ _
    rw [List.length_append, List.length_append, List.length_cons, Nat.add_mul]
    omega
theorem mem_tl_join {c : Nat} {ps : List Str} (h : c ∈ tl (Txt.join yS ps)) : c = 32 ∨ ∃ p ∈ ps, c ∈ tl p := by
  rw [join_eq, tl_join, tlS] at h
  rcases mem_joinL h with z | ⟨p, hp, hc⟩
  · exact .inl (List.mem_singleton.mp z)
  · obtain ⟨x, hx, rfl⟩ := List.mem_map.mp hp
    exact .inr ⟨x, hx, hc⟩
theorem text_papS {o : Od} {ss : List Int} (h : o.ok 8) (hs : ∀ i ∈ ss, 0 ≤ i ∧ i ≤ 15) : papS (pText o ss) = some (o, ss) := by
  have t := text_ordS h
  obtain ⟨h1, h2, h3, h4, h5, h6, h7, h8, h9⟩ := h
  have s1 : Txt.split (pText o ss) yB = [oText o, Txt.join yS (ss.map nt)] := by
    unfold pText
    refine split_two2 tlB (by omega) (by decide +kernel) ?_ ?_
    · rw [oText_eq]
      simp only [tl_append, tlC, tlD, tlT, List.mem_append, List.mem_cons, List.not_mem_nil, or_false, not_or]
      exact ⟨⟨⟨⟨nt_free h1 (by omega), by omega⟩, nt_free h6 (by omega)⟩, by omega, by omega⟩, ⟨nt_free (by omega) (by omega), by omega, by omega, by omega, by omega⟩, nt_free h3 (by omega)⟩
    · intro z
      rcases mem_tl_join z with z | ⟨p, hp, hc⟩
      · omega
      · obtain ⟨i, hi, rfl⟩ := List.mem_map.mp hp
        exact nt_free (hs i hi).1 (by omega) hc
  have s2 : sigS (Txt.join yS (ss.map nt)) = ss.map nt := by
    unfold sigS
    cases ss with
    | nil => rfl
    | cons i r =>
      rw [if_neg, split_join tlS (by decide +kernel) (by simp)]
      · intro p hp
        obtain ⟨j, hj, rfl⟩ := List.mem_map.mp hp
        exact nt_free (hs j hj).1 (by omega)
      · intro e
        have e2 := congrArg tl e
        rw [join_eq, tl_join, tl0, List.map_cons, List.map_cons] at e2
        have ne := nt_ne (hs i List.mem_cons_self).1
        cases hr : (r.map nt).map tl with
        | nil => rw [hr] at e2; exact ne e2
        | cons x y =>
          rw [hr] at e2
          have e3 : tl (nt i) ++ (tl yS ++ joinL (tl yS) (x :: y)) = [] := e2
          exact ne (List.append_eq_nil_iff.mp e3).1
  have w : ∀ i ∈ ss, wordB (nt i) = true ∧ wordV (nt i) = i := fun i hi => nt_word (hs i hi).1 (by have := (hs i hi).2; omega)
  unfold papS
  rw [s1]
  simp only [s2, t]
  have e1 : (ss.map nt).map wordV = ss := by
    rw [List.map_map]
    exact (List.map_congr_left fun x hx => (w x hx).2).trans (List.map_id _)
  rw [if_pos, e1]
  refine ⟨List.all_eq_true.mpr fun x hx => ?_, fun x hx => ?_⟩
  · obtain ⟨i, hi, rfl⟩ := List.mem_map.mp hx
    exact (w i hi).1
  · obtain ⟨i, hi, rfl⟩ := List.mem_map.mp hx
    rw [(w i hi).2]
    exact (hs i hi).2
/-! lengths -/
theorem oText_len {o : Od} (h : o.ok 8) : (oText o).length ≤ 23 := by
  obtain ⟨h1, h2, h3, h4, h5, h6, h7, h8, h9⟩ := h
  have l1 := nt_len h1 (by omega)
  have l2 := nt_len h6 (by omega)
  have l3 := nt_len (i := o.m) (by omega) (by omega)
  have l4 := nt_len h3 (by omega)
  have e1 : yD.length = 1 := by decide +kernel
  have e2 : yC.length = 2 := by decide +kernel
  have e3 : yT.length = 4 := by decide +kernel
  rw [oText_eq]
  simp only [str_len]
  omega
theorem oText_ok {o : Od} (h : o.ok 8) : PyData.strOk (oText o) = true := by
  obtain ⟨h1, h2, h3, h4, h5, h6, h7, h8, h9⟩ := h
  rw [oText_eq]
  have a1 : PyData.strOk yD = true := by decide +kernel
  have a2 : PyData.strOk yC = true := by decide +kernel
  have a3 : PyData.strOk yT = true := by decide +kernel
  exact sOk_app (sOk_app (sOk_app (sOk_app (nt_ok h1) a1) (nt_ok h6)) a2) (sOk_app (sOk_app (nt_ok (by omega)) a3) (nt_ok h3))
theorem join_len {ss : List Int} (hs : ∀ i ∈ ss, 0 ≤ i ∧ i ≤ 1000) : (Txt.join yS (ss.map nt)).length ≤ ss.length * 5 := by
  rw [len_tl, join_eq, tl_join, tlS]
  have z := len_joinL (S := [32]) (k := 4) (ps := (ss.map nt).map tl) (by
    intro p hp
    obtain ⟨x, hx, rfl⟩ := List.mem_map.mp hp
    obtain ⟨i, hi, rfl⟩ := List.mem_map.mp hx
    rw [← len_tl]
    exact nt_len (hs i hi).1 (hs i hi).2)
  simpa using z
theorem join_ok {ss : List Int} (hs : ∀ i ∈ ss, 0 ≤ i) : PyData.strOk (Txt.join yS (ss.map nt)) = true := by
  rw [sOk_iff]
  intro c hc
  rcases mem_tl_join hc with z | ⟨p, hp, hc⟩
  · omega
  · obtain ⟨i, hi, rfl⟩ := List.mem_map.mp hp
    exact sOk_iff.mp (nt_ok (hs i hi)) c hc
end Fl
namespace Fl
open PySem
/-! ### what a refusal is called -/
theorem tabX_exc {c k : Nat} (h : isEx c = true) : tabX k (.exc c) = some (exSub c k) := by
  simp only [tabX, h]
theorem tabVE_exc {c : Nat} (h : isEx c = true) : tabVE (.exc c) = some true := by
  simp only [tabVE, h]
theorem eqv_bl (a b : Bool) : PyData.eqv (.bool a) (.bool b) = decide (a = b) := Enc.eqv (T := Bool) a b
theorem two_bl {M : Mem} {bs : List Bool} : twoPy M (.bl true) (bs.map .bl) = some (.bool true, bs.map .bool) := by
  have e1 : toPy M 9 (.bl true) = some (.bool true) := rfl
  have e2 : allSome (toPy M 8) (bs.map .bl) = some (bs.map .bool) := allSome_map fun a _ => rfl
  have e3 : SeqAt.shaped (.bool true) = true := Enc.shaped (T := Bool) (by decide) true
  have e4 : SeqAt.shaped (.list (bs.map .bool)) = true := Enc.shaped (T := List Bool) (by decide) bs
  unfold twoPy
  rw [e1, e2]
  simp only [e3, e4, Bool.and_self]
theorem cnt_bl {M : Mem} {n : Nat} {bs : List Bool} (h : M[n]? = some (.lst (bs.map .bl))) : onLst gCount (.ref n) [.bl true] M = .ok (.int (bs.countP id : Nat)) M := by
  have e : seqOf M (.ref n) = some (bs.map .bl) := listAt_of h
  unfold onLst
  rw [tyLst_of h]
  unfold gCount
  simp only [e, two_bl, List.countP_map]
  congr 3
  refine List.countP_congr fun x _ => ?_
  simp [eqv_bl]
theorem find_bl : ∀ bs : List Bool, findAt (bs.map .bool) (.bool true) = bs.findIdx? id
  | [] => rfl
  | b :: bs => by
    rw [List.map_cons, findAt, eqv_bl, List.findIdx?_cons, find_bl bs]
    cases b <;> simp
theorem ix_bl {M : Mem} {n j : Nat} {bs : List Bool} (h : M[n]? = some (.lst (bs.map .bl))) (hj : bs.findIdx? id = some j) : onLst gIndex (.ref n) [.bl true] M = .ok (.int j) M := by
  have e : seqOf M (.ref n) = some (bs.map .bl) := listAt_of h
  unfold onLst
  rw [tyLst_of h]
  unfold gIndex
  simp only [e, two_bl, find_bl, hj]
def words : List Str := ["number", "order", "houses", "house", "purse", "letter", "now", "much", "paper", "cut", "text"]
def word (c : Nat) : Str := words.getD (c - 7) ""
theorem sp_refusal {M : Mem} {n c : Nat} {f : Option (Nat × D)} (h : M[n]? = some (.exc c f)) (h1 : 7 ≤ c) (h2 : c ≤ 17) : ∃ M', S__law_refusal [.ref n] M = .ok (.str (word c)) M' ∧ Fr [] M M' := by
  have ex : isEx c = true := by
    have z : ∀ c, c < 18 → 7 ≤ c → isEx c = true := by decide
    exact z c (by omega) h1
  have ct : [exSub c 7, exSub c 8, exSub c 9, exSub c 10, exSub c 11, exSub c 12, exSub c 13, exSub c 14, exSub c 15, exSub c 16, exSub c 17].countP id = 1 := by
    have z : ∀ c, c < 18 → 7 ≤ c → [exSub c 7, exSub c 8, exSub c 9, exSub c 10, exSub c 11, exSub c 12, exSub c 13, exSub c 14, exSub c 15, exSub c 16, exSub c 17].countP id = 1 := by decide
    exact z c (by omega) h1
  have ix : [exSub c 7, exSub c 8, exSub c 9, exSub c 10, exSub c 11, exSub c 12, exSub c 13, exSub c 14, exSub c 15, exSub c 16, exSub c 17].findIdx? id = some (c - 7) := by
    have z : ∀ c, c < 18 → 7 ≤ c → [exSub c 7, exSub c 8, exSub c 9, exSub c 10, exSub c 11, exSub c 12, exSub c 13, exSub c 14, exSub c 15, exSub c 16, exSub c 17].findIdx? id = some (c - 7) := by decide
    exact z c (by omega) h1
  have e6 : exSub c 6 = true := by
    have z : ∀ c, c < 18 → 7 ≤ c → exSub c 6 = true := by decide
    exact z c (by omega) h1
  have ty : ∀ T, tyK (M ++ T) (.ref n) = some (.exc c) := fun T => by
    show tyO (M ++ T) n = _
    unfold tyO
    rw [List.getElem?_append_left (List.getElem?_eq_some_iff.mp h).1, h]
  have ty0 : tyK M (.ref n) = some (.exc c) := by simpa using ty []
  have key : ∃ d M', (f__law_refusal (startD 3 [.ref n]) M).fin = .ok d M' ∧ (d = .str (word c) ∧ Fr [] M M') := by
    refine ret_of (Q := fun d M' => d = .str (word c) ∧ Fr [] M M') ?_
    unfold f__law_refusal
    refine go_nx (by simp [startD, ty0, tabX_exc ex, sizeLine]; exact ⟨rfl, rfl⟩) ?_
    refine go_nx (by simp [ty, tabX_exc ex, sizeLine, newL]; exact ⟨rfl, rfl⟩) ?_
    refine go_nx (by simp [ty, tabX_exc ex, sizeLine, newL]; exact ⟨rfl, rfl⟩) ?_
    refine go_nx (by simp [ty, tabX_exc ex, sizeLine, newL]; exact ⟨rfl, rfl⟩) ?_
    generalize hM : M ++ _ = MM
    have fM : Fr [] M MM := by rw [← hM]; exact Fr.app
    have g : MM[M.length + 6]? = some (.lst ([exSub c 7, exSub c 8, exSub c 9, exSub c 10, exSub c 11, exSub c 12, exSub c 13, exSub c 14, exSub c 15, exSub c 16, exSub c 17].map .bl)) := by
      rw [← hM, List.getElem?_append_right (by omega)]
      simp
    have tyM : tyK MM (.ref n) = some (.exc c) := by rw [← hM]; exact ty _
    have c1 := cnt_bl g
    rw [ct] at c1
    refine go_nx (by simp [tyLst_of g, c1, tyM, tabX_exc ex, tabVE_exc ex, e6, pyEq_int]; exact ⟨rfl, rfl⟩) ?_
    refine go_nx (by simp [sizeLine]; exact ⟨rfl, rfl⟩) ?_
    have fN : Fr [] MM (MM ++ [MO.lst (words.map .str)]) := Fr.app
    have c2 := ix_bl (fN.get g (by simp)) ix
    have it : itemAt (words.map D.str) ((c - 7 : Nat) : Int) = some (.str (word c)) := by
      rw [itemAt_nat (by rw [List.length_map]; show c - 7 < 11; omega), List.getElem?_map]
      unfold word
      rw [List.getD_eq_getElem?_getD, List.getElem?_eq_getElem (by show c - 7 < 11; omega)]
      rfl
    have tl := tyLst_of (fN.get g (by simp))
    have ln : listAt (MM ++ [MO.lst (words.map .str)]) MM.length = some (words.map .str) := listAt_new
    refine go_end (r := .rt (.str (word c)) (MM ++ [MO.lst (words.map .str)])) ?_ ⟨rfl, fM.trans fN⟩
    simp only [words, List.map_cons, List.map_nil] at tl c2 it ln ⊢
    simp [tl, c2, it, ln]
  obtain ⟨d, M', e, rfl, fr⟩ := key
  refine ⟨M', ?_, fr⟩
  unfold S__law_refusal
  simpa using e
end Fl
namespace Fl
open PySem PySem.W
/-! ### sorted things -/
/-- things that can be compared -/
class Ordd (T : Type) [Enc T] : Prop where
  alk : ∀ a b : T, alike (Enc.enc a) (Enc.enc b) = true
  tok : ∀ a : T, ∀ t ∈ keyToks (Enc.enc a), ∃ i, t = .inl i
theorem alks {T : Type} [Enc T] [Ordd T] : ∀ a b : List T, alikeAll (a.map Enc.enc) (b.map Enc.enc) = true
  | [], _ => by simp [alikeAll]
  | _ :: _, [] => by simp [alikeAll]
  | x :: xs, y :: ys => by
    rw [List.map_cons, List.map_cons, alikeAll, Ordd.alk x y, alks xs ys]; rfl
theorem toks {T : Type} [Enc T] [Ordd T] : ∀ a : List T, ∀ t ∈ keyToksAll (a.map Enc.enc), ∃ i, t = .inl i
  | [], t, h => by
    simp only [List.map_nil, keyToksAll, List.mem_singleton] at h
    exact ⟨0, h⟩
  | x :: xs, t, h => by
    rw [List.map_cons, keyToksAll] at h
    rcases List.mem_cons.mp h with h | h
    · exact ⟨1, h⟩
    · rcases List.mem_append.mp h with h | h
      · exact Ordd.tok x t h
      · exact toks xs t h
instance : Ordd Int where
  alk := fun a b => by simp [Enc.enc, alike]
  tok := fun a t h => by
    simp only [Enc.enc, keyToks, List.mem_singleton] at h
    exact ⟨a, h⟩
instance {T : Type} [Enc T] [Ordd T] : Ordd (List T) where
  alk := fun a b => by
    show alike (.list _) (.list _) = true
    rw [alike]; exact alks a b
  tok := fun a t h => by
    change t ∈ keyToks (.list _) at h
    rw [keyToks] at h
    exact toks a t h
instance {T : Type} [Enc T] [Ordd T] : Ordd (Tup T) where
  alk := fun a b => by
    show alike (.tuple _) (.tuple _) = true
    rw [alike]; exact alks a.its b.its
  tok := fun a t h => by
    change t ∈ keyToks (.tuple _) at h
    rw [keyToks] at h
    exact toks a.its t h
instance {S T : Type} [Enc S] [Enc T] [Ordd S] [Ordd T] : Ordd (S × T) where
  alk := fun a b => by
    show alike (.tuple [_, _]) (.tuple [_, _]) = true
    simp [alike, alikeAll, Ordd.alk]
  tok := fun a t h => by
    change t ∈ keyToks (.tuple [_, _]) at h
    simp only [keyToks, keyToksAll, List.mem_cons, List.mem_append, List.not_mem_nil, or_false] at h
    rcases h with h | h | h | h | h
    · exact ⟨1, h⟩
    · exact Ordd.tok a.1 t h
    · exact ⟨1, h⟩
    · exact Ordd.tok a.2 t h
    · exact ⟨0, h⟩
/-! orders -/
instance : Enc Od where
  enc := fun o => .tuple [.int o.p, .int o.n, .int o.g, .int o.m]
  dp := 1
  eq := fun a b => by
    cases a; cases b
    simp [PyData.eqv, PyData.eqvAll]
  lay := fun a => by simp [PyData.canLay0, PyData.canLayAll0]
  dep := fun a => by simp [PyData.depth, PyData.depthAll]
instance : Ordd Od where
  alk := fun a b => by
    show alike (.tuple _) (.tuple _) = true
    simp [alike, alikeAll]
  tok := fun a t h => by
    change t ∈ keyToks (.tuple [.int _, .int _, .int _, .int _]) at h
    simp only [keyToks, keyToksAll, List.mem_cons, List.mem_append, List.not_mem_nil, or_false] at h
    rcases h with h | h | h | h | h | h | h | h | h <;> exact ⟨_, h⟩
end Fl
/-! sets of ints by a comprehension (turned from the kit's sets of truth values) -/
namespace Fl
open PySem PySem.Spec PyProof.Rows L2
/-! ### sorted({.. for .. in .. if ..}) of numbers -/
end Fl
namespace Fl
open PySem
end Fl
namespace Fl
open PySem
/-! ### a comprehension over things f a -/
/-! ### while -/
/-! ### lots -/
end Fl
namespace Fl
open PySem PySem.NumText TL
section
variable {w x y : Str} {M : Mem}
theorem gLen_str (h : w.length ≤ 1000) : gLen [.str w] M = .ok (.int w.length) M := by
  unfold gLen
  simp only [decide_eq_true (le_line h)]
theorem gIx_str {c : Nat} {r : List Nat} (h : w.length ≤ 1000) (e : tl w = c :: r) : gIx (.str w) (.int 0) M = .ok (.str ⟨#[c]⟩) M := by
  have z : L2.atI w.cps.toList 0 = some c := by
    rw [show w.cps.toList = c :: r from e]
    simp [L2.atI, L2.ixN]
  unfold gIx
  simp only [decide_eq_true (le_line h), z]
theorem sign_eq {c : Nat} (h : c < 0x110000) : pyEq M (.str ⟨#[c]⟩) (.str (Str.ofString "0")) = some (decide (c = 48)) := by
  have e0 : Str.ofString "0" = ⟨#[48]⟩ := by decide +kernel
  rw [pyEq_str (sOk_iff.mpr fun d hd => by rw [show tl ⟨#[c]⟩ = [c] from rfl, List.mem_singleton] at hd; rw [hd]; exact h) (by decide +kernel), e0]
  congr 1
  apply decide_eq_decide.mpr
  simp
theorem g_split (h : w.length ≤ 900) (hy : (y.length == 0) = false) : gSplit (.str w) [.str y] M = .ok (.ref M.length) (M ++ [.lst ((Txt.split w y).map .str)]) := by
  unfold gSplit
  simp only [decide_eq_true (show (y.length == 0) = false ∧ w.length + 2 ≤ sizeLine from ⟨hy, le_line (by omega)⟩)]
theorem g_intS (h : wordB w = true) : gIntS [.str w] M = .ok (.int (wordV w)) M := by
  have l := (wordB_iff.mp h).1.2
  unfold gIntS
  simp only [decide_eq_true (show w.length ≤ 640 by omega), word_int h]
theorem g_strI {i : Int} (h0 : 0 ≤ i) (h1 : i ≤ 1000) : gStrI [.int i] M = .ok (.str (nt i)) M := by
  have z : i.natAbs.log2 < 1920 := Nat.lt_of_le_of_lt (Nat.log2_le_self _) (by omega)
  unfold gStrI
  simp only [decide_eq_true z]
  rfl
theorem two_or {A : Type} : ∀ l : List A, (∃ a b, l = [a, b]) ∨ l.length ≠ 2
  | [a, b] => .inl ⟨a, b, rfl⟩
  | [] => .inr (by simp)
  | [_] => .inr (by simp)
  | _ :: _ :: _ :: _ => .inr (by simp)
/-- over the signs of a text -/
theorem lc_sign {e te : EF} {s : Sl} {k : Nat} {is : List Nat} (v : Nat → D) (he : e s M = .ok (.str w) M) (h : w.length ≤ 1000) (hs : ∀ c ∈ tl w, te ((wipeD s is).set k (some (.str ⟨#[c]⟩))) M = .ok (v c) M) :
    dLc (iStrF e) (gN k) tYesF te is s M = .ok (.ref M.length) (M ++ [.lst ((tl w).map v)]) := by
  have z := lc_pure (nx := nxS w) (g := gN k) (tt := tYesF) (te := te) (s := wipeD s is) (ds := (tl w).map fun c => D.str ⟨#[c]⟩) (M := M) (fun _ => true) (fun d => match d with | .str x => v ((tl x).headD 0) | _ => d)
    (fun i _ => by
      unfold nxS
      rw [List.getElem?_map, show (tl w)[i]? = w.cps[i]? from Array.getElem?_toList ..]
      cases w.cps[i]? <;> rfl)
    (fun d hd => by
      obtain ⟨c, hc, rfl⟩ := List.mem_map.mp hd
      exact ⟨_, rfl, rfl, fun _ => hs c hc⟩)
  rw [filter_all, List.map_map, List.length_map] at z
  unfold dLc iStrF
  rw [he]
  simp only [bind_ok]
  have l : w.cps.size + 1 = (tl w).length + 1 := by simp [tl]
  rw [decide_eq_true (show w.cps.size + 1 ≤ sizeLine from Nat.le_trans (show w.cps.size + 1 ≤ 1001 by have : w.cps.size = w.length := rfl; omega) (by decide)), l, z]
  rfl
theorem sp_num (h : w.length ≤ 900) : ∃ M', Fr [] M M' ∧ S_number_in [.str w] M = ifR (wordB w) (.ok (.int (wordV w)) M') (.exc 17 none M') := by
  have lc : dLc (iStrF (dVar 0)) (gN 2) tYesF (dOp2 gInS (dVar 2) (dC (.str (Str.ofString "0123456789")))) [2] [some (.str w), none, none] M = .ok (.ref M.length) (M ++ [.lst ((tl w).map fun c => .bl (dig c))]) :=
    lc_sign (fun c => .bl (dig c)) rfl (by omega) fun c hc => rfl
  have bl : blsOf ((tl w).map fun c => D.bl (dig c)) = some ((tl w).map dig) := by
    have z := blsOf_mk ((tl w).map dig)
    rwa [List.map_map] at z
  have gl : ∀ {M}, gLen [.str w] M = .ok (.int w.length) M := gLen_str (by omega)
  unfold S_number_in f_number_in
  by_cases c1 : 1 ≤ w.length
  · have i1 : (1 : Int) ≤ w.length := by omega
    by_cases c2 : w.length ≤ 4
    · have i2 : (w.length : Int) ≤ 4 := by omega
      obtain ⟨c, r, e⟩ : ∃ c r, tl w = c :: r := by
        have hl := len_tl w
        cases q : tl w with
        | nil => rw [q] at hl; simp at hl; omega
        | cons c r => exact ⟨c, r, rfl⟩
      refine ⟨M ++ [.lst ((tl w).map fun c => .bl (dig c))], Fr.app, ?_⟩
      cases d : (tl w).all dig
      · have wb : wordB w = false := by unfold wordB; rw [d]; simp
        simp [startD, gl, i1, i2, lc, bl, d, wb, List.all_map]
      · have dc := (dig_iff (c := c)).mp (List.all_eq_true.mp d c (by rw [e]; simp))
        have gx : ∀ {M}, gIx (.str w) (.int 0) M = .ok (.str ⟨#[c]⟩) M := gIx_str (by omega) e
        have sq : ∀ {M}, pyEq M (.str ⟨#[c]⟩) (.str (Str.ofString "0")) = some (decide (c = 48)) := sign_eq (by omega)
        by_cases c3 : 1 < w.length
        · have i3 : (1 : Int) < w.length := by omega
          by_cases c4 : c = 48
          · have wb : wordB w = false := by unfold wordB; rw [d]; simp [c3, e, c4]
            subst c4
            simp [startD, gl, i1, i2, lc, bl, d, wb, i3, gx, sq]
          · have wb : wordB w = true := by unfold wordB; rw [d]; simp [c3, e, c4, c1, c2]
            simp [startD, gl, i1, i2, lc, bl, d, wb, i3, gx, sq, c4, g_intS wb]
        · have i3 : ¬ (1 : Int) < w.length := by omega
          have wb : wordB w = true := by unfold wordB; rw [d]; simp [c3, c1, c2]
          simp [startD, gl, i1, i2, lc, bl, d, wb, i3, g_intS wb]
    · have i2 : ¬ (w.length : Int) ≤ 4 := by omega
      have wb : wordB w = false := by unfold wordB; simp [c2]
      refine ⟨M, Fr.refl, ?_⟩
      simp [startD, gl, i1, i2, wb]
  · have i1 : ¬ (1 : Int) ≤ w.length := by omega
    have wb : wordB w = false := by unfold wordB; simp [c1]
    refine ⟨M, Fr.refl, ?_⟩
    simp [startD, gl, i1, wb]
/-- an order, or nothing that could be read -/
def outO : Option Od → Mem → Res D
  | some o, M => .ok o.d M
  | none, M => .exc 17 none M
theorem len_of {l r : Str} (e : Txt.split w y = [l, r]) : l.length ≤ w.length ∧ r.length ≤ w.length := by
  have z := congrArg Str.length (split2_eq e)
  simp only [str_len] at z
  omega
theorem sp_oread (h : w.length ≤ 900) : ∃ M', Fr [] M M' ∧ S_order_read [.str w] M = outO (ordS w) M' := by
  have g1 : ∀ {M}, gSplit (.str w) [.str yC] M = .ok (.ref M.length) (M ++ [.lst ((Txt.split w yC).map .str)]) := g_split h (by decide +kernel)
  unfold S_order_read f_order_read
  rcases two_or (Txt.split w yC) with ⟨l, r, e1⟩ | n1
  · obtain ⟨hl, hr⟩ := len_of e1
    rw [e1] at g1
    have g2 : ∀ {M}, gSplit (.str l) [.str yD] M = .ok (.ref M.length) (M ++ [.lst ((Txt.split l yD).map .str)]) := g_split (by omega) (by decide +kernel)
    have g3 : ∀ {M}, gSplit (.str r) [.str yT] M = .ok (.ref M.length) (M ++ [.lst ((Txt.split r yT).map .str)]) := g_split (by omega) (by decide +kernel)
    rcases two_or (Txt.split l yD) with ⟨a, b, e2⟩ | n2
    · rcases two_or (Txt.split r yT) with ⟨c, d, e3⟩ | n3
      · obtain ⟨ha, hb⟩ := len_of e2
        obtain ⟨hc, hd⟩ := len_of e3
        rw [e2] at g2
        rw [e3] at g3
        have z : ordS w = if (wordB a && wordB b && wordB d && wordB c) = true ∧ (⟨wordV a, wordV b, wordV d, wordV c⟩ : Od).ok 8 then some ⟨wordV a, wordV b, wordV d, wordV c⟩ else none := by
          unfold ordS
          rw [e1]
          simp only [e2, e3]
        rw [z]
        generalize hMM : M ++ [MO.lst [.str l, .str r], .lst [.str a, .str b], .lst [.str c, .str d]] = MM
        have q2 : listAt MM (M.length + 1) = some [.str a, .str b] := by rw [← hMM]; simp
        have q3 : listAt MM (M.length + 2) = some [.str c, .str d] := by rw [← hMM]; simp
        have fM : Fr [] M MM := by rw [← hMM]; exact Fr.app
        obtain ⟨M1, f1, s1⟩ := sp_num (w := a) (M := MM) (by omega)
        obtain ⟨M2, f2, s2⟩ := sp_num (w := b) (M := M1) (by omega)
        obtain ⟨M3, f3, s3⟩ := sp_num (w := d) (M := M2) (by omega)
        obtain ⟨M4, f4, s4⟩ := sp_num (w := c) (M := M3) (by omega)
        have q21 := f1.list q2 (by simp)
        have q32 := f2.list (f1.list q3 (by simp)) (by simp)
        have q33 := f3.list q32 (by simp)
        cases wa : wordB a
        · rw [wa] at s1
          refine ⟨M1, fM.trans f1, ?_⟩
          simp [startD, tyK, tabStr, tyStr, g1, g2, g3, pyEq_int, outO, hMM, q2, q3, s1]
        rw [wa] at s1
        cases wb : wordB b
        · rw [wb] at s2
          refine ⟨M2, fM.trans (f1.trans f2), ?_⟩
          simp [startD, tyK, tabStr, tyStr, g1, g2, g3, pyEq_int, outO, hMM, q2, q3, s1, q21, s2]
        rw [wb] at s2
        cases wd : wordB d
        · rw [wd] at s3
          refine ⟨M3, fM.trans (f1.trans (f2.trans f3)), ?_⟩
          simp [startD, tyK, tabStr, tyStr, g1, g2, g3, pyEq_int, outO, hMM, q2, q3, s1, q21, s2, q32, s3]
        rw [wd] at s3
        cases wc : wordB c
        · rw [wc] at s4
          refine ⟨M4, fM.trans (f1.trans (f2.trans (f3.trans f4))), ?_⟩
          simp [startD, tyK, tabStr, tyStr, g1, g2, g3, pyEq_int, outO, hMM, q2, q3, s1, q21, s2, q32, s3, q33, s4]
        rw [wc] at s4
        refine ⟨M4, fM.trans (f1.trans (f2.trans (f3.trans f4))), ?_⟩
        have so := sp_is_order (M := M4) (d := .tup [.int (wordV a), .int (wordV b), .int (wordV d), .int (wordV c)]) (p := 8) rfl rfl
        by_cases k : (⟨wordV a, wordV b, wordV d, wordV c⟩ : Od).ok 8
        · have o := Od.ord k
          rw [show (⟨wordV a, wordV b, wordV d, wordV c⟩ : Od).d = .tup [.int (wordV a), .int (wordV b), .int (wordV d), .int (wordV c)] from rfl] at o
          rw [o] at so
          simp [startD, tyK, tabStr, tyStr, g1, g2, g3, pyEq_int, outO, hMM, q2, q3, s1, q21, s2, q32, s3, q33, s4, so, k, sizeLine, Od.d]
        · have o := Od.nord k
          rw [show (⟨wordV a, wordV b, wordV d, wordV c⟩ : Od).d = .tup [.int (wordV a), .int (wordV b), .int (wordV d), .int (wordV c)] from rfl] at o
          rw [o] at so
          simp [startD, tyK, tabStr, tyStr, g1, g2, g3, pyEq_int, outO, hMM, q2, q3, s1, q21, s2, q32, s3, q33, s4, so, k, sizeLine]
      · have z : ordS w = none := by
          unfold ordS
          rw [e1]
          simp only
          split
          · rename_i q; rw [q] at n3; exact absurd rfl n3
          · rfl
        have n3' : ¬ ((Txt.split r yT).length : Int) = 2 := by omega
        rw [z]
        rw [e2] at g2
        refine ⟨M ++ [.lst [.str l, .str r], .lst [.str a, .str b], .lst ((Txt.split r yT).map .str)], Fr.app, ?_⟩
        simp [startD, tyK, tabStr, tyStr, g1, g2, g3, pyEq_int, outO, n3']
    · have z : ordS w = none := by
        unfold ordS
        rw [e1]
        simp only
        split
        · rename_i q _; rw [q] at n2; exact absurd rfl n2
        · rfl
      have n2' : ¬ ((Txt.split l yD).length : Int) = 2 := by omega
      rw [z]
      refine ⟨M ++ [.lst [.str l, .str r], .lst ((Txt.split l yD).map .str), .lst ((Txt.split r yT).map .str)], Fr.app, ?_⟩
      simp [startD, tyK, tabStr, tyStr, g1, g2, g3, pyEq_int, outO, n2']
  · have z : ordS w = none := by
      unfold ordS
      split
      · rename_i q; rw [q] at n1; exact absurd rfl n1
      · rfl
    have n1' : ¬ ((Txt.split w yC).length : Int) = 2 := by omega
    rw [z]
    refine ⟨M ++ [.lst ((Txt.split w yC).map .str)], Fr.app, ?_⟩
    simp [startD, tyK, tabStr, tyStr, g1, pyEq_int, outO, n1']
theorem ok_of {l r : Str} (e : Txt.split w y = [l, r]) (ok : PyData.strOk w = true) : PyData.strOk l = true ∧ PyData.strOk r = true := by
  have z := congrArg tl (split2_eq e)
  simp only [tl_append] at z
  rw [sOk_iff] at ok
  rw [sOk_iff, sOk_iff]
  exact ⟨fun c hc => ok c (by rw [← z]; simp [hc]), fun c hc => ok c (by rw [← z]; simp [hc])⟩
abbrev numE : EF := dCall 1 0 S_number_in (fun xs _ => xs) (dCons (dVar 4) dNil) dNil
/-- numbers read from a list of words, till one is none -/
theorem lcX_num {ws : List Str} {n : Nat} {s : Sl} (hs : ∀ d : D, (s.set 4 (some d))[4]? = some (some d)) (hw : ∀ w ∈ ws, w.length ≤ 900) : ∀ (k i : Nat) (M : Mem), i + k = ws.length → listAt M n = some (ws.map .str) →
    ∃ M', Fr [] M M' ∧ lcLX (nxL n) (gN 4) tYesF numE s (k + 1) i M = ifR ((ws.drop i).all wordB) (.ok ((ws.drop i).map fun w => .int (wordV w)) M') (.exc 17 none M')
  | 0, i, M, hi, hl => by
    refine ⟨M, Fr.refl, ?_⟩
    have e : ws.drop i = [] := List.drop_eq_nil_iff.mpr (by omega)
    unfold lcLX
    rw [nxL_at hl, List.getElem?_eq_none (by rw [List.length_map]; omega), e]
    rfl
  | k + 1, i, M, hi, hl => by
    have hlt : i < ws.length := by omega
    have e : ws.drop i = ws[i] :: ws.drop (i + 1) := List.drop_eq_getElem_cons hlt
    obtain ⟨M1, f1, s1⟩ := sp_num (w := ws[i]) (M := M) (hw _ (List.getElem_mem hlt))
    have e1 : numE (s.set 4 (some (.str ws[i]))) M = ifR (wordB ws[i]) (.ok (.int (wordV ws[i])) M1) (.exc 17 none M1) := by
      simp only [numE, dCall_ap, dCons_ap, dNil_ap, dVar_ap, hs, bind_ok, lenIs_ap]
      simpa using s1
    unfold lcLX
    rw [nxL_at hl, List.getElem?_map, List.getElem?_eq_getElem hlt, e]
    simp only [Option.map_some, gN_ap, noX_ok, bind_ok, tYesF_ap, e1, List.all_cons, List.map_cons]
    cases wb : wordB ws[i]
    · exact ⟨M1, f1, by simp⟩
    · obtain ⟨M2, f2, e2⟩ := lcX_num hs hw k (i + 1) M1 (by omega) (f1.list hl (by simp))
      refine ⟨M2, f1.trans f2, ?_⟩
      simp only [ifR_t, bind_ok, e2, Bool.true_and]
      cases (ws.drop (i + 1)).all wordB <;> rfl
def outP : Option (Od × List Int) → Mem → Res D
  | some (o, ss), M => .ok (.tup [o.d, .tup (ss.map .int)]) M
  | none, M => .exc 17 none M
/-- all signers that a text tells -/
theorem sig_lc {r h : Str} {n : Nat} (hr : r.length ≤ 900) (hl : listAt M n = some [.str h, .str r]) :
    ∃ M', Fr [] M M' ∧ dLcX (iSeq (dBm tyStr gSplit (dOp2 gIx (dVar 1) (dC (.int 1))) (dCons (dC (.str (Str.ofString " "))) dNil))) (gN 4) tYesF (dCall 1 0 S_number_in (fun xs _ => xs) (dCons (dVar 4) dNil) dNil) [4] [some (.str w), some (.ref n), none, none, none] M =
      ifR ((Txt.split r yS).all wordB) (.ok (.ref M'.length) (M' ++ [.lst ((Txt.split r yS).map fun w => .int (wordV w))])) (.exc 17 none M') := by
  have g1 : ∀ {M}, gSplit (.str r) [.str yS] M = .ok (.ref M.length) (M ++ [.lst ((Txt.split r yS).map .str)]) := g_split hr (by decide +kernel)
  obtain ⟨M2, f2, e2⟩ := lcX_num (ws := Txt.split r yS) (n := M.length) (s := [some (.str w), some (.ref n), none, none, none]) (fun d => rfl) (fun x hx => Nat.le_trans (PyProof.Rows.part_short hx) hr) (Txt.split r yS).length 0 (M ++ [.lst ((Txt.split r yS).map .str)]) (by omega) listAt_new
  refine ⟨M2, Fr.app.trans f2, ?_⟩
  have hz := PyProof.Rows.split_le r yS
  unfold dLcX iSeq
  simp only [dBm_ap, dOp2_ap, dVar_ap, dC_ap, List.getElem?_cons_succ, List.getElem?_cons_zero, bind_ok, gIx_ref, hl, itemAt_1, okD_some, tyStr, dCons_ap, dNil_ap, g1, listAt_new, List.length_map]
  rw [decide_eq_true (show (Txt.split r yS).length + 1 ≤ sizeLine from le_line (by omega))]
  simp only [wipeD, List.set_cons_succ, List.set_cons_zero, e2, List.drop_zero]
  cases (Txt.split r yS).all wordB <;> rfl
theorem sp_pread (h : w.length ≤ 900) (ok : PyData.strOk w = true) : ∃ M', Fr [] M M' ∧ S_paper_read [.str w] M = outP (papS w) M' := by
  have g1 : ∀ {M}, gSplit (.str w) [.str yB] M = .ok (.ref M.length) (M ++ [.lst ((Txt.split w yB).map .str)]) := g_split h (by decide +kernel)
  unfold S_paper_read f_paper_read
  rcases two_or (Txt.split w yB) with ⟨l, r, e1⟩ | n1
  · obtain ⟨hl, hr⟩ := len_of e1
    obtain ⟨okl, okr⟩ := ok_of e1 ok
    rw [e1] at g1
    have z : papS w = if (sigS r).all wordB = true ∧ ∀ x ∈ sigS r, wordV x ≤ 15 then (match ordS l with
        | some o => some (o, (sigS r).map wordV)
        | none => none) else none := by
      unfold papS
      rw [e1] <;> rfl
    rw [z]
    have eq00 : ∀ {M}, pyEq M (.str y0) (.str (Str.ofString "")) = some true := fun {M} => by rw [pyEq_str (by decide +kernel) (by decide +kernel)]; rfl
    have eq0 : ∀ {M}, pyEq M (.str r) (.str (Str.ofString "")) = some (decide (r = y0)) := pyEq_str okr (by decide +kernel)
    generalize hMM : M ++ [MO.lst [.str l, .str r]] = MM
    have q1 : listAt MM M.length = some [.str l, .str r] := by rw [← hMM]; simp
    have fM : Fr [] M MM := by rw [← hMM]; exact Fr.app
    -- the signers
    have key : ∃ M1, Fr [] MM M1 ∧ dIfE (tVal (dOp2 gNe (dOp2 gIx (dVar 1) (dC (.int 1))) (dC (.str (Str.ofString ""))))) (dOpN gTuple (dCons (dLcX (iSeq (dBm tyStr gSplit (dOp2 gIx (dVar 1) (dC (.int 1))) (dCons (dC (.str (Str.ofString " "))) dNil))) (gN 4) tYesF (dCall 1 0 S_number_in (fun xs _ => xs) (dCons (dVar 4) dNil) dNil) [4]) dNil)) (dTup dNil) [some (.str w), some (.ref M.length), none, none, none] MM =
        ifR ((sigS r).all wordB) (.ok (.tup (((sigS r).map wordV).map .int)) M1) (.exc 17 none M1) := by
      by_cases er : r = y0
      · refine ⟨MM, Fr.refl, ?_⟩
        have es : sigS r = [] := by unfold sigS; rw [if_pos er]
        rw [es]
        subst er
        simp [q1, eq00, sizeLine]
      · obtain ⟨M1, f1, s1⟩ := sig_lc (w := w) (M := MM) (by omega) q1
        have es : sigS r = Txt.split r yS := by unfold sigS; rw [if_neg er]
        rw [es]
        cases wa : (Txt.split r yS).all wordB
        · rw [wa] at s1
          refine ⟨M1, f1, ?_⟩
          simp only [ifR_f] at s1
          simp [q1, eq0, er, s1]
        · rw [wa] at s1
          refine ⟨M1 ++ [.lst ((Txt.split r yS).map fun w => .int (wordV w))], f1.trans Fr.app, ?_⟩
          simp only [ifR_t] at s1
          simp [q1, eq0, er, s1]
    obtain ⟨M1, f1, s1⟩ := key
    generalize hSG : (dIfE (tVal (dOp2 gNe (dOp2 gIx (dVar 1) (dC (.int 1))) (dC (.str (Str.ofString ""))))) (dOpN gTuple (dCons (dLcX (iSeq (dBm tyStr gSplit (dOp2 gIx (dVar 1) (dC (.int 1))) (dCons (dC (.str (Str.ofString " "))) dNil))) (gN 4) tYesF (dCall 1 0 S_number_in (fun xs _ => xs) (dCons (dVar 4) dNil) dNil) [4]) dNil)) (dTup dNil)) = SG at s1 ⊢
    cases wa : (sigS r).all wordB
    · rw [wa] at s1
      refine ⟨M1, fM.trans f1, ?_⟩
      simp only [ifR_f] at s1
      simp [startD, tyK, tabStr, tyStr, g1, pyEq_int, outP, hMM, q1, s1]
    rw [wa] at s1
    simp only [ifR_t] at s1
    generalize hss : (sigS r).map wordV = ss at s1 ⊢
    have lz : ss.length ≤ 902 := by
      rw [← hss, List.length_map]
      unfold sigS
      split
      · simp
      · have := PyProof.Rows.split_le r yS
        omega
    have any_ : dLc (iSeq (dVar 2)) (gN 3) tYesF (dOp2 gGt (dVar 3) (dC (.int 15))) [3] [some (.str w), some (.ref M.length), some (.tup (ss.map .int)), none, none] M1 =
        .ok (.ref M1.length) (M1 ++ [.lst (ss.map fun i => .bl (decide (15 < i)))]) := by
      have q := lc_mT (e := dVar 2) (k := 3) (te := dOp2 gGt (dVar 3) (dC (.int 15))) (is := [3]) (s := [some (.str w), some (.ref M.length), some (.tup (ss.map .int)), none, none]) (M := M1) (ds := ss.map .int) (fun d => match d with | .int i => .bl (decide (15 < i)) | _ => .non) rfl (by simp; omega) fun d hd => by
        obtain ⟨i, hi, rfl⟩ := List.mem_map.mp hd
        rfl
      rw [q, List.map_map]
      rfl
    have bl : blsOf (ss.map fun i => D.bl (decide (15 < i))) = some (ss.map fun i => decide (15 < i)) := by
      have z := blsOf_mk (ss.map fun i => decide (15 < i))
      rwa [List.map_map] at z
    have f2 : Fr [] M1 (M1 ++ [.lst (ss.map fun i => .bl (decide (15 < i)))]) := Fr.app
    by_cases k : ∀ x ∈ sigS r, wordV x ≤ 15
    · have an : (ss.map fun i => decide (15 < i)).any id = false := by
        rw [List.any_eq_false]
        intro x hx
        obtain ⟨i, hi, rfl⟩ := List.mem_map.mp hx
        rw [← hss] at hi
        obtain ⟨y, hy, rfl⟩ := List.mem_map.mp hi
        have := k y hy
        simp
        omega
      generalize hM2 : M1 ++ [.lst (ss.map fun i => .bl (decide (15 < i)))] = M2 at f2 any_
      have lM2 : listAt M2 M1.length = some (ss.map fun i => .bl (decide (15 < i))) := by rw [← hM2]; simp
      obtain ⟨M3, f3, s3⟩ := sp_oread (w := l) (M := M2) (by omega)
      refine ⟨M3, fM.trans (f1.trans (f2.trans f3)), ?_⟩
      have q2 := f2.list (f1.list q1 (by simp)) (by simp)
      rw [if_pos ⟨rfl, k⟩]
      cases ol : ordS l with
      | none =>
        rw [ol] at s3
        simp only [outO] at s3
        simp [startD, tyK, tabStr, tyStr, g1, pyEq_int, outP, hMM, q1, s1, any_, lM2, bl, an, q2, s3]
      | some o =>
        rw [ol] at s3
        simp only [outO] at s3
        simp [startD, tyK, tabStr, tyStr, g1, pyEq_int, outP, hMM, q1, s1, any_, lM2, bl, an, q2, s3, sizeLine]
    · have an : (ss.map fun i => decide (15 < i)).any id = true := by
        rw [List.any_eq_true]
        obtain ⟨x, hx⟩ := Classical.not_forall.mp k
        obtain ⟨hx, h15⟩ := Classical.not_imp.mp hx
        exact ⟨true, List.mem_map.mpr ⟨wordV x, by rw [← hss]; exact List.mem_map.mpr ⟨x, hx, rfl⟩, decide_eq_true (by omega)⟩, rfl⟩
      refine ⟨M1 ++ [.lst (ss.map fun i => .bl (decide (15 < i)))], fM.trans (f1.trans f2), ?_⟩
      rw [if_neg (fun q => k q.2)]
      simp [startD, tyK, tabStr, tyStr, g1, pyEq_int, outP, hMM, q1, s1, any_, bl, an]
  · have z : papS w = none := by
      unfold papS
      split
      · rename_i q; rw [q] at n1; exact absurd rfl n1
      · rfl
    have n1' : ¬ ((Txt.split w yB).length : Int) = 2 := by omega
    rw [z]
    refine ⟨M ++ [.lst ((Txt.split w yB).map .str)], Fr.app, ?_⟩
    simp [startD, tyK, tabStr, tyStr, g1, pyEq_int, outP, n1']
end
end Fl
namespace Fl
open PySem PySem.NumText TL
section
variable {w x y : Str} {M : Mem} {o : Od} {ss : List Int}
theorem bls_map {A : Type} (f : A → Bool) (l : List A) : blsOf (l.map fun x => D.bl (f x)) = some (l.map f) := by
  have z := blsOf_mk (l.map f)
  rwa [List.map_map] at z
theorem tst_lc {xs : List D} {s : Sl} (h0 : s[0]? = some (some (.tup [o.d, .tup xs]))) (h2 : ∀ d : D, ((s.set 2 none).set 2 (some d))[2]? = some (some d)) (hx : ∀ x ∈ xs, (∃ i, x = .int i) ∨ ∃ b, x = .bl b) (hl : xs.length ≤ 1000) :
    dLc (iSeq (dOp2 gIx (dVar 0) (dC (.int 1)))) (gN 2) tYesF (dAnd (dOp1 (gIsi tabInt) (dVar 2)) (dAnd (dNot (dOp1 (gIsi tabBool) (dVar 2))) (dChain gLe gLe (dC (.int 0)) (dVar 2) (dC (.int 15))))) [2] s M =
      .ok (.ref M.length) (M ++ [.lst (xs.map fun x => .bl (wholeB x 0 15))]) := by
  refine lc_mT (fun x => .bl (wholeB x 0 15)) (by simp [h0]) (by omega) fun d hd => ?_
  have e2 := h2 d
  simp only [wipeD] at *
  rcases hx d hd with ⟨i, rfl⟩ | ⟨b, rfl⟩
  · simp only [dAnd_ap, dOp1_ap, dVar_ap, e2, bind_ok, gIsi_ap, tyK, Option.bind_some, tabInt, okB_some, isB_bl, ifR_t, dNot_ap, tabBool, dChain_ap, dC_ap, gLe_int, Bool.not_false, wholeB]
    by_cases c : 0 ≤ i <;> simp [c]
  · simp only [dAnd_ap, dOp1_ap, dVar_ap, e2, bind_ok, gIsi_ap, tyK, Option.bind_some, tabInt, okB_some, isB_bl, ifR_t, ifR_f, dNot_ap, tabBool, Bool.not_true, wholeB]
theorem sum_le {l : List Str} (h : ∀ x ∈ l, x.length ≤ 4) : (l.map (·.length)).sum ≤ l.length * 4 := by
  induction l with
  | nil => simp
  | cons a r ih =>
    have h1 := h a (by simp)
    have h2 := ih fun x hx => h x (List.mem_cons_of_mem _ hx)
    simp only [List.map_cons, List.sum_cons, List.length_cons]
    omega
theorem gAdd_str {a b : Str} (h : a.length + b.length ≤ 100000) : gAdd (.str a) (.str b) M = .ok (.str (a ++ b)) M := by
  unfold gAdd
  simp only [decide_eq_true (show a.length + b.length ≤ sizeLine from Nat.le_trans h (by decide))]
theorem sp_ptext (ho : o.ok 8) (hs : ∀ i ∈ ss, 0 ≤ i ∧ i ≤ 15) (hl : ss.length ≤ 1000) : ∃ M', Fr [] M M' ∧ S_paper_text [.tup [o.d, .tup (ss.map .int)]] M = .ok (.str (pText o ss)) M' := by
  have so : ∀ {M}, S_is_order [o.d, .int 8] M = .ok (.bl true) M := fun {M} => by rw [sp_is_order (Od.ty o) (Od.it o), Od.ord ho]
  have st : ∀ {M}, S_order_text [o.d] M = .ok (.str (oText o)) M := sp_order_text ho
  have lc1 : ∀ {M}, dLc (iSeq (dOp2 gIx (dVar 0) (dC (.int 1)))) (gN 2) tYesF (dAnd (dOp1 (gIsi tabInt) (dVar 2)) (dAnd (dNot (dOp1 (gIsi tabBool) (dVar 2))) (dChain gLe gLe (dC (.int 0)) (dVar 2) (dC (.int 15))))) [2] [some (.tup [o.d, .tup (ss.map .int)]), some (.bl true), none] M =
      .ok (.ref M.length) (M ++ [.lst ((ss.map D.int).map fun x => .bl (wholeB x 0 15))]) := tst_lc rfl (fun d => rfl) (fun x hx => by obtain ⟨i, _, rfl⟩ := List.mem_map.mp hx; exact .inl ⟨i, rfl⟩) (by simpa using hl)
  have bl := bls_map (fun x => wholeB x 0 15) (ss.map D.int)
  have al : ((ss.map D.int).map fun x => wholeB x 0 15).all id = true := by
    rw [List.all_eq_true]
    intro x hx
    obtain ⟨d, hd, rfl⟩ := List.mem_map.mp hx
    obtain ⟨i, hi, rfl⟩ := List.mem_map.mp hd
    have := hs i hi
    simp [wholeB]
    omega
  have lc2 : ∀ {M}, dLc (iSeq (dOp2 gIx (dVar 0) (dC (.int 1)))) (gN 2) tYesF (dOpN gStrI (dCons (dVar 2) dNil)) [2] [some (.tup [o.d, .tup (ss.map .int)]), some (.bl true), none] M =
      .ok (.ref M.length) (M ++ [.lst ((ss.map nt).map .str)]) := fun {M} => by
    have q := lc_mT (e := dOp2 gIx (dVar 0) (dC (.int 1))) (k := 2) (te := dOpN gStrI (dCons (dVar 2) dNil)) (is := [2]) (s := [some (.tup [o.d, .tup (ss.map .int)]), some (.bl true), none]) (M := M) (ds := ss.map .int) (fun d => match d with | .int i => .str (nt i) | _ => .non) rfl (by simp; omega) fun d hd => by
      obtain ⟨i, hi, rfl⟩ := List.mem_map.mp hd
      have := hs i hi
      show gStrI [.int i] M = _
      exact g_strI (by omega) (by omega)
    rw [q, List.map_map, List.map_map]
    rfl
  have jn : ∀ {M}, gJoin (.str (Str.ofString " ")) [.ref M.length] (M ++ [.lst ((ss.map nt).map .str)]) = .ok (.str (Txt.join yS (ss.map nt))) (M ++ [.lst ((ss.map nt).map .str)]) := fun {M} => by
    have z : ((ss.map nt).map (·.length)).sum ≤ (ss.map nt).length * 4 := sum_le fun x hx => by
      obtain ⟨i, hi, rfl⟩ := List.mem_map.mp hx
      have := hs i hi
      exact nt_len (by omega) (by omega)
    have e1 : (Str.ofString " ").length = 1 := by decide +kernel
    rw [List.length_map] at z
    unfold gJoin
    simp only [listAt_new, strsOf_str]
    rw [decide_eq_true (by rw [e1, List.length_map]; omega)]
  have l1 := oText_len ho
  have l2 : (Txt.join yS (ss.map nt)).length ≤ ss.length * 5 := join_len fun i hi => by have := hs i hi; omega
  have e4 : (Str.ofString " by ").length = 4 := by decide +kernel
  have e4' : yB.length = 4 := e4
  have e5 : (oText o ++ yB).length ≤ 27 := by rw [str_len]; omega
  have a1 : ∀ {M}, gAdd (.str (oText o)) (.str (Str.ofString " by ")) M = .ok (.str (oText o ++ yB)) M := gAdd_str (by omega)
  have a2 : ∀ {M}, gAdd (.str (oText o ++ yB)) (.str (Txt.join yS (ss.map nt))) M = .ok (.str (pText o ss)) M := gAdd_str (by omega)
  refine ⟨(M ++ [.lst ((ss.map D.int).map fun x => .bl (wholeB x 0 15))]) ++ [.lst ((ss.map nt).map .str)], Fr.app.trans Fr.app, ?_⟩
  have ty1 : tyK M (.tup (ss.map .int)) = some .tup := rfl
  have key : ∃ d M', (f_paper_text (startD 3 [.tup [o.d, .tup (ss.map .int)]]) M).fin = .ok d M' ∧ (d = .str (pText o ss) ∧ M' = (M ++ [.lst ((ss.map D.int).map fun x => .bl (wholeB x 0 15))]) ++ [.lst ((ss.map nt).map .str)]) := by
    refine ret_of (Q := fun d M' => d = .str (pText o ss) ∧ M' = (M ++ [.lst ((ss.map D.int).map fun x => .bl (wholeB x 0 15))]) ++ [.lst ((ss.map nt).map .str)]) ?_
    unfold f_paper_text
    refine go_nx (s1 := [some (.tup [o.d, .tup (ss.map .int)]), some (.bl true), none]) (M1 := M) (by simp [startD, tyK, tabTup, pyEq_int, so]) ?_
    refine go_nx (s1 := [some (.tup [o.d, .tup (ss.map .int)]), some (.bl true), none]) (M1 := M ++ [.lst ((ss.map D.int).map fun x => .bl (wholeB x 0 15))]) ?_ ?_
    · simp only [sIf_ap, tOrF_ap, tNotF_ap, tVal_ap, dVar_ap, List.getElem?_cons_succ, List.getElem?_cons_zero, bind_ok, isB_bl, dOpN_ap, dCons_ap, dNil_ap, lc1, gAll_ref, listAt_new, bl, al, Bool.not_true, ifR_f, toS_ok, sNext_ap]
    · refine go_end (r := .rt (.str (pText o ss)) ((M ++ [.lst ((ss.map D.int).map fun x => .bl (wholeB x 0 15))]) ++ [.lst ((ss.map nt).map .str)])) ?_ ⟨rfl, rfl⟩
      simp only [sRet_ap, dOp2_ap, dCall_ap, dCons_ap, dNil_ap, dVar_ap, List.getElem?_cons_zero, bind_ok, dC_ap, gIx_tup, itemAt_0, okD_some, lenIs_ap, st, a1, dBm_ap, tyStr, lc2, jn, a2, toS_ok, List.length_cons, List.length_nil, decide_true]
  obtain ⟨d, M', e, rfl, rfl⟩ := key
  unfold S_paper_text
  simpa using e
/-- signers of which one is none -/
theorem sp_ptext_x {xs : List D} (ho : o.ok 8) (hx : ∀ x ∈ xs, (∃ i, x = .int i) ∨ ∃ b, x = .bl b) (hl : xs.length ≤ 1000) (hn : xs.all (fun x => wholeB x 0 15) = false) :
    ∃ M', Fr [] M M' ∧ S_paper_text [.tup [o.d, .tup xs]] M = .exc 15 none M' := by
  have so : ∀ {M}, S_is_order [o.d, .int 8] M = .ok (.bl true) M := fun {M} => by rw [sp_is_order (Od.ty o) (Od.it o), Od.ord ho]
  have lc1 : ∀ {M}, dLc (iSeq (dOp2 gIx (dVar 0) (dC (.int 1)))) (gN 2) tYesF (dAnd (dOp1 (gIsi tabInt) (dVar 2)) (dAnd (dNot (dOp1 (gIsi tabBool) (dVar 2))) (dChain gLe gLe (dC (.int 0)) (dVar 2) (dC (.int 15))))) [2] [some (.tup [o.d, .tup xs]), some (.bl true), none] M =
      .ok (.ref M.length) (M ++ [.lst (xs.map fun x => .bl (wholeB x 0 15))]) := tst_lc rfl (fun d => rfl) hx hl
  have bl := bls_map (fun x => wholeB x 0 15) xs
  have al : (xs.map fun x => wholeB x 0 15).all id = false := by rw [List.all_map]; exact hn
  refine ⟨M ++ [.lst (xs.map fun x => .bl (wholeB x 0 15))], Fr.app, ?_⟩
  have e1 : (sSet 1 (dAnd (dOp1 (gIsi tabTup) (dVar 0)) (dAnd (dOp2 gEq (dOpN gLen (dCons (dVar 0) dNil)) (dC (.int 2))) (dAnd (dCall 1 0 S_is_order (fun xs _ => xs ++ [(.int 8)]) (dCons (dOp2 gIx (dVar 0) (dC (.int 0))) dNil) dNil) (dOp1 (gIsi tabTup) (dOp2 gIx (dVar 0) (dC (.int 1)))))))) [some (.tup [o.d, .tup xs]), none, none] M = .nx [some (.tup [o.d, .tup xs]), some (.bl true), none] M := by simp [tyK, tabTup, pyEq_int, so]
  unfold S_paper_text f_paper_text
  simp only [List.length_cons, List.length_nil, decide_true, sSeq_ap, startD]
  show ((((sSet 1 _ [some (.tup [o.d, .tup xs]), none, none] M).seq _)).fin) = _
  rw [e1]
  simp only [seq_nx, sSeq_ap, sIf_ap, tOrF_ap, tNotF_ap, tVal_ap, dVar_ap, List.getElem?_cons_succ, List.getElem?_cons_zero, bind_ok, isB_bl, dOpN_ap, dCons_ap, dNil_ap, lc1, gAll_ref, listAt_new, bl, al, Bool.not_true, Bool.not_false, ifR_f, ifR_t, toS_ok, sRaise_ap, seq_exc, fin_exc]
/-- what is no paper's shape -/
theorem sp_ptext_n {d : D} (h1 : ∃ k, tyK M d = some k ∧ tabTup k = some false) : S_paper_text [d] M = .exc 15 none M := by
  obtain ⟨k, e1, e2⟩ := h1
  unfold S_paper_text f_paper_text
  simp [startD, e1, e2]
theorem sp_ptext_1 {d : D} : S_paper_text [.tup [d]] M = .exc 15 none M := by
  unfold S_paper_text f_paper_text
  simp [startD, tyK, tabTup, pyEq_int]
theorem sp_ptext_2 {d e : D} (h : okTy M d = true) (hi : itTy M d = true) (hx : isOrd d 8 = false) : S_paper_text [.tup [d, e]] M = .exc 15 none M := by
  have so : S_is_order [d, .int 8] M = .ok (.bl false) M := by rw [sp_is_order h hi, hx]
  unfold S_paper_text f_paper_text
  simp [startD, tyK, tabTup, pyEq_int, so]
theorem sp_ptext_3 {n : Nat} {ds : List D} (ho : o.ok 8) (hn : M[n]? = some (.lst ds)) : S_paper_text [.tup [o.d, .ref n]] M = .exc 15 none M := by
  have so : ∀ {M}, S_is_order [o.d, .int 8] M = .ok (.bl true) M := fun {M} => by rw [sp_is_order (Od.ty o) (Od.it o), Od.ord ho]
  have e1 : tyO M n = some .lst := by unfold tyO; rw [hn]
  unfold S_paper_text f_paper_text
  simp [startD, tyK, tabTup, pyEq_int, so, e1]
/-! ### law's reads and writes -/
theorem wd17 : word 17 = Str.ofString "text" := rfl
theorem wd15 : word 15 = Str.ofString "paper" := rfl
theorem tc17 : tabC 6 17 = some true := by decide
theorem tc15 : tabC 6 15 = some true := by decide
theorem refusal_of {c : Nat} (h1 : 7 ≤ c) (h2 : c ≤ 17) : ∃ M', S__law_refusal [.ref M.length] (M ++ [.exc c none]) = .ok (.str (word c)) M' ∧ Fr [] M M' := by
  obtain ⟨M', e, f⟩ := sp_refusal (M := M ++ [.exc c none]) (n := M.length) (c := c) (f := none) (by simp) h1 h2
  exact ⟨M', e, Fr.app.trans f⟩
/-- the try of a read: what it tells, or the refusal's name -/
theorem read_ok {k : Int} {a d : D} {M1 : Mem} (hk : k = 0 ∨ k = 1) (h : ifR (decide (k = 0)) (S_order_read [a] M) (S_paper_read [a] M) = .ok d M1) : S__law_read [.int k, a] M = .ok d M1 := by
  unfold S__law_read f__law_read
  rcases hk with rfl | rfl
  · have h : S_order_read [a] M = .ok d M1 := h
    simp [startD, sTry, pyEq_int, h, gIs]
  · have h : S_paper_read [a] M = .ok d M1 := h
    simp [startD, sTry, pyEq_int, h, gIs]
theorem read_x {k : Int} {a : D} {M1 : Mem} (hk : k = 0 ∨ k = 1) (f1 : Fr [] M M1) (h : ifR (decide (k = 0)) (S_order_read [a] M) (S_paper_read [a] M) = .exc 17 none M1) : ∃ M2, Fr [] M M2 ∧ S__law_read [.int k, a] M = .ok (.str (Str.ofString "text")) M2 := by
  obtain ⟨M2, e, f2⟩ := refusal_of (M := M1) (c := 17) (by omega) (by omega)
  rw [wd17] at e
  refine ⟨M2, f1.trans f2, ?_⟩
  unfold S__law_read f__law_read
  rcases hk with rfl | rfl
  · have h : S_order_read [a] M = .exc 17 none M1 := h
    simp [startD, sTry, pyEq_int, h, handle, tc17, unname, gIs, e]
  · have h : S_paper_read [a] M = .exc 17 none M1 := h
    simp [startD, sTry, pyEq_int, h, handle, tc17, unname, gIs, e]
theorem write_ok {k : Int} {a d : D} {M1 : Mem} (hk : k = 0 ∨ k = 1) (h : ifR (decide (k = 0)) (S_order_text [a] M) (S_paper_text [a] M) = .ok d M1) : S__law_written [.int k, a] M = .ok d M1 := by
  unfold S__law_written f__law_written
  rcases hk with rfl | rfl
  · have h : S_order_text [a] M = .ok d M1 := h
    simp [startD, sTry, pyEq_int, h, gIs]
  · have h : S_paper_text [a] M = .ok d M1 := h
    simp [startD, sTry, pyEq_int, h, gIs]
theorem write_x {a : D} {M1 : Mem} (f1 : Fr [] M M1) (h : S_paper_text [a] M = .exc 15 none M1) : ∃ M2, Fr [] M M2 ∧ S__law_written [.int 1, a] M = .ok (.str (Str.ofString "paper")) M2 := by
  obtain ⟨M2, e, f2⟩ := refusal_of (M := M1) (c := 15) (by omega) (by omega)
  rw [wd15] at e
  refine ⟨M2, f1.trans f2, ?_⟩
  unfold S__law_written f__law_written
  simp [startD, sTry, pyEq_int, h, handle, tc15, unname, gIs, e]
/-- a text of either kind -/
theorem read0 (h : w.length ≤ 900) : ∃ M', Fr [] M M' ∧ S__law_read [.int 0, .str w] M = .ok (match ordS w with | some o => o.d | none => .str (Str.ofString "text")) M' := by
  obtain ⟨M1, f1, e1⟩ := sp_oread (M := M) h
  cases q : ordS w with
  | none => rw [q] at e1; exact read_x (.inl rfl) f1 e1
  | some o => rw [q] at e1; exact ⟨M1, f1, read_ok (.inl rfl) e1⟩
theorem read1 (h : w.length ≤ 900) (ok : PyData.strOk w = true) : ∃ M', Fr [] M M' ∧ S__law_read [.int 1, .str w] M = .ok (match papS w with | some (o, ss) => .tup [o.d, .tup (ss.map .int)] | none => .str (Str.ofString "text")) M' := by
  obtain ⟨M1, f1, e1⟩ := sp_pread (M := M) h ok
  cases q : papS w with
  | none => rw [q] at e1; exact read_x (.inr rfl) f1 e1
  | some p => obtain ⟨o, ss⟩ := p; rw [q] at e1; exact ⟨M1, f1, read_ok (.inr rfl) e1⟩
/-- what is no text -/
theorem read_n {k : Int} {d : D} (hk : k = 0 ∨ k = 1) (h : ∃ t, tyK M d = some t ∧ tabStr t = some false) : ∃ M', Fr [] M M' ∧ S__law_read [.int k, d] M = .ok (.str (Str.ofString "text")) M' := by
  obtain ⟨t, e1, e2⟩ := h
  refine read_x hk Fr.refl (M1 := M) ?_
  rcases hk with rfl | rfl
  · show S_order_read [d] M = _
    unfold S_order_read f_order_read
    simp [startD, e1, e2]
  · show S_paper_read [d] M = _
    unfold S_paper_read f_paper_read
    simp [startD, e1, e2]
/-! ### a tuple is no text -/
theorem pyEq_ts {T : Type} [Enc T] {M : Mem} {d : D} {a : Tup T} {s : Str} (h : Vw M 9 d a) (hd : Enc.dp T + 1 ≤ 64) (hs : PyData.strOk s = true) : pyEq M d (.str s) = some false := by
  have e1 := Enc.shaped (T := Tup T) hd a
  have e2 := Enc.shaped (T := TX) (by decide) (⟨s, hs⟩ : TX)
  have h : toPy M 9 d = some (Enc.enc a) := h
  unfold pyEq
  rw [h]
  have e3 : toPy M 9 (.str s) = some (Enc.enc (⟨s, hs⟩ : TX)) := rfl
  rw [e3]
  simp only [e1, e2, Bool.and_self]
  rfl
abbrev pD (o : Od) (ss : List Int) : D := .tup [o.d, .tup (ss.map .int)]
theorem pD_vw : Vw M 9 (pD o ss) (Tup.mk [Tup.mk o.row, Tup.mk ss]) := by
  refine vw_tup ?_
  have a1 : toPy M 8 o.d = some (Enc.enc (Tup.mk o.row)) := o.vw (k := 6)
  have a2 : toPy M 8 (.tup (ss.map .int)) = some (Enc.enc (Tup.mk ss)) := vw_tup (toPys_int ss)
  simp only [allSome, a1, a2]
  rfl
theorem pD_eq {p : Od} {ts : List Int} : pyEq M (pD o ss) (pD p ts) = some (decide (o = p ∧ ss = ts)) := by
  rw [pyEq_enc (T := Tup (Tup Int)) pD_vw pD_vw]
  congr 1
  apply decide_eq_decide.mpr
  simp [Od.row_inj]
theorem pD_s (hs : PyData.strOk w = true) : pyEq M (pD o ss) (.str w) = some false := pyEq_ts pD_vw (by decide) hs
theorem od_s (hs : PyData.strOk w = true) : pyEq M o.d (.str w) = some false := pyEq_ts (Od.vw (k := 7) o) (by decide) hs
end
end Fl
namespace Fl
open PySem PySem.NumText TL
section
variable {w x y : Str} {M : Mem} {o : Od} {ss : List Int}
theorem papS_len (h : papS w = some (o, ss)) (hw : w.length ≤ 900) : ss.length ≤ 1000 := by
  obtain ⟨l, r, e1, _, _, _, rfl⟩ := papS_some h
  have := (len_of e1).2
  have := PyProof.Rows.split_le r yS
  rw [List.length_map]
  unfold sigS
  split
  · simp
  · omega
theorem str_self (h : PyData.strOk w = true) : pyEq M (.str w) (.str w) = some true := by
  rw [pyEq_str h h, decide_eq_true rfl]
theorem tx_self : pyEq M (.str (Str.ofString "text")) (.str (Str.ofString "text")) = some true := str_self (by decide +kernel)
theorem pp_self : pyEq M (.str (Str.ofString "paper")) (.str (Str.ofString "paper")) = some true := str_self (by decide +kernel)
theorem tx_ok : PyData.strOk (Str.ofString "text") = true := by decide +kernel
abbrev bodyW : SF := (sSeq (sSet 10 (dCall 2 0 S__law_read (fun xs _ => xs) (dCons (dC (.int 1)) (dCons (dVar 9) dNil)) dNil)) (sSeq (sIf (tAndF (tVal (dOp2 gNe (dVar 10) (dC (.str "text")))) (tOrF (tNotF (tVal (dOp1 (gIsi tabTup) (dVar 10)))) (tVal (dOp2 gNe (dCall 2 0 S__law_written (fun xs _ => xs) (dCons (dC (.int 1)) (dCons (dVar 10) dNil)) dNil) (dVar 9))))) (sRet (dC (.bl false))) sNext) (sSeq (sSet 10 (dCall 2 0 S__law_read (fun xs _ => xs) (dCons (dC (.int 0)) (dCons (dVar 9) dNil)) dNil)) (sIf (tAndF (tVal (dOp2 gNe (dVar 10) (dC (.str "text")))) (tOrF (tNotF (tVal (dOp1 (gIsi tabTup) (dVar 10)))) (tVal (dOp2 gNe (dCall 2 0 S__law_written (fun xs _ => xs) (dCons (dC (.int 0)) (dCons (dVar 10) dNil)) dNil) (dVar 9))))) (sRet (dC (.bl false))) sNext))))
theorem half_w {k : Int} {a0 a1 a2 a3 a4 a5 a6 a7 a8 a10 a11 a12 a13 : Option D} (hk : k = 0 ∨ k = 1) (h : w.length ≤ 900) (ok : PyData.strOk w = true) :
    ∃ x M', Fr [] M M' ∧ (sSeq (sSet 10 (dCall 2 0 S__law_read (fun xs _ => xs) (dCons (dC (.int k)) (dCons (dVar 9) dNil)) dNil)) (sIf (tAndF (tVal (dOp2 gNe (dVar 10) (dC (.str "text")))) (tOrF (tNotF (tVal (dOp1 (gIsi tabTup) (dVar 10)))) (tVal (dOp2 gNe (dCall 2 0 S__law_written (fun xs _ => xs) (dCons (dC (.int k)) (dCons (dVar 10) dNil)) dNil) (dVar 9))))) (sRet (dC (.bl false))) sNext)) [a0, a1, a2, a3, a4, a5, a6, a7, a8, some (.str w), a10, a11, a12, a13] M =
      .nx [a0, a1, a2, a3, a4, a5, a6, a7, a8, some (.str w), x, a11, a12, a13] M' := by
  rcases hk with rfl | rfl
  · obtain ⟨M1, f1, e1⟩ := read0 (M := M) h
    cases q : ordS w with
    | none =>
      rw [q] at e1
      refine ⟨some (.str (Str.ofString "text")), M1, f1, ?_⟩
      simp [e1, tx_self]
    | some o =>
      rw [q] at e1
      obtain ⟨t, ho⟩ := ordS_text q
      have e2 : S__law_written [.int 0, o.d] M1 = .ok (.str w) M1 := by
        rw [← t]
        exact write_ok (.inl rfl) (sp_order_text ho)
      have ty : tyK M1 o.d = some .tup := rfl
      refine ⟨some o.d, M1, f1, ?_⟩
      simp [e1, od_s tx_ok, ty, tabTup, e2, str_self ok]
  · obtain ⟨M1, f1, e1⟩ := read1 (M := M) h ok
    cases q : papS w with
    | none =>
      rw [q] at e1
      refine ⟨some (.str (Str.ofString "text")), M1, f1, ?_⟩
      simp [e1, tx_self]
    | some p =>
      obtain ⟨o, ss⟩ := p
      rw [q] at e1
      obtain ⟨t, ho, hs⟩ := papS_text q
      obtain ⟨M2, f2, e2⟩ := sp_ptext (M := M1) ho hs (papS_len q h)
      have e2 : S__law_written [.int 1, pD o ss] M1 = .ok (.str w) M2 := by
        rw [← t]
        exact write_ok (.inr rfl) e2
      have ty : tyK M1 (pD o ss) = some .tup := rfl
      have e1 : S__law_read [.int 1, .str w] M = .ok (pD o ss) M1 := e1
      have ps : ∀ {M}, pyEq M (pD o ss) (.str (Str.ofString "text")) = some false := pD_s tx_ok
      generalize pD o ss = P at *
      refine ⟨some P, M2, f1.trans f2, ?_⟩
      simp [e1, ps, ty, tabTup, e2, str_self ok]
theorem body_w {a0 a1 a2 a3 a4 a5 a6 a7 a8 a10 a11 a12 a13 : Option D} (h : w.length ≤ 900) (ok : PyData.strOk w = true) :
    ∃ x M', Fr [] M M' ∧ bodyW [a0, a1, a2, a3, a4, a5, a6, a7, a8, some (.str w), a10, a11, a12, a13] M = .nx [a0, a1, a2, a3, a4, a5, a6, a7, a8, some (.str w), x, a11, a12, a13] M' := by
  obtain ⟨x1, M1, f1, e1⟩ := half_w (M := M) (a0 := a0) (a1 := a1) (a2 := a2) (a3 := a3) (a4 := a4) (a5 := a5) (a6 := a6) (a7 := a7) (a8 := a8) (a10 := a10) (a11 := a11) (a12 := a12) (a13 := a13) (.inr rfl) h ok
  obtain ⟨x2, M2, f2, e2⟩ := half_w (M := M1) (a0 := a0) (a1 := a1) (a2 := a2) (a3 := a3) (a4 := a4) (a5 := a5) (a6 := a6) (a7 := a7) (a8 := a8) (a10 := x1) (a11 := a11) (a12 := a12) (a13 := a13) (.inl rfl) h ok
  refine ⟨x2, M2, f1.trans f2, ?_⟩
  have sa : ∀ (a b c : SF) s M, sSeq a (sSeq b c) s M = sSeq (sSeq a b) c s M := fun a b c s M => by
    simp only [sSeq_ap]
    cases a s M <;> rfl
  unfold bodyW
  rw [sa, sSeq_ap, e1, seq_nx, e2]
/-- law's own signers -/
theorem sg_lc {s0 s2 s3 s4 : Option D} (t : Town M) : ∃ (js : List Int) (N : Mem), dLc (iRng1 (dCons (dC (.int 16)) dNil)) (gN 12) (tVal (dOp2 gEq (dCall 2 0 S__law_draw (fun xs _ => xs) (dCons (dVar 1) (dCons (dC (.int 2)) dNil)) dNil) (dC (.int 0)))) (dVar 12) [12] [s0, some (.ref 2), s2, s3, s4, none, none, none, none, none, none, none, none, none] M = .ok (.ref N.length) (N ++ [.lst (js.map .int)]) ∧ Town N ∧ Fr [1, 2] M N ∧ (∀ j ∈ js, 0 ≤ j ∧ j ≤ 15) ∧ js.length ≤ 16 := by
  obtain ⟨ys, N, e, tN, fN, js, rfl, hj, hl⟩ := lc_R (g := gN 12) (tt := tVal (dOp2 gEq (dCall 2 0 S__law_draw (fun xs _ => xs) (dCons (dVar 1) (dCons (dC (.int 2)) dNil)) dNil) (dC (.int 0)))) (te := dVar 12) (is := [12]) (a := dCons (dC (.int 16)) dNil) (s := [s0, some (.ref 2), s2, s3, s4, none, none, none, none, none, none, none, none, none]) (M := M) (M0 := M) (j := 16)
    (fun i ys A => Town A ∧ Fr [1, 2] M A ∧ ∃ js : List Int, ys = js.map .int ∧ (∀ j ∈ js, 0 ≤ j ∧ j < i) ∧ js.length ≤ i) rfl (by omega) (by omega) ⟨t, Fr.refl, [], rfl, by simp, by simp⟩ (fun i ys A hi ⟨tA, fA, js, ey, hj, hl⟩ => by
    obtain ⟨v, A1, e1, v0, v1, t1, f1, l1⟩ := sp_draw (m := 2) tA (by omega) (by omega)
    refine ⟨_, A, decide (v = 0), A1, rfl, by simp [wipeD, e1, pyEq_int], ?_⟩
    by_cases c : v = 0
    · refine .inl ⟨decide_eq_true c, .int i, A1, rfl, t1, fA.trans f1, js ++ [(i : Int)], by simp [ey], ?_, by simp; omega⟩
      intro j hj'
      rcases List.mem_append.mp hj' with z | z
      · have := hj j z; omega
      · rw [List.mem_singleton.mp z]; omega
    · exact .inr ⟨decide_eq_false c, t1, fA.trans f1, js, ey, (fun j hj' => by have := hj j hj'; omega), by omega⟩)
  exact ⟨js, N, e, tN, fN, (fun j h => by have := hj j h; omega), hl⟩
theorem jn_lc {s : Sl} (h5 : s[5]? = some (some (.tup (ss.map .int)))) (h13 : ∀ d : D, ((s.set 13 none).set 13 (some d))[13]? = some (some d)) (hs : ∀ i ∈ ss, 0 ≤ i ∧ i ≤ 15) (hl : ss.length ≤ 16) :
    dLc (iSeq (dVar 5)) (gN 13) tYesF (dOpN gStrI (dCons (dVar 13) dNil)) [13] s M = .ok (.ref M.length) (M ++ [.lst ((ss.map nt).map .str)]) := by
  have q := lc_mT (e := dVar 5) (k := 13) (te := dOpN gStrI (dCons (dVar 13) dNil)) (is := [13]) (s := s) (M := M) (ds := ss.map .int) (fun d => match d with | .int i => .str (nt i) | _ => .non) (by simp [h5]) (by simp; omega) fun d hd => by
    obtain ⟨i, hi, rfl⟩ := List.mem_map.mp hd
    have := hs i hi
    have e2 := h13 (.int i)
    simp only [wipeD, dOpN_ap, dCons_ap, dNil_ap, dVar_ap, e2, bind_ok]
    exact g_strI (by omega) (by omega)
  rw [q, List.map_map, List.map_map]
  rfl
theorem g_join (hs : ∀ i ∈ ss, 0 ≤ i ∧ i ≤ 15) (hl : ss.length ≤ 1000) : gJoin (.str (Str.ofString " ")) [.ref M.length] (M ++ [.lst ((ss.map nt).map .str)]) = .ok (.str (Txt.join yS (ss.map nt))) (M ++ [.lst ((ss.map nt).map .str)]) := by
  have z : ((ss.map nt).map (·.length)).sum ≤ (ss.map nt).length * 4 := sum_le fun x hx => by
    obtain ⟨i, hi, rfl⟩ := List.mem_map.mp hx
    have := hs i hi
    exact nt_len (by omega) (by omega)
  have e1 : (Str.ofString " ").length = 1 := by decide +kernel
  rw [List.length_map] at z
  unfold gJoin
  simp only [listAt_new, strsOf_str]
  rw [decide_eq_true (by rw [e1, List.length_map]; omega)]
theorem ord_lit1 : ordS (Str.ofString "0.0: 5 to 0") = none := by decide +kernel
theorem ord_lit2 : ordS (Str.ofString "0.100: 5 to 1") = none := by decide +kernel
theorem pap16 (h : o.ok 8) : papS (oText o ++ Str.ofString " by 16") = none := by
  have e : oText o ++ Str.ofString " by 16" = oText o ++ yB ++ Str.ofString "16" := by
    refine ext_tl ?_
    rw [tl_append, tl_append, tl_append, List.append_assoc]
    congr 1
  obtain ⟨h1, h2, h3, h4, h5, h6, h7, h8, h9⟩ := h
  have s1 : Txt.split (oText o ++ yB ++ Str.ofString "16") yB = [oText o, Str.ofString "16"] := by
    refine split_two2 tlB (by omega) (by decide +kernel) ?_ (by decide +kernel)
    rw [oText_eq]
    simp only [tl_append, tlC, tlD, tlT, List.mem_append, List.mem_cons, List.not_mem_nil, or_false, not_or]
    exact ⟨⟨⟨⟨nt_free h1 (by omega), by omega⟩, nt_free h6 (by omega)⟩, by omega, by omega⟩, ⟨nt_free (by omega) (by omega), by omega, by omega, by omega, by omega⟩, nt_free h3 (by omega)⟩
  have s2 : sigS (Str.ofString "16") = [Str.ofString "16"] := by decide +kernel
  have v : wordV (Str.ofString "16") = 16 := by decide +kernel
  rw [e]
  unfold papS
  rw [s1]
  simp only [s2]
  rw [if_neg]
  intro q
  have := q.2 _ (List.mem_singleton.mpr rfl)
  rw [v] at this
  omega
theorem e_app {x : Str} : Str.empty ++ x = x := by
  refine ext_tl ?_
  rw [tl_append]
  have e : tl Str.empty = [] := by decide +kernel
  rw [e, List.nil_append]
/-- a text that is fit to be read here -/
def Fit (w : Str) : Prop := w.length ≤ 900 ∧ PyData.strOk w = true
end
theorem plain (ns : List Int) (h : ns.length ≤ 63) : ∃ M, S_law [.rol (ns.map .int)] [] = .ok (.bl true) M := by
  obtain ⟨M0, e0, t0, l0⟩ := sp_town ns h
  obtain ⟨p, M1, e1, p0, p1, t1, f1, l1⟩ := sp_draw (m := 8) t0 (by omega) (by omega)
  obtain ⟨a, M2, e2, a0, a1, t2, f2, l2⟩ := sp_draw (m := 100) t1 (by omega) (by omega)
  obtain ⟨d3, hd3, M3, e3, t3, f3, l3⟩ := sp_pickL (ds := [.int 0, .int 9, .int 99, .int a]) t2 (by simp) (by simp)
  obtain ⟨n, rfl, n0, n1⟩ : ∃ n, d3 = .int n ∧ 0 ≤ n ∧ n ≤ 99 := by
    simp only [List.mem_cons, List.not_mem_nil, or_false] at hd3
    rcases hd3 with rfl | rfl | rfl | rfl <;> exact ⟨_, rfl, by omega, by omega⟩
  obtain ⟨b, M4, e4, b0, b1, t4, f4, l4⟩ := sp_draw (m := 999) t3 (by omega) (by omega)
  obtain ⟨d5, hd5, M5, e5, t5, f5, l5⟩ := sp_pickL (ds := [.int 1, .int 1000, .int (1 + b)]) t4 (by simp) (by simp)
  obtain ⟨m, rfl, m0, m1⟩ : ∃ m, d5 = .int m ∧ 1 ≤ m ∧ m ≤ 1000 := by
    simp only [List.mem_cons, List.not_mem_nil, or_false] at hd5
    rcases hd5 with rfl | rfl | rfl <;> exact ⟨_, rfl, by omega, by omega⟩
  obtain ⟨g, hg⟩ : ∃ g, g = (p + 1) % 8 := ⟨_, rfl⟩
  obtain ⟨o, ho⟩ : ∃ o : Od, o = ⟨p, n, g, m⟩ := ⟨_, rfl⟩
  have ok : o.ok 8 := by
    rw [ho]
    show 0 ≤ p ∧ p ≤ 8 - 1 ∧ 0 ≤ g ∧ g ≤ 8 - 1 ∧ p ≠ g ∧ 0 ≤ n ∧ n ≤ 99 ∧ 1 ≤ m ∧ m ≤ 1000
    omega
  have od : o.d = .tup [.int p, .int n, .int g, .int m] := by rw [ho]; rfl
  have gm : ∀ {M}, gMod (.int (p + 1)) (.int 8) M = .ok (.int g) M := fun {M} => by rw [gMod_int (by omega), hg]
  -- the text
  have np : ∀ {M}, gStrI [.int p] M = .ok (.str (nt p)) M := g_strI p0 (by omega)
  have nn : ∀ {M}, gStrI [.int n] M = .ok (.str (nt n)) M := g_strI n0 (by omega)
  have ng : ∀ {M}, gStrI [.int g] M = .ok (.str (nt g)) M := g_strI (by omega) (by omega)
  have nm : ∀ {M}, gStrI [.int m] M = .ok (.str (nt m)) M := g_strI (by omega) (by omega)
  have lp := nt_len p0 (by omega)
  have ln := nt_len n0 (by omega)
  have lg := nt_len (i := g) (by omega) (by omega)
  have lm := nt_len (i := m) (by omega) (by omega)
  have eD : (Str.ofString ".").length = 1 := by decide +kernel
  have eC : (Str.ofString ": ").length = 2 := by decide +kernel
  have eT : (Str.ofString " to ").length = 4 := by decide +kernel
  have eB : (Str.ofString " by ").length = 4 := by decide +kernel
  have tx : nt p ++ Str.ofString "." ++ nt n ++ Str.ofString ": " ++ nt m ++ Str.ofString " to " ++ nt g = oText o := by
    unfold oText
    rw [ho]
    simp only [e_app]
  have ad : ∀ {x y : Str} {M}, x.length + y.length ≤ 1000 → gAdd (.str x) (.str y) M = .ok (.str (x ++ y)) M := fun h => gAdd_str (by omega)
  have x1 : ∀ {M}, gAdd (.str (nt p)) (.str (Str.ofString ".")) M = .ok (.str (nt p ++ Str.ofString ".")) M := ad (by omega)
  have x2 : ∀ {M}, gAdd (.str (nt p ++ Str.ofString ".")) (.str (nt n)) M = .ok (.str (nt p ++ Str.ofString "." ++ nt n)) M := ad (by simp only [str_len]; omega)
  have x3 : ∀ {M}, gAdd (.str (nt p ++ Str.ofString "." ++ nt n)) (.str (Str.ofString ": ")) M = .ok (.str (nt p ++ Str.ofString "." ++ nt n ++ Str.ofString ": ")) M := ad (by simp only [str_len]; omega)
  have x4 : ∀ {M}, gAdd (.str (nt p ++ Str.ofString "." ++ nt n ++ Str.ofString ": ")) (.str (nt m)) M = .ok (.str (nt p ++ Str.ofString "." ++ nt n ++ Str.ofString ": " ++ nt m)) M := ad (by simp only [str_len]; omega)
  have x5 : ∀ {M}, gAdd (.str (nt p ++ Str.ofString "." ++ nt n ++ Str.ofString ": " ++ nt m)) (.str (Str.ofString " to ")) M = .ok (.str (nt p ++ Str.ofString "." ++ nt n ++ Str.ofString ": " ++ nt m ++ Str.ofString " to ")) M := ad (by simp only [str_len]; omega)
  have x6 : ∀ {M}, gAdd (.str (nt p ++ Str.ofString "." ++ nt n ++ Str.ofString ": " ++ nt m ++ Str.ofString " to ")) (.str (nt g)) M = .ok (.str (oText o)) M := fun {M} => by rw [ad (by simp only [str_len]; omega), tx]
  have lt := oText_len ok
  have okt := oText_ok ok
  have key : ∃ d M, (f_law (startD 14 [.rol (ns.map .int)]) []).fin = .ok d M ∧ d = .bl true := by
    refine ret_of (Q := fun d _ => d = .bl true) ?_
    unfold f_law
    refine go_nx (by simp [startD, e0]; exact ⟨rfl, rfl⟩) ?_
    refine go_nx (by simp [e1]; exact ⟨rfl, rfl⟩) ?_
    refine go_nx (by simp [e2, e3, e4, e5, gm, sizeLine]; exact ⟨rfl, rfl⟩) ?_
    refine go_nx (by simp [np, nn, ng, nm, x1, x2, x3, x4, x5, x6]; exact ⟨rfl, rfl⟩) ?_
    rw [← od]
    obtain ⟨ss, N, e6, tN, fN, hs, hl⟩ := sg_lc (s0 := some (.rol (ns.map .int))) (s2 := some (.int p)) (s3 := some o.d) (s4 := some (.str (oText o))) t5
    refine go_nx (by simp only [List.set_cons_succ, List.set_cons_zero, sSet_ap, dOpN_ap, dCons_ap, dNil_ap, e6, bind_ok, gTuple_ref, listAt_new, toS_ok]; exact rfl) ?_
    generalize hN2 : N ++ [MO.lst (ss.map .int)] = N2
    have tN2 : Town N2 := by rw [← hN2]; exact tN.fr (A := []) Fr.app (by simp) (by simp)
    have lj := join_len (ss := ss) fun i hi => by have := hs i hi; omega
    have okj := join_ok (ss := ss) fun i hi => (hs i hi).1
    have y1 : ∀ {M}, gAdd (.str (oText o)) (.str (Str.ofString " by ")) M = .ok (.str (oText o ++ yB)) M := ad (by omega)
    have lb : (oText o ++ yB).length ≤ 27 := by rw [str_len]; show _ + (Str.ofString " by ").length ≤ _; omega
    have y2 : ∀ {M}, gAdd (.str (oText o ++ yB)) (.str (Txt.join yS (ss.map nt))) M = .ok (.str (pText o ss)) M := ad (by omega)
    have ll : (pText o ss).length ≤ 107 := by unfold pText; rw [str_len]; omega
    have okl : PyData.strOk (pText o ss) = true := by unfold pText; exact sOk_app (sOk_app okt (by decide +kernel)) okj
    have jl : ∀ {M s7 s8 s9 s10 s11 s12}, dLc (iSeq (dVar 5)) (gN 13) tYesF (dOpN gStrI (dCons (dVar 13) dNil)) [13] [some (.rol (ns.map .int)), some (.ref 2), some (.int p), some o.d, some (.str (oText o)), some (.tup (ss.map .int)), none, s7, s8, s9, s10, s11, s12, none] M = .ok (.ref M.length) (M ++ [.lst ((ss.map nt).map .str)]) := fun {M s7 s8 s9 s10 s11 s12} => jn_lc rfl (fun d => rfl) hs hl
    have gj : ∀ {M}, gJoin (.str (Str.ofString " ")) [.ref M.length] (M ++ [.lst ((ss.map nt).map .str)]) = .ok (.str (Txt.join yS (ss.map nt))) (M ++ [.lst ((ss.map nt).map .str)]) := g_join hs (by omega)
    refine go_nx (by simp only [List.set_cons_succ, List.set_cons_zero, sSet_ap, dOp2_ap, dVar_ap, List.getElem?_cons_succ, List.getElem?_cons_zero, bind_ok, dC_ap, y1, dBm_ap, tyStr, dCons_ap, dNil_ap, jl, gj, y2, toS_ok]; exact rfl) ?_
    generalize hN3 : N2 ++ [MO.lst ((ss.map nt).map .str)] = N3
    have tN3 : Town N3 := by rw [← hN3]; exact tN2.fr (A := []) Fr.app (by simp) (by simp)
    -- written
    obtain ⟨N4, g4, w4⟩ := sp_ptext (M := N3) ok hs (by omega)
    have w4 : S_paper_text [pD o ss] N3 = .ok (.str (pText o ss)) N4 := w4
    have ot : ∀ {M}, S_order_text [o.d] M = .ok (.str (oText o)) M := sp_order_text ok
    have q1 : ∀ {M}, pyEq M (.str (oText o)) (.str (oText o)) = some true := str_self okt
    have q2 : ∀ {M}, pyEq M (.str (pText o ss)) (.str (pText o ss)) = some true := str_self okl
    refine go_nx (by simp [ot, q1, sizeLine, w4, q2]; exact ⟨rfl, rfl⟩) ?_
    -- read
    obtain ⟨N5, g5, w5⟩ := sp_oread (w := oText o) (M := N4) (by omega)
    rw [text_ordS ok] at w5
    have w5 : S_order_read [.str (oText o)] N4 = .ok o.d N5 := w5
    obtain ⟨N6, g6, w6⟩ := sp_pread (w := pText o ss) (M := N5) (by omega) okl
    rw [text_papS ok hs] at w6
    have w6 : S_paper_read [.str (pText o ss)] N5 = .ok (pD o ss) N6 := w6
    have q3 : ∀ {M}, pyEq M o.d o.d = some true := fun {M} => by rw [od_eq]; simp
    have q4 : ∀ {M}, pyEq M (pD o ss) (pD o ss) = some true := fun {M} => by rw [pD_eq]; simp
    refine go_nx (by simp [w5, q3, sizeLine, w6, q4]; exact ⟨rfl, rfl⟩) ?_
    have tN6 : Town N6 := ((tN3.fr g4 (by simp) (by simp)).fr g5 (by simp) (by simp)).fr g6 (by simp) (by simp)
    -- where and what
    have gl : ∀ {M}, gLen [.str (pText o ss)] M = .ok (.int (pText o ss).length) M := gLen_str (by omega)
    obtain ⟨v, N7, w7, v0, v1, tN7, g7, l7⟩ := sp_draw (m := (pText o ss).length + 1) tN6 (by omega) (by omega)
    refine go_nx (by simp [gl, w7]; exact ⟨rfl, rfl⟩) ?_
    obtain ⟨d8, hd8, N8, w8, tN8, g8, l8⟩ := sp_pickL (ds := [.str (Str.ofString "0"), .str (Str.ofString " "), .str (Str.ofString "."), .str (Str.ofString "x"), .str (Str.ofString ": "), .str (Str.ofString " to "), .str (Str.ofString "1"), .str (Str.ofString "-")]) tN7 (by simp) (by simp)
    obtain ⟨sg, rfl, ls, oks⟩ : ∃ sg, d8 = .str sg ∧ sg.length ≤ 4 ∧ PyData.strOk sg = true := by
      simp only [List.mem_cons, List.not_mem_nil, or_false] at hd8
      rcases hd8 with rfl | rfl | rfl | rfl | rfl | rfl | rfl | rfl <;> exact ⟨_, rfl, by decide +kernel, by decide +kernel⟩
    refine go_nx (by simp [sizeLine, w8]; exact ⟨rfl, rfl⟩) ?_
    clear w8 w7 l7 l8
    -- worse texts
    have sl : ∀ {lo hi : Option Int} {M}, gSl (.str (pText o ss)) lo hi M = .ok (.str (L2.cutS (pText o ss) lo hi)) M := fun {lo hi M} => by
      unfold gSl
      simp only [decide_eq_true (le_line (show (pText o ss).length ≤ 1000 by omega))]
    have lc : ∀ lo hi, (L2.cutS (pText o ss) lo hi).length ≤ 107 := fun lo hi => Nat.le_trans (L2.cutS_length _ _ _) ll
    have z1 : ∀ {M}, gAdd (.str (L2.cutS (pText o ss) none (some v))) (.str sg) M = .ok (.str (L2.cutS (pText o ss) none (some v) ++ sg)) M := ad (by have := lc none (some v); omega)
    have z2 : ∀ {M}, gAdd (.str (L2.cutS (pText o ss) none (some v) ++ sg)) (.str (L2.cutS (pText o ss) (some v) none)) M = .ok (.str (L2.cutS (pText o ss) none (some v) ++ sg ++ L2.cutS (pText o ss) (some v) none)) M := ad (by have := lc none (some v); have := lc (some v) none; simp only [str_len]; omega)
    have z3 : ∀ {M}, gAdd (.str (L2.cutS (pText o ss) none (some v))) (.str (L2.cutS (pText o ss) (some (v + 1)) none)) M = .ok (.str (L2.cutS (pText o ss) none (some v) ++ L2.cutS (pText o ss) (some (v + 1)) none)) M := ad (by have := lc none (some v); have := lc (some (v + 1)) none; omega)
    have c1 : (Str.ofString " ").length = 1 := by decide +kernel
    have c2 : (Str.ofString " by 16").length = 6 := by decide +kernel
    have c3 : (Str.ofString " by 01").length = 6 := by decide +kernel
    have z4 : ∀ {M}, gAdd (.str (pText o ss)) (.str (Str.ofString " ")) M = .ok (.str (pText o ss ++ Str.ofString " ")) M := ad (by omega)
    have z5 : ∀ {M}, gAdd (.str (oText o)) (.str (Str.ofString " by 16")) M = .ok (.str (oText o ++ Str.ofString " by 16")) M := ad (by omega)
    have z6 : ∀ {M}, gAdd (.str (oText o)) (.str (Str.ofString " by 01")) M = .ok (.str (oText o ++ Str.ofString " by 01")) M := ad (by omega)
    have fits : ∀ d ∈ [D.str (L2.cutS (pText o ss) none (some v) ++ sg ++ L2.cutS (pText o ss) (some v) none), .str (L2.cutS (pText o ss) none (some v) ++ L2.cutS (pText o ss) (some (v + 1)) none), .str (oText o), .str (Str.ofString ""), .str (pText o ss ++ Str.ofString " "), .str (oText o ++ Str.ofString " by 16"), .str (oText o ++ Str.ofString " by 01")], ∃ w, d = .str w ∧ Fit w := by
      have a1 := lc none (some v)
      have a2 := lc (some v) none
      have a3 := lc (some (v + 1)) none
      intro d hd
      simp only [List.mem_cons, List.not_mem_nil, or_false] at hd
      rcases hd with rfl | rfl | rfl | rfl | rfl | rfl | rfl
      · exact ⟨_, rfl, by simp only [str_len]; omega, sOk_app (sOk_app (sOk_cut okl) oks) (sOk_cut okl)⟩
      · exact ⟨_, rfl, by simp only [str_len]; omega, sOk_app (sOk_cut okl) (sOk_cut okl)⟩
      · exact ⟨_, rfl, by omega, okt⟩
      · exact ⟨_, rfl, by decide +kernel, by decide +kernel⟩
      · exact ⟨_, rfl, by simp only [str_len]; omega, sOk_app okl (by decide +kernel)⟩
      · exact ⟨_, rfl, by simp only [str_len]; omega, sOk_app okt (by decide +kernel)⟩
      · exact ⟨_, rfl, by simp only [str_len]; omega, sOk_app okt (by decide +kernel)⟩
    generalize hL : [D.str (L2.cutS (pText o ss) none (some v) ++ sg ++ L2.cutS (pText o ss) (some v) none), .str (L2.cutS (pText o ss) none (some v) ++ L2.cutS (pText o ss) (some (v + 1)) none), .str (oText o), .str (Str.ofString ""), .str (pText o ss ++ Str.ofString " "), .str (oText o ++ Str.ofString " by 16"), .str (oText o ++ Str.ofString " by 01")] = L at fits
    have hLl : L.length ≤ 16777216 := by rw [← hL]; simp
    refine go_forL (M0 := N8 ++ [.lst L]) (n := N8.length) (ds := L) (fun i s A => Fr [] (N8 ++ [.lst L]) A ∧ ∃ x9 x10, s = [some (.rol (ns.map .int)), some (.ref 2), some (.int p), some o.d, some (.str (oText o)), some (.tup (ss.map .int)), some (.str (pText o ss)), some (.int v), some (.str sg), x9, x10, none, none, none])
      (by simp [sl, z1, z2, z3, z4, z5, z6, sizeLine, hL, hLl]) listAt_new ⟨Fr.refl, none, none, rfl⟩ (fun i s A ⟨f, _⟩ => f.list listAt_new (by simp)) ?_ ?_
    · rintro i d s A hd ⟨fA, x9, x10, rfl⟩
      obtain ⟨w, rfl, hw, okw⟩ := fits d (List.mem_of_getElem? hd)
      obtain ⟨x, B, fB, eB⟩ := body_w (M := A) (w := w) (a0 := some (.rol (ns.map .int))) (a1 := some (.ref 2)) (a2 := some (.int p)) (a3 := some o.d) (a4 := some (.str (oText o))) (a5 := some (.tup (ss.map .int))) (a6 := some (.str (pText o ss))) (a7 := some (.int v)) (a8 := some (.str sg)) (a10 := x10) (a11 := none) (a12 := none) (a13 := none) hw okw
      exact ⟨_, _, rfl, end_nx eB ⟨fA.trans fB, _, _, rfl⟩⟩
    · rintro s A ⟨fA, x9, x10, rfl⟩
      clear fits fA hL
      -- what is no text
      refine go_forL (M0 := (A ++ [.lst [.str (oText o)]]) ++ [.lst [.non, .int 5, .ref A.length, .bl true]]) (n := A.length + 1) (ds := [.non, .int 5, .ref A.length, .bl true]) (fun i s B => Fr [] ((A ++ [.lst [.str (oText o)]]) ++ [.lst [.non, .int 5, .ref A.length, .bl true]]) B ∧ ∃ x11, s = [some (.rol (ns.map .int)), some (.ref 2), some (.int p), some o.d, some (.str (oText o)), some (.tup (ss.map .int)), some (.str (pText o ss)), some (.int v), some (.str sg), x9, x10, x11, none, none])
        (by simp [sizeLine]) (by simp) ⟨Fr.refl, none, rfl⟩ (fun i s B ⟨f, _⟩ => f.list (by simp) (by simp)) ?_ ?_
      · rintro i d s B hd ⟨fB, x11, rfl⟩
        have ht : ∀ B, Fr [] ((A ++ [.lst [.str (oText o)]]) ++ [.lst [.non, .int 5, .ref A.length, .bl true]]) B → ∃ t, tyK B d = some t ∧ tabStr t = some false := by
          intro B fB
          have hA : B[A.length]? = some (.lst [.str (oText o)]) := fB.get (by simp) (by simp)
          have hd := List.mem_of_getElem? hd
          simp only [List.mem_cons, List.not_mem_nil, or_false] at hd
          rcases hd with rfl | rfl | rfl | rfl
          · exact ⟨_, rfl, rfl⟩
          · exact ⟨_, rfl, rfl⟩
          · exact ⟨.lst, ty_lst hA, rfl⟩
          · exact ⟨_, rfl, rfl⟩
        obtain ⟨B1, h1, r1⟩ := read_n (M := B) (d := d) (.inl rfl) (ht B fB)
        obtain ⟨B2, h2, r2⟩ := read_n (M := B1) (d := d) (.inr rfl) (ht B1 (fB.trans h1))
        exact ⟨_, _, rfl, end_nx (by simp [r1, r2, tx_self]; rfl) ⟨fB.trans (h1.trans h2), _, rfl⟩⟩
      · rintro s B ⟨fB, x11, rfl⟩
        clear fB
        -- what is no paper
        generalize hds : ([.non, .int 5, .tup [o.d], .ref B.length, .tup [o.d, .ref (B.length + 1)], .tup [o.d, .tup [.int 16]], .tup [o.d, .tup [.bl true]], .tup [o.d, .tup [.int (-1)]], .tup [.tup [.int 0, .int 0, .int 0, .int 1], .tup []]] : List D) = ds
        have hdl : ds.length ≤ 16777216 := by rw [← hds]; simp
        have wr : ∀ d ∈ ds, ∀ C, Fr [] (B ++ [.lst [o.d, .tup (ss.map .int)], .lst [.int 1], .lst ds]) C → ∃ C1, Fr [] C C1 ∧ S__law_written [.int 1, d] C = .ok (.str (Str.ofString "paper")) C1 := by
          intro d hd C fC
          have hB : C[B.length]? = some (.lst [o.d, .tup (ss.map .int)]) := fC.get (by simp) (by simp)
          have hB1 : C[B.length + 1]? = some (.lst [.int 1]) := fC.get (by simp) (by simp)
          rw [← hds] at hd
          simp only [List.mem_cons, List.not_mem_nil, or_false] at hd
          have bad : ∀ xs : List D, (∀ x ∈ xs, (∃ i, x = .int i) ∨ ∃ b, x = .bl b) → xs.length ≤ 1000 → xs.all (fun x => wholeB x 0 15) = false → ∃ C1, Fr [] C C1 ∧ S__law_written [.int 1, .tup [o.d, .tup xs]] C = .ok (.str (Str.ofString "paper")) C1 := fun xs h1 h2 h3 => by
            obtain ⟨C1, f1, e1⟩ := sp_ptext_x (M := C) ok h1 h2 h3
            exact write_x f1 e1
          rcases hd with rfl | rfl | rfl | rfl | rfl | rfl | rfl | rfl | rfl
          · exact write_x Fr.refl (sp_ptext_n ⟨_, rfl, rfl⟩)
          · exact write_x Fr.refl (sp_ptext_n ⟨_, rfl, rfl⟩)
          · exact write_x Fr.refl sp_ptext_1
          · exact write_x Fr.refl (sp_ptext_n ⟨.lst, ty_lst hB, rfl⟩)
          · exact write_x Fr.refl (sp_ptext_3 ok hB1)
          · exact bad _ (by simp) (by simp) (by simp [wholeB])
          · exact bad _ (by simp) (by simp) (by simp [wholeB])
          · exact bad _ (by simp) (by simp) (by simp [wholeB])
          · exact write_x Fr.refl (sp_ptext_2 rfl rfl (by decide))
        refine go_forL (M0 := B ++ [.lst [o.d, .tup (ss.map .int)], .lst [.int 1], .lst ds]) (n := B.length + 2) (ds := ds) (fun i s C => Fr [] (B ++ [.lst [o.d, .tup (ss.map .int)], .lst [.int 1], .lst ds]) C ∧ ∃ x11, s = [some (.rol (ns.map .int)), some (.ref 2), some (.int p), some o.d, some (.str (oText o)), some (.tup (ss.map .int)), some (.str (pText o ss)), some (.int v), some (.str sg), x9, x10, x11, none, none])
          (by simp [sizeLine, hds, hdl]) (by simp) ⟨Fr.refl, x11, rfl⟩ (fun i s C ⟨f, _⟩ => f.list (by simp) (by simp)) ?_ ?_
        · rintro i d s C hd ⟨fC, x11, rfl⟩
          obtain ⟨C1, h1, r1⟩ := wr d (List.mem_of_getElem? hd) C fC
          exact ⟨_, _, rfl, end_nx (by simp [r1, pp_self]; rfl) ⟨fC.trans h1, _, rfl⟩⟩
        · rintro s C ⟨fC, x11, rfl⟩
          obtain ⟨C1, h1, r1⟩ := read0 (w := Str.ofString "0.0: 5 to 0") (M := C) (by decide +kernel)
          obtain ⟨C2, h2, r2⟩ := read0 (w := Str.ofString "0.100: 5 to 1") (M := C1) (by decide +kernel)
          obtain ⟨C3, h3, r3⟩ := read1 (w := oText o ++ Str.ofString " by 16") (M := C2) (by rw [str_len]; omega) (sOk_app okt (by decide +kernel))
          rw [ord_lit1] at r1
          rw [ord_lit2] at r2
          rw [pap16 ok] at r3
          refine go_end (r := .rt (.bl true) C3) ?_ rfl
          simp [r1, r2, r3, z5, tx_self]
  obtain ⟨d, M, e, rfl⟩ := key
  exact ⟨M, by unfold S_law; simpa using e⟩
end Fl
namespace Wk
open PySem PySem.Spec PyProof.Rows L2 Fl
structure Txt (K : PySem.W.Frag) (mg : Str → Option Value) where
  d__law_town : FuncData
  F__law_town : FunD K "_law_town" "_law_town" (defArgs s__law_town) (defBody s__law_town) (defScope s__law_town) [] [] (A__law_town K) d__law_town
  m__law_town : mg "_law_town" = some (.ref (A__law_town K))
  d__law_draw : FuncData
  F__law_draw : FunD K "_law_draw" "_law_draw" (defArgs s__law_draw) (defBody s__law_draw) (defScope s__law_draw) [] [] (A__law_draw K) d__law_draw
  m__law_draw : mg "_law_draw" = some (.ref (A__law_draw K))
  d__law_pick : FuncData
  F__law_pick : FunD K "_law_pick" "_law_pick" (defArgs s__law_pick) (defBody s__law_pick) (defScope s__law_pick) [] [] (A__law_pick K) d__law_pick
  m__law_pick : mg "_law_pick" = some (.ref (A__law_pick K))
  d__law_refusal : FuncData
  F__law_refusal : FunD K "_law_refusal" "_law_refusal" (defArgs s__law_refusal) (defBody s__law_refusal) (defScope s__law_refusal) [] [] (A__law_refusal K) d__law_refusal
  m__law_refusal : mg "_law_refusal" = some (.ref (A__law_refusal K))
  d_number_in : FuncData
  F_number_in : FunD K "number_in" "number_in" (defArgs s_number_in) (defBody s_number_in) (defScope s_number_in) [] [] (A_number_in K) d_number_in
  m_number_in : mg "number_in" = some (.ref (A_number_in K))
  d_is_whole : FuncData
  F_is_whole : FunD K "is_whole" "is_whole" (defArgs s_is_whole) (defBody s_is_whole) (defScope s_is_whole) [] [] (A_is_whole K) d_is_whole
  m_is_whole : mg "is_whole" = some (.ref (A_is_whole K))
  d_is_order : FuncData
  F_is_order : FunD K "is_order" "is_order" (defArgs s_is_order) (defBody s_is_order) (defScope s_is_order) [] [("purses", (V.int 8))] (A_is_order K) d_is_order
  m_is_order : mg "is_order" = some (.ref (A_is_order K))
  d_order_read : FuncData
  F_order_read : FunD K "order_read" "order_read" (defArgs s_order_read) (defBody s_order_read) (defScope s_order_read) [] [] (A_order_read K) d_order_read
  m_order_read : mg "order_read" = some (.ref (A_order_read K))
  d_paper_read : FuncData
  F_paper_read : FunD K "paper_read" "paper_read" (defArgs s_paper_read) (defBody s_paper_read) (defScope s_paper_read) [] [] (A_paper_read K) d_paper_read
  m_paper_read : mg "paper_read" = some (.ref (A_paper_read K))
  d__law_read : FuncData
  F__law_read : FunD K "_law_read" "_law_read" (defArgs s__law_read) (defBody s__law_read) (defScope s__law_read) [] [] (A__law_read K) d__law_read
  m__law_read : mg "_law_read" = some (.ref (A__law_read K))
  d_look_order : FuncData
  F_look_order : FunD K "look_order" "look_order" (defArgs s_look_order) (defBody s_look_order) (defScope s_look_order) [] [("purses", (V.int 8))] (A_look_order K) d_look_order
  m_look_order : mg "look_order" = some (.ref (A_look_order K))
  d_order_text : FuncData
  F_order_text : FunD K "order_text" "order_text" (defArgs s_order_text) (defBody s_order_text) (defScope s_order_text) [] [] (A_order_text K) d_order_text
  m_order_text : mg "order_text" = some (.ref (A_order_text K))
  d_paper_text : FuncData
  F_paper_text : FunD K "paper_text" "paper_text" (defArgs s_paper_text) (defBody s_paper_text) (defScope s_paper_text) [] [] (A_paper_text K) d_paper_text
  m_paper_text : mg "paper_text" = some (.ref (A_paper_text K))
  d__law_written : FuncData
  F__law_written : FunD K "_law_written" "_law_written" (defArgs s__law_written) (defBody s__law_written) (defScope s__law_written) [] [] (A__law_written K) d__law_written
  m__law_written : mg "_law_written" = some (.ref (A__law_written K))
  d_law : FuncData
  F_law : FunD K "law" "law" (defArgs s_law) (defBody s_law) (defScope s_law) [] [] (A_law K) d_law
  m_law : mg "law" = some (.ref (A_law K))
  fr_ValueError : mg "ValueError" = none
  fr_all : mg "all" = none
  fr_any : mg "any" = none
  fr_bool : mg "bool" = none
  fr_int : mg "int" = none
  fr_isinstance : mg "isinstance" = none
  fr_len : mg "len" = none
  fr_list : mg "list" = none
  fr_range : mg "range" = none
  fr_str : mg "str" = none
  fr_tuple : mg "tuple" = none
  i_MOST_NUMBER : ∃ t, mg "MOST_NUMBER" = some (.int 99 t)
  i_MOST_PURSES : ∃ t, mg "MOST_PURSES" = some (.int 8 t)
  i_MOST_SUM : ∃ t, mg "MOST_SUM" = some (.int 1000 t)
  c_BadCut : mg "BadCut" = some (.ref (He.ga K "BadCut"))
  c_BadHouses : mg "BadHouses" = some (.ref (He.ga K "BadHouses"))
  c_BadNumber : mg "BadNumber" = some (.ref (He.ga K "BadNumber"))
  c_BadOrder : mg "BadOrder" = some (.ref (He.ga K "BadOrder"))
  c_BadPaper : mg "BadPaper" = some (.ref (He.ga K "BadPaper"))
  c_BadText : mg "BadText" = some (.ref (He.ga K "BadText"))
  c_NoHouse : mg "NoHouse" = some (.ref (He.ga K "NoHouse"))
  c_NoLetter : mg "NoLetter" = some (.ref (He.ga K "NoLetter"))
  c_NoPurse : mg "NoPurse" = some (.ref (He.ga K "NoPurse"))
  c_NotNow : mg "NotNow" = some (.ref (He.ga K "NotNow"))
  c_PurseError : mg "PurseError" = some (.ref (He.ga K "PurseError"))
  c_TooMuch : mg "TooMuch" = some (.ref (He.ga K "TooMuch"))
  x_BadOrder : ExK K mg "BadOrder" ((Ly K).cls 8)
  x_BadPaper : ExK K mg "BadPaper" ((Ly K).cls 15)
  x_BadText : ExK K mg "BadText" ((Ly K).cls 17)
  exAll : ExAll K (Ly K)
section
variable {P : Program} {w : World} {K : PySem.W.Frag} {mg : Str → Option Value} {base : Heap}
theorem kb__law_draw_p (T : Txt K mg) : ∃ g, KBn K T.d__law_draw p__law_draw 2 [] g (fun vs _ => vs) := ⟨_, kb_plain (T.F__law_draw.bindsN fun _ _ _ _ _ _ us hl => match us, hl with | [_, _], _ => rfl) rfl⟩
theorem kb__law_pick_p (T : Txt K mg) : ∃ g, KBn K T.d__law_pick p__law_pick 2 [] g (fun vs _ => vs) := ⟨_, kb_plain (T.F__law_pick.bindsN fun _ _ _ _ _ _ us hl => match us, hl with | [_, _], _ => rfl) rfl⟩
theorem kb__law_read_p (T : Txt K mg) : ∃ g, KBn K T.d__law_read p__law_read 2 [] g (fun vs _ => vs) := ⟨_, kb_plain (T.F__law_read.bindsN fun _ _ _ _ _ _ us hl => match us, hl with | [_, _], _ => rfl) rfl⟩
theorem kb__law_refusal_p (T : Txt K mg) : ∃ g, KBn K T.d__law_refusal p__law_refusal 1 [] g (fun vs _ => vs) := ⟨_, kb_plain (T.F__law_refusal.bindsN fun _ _ _ _ _ _ us hl => match us, hl with | [_], _ => rfl) rfl⟩
theorem kb__law_town_p (T : Txt K mg) : ∃ g, KBn K T.d__law_town p__law_town 1 [] g (fun vs _ => vs) := ⟨_, kb_plain (T.F__law_town.bindsN fun _ _ _ _ _ _ us hl => match us, hl with | [_], _ => rfl) rfl⟩
theorem kb__law_written_p (T : Txt K mg) : ∃ g, KBn K T.d__law_written p__law_written 2 [] g (fun vs _ => vs) := ⟨_, kb_plain (T.F__law_written.bindsN fun _ _ _ _ _ _ us hl => match us, hl with | [_, _], _ => rfl) rfl⟩
theorem kb_is_order_a (T : Txt K mg) : ∃ g, KBn K T.d_is_order p_is_order 1 ["purses"] g (fun vs zs => vs ++ zs) := ⟨_, Fl.FunD.kbN T.F_is_order 1 ["purses"] (fun vs zs => vs ++ zs) (fun r r2 => r.append r2) fun _ _ _ _ _ _ us ws h1 h2 => match us, ws, h1, h2 with | [_], [_], _, _ => rfl⟩
theorem kb_is_order_d (T : Txt K mg) : ∃ g, KBn K T.d_is_order p_is_order 1 [] g (fun vs _ => vs ++ [(V.int 8)]) := Exists.elim (L2.FunD.kbinds0 T.F_is_order 1 [] [("purses", (V.int 8))] (fun vs mz _ => vs ++ mz) (by intro z; cases z) (by first | decide | (intro q h; exact h) | (intro q h; simp only [List.mem_cons, List.not_mem_nil, or_false] at h ⊢; simp [h])) (fun r m _ => r.append m) fun _ _ _ _ _ _ us mv ws h1 h2 h3 => match us, mv, ws, h1, h2, h3 with | [_], [_], [], _, _, _ => ⟨_, _, _, _, _, _, rfl, rfl, (by with_unfolding_all rfl)⟩) fun mv h => ⟨_, h⟩
theorem kb_is_whole_p (T : Txt K mg) : ∃ g, KBn K T.d_is_whole p_is_whole 3 [] g (fun vs _ => vs) := ⟨_, kb_plain (T.F_is_whole.bindsN fun _ _ _ _ _ _ us hl => match us, hl with | [_, _, _], _ => rfl) rfl⟩
theorem kb_look_order_d (T : Txt K mg) : ∃ g, KBn K T.d_look_order p_look_order 1 [] g (fun vs _ => vs ++ [(V.int 8)]) := Exists.elim (L2.FunD.kbinds0 T.F_look_order 1 [] [("purses", (V.int 8))] (fun vs mz _ => vs ++ mz) (by intro z; cases z) (by first | decide | (intro q h; exact h) | (intro q h; simp only [List.mem_cons, List.not_mem_nil, or_false] at h ⊢; simp [h])) (fun r m _ => r.append m) fun _ _ _ _ _ _ us mv ws h1 h2 h3 => match us, mv, ws, h1, h2, h3 with | [_], [_], [], _, _, _ => ⟨_, _, _, _, _, _, rfl, rfl, (by with_unfolding_all rfl)⟩) fun mv h => ⟨_, h⟩
theorem kb_number_in_p (T : Txt K mg) : ∃ g, KBn K T.d_number_in p_number_in 1 [] g (fun vs _ => vs) := ⟨_, kb_plain (T.F_number_in.bindsN fun _ _ _ _ _ _ us hl => match us, hl with | [_], _ => rfl) rfl⟩
theorem kb_order_read_p (T : Txt K mg) : ∃ g, KBn K T.d_order_read p_order_read 1 [] g (fun vs _ => vs) := ⟨_, kb_plain (T.F_order_read.bindsN fun _ _ _ _ _ _ us hl => match us, hl with | [_], _ => rfl) rfl⟩
theorem kb_order_text_p (T : Txt K mg) : ∃ g, KBn K T.d_order_text p_order_text 1 [] g (fun vs _ => vs) := ⟨_, kb_plain (T.F_order_text.bindsN fun _ _ _ _ _ _ us hl => match us, hl with | [_], _ => rfl) rfl⟩
theorem kb_paper_read_p (T : Txt K mg) : ∃ g, KBn K T.d_paper_read p_paper_read 1 [] g (fun vs _ => vs) := ⟨_, kb_plain (T.F_paper_read.bindsN fun _ _ _ _ _ _ us hl => match us, hl with | [_], _ => rfl) rfl⟩
theorem kb_paper_text_p (T : Txt K mg) : ∃ g, KBn K T.d_paper_text p_paper_text 1 [] g (fun vs _ => vs) := ⟨_, kb_plain (T.F_paper_text.bindsN fun _ _ _ _ _ _ us hl => match us, hl with | [_], _ => rfl) rfl⟩
theorem ok__law_town (T : Txt K mg) : FnOk P w K mg base (L2.CX P w) 1 (A__law_town K) T.d__law_town p__law_town (spF K (Ly K) S__law_town) := by
  refine def_ok T.F__law_town sc__law_town (fun ds M h => by unfold S__law_town; rw [decide_eq_false (show ¬ ds.length = 1 from h)]) (fun cdv A outer s H E hr tk hp => ?_) (fun ds M h => by unfold S__law_town; rw [decide_eq_true (show ds.length = 1 from h)]; rfl)
  have hu := hu70 hr
  exact (fss_one (fs_ret (fe_lst (fa_cons (fe_if (ft_cmp (o_ne hu) (fv 0) (fe_lst fa_nil)) (fe_ct c_list (by rfl) T.fr_list bb_list (fa_cons (fv 0) fa_nil)) (fe_lst (fa_cons fe_int fa_nil))) (fa_cons fe_int fa_nil)))))
theorem ok__law_draw (T : Txt K mg) : FnOk P w K mg base (L2.CX P w) 1 (A__law_draw K) T.d__law_draw p__law_draw (spF K (Ly K) S__law_draw) := by
  refine def_ok T.F__law_draw sc__law_draw (fun ds M h => by unfold S__law_draw; rw [decide_eq_false (show ¬ ds.length = 2 from h)]) (fun cdv A outer s H E hr tk hp => ?_) (fun ds M h => by unfold S__law_draw; rw [decide_eq_true (show ds.length = 2 from h)]; rfl)
  have hu := hu70 hr
  exact (fss_cons (fs_set sc__law_draw.nd rfl (by first | exact Or.inl rfl | exact Or.inr rfl) (fe_ix hu (fv 0) fe_int)) (fss_cons (fs_asg (is := []) (fe_op o_add (fe_ix hu (fv 0) fe_int) fe_int) (fg_sub hu (fv 0) fe_int)) (fss_cons (fs_set sc__law_draw.nd rfl (by first | exact Or.inl rfl | exact Or.inr rfl) (fe_op o_mod (fe_ix hu (fv 0) fe_int) (fe_cb c_len (by rfl) T.fr_len bb_len (fa_cons (fv 2) fa_nil)))) (fss_cons (fs_set sc__law_draw.nd rfl (by first | exact Or.inl rfl | exact Or.inr rfl) (fe_ix hu (fv 2) (fv 3))) (fss_cons (fs_if (ft_cmp o_ge (fv 4) fe_int) (fss_cons (fs_asg (is := []) (fe_op o_div (fv 4) (fv 1)) (fg_sub hu (fv 2) (fv 3))) (fss_one (fs_ret (fe_op o_mod (fv 4) (fv 1))))) fss_nil) (fss_cons (fs_set sc__law_draw.nd rfl (by first | exact Or.inl rfl | exact Or.inr rfl) (fe_op o_mod (fe_op o_add (fv 4) (fe_op o_mulX fe_int (fe_ix hu (fv 0) fe_int))) fe_int)) (fss_cons (fs_set sc__law_draw.nd rfl (by first | exact Or.inl rfl | exact Or.inr rfl) (fe_op o_mod (fe_op o_pow (fv 5) fe_int) fe_int)) (fss_one (fs_ret (fe_op o_mod (fe_op o_div (fe_op o_mod (fe_op o_add (fe_op o_mulX (fe_op o_div (fv 5) fe_int) fe_int) (fv 5)) fe_int) fe_int) (fv 1)))))))))))
theorem ok__law_pick (T : Txt K mg) : FnOk P w K mg base (L2.CX P w) 2 (A__law_pick K) T.d__law_pick p__law_pick (spF K (Ly K) S__law_pick) := by
  have c__law_draw := ok__law_draw (P := P) (w := w) (base := base) T
  obtain ⟨g__law_draw_p, b__law_draw_p⟩ := kb__law_draw_p T
  refine def_ok T.F__law_pick sc__law_pick (fun ds M h => by unfold S__law_pick; rw [decide_eq_false (show ¬ ds.length = 2 from h)]) (fun cdv A outer s H E hr tk hp => ?_) (fun ds M h => by unfold S__law_pick; rw [decide_eq_true (show ds.length = 2 from h)]; rfl)
  have hu := hu70 hr
  exact (fss_one (fs_ret (fe_ix hu (fv 1) (fe_call c__law_draw (hr.mono (by decide : 1 ≤ 1)) tk (by rfl) T.m__law_draw T.F__law_draw.kp b__law_draw_p gr_plain (fa_cons (fv 0) (fa_cons (fe_cb c_len (by rfl) T.fr_len bb_len (fa_cons (fv 1) fa_nil)) fa_nil))))))
theorem ok__law_refusal (T : Txt K mg) : FnOk P w K mg base (L2.CX P w) 1 (A__law_refusal K) T.d__law_refusal p__law_refusal (spF K (Ly K) S__law_refusal) := by
  refine def_ok T.F__law_refusal sc__law_refusal (fun ds M h => by unfold S__law_refusal; rw [decide_eq_false (show ¬ ds.length = 1 from h)]) (fun cdv A outer s H E hr tk hp => ?_) (fun ds M h => by unfold S__law_refusal; rw [decide_eq_true (show ds.length = 1 from h)]; rfl)
  have hu := hu70 hr
  exact (fss_cons (fs_set sc__law_refusal.nd rfl (by first | exact Or.inl rfl | exact Or.inr rfl) (fe_lst (fa_cons (fe_isiC (tabX_ok T.exAll 7 (by decide)) (by rfl) T.fr_isinstance (by rfl) T.c_BadNumber (fv 0)) (fa_cons (fe_isiC (tabX_ok T.exAll 8 (by decide)) (by rfl) T.fr_isinstance (by rfl) T.c_BadOrder (fv 0)) (fa_cons (fe_isiC (tabX_ok T.exAll 9 (by decide)) (by rfl) T.fr_isinstance (by rfl) T.c_BadHouses (fv 0)) fa_nil))))) (fss_cons (fs_set sc__law_refusal.nd rfl (by first | exact Or.inl rfl | exact Or.inr rfl) (fe_op o_add (fv 1) (fe_lst (fa_cons (fe_isiC (tabX_ok T.exAll 10 (by decide)) (by rfl) T.fr_isinstance (by rfl) T.c_NoHouse (fv 0)) (fa_cons (fe_isiC (tabX_ok T.exAll 11 (by decide)) (by rfl) T.fr_isinstance (by rfl) T.c_NoPurse (fv 0)) (fa_cons (fe_isiC (tabX_ok T.exAll 12 (by decide)) (by rfl) T.fr_isinstance (by rfl) T.c_NoLetter (fv 0)) fa_nil)))))) (fss_cons (fs_set sc__law_refusal.nd rfl (by first | exact Or.inl rfl | exact Or.inr rfl) (fe_op o_add (fv 1) (fe_lst (fa_cons (fe_isiC (tabX_ok T.exAll 13 (by decide)) (by rfl) T.fr_isinstance (by rfl) T.c_NotNow (fv 0)) (fa_cons (fe_isiC (tabX_ok T.exAll 14 (by decide)) (by rfl) T.fr_isinstance (by rfl) T.c_TooMuch (fv 0)) (fa_cons (fe_isiC (tabX_ok T.exAll 15 (by decide)) (by rfl) T.fr_isinstance (by rfl) T.c_BadPaper (fv 0)) fa_nil)))))) (fss_cons (fs_set sc__law_refusal.nd rfl (by first | exact Or.inl rfl | exact Or.inr rfl) (fe_op o_add (fv 1) (fe_lst (fa_cons (fe_isiC (tabX_ok T.exAll 16 (by decide)) (by rfl) T.fr_isinstance (by rfl) T.c_BadCut (fv 0)) (fa_cons (fe_isiC (tabX_ok T.exAll 17 (by decide)) (by rfl) T.fr_isinstance (by rfl) T.c_BadText (fv 0)) fa_nil))))) (fss_cons (fs_if (fw_t (fw_or (ft_cmp (o_ne hu) (fe_bm PySem.F.plainAttrs_list PySem.F.slot_list_count PySem.F.type_list_count tyLst_ok (m_count hu) (fv 1) (fa_cons fe_bl fa_nil)) fe_int) (fw_or (ft_not (ft_val (fe_isiC (tabX_ok T.exAll 6 (by decide)) (by rfl) T.fr_isinstance (by rfl) T.c_PurseError (fv 0)))) (fw_or1 (ft_not (ft_val (fe_isi (tabVE_ok T.exAll) (by rfl) T.fr_isinstance (by rfl) T.fr_ValueError bb_VE (fv 0)))))))) (fss_one (fs_ret fe_str)) fss_nil) (fss_cons (fs_set sc__law_refusal.nd rfl (by first | exact Or.inl rfl | exact Or.inr rfl) (fe_lst (fa_cons fe_str (fa_cons fe_str (fa_cons fe_str (fa_cons fe_str (fa_cons fe_str (fa_cons fe_str (fa_cons fe_str (fa_cons fe_str (fa_cons fe_str (fa_cons fe_str (fa_cons fe_str fa_nil))))))))))))) (fss_one (fs_ret (fe_ix hu (fv 2) (fe_bm PySem.F.plainAttrs_list PySem.F.slot_list_index PySem.F.type_list_index tyLst_ok (m_index hu) (fv 1) (fa_cons fe_bl fa_nil)))))))))))
theorem ok_number_in (T : Txt K mg) : FnOk P w K mg base (L2.CX P w) 1 (A_number_in K) T.d_number_in p_number_in (spF K (Ly K) S_number_in) := by
  refine def_ok T.F_number_in sc_number_in (fun ds M h => by unfold S_number_in; rw [decide_eq_false (show ¬ ds.length = 1 from h)]) (fun cdv A outer s H E hr tk hp => ?_) (fun ds M h => by unfold S_number_in; rw [decide_eq_true (show ds.length = 1 from h)]; rfl)
  have hu := hu70 hr
  exact (fss_cons (fs_set sc_number_in.nd rfl (by first | exact Or.inl rfl | exact Or.inr rfl) (fe_and (fe_chain o_le o_le fe_int (fe_cb c_len (by rfl) T.fr_len bb_len (fa_cons (fv 0) fa_nil)) fe_int) (fe_one (fe_cb (c_all rfl) (by rfl) T.fr_all bb_all (fa_cons (fe_lc (own := [("sign", 2)]) rfl sc_number_in.nd  (fi_str (fv 0)) (blkOk_by (N := N_number_in) (sc := defScope s_number_in) (by decide +kernel)) rfl (fun _ _ _ _ _ => (fg_name (by decide) sc_number_in.nd rfl (by first | exact Or.inl rfl | exact Or.inr rfl))) (fun _ _ _ _ _ => fts_nil) (fun _ _ _ _ _ => (fe_cmp op_inS (fv 2) fe_str))) fa_nil))))) (fss_cons (fs_if (fw_t (fw_or (ft_not (ft_val (fv 1))) (fw_or1 (fw_t (fw_and (ft_cmp o_gt (fe_cb c_len (by rfl) T.fr_len bb_len (fa_cons (fv 0) fa_nil)) fe_int) (fw_and1 (ft_cmp (o_eq hu) (fe_ix hu (fv 0) fe_int) fe_str))))))) (fss_one (fs_raise (c := 17) rfl tk T.x_BadText (by rfl))) fss_nil) (fss_one (fs_ret (fe_ct c_intS (by rfl) T.fr_int bb_int (fa_cons (fv 0) fa_nil))))))
theorem ok_is_whole (T : Txt K mg) : FnOk P w K mg base (L2.CX P w) 1 (A_is_whole K) T.d_is_whole p_is_whole (spF K (Ly K) S_is_whole) := by
  refine def_ok T.F_is_whole sc_is_whole (fun ds M h => by unfold S_is_whole; rw [decide_eq_false (show ¬ ds.length = 3 from h)]) (fun cdv A outer s H E hr tk hp => ?_) (fun ds M h => by unfold S_is_whole; rw [decide_eq_true (show ds.length = 3 from h)]; rfl)
  have hu := hu70 hr
  exact (fss_one (fs_ret (fe_and (fe_isi tabInt_ok (by rfl) T.fr_isinstance (by rfl) T.fr_int bb_int (fv 0)) (fe_and (fe_not (fe_isi tabBool_ok (by rfl) T.fr_isinstance (by rfl) T.fr_bool bb_bool (fv 0))) (fe_one (fe_chain o_le o_le (fv 1) (fv 0) (fv 2)))))))
theorem ok_is_order (T : Txt K mg) : FnOk P w K mg base (L2.CX P w) 2 (A_is_order K) T.d_is_order p_is_order (spF K (Ly K) S_is_order) := by
  have c_is_whole := ok_is_whole (P := P) (w := w) (base := base) T
  obtain ⟨g_is_whole_p, b_is_whole_p⟩ := kb_is_whole_p T
  obtain ⟨t_MOST_NUMBER, i_MOST_NUMBER⟩ := T.i_MOST_NUMBER
  obtain ⟨t_MOST_PURSES, i_MOST_PURSES⟩ := T.i_MOST_PURSES
  obtain ⟨t_MOST_SUM, i_MOST_SUM⟩ := T.i_MOST_SUM
  refine def_ok T.F_is_order sc_is_order (fun ds M h => by unfold S_is_order; rw [decide_eq_false (show ¬ ds.length = 2 from h)]) (fun cdv A outer s H E hr tk hp => ?_) (fun ds M h => by unfold S_is_order; rw [decide_eq_true (show ds.length = 2 from h)]; rfl)
  have hu := hu70 hr
  exact (fss_cons (fs_if (fw_t (fw_or (ft_not (ft_val (fe_isi tabTup_ok (by rfl) T.fr_isinstance (by rfl) T.fr_tuple bb_tuple (fv 0)))) (fw_or1 (ft_cmp (o_ne hu) (fe_cb c_len (by rfl) T.fr_len bb_len (fa_cons (fv 0) fa_nil)) fe_int)))) (fss_one (fs_ret fe_bl)) fss_nil) (fss_cons (fs_asg (is := [2, 3, 4, 5]) (fv 0) (fg_tup rfl (fgs_cons (by decide) sc_is_order.nd rfl (by first | exact Or.inl rfl | exact Or.inr rfl) (fgs_cons (by decide) sc_is_order.nd rfl (by first | exact Or.inl rfl | exact Or.inr rfl) (fgs_cons (by decide) sc_is_order.nd rfl (by first | exact Or.inl rfl | exact Or.inr rfl) (fgs_cons (by decide) sc_is_order.nd rfl (by first | exact Or.inl rfl | exact Or.inr rfl) fgs_nil)))))) (fss_cons (fs_if (fw_t (fw_or (ft_not (ft_val (fe_call c_is_whole (hr.mono (by decide : 1 ≤ 1)) tk (by rfl) T.m_is_whole T.F_is_whole.kp b_is_whole_p gr_plain (fa_cons (fv 2) (fa_cons fe_int (fa_cons (fe_op o_sub (fv 1) fe_int) fa_nil)))))) (fw_or (ft_not (ft_val (fe_call c_is_whole (hr.mono (by decide : 1 ≤ 1)) tk (by rfl) T.m_is_whole T.F_is_whole.kp b_is_whole_p gr_plain (fa_cons (fv 4) (fa_cons fe_int (fa_cons (fe_op o_sub (fv 1) fe_int) fa_nil)))))) (fw_or1 (ft_cmp (o_eq hu) (fv 2) (fv 4)))))) (fss_one (fs_ret fe_bl)) fss_nil) (fss_one (fs_ret (fe_and (fe_call c_is_whole (hr.mono (by decide : 1 ≤ 1)) tk (by rfl) T.m_is_whole T.F_is_whole.kp b_is_whole_p gr_plain (fa_cons (fv 3) (fa_cons fe_int (fa_cons (fe_glob (by rfl) i_MOST_NUMBER) fa_nil)))) (fe_one (fe_call c_is_whole (hr.mono (by decide : 1 ≤ 1)) tk (by rfl) T.m_is_whole T.F_is_whole.kp b_is_whole_p gr_plain (fa_cons (fv 5) (fa_cons fe_int (fa_cons (fe_glob (by rfl) i_MOST_SUM) fa_nil)))))))))))
theorem ok_order_read (T : Txt K mg) : FnOk P w K mg base (L2.CX P w) 3 (A_order_read K) T.d_order_read p_order_read (spF K (Ly K) S_order_read) := by
  have c_is_order := ok_is_order (P := P) (w := w) (base := base) T
  have c_number_in := ok_number_in (P := P) (w := w) (base := base) T
  obtain ⟨g_is_order_d, b_is_order_d⟩ := kb_is_order_d T
  obtain ⟨g_number_in_p, b_number_in_p⟩ := kb_number_in_p T
  refine def_ok T.F_order_read sc_order_read (fun ds M h => by unfold S_order_read; rw [decide_eq_false (show ¬ ds.length = 1 from h)]) (fun cdv A outer s H E hr tk hp => ?_) (fun ds M h => by unfold S_order_read; rw [decide_eq_true (show ds.length = 1 from h)]; rfl)
  have hu := hu70 hr
  exact (fss_cons (fs_if (ft_not (ft_val (fe_isi tabStr_ok (by rfl) T.fr_isinstance (by rfl) T.fr_str bb_str (fv 0)))) (fss_one (fs_raise (c := 17) rfl tk T.x_BadText (by rfl))) fss_nil) (fss_cons (fs_set sc_order_read.nd rfl (by first | exact Or.inl rfl | exact Or.inr rfl) (fe_bm PySem.F.plainAttrs_str PySem.F.slot_str_split PySem.F.type_str_split tyStr_ok m_split (fv 0) (fa_cons fe_str fa_nil))) (fss_cons (fs_if (ft_cmp (o_ne hu) (fe_cb c_len (by rfl) T.fr_len bb_len (fa_cons (fv 1) fa_nil)) fe_int) (fss_one (fs_raise (c := 17) rfl tk T.x_BadText (by rfl))) fss_nil) (fss_cons (fs_set sc_order_read.nd rfl (by first | exact Or.inl rfl | exact Or.inr rfl) (fe_bm PySem.F.plainAttrs_str PySem.F.slot_str_split PySem.F.type_str_split tyStr_ok m_split (fe_ix hu (fv 1) fe_int) (fa_cons fe_str fa_nil))) (fss_cons (fs_set sc_order_read.nd rfl (by first | exact Or.inl rfl | exact Or.inr rfl) (fe_bm PySem.F.plainAttrs_str PySem.F.slot_str_split PySem.F.type_str_split tyStr_ok m_split (fe_ix hu (fv 1) fe_int) (fa_cons fe_str fa_nil))) (fss_cons (fs_if (fw_t (fw_or (ft_cmp (o_ne hu) (fe_cb c_len (by rfl) T.fr_len bb_len (fa_cons (fv 2) fa_nil)) fe_int) (fw_or1 (ft_cmp (o_ne hu) (fe_cb c_len (by rfl) T.fr_len bb_len (fa_cons (fv 3) fa_nil)) fe_int)))) (fss_one (fs_raise (c := 17) rfl tk T.x_BadText (by rfl))) fss_nil) (fss_cons (fs_set sc_order_read.nd rfl (by first | exact Or.inl rfl | exact Or.inr rfl) (fe_tup (fa_cons (fe_call c_number_in (hr.mono (by decide : 1 ≤ 2)) tk (by rfl) T.m_number_in T.F_number_in.kp b_number_in_p gr_plain (fa_cons (fe_ix hu (fv 2) fe_int) fa_nil)) (fa_cons (fe_call c_number_in (hr.mono (by decide : 1 ≤ 2)) tk (by rfl) T.m_number_in T.F_number_in.kp b_number_in_p gr_plain (fa_cons (fe_ix hu (fv 2) fe_int) fa_nil)) (fa_cons (fe_call c_number_in (hr.mono (by decide : 1 ≤ 2)) tk (by rfl) T.m_number_in T.F_number_in.kp b_number_in_p gr_plain (fa_cons (fe_ix hu (fv 3) fe_int) fa_nil)) (fa_cons (fe_call c_number_in (hr.mono (by decide : 1 ≤ 2)) tk (by rfl) T.m_number_in T.F_number_in.kp b_number_in_p gr_plain (fa_cons (fe_ix hu (fv 3) fe_int) fa_nil)) fa_nil)))))) (fss_cons (fs_if (ft_not (ft_val (fe_call c_is_order (hr.mono (by decide : 2 ≤ 2)) tk (by rfl) T.m_is_order T.F_is_order.kp b_is_order_d (gr_dfl (fun _ _ => reps_cons (by unfold Rep; rfl) (reps_nil))) (fa_cons (fv 4) fa_nil)))) (fss_one (fs_raise (c := 17) rfl tk T.x_BadText (by rfl))) fss_nil) (fss_one (fs_ret (fv 4)))))))))))
theorem ok_paper_read (T : Txt K mg) : FnOk P w K mg base (L2.CX P w) 4 (A_paper_read K) T.d_paper_read p_paper_read (spF K (Ly K) S_paper_read) := by
  have c_number_in := ok_number_in (P := P) (w := w) (base := base) T
  have c_order_read := ok_order_read (P := P) (w := w) (base := base) T
  obtain ⟨g_number_in_p, b_number_in_p⟩ := kb_number_in_p T
  obtain ⟨g_order_read_p, b_order_read_p⟩ := kb_order_read_p T
  refine def_ok T.F_paper_read sc_paper_read (fun ds M h => by unfold S_paper_read; rw [decide_eq_false (show ¬ ds.length = 1 from h)]) (fun cdv A outer s H E hr tk hp => ?_) (fun ds M h => by unfold S_paper_read; rw [decide_eq_true (show ds.length = 1 from h)]; rfl)
  have hu := hu70 hr
  exact (fss_cons (fs_if (ft_not (ft_val (fe_isi tabStr_ok (by rfl) T.fr_isinstance (by rfl) T.fr_str bb_str (fv 0)))) (fss_one (fs_raise (c := 17) rfl tk T.x_BadText (by rfl))) fss_nil) (fss_cons (fs_set sc_paper_read.nd rfl (by first | exact Or.inl rfl | exact Or.inr rfl) (fe_bm PySem.F.plainAttrs_str PySem.F.slot_str_split PySem.F.type_str_split tyStr_ok m_split (fv 0) (fa_cons fe_str fa_nil))) (fss_cons (fs_if (ft_cmp (o_ne hu) (fe_cb c_len (by rfl) T.fr_len bb_len (fa_cons (fv 1) fa_nil)) fe_int) (fss_one (fs_raise (c := 17) rfl tk T.x_BadText (by rfl))) fss_nil) (fss_cons (fs_set sc_paper_read.nd rfl (by first | exact Or.inl rfl | exact Or.inr rfl) (fe_if (ft_cmp (o_ne hu) (fe_ix hu (fv 1) fe_int) fe_str) (fe_ct c_tuple (by rfl) T.fr_tuple bb_tuple (fa_cons (fe_lcX (own := [("word", 4)]) rfl rfl tk rfl sc_paper_read.nd (fi_seq (fe_bm PySem.F.plainAttrs_str PySem.F.slot_str_split PySem.F.type_str_split tyStr_ok m_split (fe_ix hu (fv 1) fe_int) (fa_cons fe_str fa_nil))) (blkOk_by (N := N_paper_read) (sc := defScope s_paper_read) (by decide +kernel)) rfl (fun _ _ _ _ _ => (fg_name (by decide) sc_paper_read.nd rfl (by first | exact Or.inl rfl | exact Or.inr rfl))) (fun _ _ _ _ _ => fts_nil) (fun W' _ _ _ _ _ pn xe tk => (fe_call c_number_in (hr.mono (by decide : 1 ≤ 3)) tk (by rfl) T.m_number_in T.F_number_in.kp b_number_in_p gr_plain (fa_cons (fv 4) fa_nil)))) fa_nil)) (fe_tup fa_nil))) (fss_cons (fs_if (ft_val (fe_cb (c_any rfl) (by rfl) T.fr_any bb_any (fa_cons (fe_lc (own := [("one", 3)]) rfl sc_paper_read.nd  (fi_seq (fv 2)) (blkOk_by (N := N_paper_read) (sc := defScope s_paper_read) (by decide +kernel)) rfl (fun _ _ _ _ _ => (fg_name (by decide) sc_paper_read.nd rfl (by first | exact Or.inl rfl | exact Or.inr rfl))) (fun _ _ _ _ _ => fts_nil) (fun _ _ _ _ _ => (fe_cmp o_gt (fv 3) fe_int))) fa_nil))) (fss_one (fs_raise (c := 17) rfl tk T.x_BadText (by rfl))) fss_nil) (fss_one (fs_ret (fe_tup (fa_cons (fe_call c_order_read (hr.mono (by decide : 3 ≤ 3)) tk (by rfl) T.m_order_read T.F_order_read.kp b_order_read_p gr_plain (fa_cons (fe_ix hu (fv 1) fe_int) fa_nil)) (fa_cons (fv 2) fa_nil))))))))))
theorem ok__law_read (T : Txt K mg) : FnOk P w K mg base (L2.CX P w) 5 (A__law_read K) T.d__law_read p__law_read (spF K (Ly K) S__law_read) := by
  have c__law_refusal := ok__law_refusal (P := P) (w := w) (base := base) T
  have c_order_read := ok_order_read (P := P) (w := w) (base := base) T
  have c_paper_read := ok_paper_read (P := P) (w := w) (base := base) T
  obtain ⟨g__law_refusal_p, b__law_refusal_p⟩ := kb__law_refusal_p T
  obtain ⟨g_order_read_p, b_order_read_p⟩ := kb_order_read_p T
  obtain ⟨g_paper_read_p, b_paper_read_p⟩ := kb_paper_read_p T
  refine def_ok T.F__law_read sc__law_read (fun ds M h => by unfold S__law_read; rw [decide_eq_false (show ¬ ds.length = 2 from h)]) (fun cdv A outer s H E hr tk hp => ?_) (fun ds M h => by unfold S__law_read; rw [decide_eq_true (show ds.length = 2 from h)]; rfl)
  have hu := hu70 hr
  exact (fss_cons (fs_set sc__law_read.nd rfl (by first | exact Or.inl rfl | exact Or.inr rfl) fe_non) (fss_cons (fs_set sc__law_read.nd rfl (by first | exact Or.inl rfl | exact Or.inr rfl) fe_non) (fss_cons (fs_try rfl rfl rfl sc__law_read.nd tk (fun W' pn xe tk hp => (fss_one (fs_set sc__law_read.nd rfl (by first | exact Or.inl rfl | exact Or.inr rfl) (fe_if (ft_cmp (o_eq hu) (fv 0) fe_int) (fe_call c_order_read (hr.mono (by decide : 3 ≤ 4)) tk (by rfl) T.m_order_read T.F_order_read.kp b_order_read_p gr_plain (fa_cons (fv 1) fa_nil)) (fe_call c_paper_read (hr.mono (by decide : 4 ≤ 4)) tk (by rfl) T.m_paper_read T.F_paper_read.kp b_paper_read_p gr_plain (fa_cons (fv 1) fa_nil)))))) (HdF.cons (i := 4) (tab := tabC 6) ⟨by rfl, by decide, Or.inl T.c_PurseError⟩ rfl rfl (tabC_ok T.exAll 6 (by decide)) (fun a => (fss_one (fs_set sc__law_read.nd rfl (by first | exact Or.inl rfl | exact Or.inr rfl) (fv 4)))) HdF.nil)) (fss_one (fs_ret (fe_if (ft_cmp o_is (fv 2) fe_non) (fv 3) (fe_call c__law_refusal (hr.mono (by decide : 1 ≤ 4)) tk (by rfl) T.m__law_refusal T.F__law_refusal.kp b__law_refusal_p gr_plain (fa_cons (fv 2) fa_nil))))))))
theorem ok_look_order (T : Txt K mg) : FnOk P w K mg base (L2.CX P w) 3 (A_look_order K) T.d_look_order p_look_order (spF K (Ly K) S_look_order) := by
  have c_is_order := ok_is_order (P := P) (w := w) (base := base) T
  obtain ⟨g_is_order_a, b_is_order_a⟩ := kb_is_order_a T
  obtain ⟨t_MOST_PURSES, i_MOST_PURSES⟩ := T.i_MOST_PURSES
  refine def_ok T.F_look_order sc_look_order (fun ds M h => by unfold S_look_order; rw [decide_eq_false (show ¬ ds.length = 2 from h)]) (fun cdv A outer s H E hr tk hp => ?_) (fun ds M h => by unfold S_look_order; rw [decide_eq_true (show ds.length = 2 from h)]; rfl)
  have hu := hu70 hr
  exact (fss_one (fs_if (ft_not (ft_val (fe_callK (ks := ["purses"]) c_is_order (hr.mono (by decide : 2 ≤ 2)) tk (by rfl) T.m_is_order T.F_is_order.kp b_is_order_a gr_app (fa_cons (fv 0) fa_nil) (fk_cons (fv 1) fk_nil)))) (fss_one (fs_raise (c := 8) rfl tk T.x_BadOrder (by rfl))) fss_nil))
theorem ok_order_text (T : Txt K mg) : FnOk P w K mg base (L2.CX P w) 4 (A_order_text K) T.d_order_text p_order_text (spF K (Ly K) S_order_text) := by
  have c_look_order := ok_look_order (P := P) (w := w) (base := base) T
  obtain ⟨g_look_order_d, b_look_order_d⟩ := kb_look_order_d T
  refine def_ok T.F_order_text sc_order_text (fun ds M h => by unfold S_order_text; rw [decide_eq_false (show ¬ ds.length = 1 from h)]) (fun cdv A outer s H E hr tk hp => ?_) (fun ds M h => by unfold S_order_text; rw [decide_eq_true (show ds.length = 1 from h)]; rfl)
  have hu := hu70 hr
  exact (fss_cons (fs_expr (fe_call c_look_order (hr.mono (by decide : 3 ≤ 3)) tk (by rfl) T.m_look_order T.F_look_order.kp b_look_order_d (gr_dfl (fun _ _ => reps_cons (by unfold Rep; rfl) (reps_nil))) (fa_cons (fv 0) fa_nil))) (fss_cons (fs_asg (is := [1, 2, 3, 4]) (fv 0) (fg_tup rfl (fgs_cons (by decide) sc_order_text.nd rfl (by first | exact Or.inl rfl | exact Or.inr rfl) (fgs_cons (by decide) sc_order_text.nd rfl (by first | exact Or.inl rfl | exact Or.inr rfl) (fgs_cons (by decide) sc_order_text.nd rfl (by first | exact Or.inl rfl | exact Or.inr rfl) (fgs_cons (by decide) sc_order_text.nd rfl (by first | exact Or.inl rfl | exact Or.inr rfl) fgs_nil)))))) (fss_one (fs_ret (fe_join (fj_cons (fe_fmt (fv 1)) (fj_cons fe_str (fj_cons (fe_fmt (fv 2)) (fj_cons fe_str (fj_cons (fe_fmt (fv 4)) (fj_cons fe_str (fj_cons (fe_fmt (fv 3)) fj_nil))))))))))))
theorem ok_paper_text (T : Txt K mg) : FnOk P w K mg base (L2.CX P w) 5 (A_paper_text K) T.d_paper_text p_paper_text (spF K (Ly K) S_paper_text) := by
  have c_is_order := ok_is_order (P := P) (w := w) (base := base) T
  have c_order_text := ok_order_text (P := P) (w := w) (base := base) T
  obtain ⟨g_is_order_d, b_is_order_d⟩ := kb_is_order_d T
  obtain ⟨g_order_text_p, b_order_text_p⟩ := kb_order_text_p T
  refine def_ok T.F_paper_text sc_paper_text (fun ds M h => by unfold S_paper_text; rw [decide_eq_false (show ¬ ds.length = 1 from h)]) (fun cdv A outer s H E hr tk hp => ?_) (fun ds M h => by unfold S_paper_text; rw [decide_eq_true (show ds.length = 1 from h)]; rfl)
  have hu := hu70 hr
  exact (fss_cons (fs_set sc_paper_text.nd rfl (by first | exact Or.inl rfl | exact Or.inr rfl) (fe_and (fe_isi tabTup_ok (by rfl) T.fr_isinstance (by rfl) T.fr_tuple bb_tuple (fv 0)) (fe_and (fe_cmp (o_eq hu) (fe_cb c_len (by rfl) T.fr_len bb_len (fa_cons (fv 0) fa_nil)) fe_int) (fe_and (fe_call c_is_order (hr.mono (by decide : 2 ≤ 4)) tk (by rfl) T.m_is_order T.F_is_order.kp b_is_order_d (gr_dfl (fun _ _ => reps_cons (by unfold Rep; rfl) (reps_nil))) (fa_cons (fe_ix hu (fv 0) fe_int) fa_nil)) (fe_one (fe_isi tabTup_ok (by rfl) T.fr_isinstance (by rfl) T.fr_tuple bb_tuple (fe_ix hu (fv 0) fe_int))))))) (fss_cons (fs_if (fw_t (fw_or (ft_not (ft_val (fv 1))) (fw_or1 (ft_not (ft_val (fe_cb (c_all rfl) (by rfl) T.fr_all bb_all (fa_cons (fe_lc (own := [("one", 2)]) rfl sc_paper_text.nd  (fi_seq (fe_ix hu (fv 0) fe_int)) (blkOk_by (N := N_paper_text) (sc := defScope s_paper_text) (by decide +kernel)) rfl (fun _ _ _ _ _ => (fg_name (by decide) sc_paper_text.nd rfl (by first | exact Or.inl rfl | exact Or.inr rfl))) (fun _ _ _ _ _ => fts_nil) (fun _ _ _ _ _ => (fe_and (fe_isi tabInt_ok (by rfl) T.fr_isinstance (by rfl) T.fr_int bb_int (fv 2)) (fe_and (fe_not (fe_isi tabBool_ok (by rfl) T.fr_isinstance (by rfl) T.fr_bool bb_bool (fv 2))) (fe_one (fe_chain o_le o_le fe_int (fv 2) fe_int)))))) fa_nil))))))) (fss_one (fs_raise (c := 15) rfl tk T.x_BadPaper (by rfl))) fss_nil) (fss_one (fs_ret (fe_op o_add (fe_op o_add (fe_call c_order_text (hr.mono (by decide : 4 ≤ 4)) tk (by rfl) T.m_order_text T.F_order_text.kp b_order_text_p gr_plain (fa_cons (fe_ix hu (fv 0) fe_int) fa_nil)) fe_str) (fe_bm PySem.F.plainAttrs_str PySem.F.slot_str_join PySem.F.type_str_join tyStr_ok m_join fe_str (fa_cons (fe_lc (own := [("one", 2)]) rfl sc_paper_text.nd  (fi_seq (fe_ix hu (fv 0) fe_int)) (blkOk_by (N := N_paper_text) (sc := defScope s_paper_text) (by decide +kernel)) rfl (fun _ _ _ _ _ => (fg_name (by decide) sc_paper_text.nd rfl (by first | exact Or.inl rfl | exact Or.inr rfl))) (fun _ _ _ _ _ => fts_nil) (fun _ _ _ _ _ => (fe_ct c_strI (by rfl) T.fr_str bb_str (fa_cons (fv 2) fa_nil)))) fa_nil)))))))
theorem ok__law_written (T : Txt K mg) : FnOk P w K mg base (L2.CX P w) 6 (A__law_written K) T.d__law_written p__law_written (spF K (Ly K) S__law_written) := by
  have c__law_refusal := ok__law_refusal (P := P) (w := w) (base := base) T
  have c_order_text := ok_order_text (P := P) (w := w) (base := base) T
  have c_paper_text := ok_paper_text (P := P) (w := w) (base := base) T
  obtain ⟨g__law_refusal_p, b__law_refusal_p⟩ := kb__law_refusal_p T
  obtain ⟨g_order_text_p, b_order_text_p⟩ := kb_order_text_p T
  obtain ⟨g_paper_text_p, b_paper_text_p⟩ := kb_paper_text_p T
  refine def_ok T.F__law_written sc__law_written (fun ds M h => by unfold S__law_written; rw [decide_eq_false (show ¬ ds.length = 2 from h)]) (fun cdv A outer s H E hr tk hp => ?_) (fun ds M h => by unfold S__law_written; rw [decide_eq_true (show ds.length = 2 from h)]; rfl)
  have hu := hu70 hr
  exact (fss_cons (fs_set sc__law_written.nd rfl (by first | exact Or.inl rfl | exact Or.inr rfl) fe_non) (fss_cons (fs_set sc__law_written.nd rfl (by first | exact Or.inl rfl | exact Or.inr rfl) fe_non) (fss_cons (fs_try rfl rfl rfl sc__law_written.nd tk (fun W' pn xe tk hp => (fss_one (fs_set sc__law_written.nd rfl (by first | exact Or.inl rfl | exact Or.inr rfl) (fe_if (ft_cmp (o_eq hu) (fv 0) fe_int) (fe_call c_order_text (hr.mono (by decide : 4 ≤ 5)) tk (by rfl) T.m_order_text T.F_order_text.kp b_order_text_p gr_plain (fa_cons (fv 1) fa_nil)) (fe_call c_paper_text (hr.mono (by decide : 5 ≤ 5)) tk (by rfl) T.m_paper_text T.F_paper_text.kp b_paper_text_p gr_plain (fa_cons (fv 1) fa_nil)))))) (HdF.cons (i := 4) (tab := tabC 6) ⟨by rfl, by decide, Or.inl T.c_PurseError⟩ rfl rfl (tabC_ok T.exAll 6 (by decide)) (fun a => (fss_one (fs_set sc__law_written.nd rfl (by first | exact Or.inl rfl | exact Or.inr rfl) (fv 4)))) HdF.nil)) (fss_one (fs_ret (fe_if (ft_cmp o_is (fv 2) fe_non) (fv 3) (fe_call c__law_refusal (hr.mono (by decide : 1 ≤ 5)) tk (by rfl) T.m__law_refusal T.F__law_refusal.kp b__law_refusal_p gr_plain (fa_cons (fv 2) fa_nil))))))))
theorem ok_law (T : Txt K mg) : FnOk P w K mg base (L2.CX P w) 7 (A_law K) T.d_law p_law (spF K (Ly K) S_law) := by
  have c__law_draw := ok__law_draw (P := P) (w := w) (base := base) T
  have c__law_pick := ok__law_pick (P := P) (w := w) (base := base) T
  have c__law_read := ok__law_read (P := P) (w := w) (base := base) T
  have c__law_town := ok__law_town (P := P) (w := w) (base := base) T
  have c__law_written := ok__law_written (P := P) (w := w) (base := base) T
  have c_order_read := ok_order_read (P := P) (w := w) (base := base) T
  have c_order_text := ok_order_text (P := P) (w := w) (base := base) T
  have c_paper_read := ok_paper_read (P := P) (w := w) (base := base) T
  have c_paper_text := ok_paper_text (P := P) (w := w) (base := base) T
  obtain ⟨g__law_draw_p, b__law_draw_p⟩ := kb__law_draw_p T
  obtain ⟨g__law_pick_p, b__law_pick_p⟩ := kb__law_pick_p T
  obtain ⟨g__law_read_p, b__law_read_p⟩ := kb__law_read_p T
  obtain ⟨g__law_town_p, b__law_town_p⟩ := kb__law_town_p T
  obtain ⟨g__law_written_p, b__law_written_p⟩ := kb__law_written_p T
  obtain ⟨g_order_read_p, b_order_read_p⟩ := kb_order_read_p T
  obtain ⟨g_order_text_p, b_order_text_p⟩ := kb_order_text_p T
  obtain ⟨g_paper_read_p, b_paper_read_p⟩ := kb_paper_read_p T
  obtain ⟨g_paper_text_p, b_paper_text_p⟩ := kb_paper_text_p T
  refine def_ok T.F_law sc_law (fun ds M h => by unfold S_law; rw [decide_eq_false (show ¬ ds.length = 1 from h)]) (fun cdv A outer s H E hr tk hp => ?_) (fun ds M h => by unfold S_law; rw [decide_eq_true (show ds.length = 1 from h)]; rfl)
  have hu := hu70 hr
  exact (fss_cons (fs_set sc_law.nd rfl (by first | exact Or.inl rfl | exact Or.inr rfl) (fe_call c__law_town (hr.mono (by decide : 1 ≤ 6)) tk (by rfl) T.m__law_town T.F__law_town.kp b__law_town_p gr_plain (fa_cons (fv 0) fa_nil))) (fss_cons (fs_set sc_law.nd rfl (by first | exact Or.inl rfl | exact Or.inr rfl) (fe_call c__law_draw (hr.mono (by decide : 1 ≤ 6)) tk (by rfl) T.m__law_draw T.F__law_draw.kp b__law_draw_p gr_plain (fa_cons (fv 1) (fa_cons fe_int fa_nil)))) (fss_cons (fs_set sc_law.nd rfl (by first | exact Or.inl rfl | exact Or.inr rfl) (fe_tup (fa_cons (fv 2) (fa_cons (fe_call c__law_pick (hr.mono (by decide : 2 ≤ 6)) tk (by rfl) T.m__law_pick T.F__law_pick.kp b__law_pick_p gr_plain (fa_cons (fv 1) (fa_cons (fe_lst (fa_cons fe_int (fa_cons fe_int (fa_cons fe_int (fa_cons (fe_call c__law_draw (hr.mono (by decide : 1 ≤ 6)) tk (by rfl) T.m__law_draw T.F__law_draw.kp b__law_draw_p gr_plain (fa_cons (fv 1) (fa_cons fe_int fa_nil))) fa_nil))))) fa_nil))) (fa_cons (fe_op o_mod (fe_op o_add (fv 2) fe_int) fe_int) (fa_cons (fe_call c__law_pick (hr.mono (by decide : 2 ≤ 6)) tk (by rfl) T.m__law_pick T.F__law_pick.kp b__law_pick_p gr_plain (fa_cons (fv 1) (fa_cons (fe_lst (fa_cons fe_int (fa_cons fe_int (fa_cons (fe_op o_add fe_int (fe_call c__law_draw (hr.mono (by decide : 1 ≤ 6)) tk (by rfl) T.m__law_draw T.F__law_draw.kp b__law_draw_p gr_plain (fa_cons (fv 1) (fa_cons fe_int fa_nil)))) fa_nil)))) fa_nil))) fa_nil)))))) (fss_cons (fs_set sc_law.nd rfl (by first | exact Or.inl rfl | exact Or.inr rfl) (fe_op o_add (fe_op o_add (fe_op o_add (fe_op o_add (fe_op o_add (fe_op o_add (fe_ct c_strI (by rfl) T.fr_str bb_str (fa_cons (fe_ix hu (fv 3) fe_int) fa_nil)) fe_str) (fe_ct c_strI (by rfl) T.fr_str bb_str (fa_cons (fe_ix hu (fv 3) fe_int) fa_nil))) fe_str) (fe_ct c_strI (by rfl) T.fr_str bb_str (fa_cons (fe_ix hu (fv 3) fe_int) fa_nil))) fe_str) (fe_ct c_strI (by rfl) T.fr_str bb_str (fa_cons (fe_ix hu (fv 3) fe_int) fa_nil)))) (fss_cons (fs_set sc_law.nd rfl (by first | exact Or.inl rfl | exact Or.inr rfl) (fe_ct c_tuple (by rfl) T.fr_tuple bb_tuple (fa_cons (fe_lc (own := [("_law_k", 12)]) rfl sc_law.nd  (fi_rng1 (by rfl) T.fr_range (fa_cons fe_int fa_nil)) (blkOk_by (N := N_law) (sc := defScope s_law) (by decide +kernel)) rfl (fun _ _ _ _ _ => (fg_name (by decide) sc_law.nd rfl (by first | exact Or.inl rfl | exact Or.inr rfl))) (fun _ _ _ _ _ => (fts_one (ft_cmp (o_eq hu) (fe_call c__law_draw (hr.mono (by decide : 1 ≤ 6)) takes0 (by rfl) T.m__law_draw T.F__law_draw.kp b__law_draw_p gr_plain (fa_cons (fv 1) (fa_cons fe_int fa_nil))) fe_int))) (fun _ _ _ _ _ => (fv 12))) fa_nil))) (fss_cons (fs_set sc_law.nd rfl (by first | exact Or.inl rfl | exact Or.inr rfl) (fe_op o_add (fe_op o_add (fv 4) fe_str) (fe_bm PySem.F.plainAttrs_str PySem.F.slot_str_join PySem.F.type_str_join tyStr_ok m_join fe_str (fa_cons (fe_lc (own := [("_law_one", 13)]) rfl sc_law.nd  (fi_seq (fv 5)) (blkOk_by (N := N_law) (sc := defScope s_law) (by decide +kernel)) rfl (fun _ _ _ _ _ => (fg_name (by decide) sc_law.nd rfl (by first | exact Or.inl rfl | exact Or.inr rfl))) (fun _ _ _ _ _ => fts_nil) (fun _ _ _ _ _ => (fe_ct c_strI (by rfl) T.fr_str bb_str (fa_cons (fv 13) fa_nil)))) fa_nil)))) (fss_cons (fs_if (fw_t (fw_or (ft_cmp (o_ne hu) (fe_call c_order_text (hr.mono (by decide : 4 ≤ 6)) tk (by rfl) T.m_order_text T.F_order_text.kp b_order_text_p gr_plain (fa_cons (fv 3) fa_nil)) (fv 4)) (fw_or1 (ft_cmp (o_ne hu) (fe_call c_paper_text (hr.mono (by decide : 5 ≤ 6)) tk (by rfl) T.m_paper_text T.F_paper_text.kp b_paper_text_p gr_plain (fa_cons (fe_tup (fa_cons (fv 3) (fa_cons (fv 5) fa_nil))) fa_nil)) (fv 6))))) (fss_one (fs_ret fe_bl)) fss_nil) (fss_cons (fs_if (fw_t (fw_or (ft_cmp (o_ne hu) (fe_call c_order_read (hr.mono (by decide : 3 ≤ 6)) tk (by rfl) T.m_order_read T.F_order_read.kp b_order_read_p gr_plain (fa_cons (fv 4) fa_nil)) (fv 3)) (fw_or1 (ft_cmp (o_ne hu) (fe_call c_paper_read (hr.mono (by decide : 4 ≤ 6)) tk (by rfl) T.m_paper_read T.F_paper_read.kp b_paper_read_p gr_plain (fa_cons (fv 6) fa_nil)) (fe_tup (fa_cons (fv 3) (fa_cons (fv 5) fa_nil))))))) (fss_one (fs_ret fe_bl)) fss_nil) (fss_cons (fs_set sc_law.nd rfl (by first | exact Or.inl rfl | exact Or.inr rfl) (fe_call c__law_draw (hr.mono (by decide : 1 ≤ 6)) tk (by rfl) T.m__law_draw T.F__law_draw.kp b__law_draw_p gr_plain (fa_cons (fv 1) (fa_cons (fe_op o_add (fe_cb c_len (by rfl) T.fr_len bb_len (fa_cons (fv 6) fa_nil)) fe_int) fa_nil)))) (fss_cons (fs_set sc_law.nd rfl (by first | exact Or.inl rfl | exact Or.inr rfl) (fe_call c__law_pick (hr.mono (by decide : 2 ≤ 6)) tk (by rfl) T.m__law_pick T.F__law_pick.kp b__law_pick_p gr_plain (fa_cons (fv 1) (fa_cons (fe_lst (fa_cons fe_str (fa_cons fe_str (fa_cons fe_str (fa_cons fe_str (fa_cons fe_str (fa_cons fe_str (fa_cons fe_str (fa_cons fe_str fa_nil))))))))) fa_nil)))) (fss_cons (fs_for (is := [9]) hp rfl (fi_seq (fe_lst (fa_cons (fe_op o_add (fe_op o_add (fe_sl (fv 6) fo_none (fo_some (fv 7))) (fv 8)) (fe_sl (fv 6) (fo_some (fv 7)) fo_none)) (fa_cons (fe_op o_add (fe_sl (fv 6) fo_none (fo_some (fv 7))) (fe_sl (fv 6) (fo_some (fe_op o_add (fv 7) fe_int)) fo_none)) (fa_cons (fv 4) (fa_cons fe_str (fa_cons (fe_op o_add (fv 6) fe_str) (fa_cons (fe_op o_add (fv 4) fe_str) (fa_cons (fe_op o_add (fv 4) fe_str) fa_nil))))))))) (fg_name (by decide) sc_law.nd rfl (by first | exact Or.inl rfl | exact Or.inr rfl)) (fss_cons (fs_set sc_law.nd rfl (by first | exact Or.inl rfl | exact Or.inr rfl) (fe_call c__law_read (hr.mono (by decide : 5 ≤ 6)) tk (by rfl) T.m__law_read T.F__law_read.kp b__law_read_p gr_plain (fa_cons fe_int (fa_cons (fv 9) fa_nil)))) (fss_cons (fs_if (fw_t (fw_and (ft_cmp (o_ne hu) (fv 10) fe_str) (fw_and1 (fw_t (fw_or (ft_not (ft_val (fe_isi tabTup_ok (by rfl) T.fr_isinstance (by rfl) T.fr_tuple bb_tuple (fv 10)))) (fw_or1 (ft_cmp (o_ne hu) (fe_call c__law_written (hr.mono (by decide : 6 ≤ 6)) tk (by rfl) T.m__law_written T.F__law_written.kp b__law_written_p gr_plain (fa_cons fe_int (fa_cons (fv 10) fa_nil))) (fv 9)))))))) (fss_one (fs_ret fe_bl)) fss_nil) (fss_cons (fs_set sc_law.nd rfl (by first | exact Or.inl rfl | exact Or.inr rfl) (fe_call c__law_read (hr.mono (by decide : 5 ≤ 6)) tk (by rfl) T.m__law_read T.F__law_read.kp b__law_read_p gr_plain (fa_cons fe_int (fa_cons (fv 9) fa_nil)))) (fss_one (fs_if (fw_t (fw_and (ft_cmp (o_ne hu) (fv 10) fe_str) (fw_and1 (fw_t (fw_or (ft_not (ft_val (fe_isi tabTup_ok (by rfl) T.fr_isinstance (by rfl) T.fr_tuple bb_tuple (fv 10)))) (fw_or1 (ft_cmp (o_ne hu) (fe_call c__law_written (hr.mono (by decide : 6 ≤ 6)) tk (by rfl) T.m__law_written T.F__law_written.kp b__law_written_p gr_plain (fa_cons fe_int (fa_cons (fv 10) fa_nil))) (fv 9)))))))) (fss_one (fs_ret fe_bl)) fss_nil)))))) (fss_cons (fs_for (is := [11]) hp rfl (fi_seq (fe_lst (fa_cons fe_non (fa_cons fe_int (fa_cons (fe_lst (fa_cons (fv 4) fa_nil)) (fa_cons fe_bl fa_nil)))))) (fg_name (by decide) sc_law.nd rfl (by first | exact Or.inl rfl | exact Or.inr rfl)) (fss_one (fs_if (fw_t (fw_or (ft_cmp (o_ne hu) (fe_call c__law_read (hr.mono (by decide : 5 ≤ 6)) tk (by rfl) T.m__law_read T.F__law_read.kp b__law_read_p gr_plain (fa_cons fe_int (fa_cons (fv 11) fa_nil))) fe_str) (fw_or1 (ft_cmp (o_ne hu) (fe_call c__law_read (hr.mono (by decide : 5 ≤ 6)) tk (by rfl) T.m__law_read T.F__law_read.kp b__law_read_p gr_plain (fa_cons fe_int (fa_cons (fv 11) fa_nil))) fe_str)))) (fss_one (fs_ret fe_bl)) fss_nil))) (fss_cons (fs_for (is := [11]) hp rfl (fi_seq (fe_lst (fa_cons fe_non (fa_cons fe_int (fa_cons (fe_tup (fa_cons (fv 3) fa_nil)) (fa_cons (fe_lst (fa_cons (fv 3) (fa_cons (fv 5) fa_nil))) (fa_cons (fe_tup (fa_cons (fv 3) (fa_cons (fe_lst (fa_cons fe_int fa_nil)) fa_nil))) (fa_cons (fe_tup (fa_cons (fv 3) (fa_cons (fe_tup (fa_cons fe_int fa_nil)) fa_nil))) (fa_cons (fe_tup (fa_cons (fv 3) (fa_cons (fe_tup (fa_cons fe_bl fa_nil)) fa_nil))) (fa_cons (fe_tup (fa_cons (fv 3) (fa_cons (fe_tup (fa_cons (fe_op o_sub fe_int fe_int) fa_nil)) fa_nil))) (fa_cons (fe_tup (fa_cons (fe_tup (fa_cons fe_int (fa_cons fe_int (fa_cons fe_int (fa_cons fe_int fa_nil))))) (fa_cons (fe_tup fa_nil) fa_nil))) fa_nil))))))))))) (fg_name (by decide) sc_law.nd rfl (by first | exact Or.inl rfl | exact Or.inr rfl)) (fss_one (fs_if (ft_cmp (o_ne hu) (fe_call c__law_written (hr.mono (by decide : 6 ≤ 6)) tk (by rfl) T.m__law_written T.F__law_written.kp b__law_written_p gr_plain (fa_cons fe_int (fa_cons (fv 11) fa_nil))) fe_str) (fss_one (fs_ret fe_bl)) fss_nil))) (fss_one (fs_ret (fe_and (fe_cmp (o_eq hu) (fe_call c__law_read (hr.mono (by decide : 5 ≤ 6)) tk (by rfl) T.m__law_read T.F__law_read.kp b__law_read_p gr_plain (fa_cons fe_int (fa_cons fe_str fa_nil))) fe_str) (fe_and (fe_cmp (o_eq hu) (fe_call c__law_read (hr.mono (by decide : 5 ≤ 6)) tk (by rfl) T.m__law_read T.F__law_read.kp b__law_read_p gr_plain (fa_cons fe_int (fa_cons fe_str fa_nil))) fe_str) (fe_one (fe_cmp (o_eq hu) (fe_call c__law_read (hr.mono (by decide : 5 ≤ 6)) tk (by rfl) T.m__law_read T.F__law_read.kp b__law_read_p gr_plain (fa_cons fe_int (fa_cons (fe_op o_add (fv 4) fe_str) fa_nil))) fe_str)))))))))))))))))))
end
theorem txt_of {K : PySem.W.Frag} {mg : Str → Option Value} {h : Heap} (X : K.In h) (G : h.Ns mainGlobals mg) (c : SaysX fa fn xs K) : Nonempty (Txt K mg) := by
  obtain ⟨e__law_town, f__law_town⟩ := c.1.def_ 0 (d := d__law_town) rfl
  obtain ⟨e__law_draw, f__law_draw⟩ := c.1.def_ 1 (d := d__law_draw) rfl
  obtain ⟨e__law_pick, f__law_pick⟩ := c.1.def_ 2 (d := d__law_pick) rfl
  obtain ⟨e__law_refusal, f__law_refusal⟩ := c.1.def_ 3 (d := d__law_refusal) rfl
  obtain ⟨e_number_in, f_number_in⟩ := c.1.def_ 4 (d := d_number_in) rfl
  obtain ⟨e_is_whole, f_is_whole⟩ := c.1.def_ 5 (d := d_is_whole) rfl
  obtain ⟨e_is_order, f_is_order⟩ := c.1.def_ 6 (d := d_is_order) rfl
  obtain ⟨e_order_read, f_order_read⟩ := c.1.def_ 7 (d := d_order_read) rfl
  obtain ⟨e_paper_read, f_paper_read⟩ := c.1.def_ 8 (d := d_paper_read) rfl
  obtain ⟨e__law_read, f__law_read⟩ := c.1.def_ 9 (d := d__law_read) rfl
  obtain ⟨e_look_order, f_look_order⟩ := c.1.def_ 10 (d := d_look_order) rfl
  obtain ⟨e_order_text, f_order_text⟩ := c.1.def_ 11 (d := d_order_text) rfl
  obtain ⟨e_paper_text, f_paper_text⟩ := c.1.def_ 12 (d := d_paper_text) rfl
  obtain ⟨e__law_written, f__law_written⟩ := c.1.def_ 13 (d := d__law_written) rfl
  obtain ⟨e_law, f_law⟩ := c.1.def_ 14 (d := d_law) rfl
  exact ⟨{ m__law_town := He.glo_ok X G (c.1.fact 0 (f := .glo "_law_town") rfl), m__law_draw := He.glo_ok X G (c.1.fact 1 (f := .glo "_law_draw") rfl), m__law_pick := He.glo_ok X G (c.1.fact 2 (f := .glo "_law_pick") rfl), m__law_refusal := He.glo_ok X G (c.1.fact 3 (f := .glo "_law_refusal") rfl), m_number_in := He.glo_ok X G (c.1.fact 4 (f := .glo "number_in") rfl), m_is_whole := He.glo_ok X G (c.1.fact 5 (f := .glo "is_whole") rfl), m_is_order := He.glo_ok X G (c.1.fact 6 (f := .glo "is_order") rfl), m_order_read := He.glo_ok X G (c.1.fact 7 (f := .glo "order_read") rfl), m_paper_read := He.glo_ok X G (c.1.fact 8 (f := .glo "paper_read") rfl), m__law_read := He.glo_ok X G (c.1.fact 9 (f := .glo "_law_read") rfl), m_look_order := He.glo_ok X G (c.1.fact 10 (f := .glo "look_order") rfl), m_order_text := He.glo_ok X G (c.1.fact 11 (f := .glo "order_text") rfl), m_paper_text := He.glo_ok X G (c.1.fact 12 (f := .glo "paper_text") rfl), m__law_written := He.glo_ok X G (c.1.fact 13 (f := .glo "_law_written") rfl), m_law := He.glo_ok X G (c.1.fact 14 (f := .glo "law") rfl), fr_ValueError := He.free_ok X G (c.1.fact 15 (f := .free "ValueError") rfl), fr_all := He.free_ok X G (c.1.fact 16 (f := .free "all") rfl), fr_any := He.free_ok X G (c.1.fact 17 (f := .free "any") rfl), fr_bool := He.free_ok X G (c.1.fact 18 (f := .free "bool") rfl), fr_int := He.free_ok X G (c.1.fact 19 (f := .free "int") rfl), fr_isinstance := He.free_ok X G (c.1.fact 20 (f := .free "isinstance") rfl), fr_len := He.free_ok X G (c.1.fact 21 (f := .free "len") rfl), fr_list := He.free_ok X G (c.1.fact 22 (f := .free "list") rfl), fr_range := He.free_ok X G (c.1.fact 23 (f := .free "range") rfl), fr_str := He.free_ok X G (c.1.fact 24 (f := .free "str") rfl), fr_tuple := He.free_ok X G (c.1.fact 25 (f := .free "tuple") rfl), i_MOST_NUMBER := He.int_ok X G (c.1.fact 26 (f := .int "MOST_NUMBER" 99) rfl), i_MOST_PURSES := He.int_ok X G (c.1.fact 27 (f := .int "MOST_PURSES" 8) rfl), i_MOST_SUM := He.int_ok X G (c.1.fact 28 (f := .int "MOST_SUM" 1000) rfl), c_BadCut := He.glo_ok X G (c.1.fact 29 (f := .glo "BadCut") rfl), c_BadHouses := He.glo_ok X G (c.1.fact 30 (f := .glo "BadHouses") rfl), c_BadNumber := He.glo_ok X G (c.1.fact 31 (f := .glo "BadNumber") rfl), c_BadOrder := He.glo_ok X G (c.1.fact 32 (f := .glo "BadOrder") rfl), c_BadPaper := He.glo_ok X G (c.1.fact 33 (f := .glo "BadPaper") rfl), c_BadText := He.glo_ok X G (c.1.fact 34 (f := .glo "BadText") rfl), c_NoHouse := He.glo_ok X G (c.1.fact 35 (f := .glo "NoHouse") rfl), c_NoLetter := He.glo_ok X G (c.1.fact 36 (f := .glo "NoLetter") rfl), c_NoPurse := He.glo_ok X G (c.1.fact 37 (f := .glo "NoPurse") rfl), c_NotNow := He.glo_ok X G (c.1.fact 38 (f := .glo "NotNow") rfl), c_PurseError := He.glo_ok X G (c.1.fact 39 (f := .glo "PurseError") rfl), c_TooMuch := He.glo_ok X G (c.1.fact 40 (f := .glo "TooMuch") rfl), x_BadOrder := exk_of (He.glo_ok X G (c.1.fact 32 (f := .glo "BadOrder") rfl)) (c.1.fact 41 (f := .exc "BadOrder") rfl), x_BadPaper := exk_of (He.glo_ok X G (c.1.fact 33 (f := .glo "BadPaper") rfl)) (c.1.fact 42 (f := .exc "BadPaper") rfl), x_BadText := exk_of (He.glo_ok X G (c.1.fact 34 (f := .glo "BadText") rfl)) (c.1.fact 43 (f := .exc "BadText") rfl), exAll := exB_ok rfl (c.2 _ (List.mem_of_getElem? (i := 0) rfl)), d__law_town := e__law_town, d__law_draw := e__law_draw, d__law_pick := e__law_pick, d__law_refusal := e__law_refusal, d_number_in := e_number_in, d_is_whole := e_is_whole, d_is_order := e_is_order, d_order_read := e_order_read, d_paper_read := e_paper_read, d__law_read := e__law_read, d_look_order := e_look_order, d_order_text := e_order_text, d_paper_text := e_paper_text, d__law_written := e__law_written, d_law := e_law, F__law_town := f__law_town, F__law_draw := f__law_draw, F__law_pick := f__law_pick, F__law_refusal := f__law_refusal, F_number_in := f_number_in, F_is_whole := f_is_whole, F_is_order := f_is_order, F_order_read := f_order_read, F_paper_read := f_paper_read, F__law_read := f__law_read, F_look_order := f_look_order, F_order_text := f_order_text, F_paper_text := f_paper_text, F__law_written := f__law_written, F_law := f_law }⟩
def spLaw (K : PySem.W.Frag) : Sp := spF K (Ly K) S_law
theorem facts {P : Program} {w : World} {K : PySem.W.Frag} {h : Heap} {mg : Str → Option Value} {f : Addr} (X : K.In h) (G : h.Ns mainGlobals mg) (hfa : mg ("law" : Str) = some (.ref f)) (c : SaysX fa fn xs K) :
    ∃ fd : FuncData, (∀ (s : Shared) (v : Value), BindsTo s fd ⟨[v], []⟩ [("_law_script", v)]) ∧ ∀ base : Heap, K.In base → base.Ns mainGlobals mg → FnOk P w K mg base (CXA P) 7 f fd ["_law_script"] (spLaw K) := by
  obtain ⟨T⟩ := txt_of X G c
  have e := hfa.symm.trans T.m_law
  cases e
  have b := L2.FunD.bindsA (ps := ["_law_script"]) T.F_law fun _ _ _ _ _ _ us hl => match us, hl with | [_], _ => rfl
  exact ⟨T.d_law, fun s v => b s [v] rfl, fun base _ _ => Fl.FnOk.anyW (ok_law T)⟩
end Wk
open PySem PySem.W PySem.Calls PyProof.Rows
set_option maxRecDepth 100000 in
set_option maxHeartbeats 0 in
theorem PySem.Challenge.cw_manypurses_k17_whole_texts_holds : PySem.Challenge.rw_manypurses_k17_whole_texts.Holds := by
  w_on; o_law
  refine HandSHeadRun.head_any (r := OpenLaw.row PySem.Challenge.rw_manypurses_k17_whole_texts) (q := view (OpenLaw.row PySem.Challenge.rw_manypurses_k17_whole_texts).prog [33]) (H := Wk.hk) (ob := Wk.ob) (M := 4000) (loose := Wk.loose) (d := HandSHeadRun.topDef (OpenLaw.row PySem.Challenge.rw_manypurses_k17_whole_texts).prog 33) (kwd := []) Wk.ob_eq
    (by kernel_rfl) (fun s => by kernel_rfl) Wk.run (by kernel_rfl) (by kernel_rfl) (by kernel_rfl) (by rfl) (by first | assumption | decide +kernel) (by decide +kernel) ⟨rfl, rfl, rfl, rfl, rfl, by decide +kernel⟩ ?hw ?hc
  case hw => w_witness2
  case hc =>
    refine L2.walk_ofE (l := PySem.Challenge.rw_manypurses_k17_whole_texts) (n := 63) (k := 7) (x := "_law_script") (CX := Fl.CXA (PySem.Challenge.rw_manypurses_k17_whole_texts).prog) rfl (by decide) (by kernel_rfl) ⟨rfl, by decide, by decide⟩ ?F ?X
    case F =>
      intro w mg fa h Y G hmg0
      obtain ⟨K, KX, c⟩ := Y
      have hmg : mg ("law" : PySem.Str) = some (.ref fa) := by
        have e : (HandSHeadRun.topDef (OpenLaw.row PySem.Challenge.rw_manypurses_k17_whole_texts).prog 33).name = ("law" : PySem.Str) := by kernel_rfl
        rw [← e]
        exact hmg0
      obtain ⟨fd, hb, hF⟩ := Wk.facts (P := (PySem.Challenge.rw_manypurses_k17_whole_texts).prog) (w := w) KX G hmg c
      exact ⟨K, fd, Wk.spLaw K, KX, hb, fun H a ns hl hO hS => Fl.law_end (Fl.plain ns hl) hO hS, hF⟩
    case X => exact Fl.cxa_none
