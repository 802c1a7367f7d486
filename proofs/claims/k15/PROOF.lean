import PyProof.Rows.All
import Wide.All
import OpenK.AllK
import Wide.FinOn
import HandS.ForMost
import HandS.ForExc
import HandS.Defaults
import HandS.MakeKwOnly
import HandS.CallSlots
import HandS.Style
import HandS.TupAny
import HandS.TupMul
import HandS.TupLe
import HandS.Deep
import PyProof.Rows.InDataRows
import HandS.ExcInit
import HandS.ExcIs
import HandS.ExcValue
import HandS.TryMany
import HandS.IsInst
import KE.KExcIs
import HandS.Small
import HandS.FStr
import HandS.More
import KE.DataFind
import HandS.SetKeys
import HandS.Iter
import PyProof.DictMoreH
import HandS.SetFor
import HandS.TupSets
import KE.SortData
import HandS.Strs
import HandS.Conv
import HandS.HeadHook2
import HandS.HeadEnd
import KE.KIsAll
import HandS.ExcField
import HandS.DictComp
import PyProof.DictUpdate
import HandS.SetBool
import KE.KEqDict
import KE.GoesMore
import KE.KDictSum
import KE.KDictCopyH
import KE.KeyNested
import PyProof.DictRoadsH
import PyProof.SumWalkG
import PyProof.WalksMore
import HandS.Head2
import PySem.Challenge.RW_manypurses_k15_cuts_refused
set_option Elab.async false
set_option linter.all false
set_option pp.maxSteps 400
set_option maxRecDepth 100000
set_option maxHeartbeats 4000000
set_option synthInstance.maxSize 100000
set_option synthInstance.maxHeartbeats 4000000
namespace Fl
open PySem PySem.Spec L2
inductive D where
  | non | bl (b : Bool) | int (i : Int) | str (s : Str) | tup (ds : List D) | rol (ds : List D) | ref (n : Nat)
inductive MO where
  | lst (ds : List D)
  | dk (kvs : List (Key × D)) | dt (kvs : List (List Key × D))
  | fk (kvs : List (Key × D)) | ft (kvs : List (List Key × D))
    | dn (kvs : List (List (List Int) × D)) | fn (kvs : List (List (List Int) × D))
  | ins (c : Nat) (fs : List (Nat × D))
  | exc (c : Nat) (f : Option (Nat × D))
abbrev Mem := List MO
structure Lay where
  nm : Nat → Str
  cls : Nat → Addr
  nc : Nat
  inj : ∀ i j, nm i = nm j → i = j
def WrT (K : PySem.W.Frag) (t : Addr) (vs : List V) : Prop :=
  ∃ (o : Obj) (its : Array Value) (n : Nat), K.lookup t = some o ∧ o.cls = .type "tuple" ∧ o.data = .seq its n ∧ its.size ≤ sizeLine ∧ Vals vs its.toList
def WrL (K : PySem.W.Frag) (t : Addr) (vs : List V) : Prop :=
  ∃ (o : Obj) (its : Array Value) (n : Nat), K.lookup t = some o ∧ o.cls = .type "list" ∧ o.dict = none ∧ o.data = .seq its n ∧ its.size ≤ sizeLine ∧ Vals vs its.toList
def TupAt (K : PySem.W.Frag) (H : Hp) (t : Addr) (vs : List V) : Prop := H t = some (.tup vs) ∨ (vs = [] ∧ WrT K t vs)
def RolAt (K : PySem.W.Frag) (H : Hp) (t : Addr) (vs : List V) : Prop := (∃ o, H t = some (.frz o (.lst vs))) ∨ WrL K t vs
theorem TupAt.sq {K : PySem.W.Frag} {H : Hp} {t : Addr} {vs : List V} (h : TupAt K H t vs) : SqT K H t vs := by
  rcases h with h | ⟨_, h⟩
  · exact .inl (.inl h)
  · exact .inr h
theorem RolAt.sq {K : PySem.W.Frag} {H : Hp} {t : Addr} {vs : List V} (h : RolAt K H t vs) : SqL K H t vs := by
  rcases h with ⟨o, h⟩ | h
  · exact .inl (.inr ⟨o, h⟩)
  · exact .inr h
mutual
def Rep (K : PySem.W.Frag) (α : List Addr) (H : Hp) : D → V → Prop
  | .non, v => v = .non
  | .bl b, v => v = .bl b
  | .int i, v => v = .int i
  | .str s, v => v = .str s
  | .tup ds, v => ∃ t vs, v = .ref t ∧ TupAt K H t vs ∧ Reps K α H ds vs
  | .rol ds, v => ∃ t vs, v = .ref t ∧ RolAt K H t vs ∧ Reps K α H ds vs
  | .ref n, v => ∃ a, α[n]? = some a ∧ v = .ref a
def Reps (K : PySem.W.Frag) (α : List Addr) (H : Hp) : List D → List V → Prop
  | [], vs => vs = []
  | d :: ds, vs => ∃ x xs, vs = x :: xs ∧ Rep K α H d x ∧ Reps K α H ds xs
end
structure Le (α : List Addr) (H : Hp) (α' : List Addr) (H' : Hp) : Prop where
  ext : ∃ β, α' = α ++ β ∧ ∀ b ∈ β, H b = none
  keep : ∀ a o, H a = some o → a ∉ α → H' a = some o
  dom : ∀ a, H a ≠ none → H' a ≠ none
  tups : ∀ a xs, H a = some (.tup xs) → H' a = some (.tup xs)
  rols : ∀ a o u, H a = some (.frz o u) → H' a = some (.frz o u)
theorem Le.trans {α α1 α2 : List Addr} {H H1 H2 : Hp} (a : Le α H α1 H1) (b : Le α1 H1 α2 H2) : Le α H α2 H2 := by
  obtain ⟨β, e, f⟩ := a.ext
  obtain ⟨γ, e', f'⟩ := b.ext
  refine ⟨⟨β ++ γ, by rw [e', e, List.append_assoc], fun x hx => ?_⟩, fun x o h n => ?_, fun x h => b.dom x (a.dom x h), fun x xs h => b.tups x xs (a.tups x xs h), fun x o xs h => b.rols x o xs (a.rols x o xs h)⟩
  · rcases List.mem_append.mp hx with h | h
    · exact f x h
    · have z := f' x h
      cases q : H x with
      | none => rfl
      | some o => exact absurd z (a.dom x (by rw [q]; exact fun z => nomatch z))
  · refine b.keep x o (a.keep x o h n) fun hm => ?_
    rw [e] at hm
    rcases List.mem_append.mp hm with q | q
    · exact n q
    · rw [f x q] at h; cases h
structure Lw (α : List Addr) (H : Hp) (α' : List Addr) (H' : Hp) : Prop where
  ext : ∃ β, α' = α ++ β
  tups : ∀ a xs, H a = some (.tup xs) → H' a = some (.tup xs)
  rols : ∀ a o xs, H a = some (.frz o (.lst xs)) → H' a = some (.frz o (.lst xs))
theorem Le.lw {α α' : List Addr} {H H' : Hp} (l : Le α H α' H') : Lw α H α' H' := ⟨let ⟨β, e, _⟩ := l.ext; ⟨β, e⟩, l.tups, fun a o xs h => l.rols a o _ h⟩
theorem Lw.get {α α' : List Addr} {H H' : Hp} (l : Lw α H α' H') {n : Nat} {a : Addr} (h : α[n]? = some a) : α'[n]? = some a := by
  obtain ⟨β, rfl⟩ := l.ext
  obtain ⟨hn, _⟩ := List.getElem?_eq_some_iff.mp h
  rw [List.getElem?_append_left hn]
  exact h
theorem Le.get {α α' : List Addr} {H H' : Hp} (l : Le α H α' H') {n : Nat} {a : Addr} (h : α[n]? = some a) : α'[n]? = some a := l.lw.get h
section
variable {K : PySem.W.Frag} {α α' : List Addr} {H H' : Hp}
theorem TupAt.lw {t : Addr} {vs : List V} (l : Lw α H α' H') (h : TupAt K H t vs) : TupAt K H' t vs := by
  rcases h with h | h
  · exact .inl (l.tups _ _ h)
  · exact .inr h
theorem RolAt.lw {t : Addr} {vs : List V} (l : Lw α H α' H') (h : RolAt K H t vs) : RolAt K H' t vs := by
  rcases h with ⟨o, h⟩ | h
  · exact .inl ⟨o, l.rols _ _ _ h⟩
  · exact .inr h
mutual
theorem Rep.lw (l : Lw α H α' H') : ∀ {d : D} {v : V}, Rep K α H d v → Rep K α' H' d v
  | .non, _, h => by unfold Rep at h ⊢; exact h
  | .bl _, _, h => by unfold Rep at h ⊢; exact h
  | .int _, _, h => by unfold Rep at h ⊢; exact h
  | .str _, _, h => by unfold Rep at h ⊢; exact h
  | .tup ds, _, h => by
    unfold Rep at h ⊢
    obtain ⟨t, vs, e, ht, hr⟩ := h
    exact ⟨t, vs, e, ht.lw l, Reps.lw l hr⟩
  | .rol ds, _, h => by
    unfold Rep at h ⊢
    obtain ⟨t, vs, e, ht, hr⟩ := h
    exact ⟨t, vs, e, ht.lw l, Reps.lw l hr⟩
  | .ref n, _, h => by
    unfold Rep at h ⊢
    obtain ⟨a, e, r⟩ := h
    exact ⟨a, l.get e, r⟩
theorem Reps.lw (l : Lw α H α' H') : ∀ {ds : List D} {vs : List V}, Reps K α H ds vs → Reps K α' H' ds vs
  | [], _, h => by unfold Reps at h ⊢; exact h
  | d :: ds, _, h => by
    unfold Reps at h ⊢
    obtain ⟨x, xs, e, h1, h2⟩ := h
    exact ⟨x, xs, e, Rep.lw l h1, Reps.lw l h2⟩
end
theorem Reps.length : ∀ {ds : List D} {vs : List V}, Reps K α H ds vs → ds.length = vs.length
  | [], _, h => by unfold Reps at h; subst h; rfl
  | d :: ds, _, h => by
    unfold Reps at h
    obtain ⟨x, xs, rfl, _, h2⟩ := h
    rw [List.length_cons, List.length_cons, Reps.length h2]
theorem Reps.at {ds : List D} {vs : List V} (h : Reps K α H ds vs) {i : Nat} {d : D} (e : ds[i]? = some d) : ∃ v, vs[i]? = some v ∧ Rep K α H d v := by
  induction ds generalizing vs i with
  | nil => simp at e
  | cons a r ih =>
    unfold Reps at h
    obtain ⟨x, xs, rfl, h1, h2⟩ := h
    cases i with
    | zero =>
      have q : a = d := by simpa using e
      subst q
      exact ⟨x, rfl, h1⟩
    | succ i =>
      obtain ⟨v, e1, e2⟩ := ih h2 (i := i) (by simpa using e)
      exact ⟨v, by simpa using e1, e2⟩
end
end Fl
namespace Fl
open PySem PySem.Spec L2
def KvR {κ : Type} (K : PySem.W.Frag) (α : List Addr) (H : Hp) : List (κ × D) → List (κ × V) → Prop := Paired fun p q => p.1 = q.1 ∧ Rep K α H p.2 q.2
def FsR (K : PySem.W.Frag) (L : Lay) (α : List Addr) (H : Hp) : List (Nat × D) → List (Str × V) → Prop := Paired fun p q => q.1 = L.nm p.1 ∧ Rep K α H p.2 q.2
def ExH (cls : Value) (d : Option Addr) (a : Addr) : HO := .ext fun h => ∃ (oe : Obj) (vs : Array Value), h.get? a = some oe ∧ Zc cls d oe ∧ oe.data = .fields vs
def XRep (K : PySem.W.Frag) (L : Lay) (α : List Addr) (H : Hp) (c : Nat) (f : Option (Nat × D)) (cls : Value) (d : Option Addr) : Prop :=
  cls = .ref (L.cls c) ∧ match f with
    | none => d = none
    | some p => ∃ dd v, d = some dd ∧ H dd = some (.xd [(L.nm p.1, v)]) ∧ Rep K α H p.2 v
abbrev NK := List (List Int)
def NK.hash (k : NK) : Int := reduceHash (Builtin.Tuple.tupleHashOf (k.map fun r => reduceHash (Builtin.Tuple.tupleHashOf (r.map hashInt))))
def NAt (H : Hp) (k : NK) (t : Addr) : Prop := ∃ ts : List Addr, H t = some (.tup (ts.map V.ref)) ∧ Paired (fun (r : List Int) (u : Addr) => H u = some (.tup (r.map V.int))) k ts
def NDict (a : Addr) (vs : List (NK × Addr × V)) : HO := .ext fun h => (a == sysModules) = false ∧ vs.length ≤ sizeLine ∧
  ∃ ws : List (NK × Addr × Value), Paired (fun (p : NK × Addr × V) (q : NK × Addr × Value) => p.1 = q.1 ∧ p.2.1 = q.2.1 ∧ RelV p.2.2 q.2.2) vs ws ∧
  ∃ o es ep, h.get? a = some o ∧ o.ExactDict ∧ o.data = .dict es ep ∧ es.toList = ws.map (fun x => (⟨x.1.hash, .ref x.2.1, x.2.2⟩ : DictEntry)) ∧ (ws.map (·.1)).Nodup
def NKR (K : PySem.W.Frag) (α : List Addr) (H : Hp) : List (NK × D) → List (NK × Addr × V) → Prop := Paired fun p q => p.1 = q.1 ∧ NAt H p.1 q.2.1 ∧ Rep K α H p.2 q.2.2
def RepO (K : PySem.W.Frag) (L : Lay) (α : List Addr) (H : Hp) (a : Addr) : MO → Prop
  | .lst ds => ∃ vs, H a = some (.lst vs) ∧ Reps K α H ds vs
  | .dk kvs => ∃ vs, H a = some (.dK vs) ∧ KvR K α H kvs vs
  | .dt kvs => ∃ vs, H a = some (.dT vs) ∧ KvR K α H kvs vs
  | .fk kvs => ∃ o vs, H a = some (.frz o (.dK vs)) ∧ KvR K α H kvs vs
  | .ft kvs => ∃ o vs, H a = some (.frz o (.dT vs)) ∧ KvR K α H kvs vs
  | .dn kvs => ∃ vs, H a = some (NDict a vs) ∧ NKR K α H kvs vs
  | .fn kvs => ∃ o vs, H a = some (.frz o (NDict a vs)) ∧ NKR K α H kvs vs
  | .ins c fs => ∃ dx vs, H a = some (.ins (L.cls c) dx vs) ∧ FsR K L α H fs vs ∧ c < L.nc
  | .exc c f => ∃ cls d, H a = some (ExH cls d a) ∧ XRep K L α H c f cls d ∧ ∀ dd, d = some dd → dd ∉ α
def Ours : HO → Prop
  | .tup _ => False
  | .frz _ (.lst _) => False
  | .xd _ => False
  | .own _ => False
  | _ => True
theorem RepO.ours {K : PySem.W.Frag} {L : Lay} {α : List Addr} {H : Hp} {a : Addr} : ∀ {o : MO}, RepO K L α H a o → ∃ u, H a = some u ∧ Ours u
  | .lst _, ⟨vs, h, _⟩ => ⟨_, h, trivial⟩
  | .dk _, ⟨vs, h, _⟩ => ⟨_, h, trivial⟩
  | .dt _, ⟨vs, h, _⟩ => ⟨_, h, trivial⟩
  | .fk _, ⟨o, vs, h, _⟩ => ⟨_, h, trivial⟩
  | .ft _, ⟨o, vs, h, _⟩ => ⟨_, h, trivial⟩
  | .dn _, ⟨vs, h, _⟩ => ⟨_, h, trivial⟩
  | .fn _, ⟨o, vs, h, _⟩ => ⟨_, h, trivial⟩
  | .ins _ _, ⟨dx, vs, h, _⟩ => ⟨_, h, trivial⟩
  | .exc _ _, ⟨c, d, h, _⟩ => ⟨_, h, trivial⟩
structure Rel (K : PySem.W.Frag) (L : Lay) (α : List Addr) (M : Mem) (H : Hp) : Prop where
  len : α.length = M.length
  nd : α.Nodup
  ob : ∀ (n : Nat) (o : MO) (a : Addr), M[n]? = some o → α[n]? = some a → RepO K L α H a o
section
variable {K : PySem.W.Frag} {L : Lay} {α α' : List Addr} {M : Mem} {H H' : Hp}
theorem KvR.lw {κ : Type} (l : Lw α H α' H') {ks : List (κ × D)} {vs : List (κ × V)} (h : KvR K α H ks vs) : KvR K α' H' ks vs := by
  induction h with
  | nil => exact .nil
  | cons p _ ih => exact .cons ⟨p.1, p.2.lw l⟩ ih
theorem NAt.lw (l : Lw α H α' H') {k : NK} {t : Addr} (h : NAt H k t) : NAt H' k t := by
  obtain ⟨ts, e, q⟩ := h
  exact ⟨ts, l.tups _ _ e, Paired.mapP q fun _ _ z => l.tups _ _ z⟩
theorem NKR.lw (l : Lw α H α' H') {ks : List (NK × D)} {vs : List (NK × Addr × V)} (h : NKR K α H ks vs) : NKR K α' H' ks vs := by
  induction h with
  | nil => exact .nil
  | cons p _ ih => exact .cons ⟨p.1, p.2.1.lw l, p.2.2.lw l⟩ ih
theorem FsR.lw (l : Lw α H α' H') {ks : List (Nat × D)} {vs : List (Str × V)} (h : FsR K L α H ks vs) : FsR K L α' H' ks vs := by
  induction h with
  | nil => exact .nil
  | cons p _ ih => exact .cons ⟨p.1, p.2.lw l⟩ ih
theorem Rel.at (r : Rel K L α M H) {n : Nat} {o : MO} (h : M[n]? = some o) : ∃ a, α[n]? = some a ∧ RepO K L α H a o := by
  obtain ⟨hn, _⟩ := List.getElem?_eq_some_iff.mp h
  have hn' : n < α.length := by rw [r.len]; exact hn
  exact ⟨α[n], List.getElem?_eq_getElem hn', r.ob n o _ h (List.getElem?_eq_getElem hn')⟩
theorem XRep.lw (l : Lw α H α' H') {c : Nat} {f : Option (Nat × D)} {cls : Value} {d : Option Addr} (h : XRep K L α H c f cls d) (hx : ∀ dd fs, d = some dd → H dd = some (.xd fs) → H' dd = some (.xd fs)) : XRep K L α' H' c f cls d := by
  refine ⟨h.1, ?_⟩
  have h2 := h.2
  cases f with
  | none => exact h2
  | some p =>
    obtain ⟨dd, v, e, hd, hr⟩ := h2
    exact ⟨dd, v, e, hx _ _ e hd, hr.lw l⟩
theorem RepO.stayW {a : Addr} (l : Lw α H α' H') (e : H' a = H a) (hx : ∀ dd fs, dd ∉ α → H dd = some (.xd fs) → H' dd = some (.xd fs)) (hb : ∀ b, H b ≠ none → b ∈ α' → b ∈ α) : ∀ {o : MO}, RepO K L α H a o → RepO K L α' H' a o
  | .lst _, ⟨vs, h, q⟩ => ⟨vs, e.trans h, q.lw l⟩
  | .dk _, ⟨vs, h, q⟩ => ⟨vs, e.trans h, q.lw l⟩
  | .dt _, ⟨vs, h, q⟩ => ⟨vs, e.trans h, q.lw l⟩
  | .fk _, ⟨o, vs, h, q⟩ => ⟨o, vs, e.trans h, q.lw l⟩
  | .ft _, ⟨o, vs, h, q⟩ => ⟨o, vs, e.trans h, q.lw l⟩
  | .dn _, ⟨vs, h, q⟩ => ⟨vs, e.trans h, q.lw l⟩
  | .fn _, ⟨o, vs, h, q⟩ => ⟨o, vs, e.trans h, q.lw l⟩
  | .ins _ _, ⟨dx, vs, h, q, z⟩ => ⟨dx, vs, e.trans h, q.lw l, z⟩
  | .exc c f, ⟨cls, d, h, q, x⟩ => ⟨cls, d, e.trans h, q.lw l (fun dd fs ed => hx dd fs (x dd ed)), fun dd ed hm => by
      have q2 := q.2
      cases f with
      | none => rw [q2] at ed; cases ed
      | some p =>
        obtain ⟨d2, v, e2, hd, _⟩ := q2
        rw [ed] at e2; cases e2
        exact x dd ed (hb dd (by rw [hd]; exact fun z => nomatch z) hm)⟩
theorem RepO.stay {a : Addr} (l : Le α H α' H') (r : Rel K L α M H) (e : H' a = H a) (hb : ∀ b, H b ≠ none → b ∈ α' → b ∈ α) {o : MO} (h : RepO K L α H a o) : RepO K L α' H' a o := h.stayW l.lw e (fun dd fs n z => l.keep _ _ z n) hb
theorem Le.tup {p : Addr} {vs : List V} (n : H p = none) : Le α H α (upd H p (.tup vs)) := by
  refine ⟨⟨[], by simp, by simp⟩, fun a o h _ => ?_, fun a h => ?_, fun a xs h => ?_, fun a o xs h => ?_⟩
  · rw [upd_ne (ne_of_none h n)]; exact h
  · by_cases q : a = p
    · rw [q, upd_same]; exact fun z => nomatch z
    · rw [upd_ne q]; exact h
  · rw [upd_ne (ne_of_none h n)]; exact h
  · rw [upd_ne (ne_of_none h n)]; exact h
theorem Rel.tup (r : Rel K L α M H) {p : Addr} {vs : List V} (n : H p = none) : Rel K L α M (upd H p (.tup vs)) := by
  refine ⟨r.len, r.nd, fun i o a h1 h2 => (r.ob i o a h1 h2).stay (Le.tup n) r ?_ fun _ _ h => h⟩
  obtain ⟨u, hu, _⟩ := (r.ob i o a h1 h2).ours
  rw [upd_ne (ne_of_none hu n)]
end
abbrev Sl := List (Option D)
def Slots (K : PySem.W.Frag) (α : List Addr) (H : Hp) (s : Sl) (σ : St) : Prop := s.length = σ.length ∧ ∀ (i : Nat) (d : D), s[i]? = some (some d) → ∃ v, σ[i]? = some (some v) ∧ Rep K α H d v
theorem Slots.lw {K : PySem.W.Frag} {α α' : List Addr} {H H' : Hp} (l : Lw α H α' H') {s : Sl} {σ : L2.St} (h : Slots K α H s σ) : Slots K α' H' s σ := ⟨h.1, fun i d e => let ⟨v, h1, h2⟩ := h.2 i d e; ⟨v, h1, h2.lw l⟩⟩
end Fl
namespace Fl
open PySem PySem.Spec L2
inductive Res (A : Type) where
  | ok (a : A) (M : Mem) | exc (c : Nat) (f : Option (Nat × D)) (M : Mem) | bad
inductive SR where
  | nx (s : Sl) (M : Mem) | rt (d : D) (M : Mem) | bk (s : Sl) (M : Mem) | ct (s : Sl) (M : Mem) | exc (c : Nat) (f : Option (Nat × D)) (s : Sl) (M : Mem) | bad
abbrev EF := Sl → Mem → Res D
abbrev AF := Sl → Mem → Res (List D)
abbrev SF := Sl → Mem → SR
abbrev W3 := Value → Option Addr → Hp → Prop
section
variable {K : PySem.W.Frag} {L : Lay} {W : WX} {σ : L2.St} {H H' : Hp} {α α' : List Addr} {M : Mem} {s : Sl}
def SR.seq (r : SR) (u : SF) : SR := match r with
  | .nx s M => u s M
  | r => r
end
end Fl
namespace Fl
open PySem PySem.Spec L2
def listAt (M : Mem) (n : Nat) : Option (List D) := match M[n]? with
  | some (.lst ds) => some ds
  | _ => none
def seqOf (M : Mem) : D → Option (List D)
  | .tup ds => some ds
  | .rol ds => some ds
  | .ref n => listAt M n
  | _ => none
theorem listAt_some {M : Mem} {n : Nat} {ds : List D} (h : listAt M n = some ds) : M[n]? = some (.lst ds) := by
  unfold listAt at h
  split at h
  · rename_i e
    cases h
    exact e
  · cases h
section
variable {K : PySem.W.Frag} {L : Lay} {α : List Addr} {M : Mem} {H : Hp}
theorem Rel.list (r : Rel K L α M H) {n : Nat} {ds : List D} (h : listAt M n = some ds) : ∃ a vs, α[n]? = some a ∧ H a = some (.lst vs) ∧ Reps K α H ds vs := by
  obtain ⟨a, ha, vs, hv, hr⟩ := r.at (listAt_some h)
  exact ⟨a, vs, ha, hv, hr⟩
theorem Rep.ref {n : Nat} {v : V} (h : Rep K α H (.ref n) v) : ∃ a, α[n]? = some a ∧ v = .ref a := by unfold Rep at h; exact h
theorem Rep.tup {ds : List D} {v : V} (h : Rep K α H (.tup ds) v) : ∃ t vs, v = .ref t ∧ TupAt K H t vs ∧ Reps K α H ds vs := by unfold Rep at h; exact h
theorem Rep.rol {ds : List D} {v : V} (h : Rep K α H (.rol ds) v) : ∃ t vs, v = .ref t ∧ RolAt K H t vs ∧ Reps K α H ds vs := by unfold Rep at h; exact h
theorem Rep.non {v : V} (h : Rep K α H .non v) : v = .non := by unfold Rep at h; exact h
theorem Rep.bl {b : Bool} {v : V} (h : Rep K α H (.bl b) v) : v = .bl b := by unfold Rep at h; exact h
theorem Rep.int {b : Int} {v : V} (h : Rep K α H (.int b) v) : v = .int b := by unfold Rep at h; exact h
theorem Rep.str {b : Str} {v : V} (h : Rep K α H (.str b) v) : v = .str b := by unfold Rep at h; exact h
theorem Rep.seq (r : Rel K L α M H) {d : D} {v : V} {ds : List D} (h : Rep K α H d v) (hs : seqOf M d = some ds) : ∃ a vs, v = .ref a ∧ (SqL K H a vs ∨ SqT K H a vs) ∧ Reps K α H ds vs := by
  cases d <;> try (cases hs; done)
  · cases hs
    obtain ⟨t, vs, e, ht, hr⟩ := h.tup
    exact ⟨t, vs, e, .inr ht.sq, hr⟩
  · cases hs
    obtain ⟨t, vs, e, ht, hr⟩ := h.rol
    exact ⟨t, vs, e, .inl ht.sq, hr⟩
  · obtain ⟨a, ha, e⟩ := h.ref
    obtain ⟨a', vs, ha', hv, hr⟩ := r.list hs
    rw [ha] at ha'; cases ha'
    exact ⟨a, vs, e, .inl (.of hv), hr⟩
end
section
variable {X : Cx} {L : Lay} {w : W3}
theorem dt {p : Prop} [Decidable p] (h : decide p = true) : p := of_decide_eq_true h
end
end Fl
namespace Fl
open PySem PySem.Spec L2
def OptR (K : PySem.W.Frag) (α : List Addr) (H : Hp) (o : Option D) (v : Option V) : Prop := match o with
  | some d => ∃ u, v = some u ∧ Rep K α H d u
  | none => v = none
theorem OptR.isSome {K : PySem.W.Frag} {α : List Addr} {H : Hp} {o : Option D} {ov : Option V} (h : OptR K α H o ov) : ov.isSome = o.isSome := by
  cases o with
  | none => have q : ov = none := h
            rw [q]; rfl
  | some d => obtain ⟨u, e, _⟩ := h; rw [e]; rfl
section
variable {K : PySem.W.Frag} {L : Lay} {α : List Addr} {M : Mem} {H : Hp}
theorem KvR.length {κ : Type} {kvs : List (κ × D)} {vs : List (κ × V)} (h : KvR K α H kvs vs) : kvs.length = vs.length := Paired.length h
end
end Fl
namespace Fl
open PySem PySem.Spec L2
section
variable {K : PySem.W.Frag} {α : List Addr} {H : Hp}
theorem Reps.nil {vs : List V} (h : Reps K α H [] vs) : vs = [] := by unfold Reps at h; exact h
theorem Reps.cons {d : D} {ds : List D} {vs : List V} (h : Reps K α H (d :: ds) vs) : ∃ x xs, vs = x :: xs ∧ Rep K α H d x ∧ Reps K α H ds xs := by unfold Reps at h; exact h
end
end Fl
namespace Fl
open PySem PySem.Spec L2
section
variable {X : Cx} {L : Lay} {W : WX} {k n : Nat} {f C : Addr} {fd : FuncData} {ps ks : List Str} {S : List D → Mem → Res D} {g : List Value → List Value → List Value} {gV : List V → List V → List V}
variable {x m : Str} {p pos apos : Pos} {e o : Expr} {es : List Expr} {kws : List Keyword} {fa fk : AF} {fo : EF} {gD : List D → List D → List D}
theorem FsR.length {K : PySem.W.Frag} {α : List Addr} {H : Hp} {fs : List (Nat × D)} {vs : List (Str × V)} (h : FsR K L α H fs vs) : fs.length = vs.length := Paired.length h
end
end Fl
namespace Fl
open PySem PySem.Spec L2
def Own (is : List Nat) (σ σ' : L2.St) : Prop := σ'.length = σ.length ∧ ∀ j, j ∉ is → σ'[j]? = σ[j]?
theorem Own.trans {is : List Nat} {a b c : L2.St} (h : Own is a b) (h' : Own is b c) : Own is a c := ⟨h'.1.trans h.1, fun j hj => (h'.2 j hj).trans (h.2 j hj)⟩
structure Lx (α : List Addr) (H : Hp) (α' : List Addr) (H' : Hp) : Prop where
  ext : ∃ β, α' = α ++ β
  tups : ∀ a xs, H a = some (.tup xs) → H' a = some (.tup xs)
  rols : ∀ a o u, H a = some (.frz o u) → H' a = some (.frz o u)
theorem Lx.lw {α α' : List Addr} {H H' : Hp} (l : Lx α H α' H') : Lw α H α' H' := ⟨l.ext, l.tups, fun a o xs h => l.rols a o _ h⟩
theorem Lx.trans {α α1 α2 : List Addr} {H H1 H2 : Hp} (a : Lx α H α1 H1) (b : Lx α1 H1 α2 H2) : Lx α H α2 H2 :=
  ⟨let ⟨β, e⟩ := a.ext; let ⟨γ, e'⟩ := b.ext; ⟨β ++ γ, by rw [e', e, List.append_assoc]⟩, fun x xs h => b.tups x xs (a.tups x xs h), fun x o xs h => b.rols x o xs (a.rols x o xs h)⟩
theorem Lx.get {α α' : List Addr} {H H' : Hp} (l : Lx α H α' H') {n : Nat} {a : Addr} (h : α[n]? = some a) : α'[n]? = some a := l.lw.get h
end Fl
namespace Fl
open PySem PySem.Spec L2
open PyProof.Rows (envOfC)
end Fl
namespace Fl
open PySem PySem.Spec L2
end Fl
namespace Fl
open PySem PySem.Spec L2
end Fl
namespace Fl
open PySem PySem.Spec L2
end Fl
namespace Fl
open PySem PySem.Spec L2
end Fl
namespace Fl
open PySem PySem.Spec L2
end Fl
namespace Fl
open PySem PySem.Spec L2
end Fl
namespace Fl
open PySem PySem.Spec L2 PyProof.Rows
end Fl
namespace Fl
open PySem PySem.Spec L2
end Fl
namespace Fl
open PySem PySem.Spec L2 PyProof.Rows
end Fl
namespace Fl
open PySem PySem.Spec L2 PyProof.Rows
end Fl
namespace Fl
open PySem PySem.Spec L2
end Fl
namespace Fl
open PySem PySem.Spec L2
def nmL0 : List Str := ["worth", "nexts", "votes", "asked", "stack", "done", "houses", "few", "signers", "first", "liars", "cheats", "board", "rooms", "posts", "issued", "world", "purse", "many", "spent", "got", "owners", "need", "chosen", "house", "may_vote", "hear", "new_votes", "can_settle", "take"]
def nmL1 : List Str := ["go_on", "settle", "state", "load", "sign", "votes_for", "is_paper", "paper", "papers", "honest", "room", "look_liar", "look_purse", "order_to_all", "paper_to_all", "next_number", "ask", "left_at", "cheat", "lie", "signed", "show", "letters", "come", "sums", "settled", "voted", "waits", "is_still", "add"]
def nmL2 : List Str := ["signers_of", "good", "has", "order", "ready", "is_sure", "two_faced"]
def nmList : List Str := nmL0 ++ nmL1 ++ nmL2
def nmOf (i : Nat) : Str := match nmList[i]? with
  | some x => x
  | none => ⟨Array.replicate (i + 100) 46⟩
end Fl
namespace Fl
open PySem PySem.Spec L2
abbrev AlX : Type := He.AlD × Bool
def obsX (fa : List He.Fa) (fn : List He.DefD) (xs : List (PySem.W.Frag → Bool)) (K : PySem.W.Frag) : AlX := (He.obsD fa fn K, xs.all fun x => x K)
def obsXG (n : Nat) (fa : List He.Fa) (fn : List He.DefD) (xs : List (PySem.W.Frag → Bool)) (g : Addr → Option Obj) : AlX := obsX fa fn xs (He.frG g (He.asD g n))
def SaysX (fa : List He.Fa) (fn : List He.DefD) (xs : List (PySem.W.Frag → Bool)) (K : PySem.W.Frag) : Prop := He.SaysD fa fn K ∧ ∀ x ∈ xs, x K = true
def hookX (n : Nat) (fa : List He.Fa) (fn : List He.DefD) (xs : List (PySem.W.Frag → Bool)) : PySem.W.Hook where
  α := AlX
  obs := fun s => obsXG n fa fn xs s.heap.get?
  val := fun _ => (He.valD fn, true)
  says := fun _ h => ∃ K : PySem.W.Frag, K.In h ∧ SaysX fa fn xs K
  of := fun _ _ e => ⟨_, He.frG_in, congrArg (fun z : AlX => z.1) e, fun x hx => List.all_eq_true.mp (congrArg (fun z : AlX => z.2) e) x hx⟩
  keeps := fun _ _ _ ⟨K, hK, c⟩ k => ⟨K, PySem.W.Frag.In.keeps hK k, c⟩
def okO {A : Type} [DecidableEq A] (a b : A) : Bool := decide (a = b)
def insB (K : PySem.W.Frag) (C : Addr) : Bool :=
  (PySem.W.plainGet K C Str.empty && (PySem.W.hasDictIn K C && (PySem.W.plainOver K C && He.eqO (PySem.W.findIn K (.ref C) "__setattr__") (some (some (.builtin "object.__setattr__")))))) &&
  (He.eqO (PySem.W.findIn K (.ref C) "__class__") (some (some (.builtin "object.__class__"))) && (He.eqO (PySem.W.specialIn K (.builtin "object.__class__") "__get__") (some (some (.builtin "getset_descriptor.__get__"))) &&
    (okO (PySem.W.takesIn K (.builtin "object.__class__")) (some true) && okO (PySem.W.mroIn K C (.type "object")) (some true))))
def xcB (K : PySem.W.Frag) (C : Addr) : Bool :=
  ((PySem.W.clsIn K C).isSome && (He.eqO (PySem.W.findIn K (.ref C) "__getattribute__") (some (some (.builtin "BaseException.__getattribute__"))) && (He.eqO (PySem.W.findIn K (.ref C) "__getattr__") (some none) && okO (PySem.W.subIn K (.ref C) (.type "BaseException")) (some true)))) &&
  (He.eqO (PySem.W.findIn K (.ref C) "__class__") (some (some (.builtin "object.__class__"))) && (He.eqO (PySem.W.specialIn K (.builtin "object.__class__") "__get__") (some (some (.builtin "getset_descriptor.__get__"))) &&
    (okO (PySem.W.takesIn K (.builtin "object.__class__")) (some true) && okO (PySem.W.mroIn K C (.type "object")) (some true))))
def exRow : List Nat := [6, 7, 8, 9, 10, 11, 12, 13, 14, 15, 16, 17]
def exSub (c d : Nat) : Bool := decide (d = 6) || decide (c = d)
def exB (cls : PySem.W.Frag → Nat → Addr) (K : PySem.W.Frag) : Bool :=
  exRow.all fun c => xcB K (cls K c) && (okO (PySem.W.kitOne K (.ref (cls K c)) (.type "ValueError")) (some true) &&
    exRow.all fun d => okO (PySem.W.exmOne K (.ref (cls K c)) (.ref (cls K d))) (some (exSub c d)) && okO (PySem.W.kitOne K (.ref (cls K c)) (.ref (cls K d))) (some (exSub c d)))
end Fl
namespace Fl
open PySem PySem.Spec L2
def clB (cls : PySem.W.Frag → Nat → Addr) (K : PySem.W.Frag) : Bool :=
  (List.range 6).all fun c => insB K (cls K c) && (List.range 25).all fun i => He.eqO (PySem.W.findIn K (.ref (cls K c)) (nmOf i)) (some none)
end Fl
namespace Fl
open PySem PySem.Spec L2
def wB (cls : PySem.W.Frag → Nat → Addr) (K : PySem.W.Frag) : Bool :=
  ((["NoneType", "bool", "int", "str", "tuple", "list", "dict"] : List String).all fun T => okO (PySem.W.kitOne K (.type T) (.ref (cls K 0))) (some false)) &&
  (okO (PySem.W.kitOne K (.ref (cls K 0)) (.ref (cls K 0))) (some true) && okO (PySem.W.kitOne K (.ref (cls K 3)) (.ref (cls K 0))) (some false))
end Fl
namespace Fl
open PySem PySem.Spec L2
def oexB (K : PySem.W.Frag) (C : Addr) : Bool :=
  (match K.lookup C with
  | some ⟨.type "type", _, .cls cd, sl⟩ => (match cd.mro, sl.toList with
    | .ref C' :: bm, [_, _, _, _, some (.builtin n), _] => C' == C && n == "ValueError.__new__" && !cd.hasDel && (cd.hasDict && PySem.HandSPX.refsVE bm)
    | _, _ => false)
  | _ => false) && (He.eqO (PySem.W.findIn K (.ref C) "__setattr__") (some (some (.builtin "object.__setattr__"))) && (okO (PySem.W.subIn K (.ref C) (.type "BaseException")) (some true) &&
    (okO (PySem.W.typeIn K (.ref C)) (some (.type "type")) && PySem.W.keepIn K (.ref C))))
def exfB (K : PySem.W.Frag) (C fI : Addr) (f : Str) : Bool := oexB K C && (He.eqO (PySem.W.findIn K (.ref C) f) (some none) && (He.eqO (PySem.W.findIn K (.ref C) "__init__") (some (some (.ref fI))) && okO (PySem.W.typeIn K (.ref fI)) (some (.type "function"))))
def xrB (K : PySem.W.Frag) (C : Addr) (n : Str) : Bool := xfB K C && He.eqO (PySem.W.findIn K (.ref C) n) (some none)
end Fl
namespace Fl
open PySem PySem.Spec L2
end Fl
namespace PySem
end PySem
namespace Fl
open PySem PySem.Spec L2
def kwdAt (f : Str × Option Str) (x : Str) (K : PySem.W.Frag) : Addr := match K.lookup (He.fAd K f) with
  | some ⟨_, _, .func fd, _⟩ => (match fd.kwdefaults with
    | .ref D => (match PySem.W.nsIn K D x with
      | some (some (.ref a)) => a
      | _ => 0)
    | _ => 0)
  | _ => 0
def emptyB (K : PySem.W.Frag) (a : Addr) : Bool := match K.lookup a with
  | some ⟨c, _, .seq its _, _⟩ => okO c (.type "tuple") && its.isEmpty
  | _ => false
end Fl
namespace Wk
open PySem PySem.Spec PyProof.Rows L2 Fl
def top (i : Nat) : Stmt := PySem.Challenge.pw_manypurses_k15_cuts_refused.main.body.getD i (.Pass ⟨0, 0, 0, 0⟩)
abbrev s__law_town : Stmt := top 45
abbrev s_is_whole : Stmt := top 14
abbrev s_look_number : Stmt := top 15
abbrev s_look_liars : Stmt := top 16
abbrev s_Board___init__ : Stmt := inClass (top 25) 0
abbrev s_House___init__ : Stmt := inClass (top 27) 0
abbrev s_World___init__ : Stmt := inClass (top 31) 0
abbrev s_look_world : Stmt := top 32
abbrev s_Cutting___init__ : Stmt := inClass (top 36) 0
abbrev s_World_look_purse : Stmt := inClass (top 31) 4
abbrev s_World_next_number : Stmt := inClass (top 31) 7
abbrev s_World_honest : Stmt := inClass (top 31) 1
abbrev s_World_order_to_all : Stmt := inClass (top 31) 5
abbrev s_enough : Stmt := top 23
abbrev s_Board_is_paper : Stmt := inClass (top 25) 3
abbrev s_World_left_at : Stmt := inClass (top 31) 9
abbrev s_World_ask : Stmt := inClass (top 31) 8
abbrev s__law_draw : Stmt := top 46
abbrev s__law_pick : Stmt := top 47
abbrev s_House_state : Stmt := inClass (top 27) 8
abbrev s_World_room : Stmt := inClass (top 31) 2
abbrev s_cut_of : Stmt := top 34
abbrev s_Cutting_add : Stmt := inClass (top 36) 2
abbrev s_Cutting_sign : Stmt := inClass (top 36) 1
abbrev s_World_letters : Stmt := inClass (top 31) 14
abbrev s_is_order : Stmt := top 21
abbrev s_look_order : Stmt := top 22
abbrev s_House_may_vote : Stmt := inClass (top 27) 1
abbrev s_House_new_votes : Stmt := inClass (top 27) 3
abbrev s_House_hear : Stmt := inClass (top 27) 2
abbrev s_Board_sign : Stmt := inClass (top 25) 1
abbrev s_World_paper_to_all : Stmt := inClass (top 31) 6
abbrev s_World_signed : Stmt := inClass (top 31) 12
abbrev s_House_settle : Stmt := inClass (top 27) 7
abbrev s_House_can_settle : Stmt := inClass (top 27) 4
abbrev s_House_go_on : Stmt := inClass (top 27) 6
abbrev s_House_take : Stmt := inClass (top 27) 5
abbrev s_World_come : Stmt := inClass (top 31) 15
abbrev s_World_look_liar : Stmt := inClass (top 31) 3
abbrev s_is_cut : Stmt := top 35
abbrev s_Cutting_lie : Stmt := inClass (top 36) 3
abbrev s_House_load : Stmt := inClass (top 27) 9
abbrev s_Cutting_good : Stmt := inClass (top 36) 5
abbrev s_Cutting_take : Stmt := inClass (top 36) 6
abbrev s_Cutting_signers_of : Stmt := inClass (top 36) 4
abbrev s_seen_orders : Stmt := top 39
abbrev s_false_owners : Stmt := top 40
abbrev s_false_houses : Stmt := top 41
abbrev s_stuck_purses : Stmt := top 42
abbrev s_lost_nothing : Stmt := top 43
abbrev s__law_did : Stmt := top 49
abbrev s__law_refusal : Stmt := top 48
abbrev s__law_asked : Stmt := top 50
abbrev s_World_sums : Stmt := inClass (top 31) 16
abbrev s_is_behind : Stmt := top 37
abbrev s_law : Stmt := top 51
abbrev s_NoHouse___init__ : Stmt := inClass (top 6) 0
abbrev s_NoPurse___init__ : Stmt := inClass (top 7) 0
def clsName : Nat → Str := fun c => (["World", "House", "Board", "Cutting", "House", "House", "PurseError", "BadNumber", "BadOrder", "BadHouses", "NoHouse", "NoPurse", "NoLetter", "NotNow", "TooMuch", "BadPaper", "BadCut", "BadText"] : List Str).getD c "law"
abbrev clsOf (K : PySem.W.Frag) (c : Nat) : Addr := He.ga K (clsName c)
def d__law_town : He.DefD := ⟨("_law_town", none), "_law_town", "_law_town", defArgs s__law_town, defBody s__law_town, defScope s__law_town, [], []⟩
def d_is_whole : He.DefD := ⟨("is_whole", none), "is_whole", "is_whole", defArgs s_is_whole, defBody s_is_whole, defScope s_is_whole, [], []⟩
def d_look_number : He.DefD := ⟨("look_number", none), "look_number", "look_number", defArgs s_look_number, defBody s_look_number, defScope s_look_number, [], []⟩
def d_look_liars : He.DefD := ⟨("look_liars", none), "look_liars", "look_liars", defArgs s_look_liars, defBody s_look_liars, defScope s_look_liars, [], []⟩
def d_Board___init__ : He.DefD := ⟨("Board", some "__init__"), "__init__", "Board.__init__", defArgs s_Board___init__, defBody s_Board___init__, defScope s_Board___init__, [], []⟩
def d_House___init__ : He.DefD := ⟨("House", some "__init__"), "__init__", "House.__init__", defArgs s_House___init__, defBody s_House___init__, defScope s_House___init__, [], []⟩
def d_World___init__ : He.DefD := ⟨("World", some "__init__"), "__init__", "World.__init__", defArgs s_World___init__, defBody s_World___init__, defScope s_World___init__, [], [("liars", (.adr (kwdAt ("World", some "__init__") "liars"))), ("cheats", (.adr (kwdAt ("World", some "__init__") "cheats")))]⟩
def d_look_world : He.DefD := ⟨("look_world", none), "look_world", "look_world", defArgs s_look_world, defBody s_look_world, defScope s_look_world, [], []⟩
def d_Cutting___init__ : He.DefD := ⟨("Cutting", some "__init__"), "__init__", "Cutting.__init__", defArgs s_Cutting___init__, defBody s_Cutting___init__, defScope s_Cutting___init__, [], []⟩
def d_World_look_purse : He.DefD := ⟨("World", some "look_purse"), "look_purse", "World.look_purse", defArgs s_World_look_purse, defBody s_World_look_purse, defScope s_World_look_purse, [], []⟩
def d_World_next_number : He.DefD := ⟨("World", some "next_number"), "next_number", "World.next_number", defArgs s_World_next_number, defBody s_World_next_number, defScope s_World_next_number, [], []⟩
def d_World_honest : He.DefD := ⟨("World", some "honest"), "honest", "World.honest", defArgs s_World_honest, defBody s_World_honest, defScope s_World_honest, [], []⟩
def d_World_order_to_all : He.DefD := ⟨("World", some "order_to_all"), "order_to_all", "World.order_to_all", defArgs s_World_order_to_all, defBody s_World_order_to_all, defScope s_World_order_to_all, [], []⟩
def d_enough : He.DefD := ⟨("enough", none), "enough", "enough", defArgs s_enough, defBody s_enough, defScope s_enough, [], []⟩
def d_Board_is_paper : He.DefD := ⟨("Board", some "is_paper"), "is_paper", "Board.is_paper", defArgs s_Board_is_paper, defBody s_Board_is_paper, defScope s_Board_is_paper, [], []⟩
def d_World_left_at : He.DefD := ⟨("World", some "left_at"), "left_at", "World.left_at", defArgs s_World_left_at, defBody s_World_left_at, defScope s_World_left_at, [], []⟩
def d_World_ask : He.DefD := ⟨("World", some "ask"), "ask", "World.ask", defArgs s_World_ask, defBody s_World_ask, defScope s_World_ask, [], []⟩
def d__law_draw : He.DefD := ⟨("_law_draw", none), "_law_draw", "_law_draw", defArgs s__law_draw, defBody s__law_draw, defScope s__law_draw, [], []⟩
def d__law_pick : He.DefD := ⟨("_law_pick", none), "_law_pick", "_law_pick", defArgs s__law_pick, defBody s__law_pick, defScope s__law_pick, [], []⟩
def d_House_state : He.DefD := ⟨("House", some "state"), "state", "House.state", defArgs s_House_state, defBody s_House_state, defScope s_House_state, [], []⟩
def d_World_room : He.DefD := ⟨("World", some "room"), "room", "World.room", defArgs s_World_room, defBody s_World_room, defScope s_World_room, [], []⟩
def d_cut_of : He.DefD := ⟨("cut_of", none), "cut_of", "cut_of", defArgs s_cut_of, defBody s_cut_of, defScope s_cut_of, [], []⟩
def d_Cutting_add : He.DefD := ⟨("Cutting", some "add"), "add", "Cutting.add", defArgs s_Cutting_add, defBody s_Cutting_add, defScope s_Cutting_add, [], []⟩
def d_Cutting_sign : He.DefD := ⟨("Cutting", some "sign"), "sign", "Cutting.sign", defArgs s_Cutting_sign, defBody s_Cutting_sign, defScope s_Cutting_sign, [], []⟩
def d_World_letters : He.DefD := ⟨("World", some "letters"), "letters", "World.letters", defArgs s_World_letters, defBody s_World_letters, defScope s_World_letters, [], []⟩
def d_is_order : He.DefD := ⟨("is_order", none), "is_order", "is_order", defArgs s_is_order, defBody s_is_order, defScope s_is_order, [], [("purses", (.int 8))]⟩
def d_look_order : He.DefD := ⟨("look_order", none), "look_order", "look_order", defArgs s_look_order, defBody s_look_order, defScope s_look_order, [], [("purses", (.int 8))]⟩
def d_House_may_vote : He.DefD := ⟨("House", some "may_vote"), "may_vote", "House.may_vote", defArgs s_House_may_vote, defBody s_House_may_vote, defScope s_House_may_vote, [], []⟩
def d_House_new_votes : He.DefD := ⟨("House", some "new_votes"), "new_votes", "House.new_votes", defArgs s_House_new_votes, defBody s_House_new_votes, defScope s_House_new_votes, [], []⟩
def d_House_hear : He.DefD := ⟨("House", some "hear"), "hear", "House.hear", defArgs s_House_hear, defBody s_House_hear, defScope s_House_hear, [], []⟩
def d_Board_sign : He.DefD := ⟨("Board", some "sign"), "sign", "Board.sign", defArgs s_Board_sign, defBody s_Board_sign, defScope s_Board_sign, [], []⟩
def d_World_paper_to_all : He.DefD := ⟨("World", some "paper_to_all"), "paper_to_all", "World.paper_to_all", defArgs s_World_paper_to_all, defBody s_World_paper_to_all, defScope s_World_paper_to_all, [], []⟩
def d_World_signed : He.DefD := ⟨("World", some "signed"), "signed", "World.signed", defArgs s_World_signed, defBody s_World_signed, defScope s_World_signed, [], []⟩
def d_House_settle : He.DefD := ⟨("House", some "settle"), "settle", "House.settle", defArgs s_House_settle, defBody s_House_settle, defScope s_House_settle, [], []⟩
def d_House_can_settle : He.DefD := ⟨("House", some "can_settle"), "can_settle", "House.can_settle", defArgs s_House_can_settle, defBody s_House_can_settle, defScope s_House_can_settle, [], []⟩
def d_House_go_on : He.DefD := ⟨("House", some "go_on"), "go_on", "House.go_on", defArgs s_House_go_on, defBody s_House_go_on, defScope s_House_go_on, [], []⟩
def d_House_take : He.DefD := ⟨("House", some "take"), "take", "House.take", defArgs s_House_take, defBody s_House_take, defScope s_House_take, [], []⟩
def d_World_come : He.DefD := ⟨("World", some "come"), "come", "World.come", defArgs s_World_come, defBody s_World_come, defScope s_World_come, [], []⟩
def d_World_look_liar : He.DefD := ⟨("World", some "look_liar"), "look_liar", "World.look_liar", defArgs s_World_look_liar, defBody s_World_look_liar, defScope s_World_look_liar, [], []⟩
def d_is_cut : He.DefD := ⟨("is_cut", none), "is_cut", "is_cut", defArgs s_is_cut, defBody s_is_cut, defScope s_is_cut, [], []⟩
def d_Cutting_lie : He.DefD := ⟨("Cutting", some "lie"), "lie", "Cutting.lie", defArgs s_Cutting_lie, defBody s_Cutting_lie, defScope s_Cutting_lie, [], []⟩
def d_House_load : He.DefD := ⟨("House", some "load"), "load", "House.load", defArgs s_House_load, defBody s_House_load, defScope s_House_load, [], []⟩
def d_Cutting_good : He.DefD := ⟨("Cutting", some "good"), "good", "Cutting.good", defArgs s_Cutting_good, defBody s_Cutting_good, defScope s_Cutting_good, [], []⟩
def d_Cutting_take : He.DefD := ⟨("Cutting", some "take"), "take", "Cutting.take", defArgs s_Cutting_take, defBody s_Cutting_take, defScope s_Cutting_take, [], []⟩
def d_Cutting_signers_of : He.DefD := ⟨("Cutting", some "signers_of"), "signers_of", "Cutting.signers_of", defArgs s_Cutting_signers_of, defBody s_Cutting_signers_of, defScope s_Cutting_signers_of, [], []⟩
def d_seen_orders : He.DefD := ⟨("seen_orders", none), "seen_orders", "seen_orders", defArgs s_seen_orders, defBody s_seen_orders, defScope s_seen_orders, [], []⟩
def d_false_owners : He.DefD := ⟨("false_owners", none), "false_owners", "false_owners", defArgs s_false_owners, defBody s_false_owners, defScope s_false_owners, [], []⟩
def d_false_houses : He.DefD := ⟨("false_houses", none), "false_houses", "false_houses", defArgs s_false_houses, defBody s_false_houses, defScope s_false_houses, [], []⟩
def d_stuck_purses : He.DefD := ⟨("stuck_purses", none), "stuck_purses", "stuck_purses", defArgs s_stuck_purses, defBody s_stuck_purses, defScope s_stuck_purses, [], []⟩
def d_lost_nothing : He.DefD := ⟨("lost_nothing", none), "lost_nothing", "lost_nothing", defArgs s_lost_nothing, defBody s_lost_nothing, defScope s_lost_nothing, [], []⟩
def d__law_did : He.DefD := ⟨("_law_did", none), "_law_did", "_law_did", defArgs s__law_did, defBody s__law_did, defScope s__law_did, [], []⟩
def d__law_refusal : He.DefD := ⟨("_law_refusal", none), "_law_refusal", "_law_refusal", defArgs s__law_refusal, defBody s__law_refusal, defScope s__law_refusal, [], []⟩
def d__law_asked : He.DefD := ⟨("_law_asked", none), "_law_asked", "_law_asked", defArgs s__law_asked, defBody s__law_asked, defScope s__law_asked, [], []⟩
def d_World_sums : He.DefD := ⟨("World", some "sums"), "sums", "World.sums", defArgs s_World_sums, defBody s_World_sums, defScope s_World_sums, [], []⟩
def d_is_behind : He.DefD := ⟨("is_behind", none), "is_behind", "is_behind", defArgs s_is_behind, defBody s_is_behind, defScope s_is_behind, [], []⟩
def d_law : He.DefD := ⟨("law", none), "law", "law", defArgs s_law, defBody s_law, defScope s_law, [], []⟩
abbrev A_NoHouse___init__ (K : PySem.W.Frag) : Addr := He.fAd K ("NoHouse", some "__init__")
def d_NoHouse___init__ : He.DefD := ⟨("NoHouse", some "__init__"), "__init__", "NoHouse.__init__", defArgs s_NoHouse___init__, defBody s_NoHouse___init__, defScope s_NoHouse___init__, [], []⟩
abbrev A_NoPurse___init__ (K : PySem.W.Frag) : Addr := He.fAd K ("NoPurse", some "__init__")
def d_NoPurse___init__ : He.DefD := ⟨("NoPurse", some "__init__"), "__init__", "NoPurse.__init__", defArgs s_NoPurse___init__, defBody s_NoPurse___init__, defScope s_NoPurse___init__, [], []⟩
def fn : List He.DefD := [d__law_town, d_is_whole, d_look_number, d_look_liars, d_Board___init__, d_House___init__, d_World___init__, d_look_world, d_Cutting___init__, d_World_look_purse, d_World_next_number, d_World_honest, d_World_order_to_all, d_enough, d_Board_is_paper, d_World_left_at, d_World_ask, d__law_draw, d__law_pick, d_House_state, d_World_room, d_cut_of, d_Cutting_add, d_Cutting_sign, d_World_letters, d_is_order, d_look_order, d_House_may_vote, d_House_new_votes, d_House_hear, d_Board_sign, d_World_paper_to_all, d_World_signed, d_House_settle, d_House_can_settle, d_House_go_on, d_House_take, d_World_come, d_World_look_liar, d_is_cut, d_Cutting_lie, d_House_load, d_Cutting_good, d_Cutting_take, d_Cutting_signers_of, d_seen_orders, d_false_owners, d_false_houses, d_stuck_purses, d_lost_nothing, d__law_did, d__law_refusal, d__law_asked, d_World_sums, d_is_behind, d_law, d_NoHouse___init__, d_NoPurse___init__]
def fa0 : List He.Fa := [.glo "_law_town", .glo "is_whole", .glo "look_number", .glo "look_liars", .glo "look_world", .glo "enough", .glo "_law_draw", .glo "_law_pick", .glo "cut_of", .glo "is_order", .glo "look_order", .glo "is_cut", .glo "seen_orders", .glo "false_owners", .glo "false_houses", .glo "stuck_purses", .glo "lost_nothing", .glo "_law_did", .glo "_law_refusal", .glo "_law_asked", .glo "is_behind", .glo "law", .free "ValueError", .free "all", .free "any", .free "bool", .free "int", .free "isinstance", .free "len", .free "list"]
def fa1 : List He.Fa := [.free "max", .free "min", .free "range", .free "set", .free "sorted", .free "sum", .free "tuple", .free "zip", .int "MOST_FEW" 5, .int "MOST_HOUSES" 16, .int "MOST_NUMBER" 99, .int "MOST_PURSES" 8, .int "MOST_SUM" 1000, .glo "BadCut", .glo "BadHouses", .glo "BadNumber", .glo "BadOrder", .glo "BadPaper", .glo "BadText", .glo "NoHouse", .glo "NoLetter", .glo "NoPurse", .glo "NotNow", .glo "PurseError", .glo "TooMuch", .exc "BadCut", .exc "BadHouses", .exc "BadNumber", .exc "BadOrder", .exc "BadPaper"]
def fa2 : List He.Fa := [.exc "NoLetter", .exc "NotNow", .exc "TooMuch", .mkr "Board", .glo "Board", .mkr "Cutting", .glo "Cutting", .mkr "House", .glo "House", .mkr "World", .glo "World", .meth "Board" "is_paper", .meth "Board" "sign", .meth "Cutting" "add", .meth "Cutting" "good", .meth "Cutting" "lie", .meth "Cutting" "sign", .meth "Cutting" "signers_of", .meth "Cutting" "take", .meth "House" "can_settle", .meth "House" "go_on", .meth "House" "hear", .meth "House" "load", .meth "House" "may_vote", .meth "House" "new_votes", .meth "House" "settle", .meth "House" "state", .meth "House" "take", .meth "World" "ask", .meth "World" "come"]
def fa3 : List He.Fa := [.meth "World" "honest", .meth "World" "left_at", .meth "World" "letters", .meth "World" "look_liar", .meth "World" "look_purse", .meth "World" "next_number", .meth "World" "order_to_all", .meth "World" "paper_to_all", .meth "World" "room", .meth "World" "signed", .meth "World" "sums"]
def fa : List He.Fa := fa0 ++ fa1 ++ fa2 ++ fa3
def xs : List (PySem.W.Frag → Bool) := [(fun K => exfB K (clsOf K 10) (A_NoHouse___init__ K) "house"), (fun K => xrB K (clsOf K 10) "house"), (fun K => exfB K (clsOf K 11) (A_NoPurse___init__ K) "purse"), wB clsOf, (fun K => emptyB K (kwdAt ("World", some "__init__") "cheats" K)), (fun K => emptyB K (kwdAt ("World", some "__init__") "liars" K)), clB clsOf, exB clsOf]
abbrev Rw : PySem.W.OpenRow := PySem.W.OpenLaw.row PySem.Challenge.rw_manypurses_k15_cuts_refused
abbrev hk : PySem.W.Hook := hookX 6 fa fn xs
def ob (s : PySem.W.SharedT) : AlX := obsXG 6 fa fn xs (HandSHeadRun.getT s)
def loose0 : List Str := ["_wall", "__name__", "PurseError", "BadNumber", "BadOrder", "BadHouses", "NoHouse", "NoPurse", "NoLetter", "NotNow", "TooMuch", "BadPaper", "BadCut", "BadText", "is_whole", "look_number", "look_liars", "MOST_PURSES", "MOST_SUM", "MOST_NUMBER", "is_order", "look_order", "enough", "Board", "House", "MOST_HOUSES", "MOST_FEW", "World", "look_world", "cut_of"]
def loose1 : List Str := ["is_cut", "Cutting", "is_behind", "seen_orders", "false_owners", "false_houses", "stuck_purses", "lost_nothing", "_law_town", "_law_draw", "_law_pick", "_law_refusal", "_law_did", "_law_asked"]
def loose : List Str := loose0 ++ loose1
theorem run (w : World) : HandSHeadRun.RunEq Rw (PySem.W.view Rw.prog [51]) hk ob 40000 loose w := by
  intro os
  kernel_rfl
end Wk
set_option Elab.async false
set_option linter.all false
set_option pp.maxSteps 400
set_option maxRecDepth 100000
set_option maxHeartbeats 4000000
set_option synthInstance.maxSize 100000
set_option synthInstance.maxHeartbeats 4000000
namespace Fl
open PySem PySem.Spec L2
theorem Le.refl (α : List Addr) (H : Hp) : Le α H α H := ⟨⟨[], by simp, by simp⟩, fun _ _ h _ => h, fun _ h => h, fun _ _ h => h, fun _ _ _ h => h⟩
section
variable {K : PySem.W.Frag} {α α' : List Addr} {H H' : Hp}
theorem TupAt.le {t : Addr} {vs : List V} (l : Le α H α' H') (h : TupAt K H t vs) : TupAt K H' t vs := h.lw l.lw
theorem RolAt.le {t : Addr} {vs : List V} (l : Le α H α' H') (h : RolAt K H t vs) : RolAt K H' t vs := h.lw l.lw
theorem Rep.le (l : Le α H α' H') {d : D} {v : V} (h : Rep K α H d v) : Rep K α' H' d v := h.lw l.lw
theorem Reps.le (l : Le α H α' H') {ds : List D} {vs : List V} (h : Reps K α H ds vs) : Reps K α' H' ds vs := h.lw l.lw
theorem reps_nil : Reps K α H [] [] := by unfold Reps; rfl
theorem reps_cons {d : D} {ds : List D} {v : V} {vs : List V} (h : Rep K α H d v) (h2 : Reps K α H ds vs) : Reps K α H (d :: ds) (v :: vs) := by
  unfold Reps; exact ⟨v, vs, rfl, h, h2⟩
theorem Reps.append : ∀ {ds es : List D} {vs ws : List V}, Reps K α H ds vs → Reps K α H es ws → Reps K α H (ds ++ es) (vs ++ ws)
  | [], _, _, _, h, h' => by unfold Reps at h; subst h; exact h'
  | d :: ds, _, _, _, h, h' => by
    unfold Reps at h
    obtain ⟨x, xs, rfl, h1, h2⟩ := h
    exact reps_cons h1 (Reps.append h2 h')
theorem Reps.take : ∀ {ds : List D} {vs : List V} (n : Nat), Reps K α H ds vs → Reps K α H (ds.take n) (vs.take n)
  | _, _, 0, _ => by simp; exact reps_nil
  | [], _, n + 1, h => by unfold Reps at h; subst h; simp; exact reps_nil
  | d :: ds, _, n + 1, h => by
    unfold Reps at h
    obtain ⟨x, xs, rfl, h1, h2⟩ := h
    exact reps_cons h1 (Reps.take n h2)
theorem Reps.drop : ∀ {ds : List D} {vs : List V} (n : Nat), Reps K α H ds vs → Reps K α H (ds.drop n) (vs.drop n)
  | _, _, 0, h => h
  | [], _, n + 1, h => by unfold Reps at h; subst h; simp; exact reps_nil
  | d :: ds, _, n + 1, h => by
    unfold Reps at h
    obtain ⟨x, xs, rfl, h1, h2⟩ := h
    exact Reps.drop n h2
theorem Reps.set : ∀ {ds : List D} {vs : List V} (n : Nat) {d : D} {v : V}, Reps K α H ds vs → Rep K α H d v → Reps K α H (ds.set n d) (vs.set n v)
  | [], _, n, _, _, h, _ => by unfold Reps at h; subst h; simp; exact reps_nil
  | d :: ds, _, 0, _, _, h, r => by
    unfold Reps at h
    obtain ⟨x, xs, rfl, h1, h2⟩ := h
    exact reps_cons r h2
  | d :: ds, _, n + 1, _, _, h, r => by
    unfold Reps at h
    obtain ⟨x, xs, rfl, h1, h2⟩ := h
    exact reps_cons h1 (Reps.set n h2 r)
theorem Reps.erase : ∀ {ds : List D} {vs : List V} (n : Nat), Reps K α H ds vs → Reps K α H (ds.eraseIdx n) (vs.eraseIdx n)
  | [], _, n, h => by unfold Reps at h; subst h; simp; exact reps_nil
  | d :: ds, _, 0, h => by
    unfold Reps at h
    obtain ⟨x, xs, rfl, h1, h2⟩ := h
    exact h2
  | d :: ds, _, n + 1, h => by
    unfold Reps at h
    obtain ⟨x, xs, rfl, h1, h2⟩ := h
    exact reps_cons h1 (Reps.erase n h2)
theorem Reps.reverse : ∀ {ds : List D} {vs : List V}, Reps K α H ds vs → Reps K α H ds.reverse vs.reverse
  | [], _, h => by unfold Reps at h; subst h; exact reps_nil
  | d :: ds, _, h => by
    unfold Reps at h
    obtain ⟨x, xs, rfl, h1, h2⟩ := h
    rw [List.reverse_cons, List.reverse_cons]
    exact (Reps.reverse h2).append (reps_cons h1 reps_nil)
theorem Reps.rep : ∀ {ds : List D} {vs : List V} (k : Nat), Reps K α H ds vs → Reps K α H (List.replicate k ds).flatten (List.replicate k vs).flatten
  | _, _, 0, _ => reps_nil
  | ds, vs, k + 1, h => by
    rw [List.replicate_succ, List.replicate_succ, List.flatten_cons, List.flatten_cons]
    exact h.append (Reps.rep k h)
theorem reps_int {ns : List Int} : Reps K α H (ns.map D.int) (ns.map V.int) := by
  induction ns with
  | nil => exact reps_nil
  | cons n r ih => exact reps_cons (by unfold Rep; rfl) ih
theorem Reps.ints : ∀ {ns : List Int} {vs : List V}, Reps K α H (ns.map D.int) vs → vs = ns.map V.int
  | [], _, h => by rw [List.map_nil] at h; unfold Reps at h; exact h
  | n :: r, _, h => by
    rw [List.map_cons] at h
    unfold Reps at h
    obtain ⟨x, xs, rfl, h1, h2⟩ := h
    unfold Rep at h1
    rw [h1, Reps.ints h2]; rfl
theorem Reps.bls : ∀ {ns : List Bool} {vs : List V}, Reps K α H (ns.map D.bl) vs → vs = ns.map V.bl
  | [], _, h => by rw [List.map_nil] at h; unfold Reps at h; exact h
  | n :: r, _, h => by
    rw [List.map_cons] at h
    unfold Reps at h
    obtain ⟨x, xs, rfl, h1, h2⟩ := h
    unfold Rep at h1
    rw [h1, Reps.bls h2]; rfl
end
end Fl
namespace Fl
open PySem PySem.Spec L2
section
variable {K : PySem.W.Frag} {L : Lay} {α α' : List Addr} {M : Mem} {H H' : Hp}
theorem KvR.le {κ : Type} (l : Le α H α' H') {ks : List (κ × D)} {vs : List (κ × V)} (h : KvR K α H ks vs) : KvR K α' H' ks vs := h.lw l.lw
theorem NKR.le (l : Le α H α' H') {ks : List (NK × D)} {vs : List (NK × Addr × V)} (h : NKR K α H ks vs) : NKR K α' H' ks vs := h.lw l.lw
theorem FsR.le (l : Le α H α' H') {ks : List (Nat × D)} {vs : List (Str × V)} (h : FsR K L α H ks vs) : FsR K L α' H' ks vs := h.lw l.lw
theorem Rel.mem (r : Rel K L α M H) {a : Addr} (h : a ∈ α) : ∃ u, H a = some u ∧ Ours u := by
  obtain ⟨n, hn, rfl⟩ := List.mem_iff_getElem.mp h
  have hn' : n < M.length := by rw [← r.len]; exact hn
  exact (r.ob n _ _ (List.getElem?_eq_getElem hn') (List.getElem?_eq_getElem hn)).ours
theorem Rel.inj (r : Rel K L α M H) {i j : Nat} {a : Addr} (h : α[i]? = some a) (h' : α[j]? = some a) : i = j := nd_ix r.nd h h'
theorem XRep.out (r : Rel K L α M H) {c : Nat} {f : Option (Nat × D)} {cls : Value} {d : Option Addr} (h : XRep K L α H c f cls d) : ∀ dd, d = some dd → dd ∉ α := fun dd e hm => by
  have h2 := h.2
  cases f with
  | none => rw [h2] at e; cases e
  | some p =>
    obtain ⟨d2, v, e2, hd, _⟩ := h2
    rw [e] at e2; cases e2
    obtain ⟨u, hu, ou⟩ := r.mem hm
    rw [hd] at hu; cases hu
    exact ou
theorem Le.new {p : Addr} {o : HO} (n : H p = none) : Le α H (α ++ [p]) (upd H p o) := by
  refine ⟨⟨[p], rfl, fun b hb => by rw [List.mem_singleton.mp hb]; exact n⟩, fun a o h _ => ?_, fun a h => ?_, fun a xs h => ?_, fun a o xs h => ?_⟩
  · rw [upd_ne (ne_of_none h n)]; exact h
  · by_cases q : a = p
    · rw [q, upd_same]; exact fun z => nomatch z
    · rw [upd_ne q]; exact h
  · rw [upd_ne (ne_of_none h n)]; exact h
  · rw [upd_ne (ne_of_none h n)]; exact h
theorem Le.write {p : Addr} {o u : HO} (hm : p ∈ α) (hu : H p = some u) (ou : Ours u) (nf : ∀ o' u', u ≠ .frz o' u' := by intro _ _ z; cases z) : Le α H α (upd H p o) := by
  refine ⟨⟨[], by simp, by simp⟩, fun a o h hn => ?_, fun a h => ?_, fun a xs h => ?_, fun a o xs h => ?_⟩
  · have ne : a ≠ p := fun z => hn (by rw [z]; exact hm)
    rw [upd_ne ne]; exact h
  · by_cases q : a = p
    · rw [q, upd_same]; exact fun z => nomatch z
    · rw [upd_ne q]; exact h
  · have ne : a ≠ p := fun z => by rw [z, hu] at h; cases h; exact ou
    rw [upd_ne ne]; exact h
  · have ne : a ≠ p := fun z => by rw [z, hu] at h; cases h; exact nf _ _ rfl
    rw [upd_ne ne]; exact h
theorem Lw.write {p : Addr} {o u : HO} (hu : H p = some u) (ou : Ours u) : Lw α H α (upd H p o) := by
  refine ⟨⟨[], by simp⟩, fun a xs h => ?_, fun a o xs h => ?_⟩
  · have ne : a ≠ p := fun z => by rw [z, hu] at h; cases h; exact ou
    rw [upd_ne ne]; exact h
  · have ne : a ≠ p := fun z => by rw [z, hu] at h; cases h; exact ou
    rw [upd_ne ne]; exact h
theorem Rel.new (r : Rel K L α M H) {p : Addr} {ho : HO} {o : MO} (n : H p = none) (q : RepO K L (α ++ [p]) (upd H p ho) p o) : Rel K L (α ++ [p]) (M ++ [o]) (upd H p ho) := by
  have np : p ∉ α := fun hm => by
    obtain ⟨u, hu, _⟩ := r.mem hm
    rw [n] at hu; cases hu
  refine ⟨by rw [List.length_append, List.length_append, r.len]; rfl, List.nodup_append.mpr ⟨r.nd, by simp, fun a ha b hb => by rw [List.mem_singleton.mp hb]; exact fun z => np (z ▸ ha)⟩, fun i x a h1 h2 => ?_⟩
  by_cases hi : i < M.length
  · rw [List.getElem?_append_left hi] at h1
    rw [List.getElem?_append_left (by rw [r.len]; exact hi)] at h2
    have q' := r.ob i x a h1 h2
    obtain ⟨u, hu, _⟩ := q'.ours
    refine q'.stay (Le.new n) r (by rw [upd_ne (ne_of_none hu n)]) fun b hb hm => ?_
    rcases List.mem_append.mp hm with z | z
    · exact z
    · rw [List.mem_singleton.mp z] at hb; exact absurd n hb
  · rw [List.getElem?_append_right (by omega)] at h1
    rw [List.getElem?_append_right (by rw [r.len]; omega), r.len] at h2
    have e : i - M.length = 0 := by
      cases z : i - M.length with
      | zero => rfl
      | succ k => rw [z] at h1; simp at h1
    rw [e] at h1 h2
    have e1 : o = x := by simpa using h1
    have e2 : p = a := by simpa using h2
    subst e1 e2
    exact q
theorem Rel.write (r : Rel K L α M H) {n : Nat} {p : Addr} {ho : HO} {o : MO} (hp : α[n]? = some p) (q : RepO K L α (upd H p ho) p o) : Rel K L α (M.set n o) (upd H p ho) := by
  have hm : p ∈ α := List.mem_of_getElem? hp
  obtain ⟨u, hu, ou⟩ := r.mem hm
  refine ⟨by rw [List.length_set, r.len], r.nd, fun i x a h1 h2 => ?_⟩
  by_cases hi : i = n
  · subst hi
    rw [hp] at h2; cases h2
    have hn : i < M.length := by
      rw [← r.len]
      exact (List.getElem?_eq_some_iff.mp hp).1
    rw [List.getElem?_set_self hn] at h1
    cases h1
    exact q
  · rw [List.getElem?_set_ne (Ne.symm hi)] at h1
    have ne : a ≠ p := fun z => hi (r.inj (z ▸ h2) hp)
    exact (r.ob i x a h1 h2).stayW (Lw.write hu ou) (by rw [upd_ne ne]) (fun dd fs nm z => by
      have ne2 : dd ≠ p := fun e => nm (by rw [e]; exact hm)
      rw [upd_ne ne2]; exact z) fun _ _ h => h
end
theorem Slots.le {K : PySem.W.Frag} {α α' : List Addr} {H H' : Hp} (l : Le α H α' H') {s : Sl} {σ : St} (h : Slots K α H s σ) : Slots K α' H' s σ := ⟨h.1, fun i d e => let ⟨v, h1, h2⟩ := h.2 i d e; ⟨v, h1, h2.le l⟩⟩
theorem Slots.set {K : PySem.W.Frag} {α : List Addr} {H : Hp} {s : Sl} {σ : St} (h : Slots K α H s σ) (i : Nat) {d : D} {v : V} (r : Rep K α H d v) : Slots K α H (s.set i (some d)) (σ.set i (some v)) := by
  refine ⟨by rw [List.length_set, List.length_set, h.1], fun j x e => ?_⟩
  by_cases hj : i = j
  · subst hj
    by_cases hi : i < s.length
    · rw [List.getElem?_set_self hi] at e
      cases e
      exact ⟨v, by rw [List.getElem?_set_self (by rw [← h.1]; exact hi)], r⟩
    · rw [List.getElem?_eq_none (by rw [List.length_set]; omega)] at e; cases e
  · rw [List.getElem?_set_ne hj] at e ⊢
    exact h.2 j x e
theorem Slots.del {K : PySem.W.Frag} {α : List Addr} {H : Hp} {s : Sl} {σ : St} (h : Slots K α H s σ) (i : Nat) (v : Option V) : Slots K α H (s.set i none) (σ.set i v) := by
  refine ⟨by rw [List.length_set, List.length_set, h.1], fun j x e => ?_⟩
  by_cases hj : i = j
  · subst hj
    by_cases hi : i < s.length
    · rw [List.getElem?_set_self hi] at e; cases e
    · rw [List.getElem?_eq_none (by rw [List.length_set]; omega)] at e; cases e
  · rw [List.getElem?_set_ne hj] at e ⊢
    exact h.2 j x e
end Fl
namespace Fl
open PySem PySem.Spec L2
def Res.bind {A B : Type} (r : Res A) (g : A → Mem → Res B) : Res B := match r with
  | .ok a M => g a M
  | .exc c f M => .exc c f M
  | .bad => .bad
abbrev TF := Sl → Mem → Res Bool
def Res.toS {A : Type} (r : Res A) (s : Sl) (g : A → Mem → SR) : SR := match r with
  | .ok a M => g a M
  | .exc c f M => .exc c f s M
  | .bad => .bad
def PostR {A B : Type} (K : PySem.W.Frag) (L : Lay) (R : List Addr → Hp → A → B → Prop) (r : Res A) (α : List Addr) (H : Hp) (Q : B → Hp → Prop) (w : W3) : Prop := match r with
  | .ok a M => ∀ α' H' b, Le α H α' H' → Rel K L α' M H' → R α' H' a b → Q b H'
  | .exc c f M => ∀ α' H' cls d, Le α H α' H' → Rel K L α' M H' → XRep K L α' H' c f cls d → w cls d H'
  | .bad => False
def PostS (K : PySem.W.Frag) (L : Lay) (W : WX) (D : Ends) (α : List Addr) (H : Hp) : SR → Prop
  | .nx s M => ∀ α' H' σ, Le α H α' H' → Rel K L α' M H' → Slots K α' H' s σ → D.nx σ H'
  | .bk s M => ∀ α' H' σ, Le α H α' H' → Rel K L α' M H' → Slots K α' H' s σ → D.bk σ H'
  | .ct s M => ∀ α' H' σ, Le α H α' H' → Rel K L α' M H' → Slots K α' H' s σ → D.ct σ H'
  | .rt d M => ∀ α' H' v, Le α H α' H' → Rel K L α' M H' → Rep K α' H' d v → D.rt v H'
  | .exc c f s M => ∀ α' H' σ cls d, Le α H α' H' → Rel K L α' M H' → Slots K α' H' s σ → XRep K L α' H' c f cls d → W cls d σ H'
  | .bad => False
section
variable {K : PySem.W.Frag} {L : Lay} {α α' : List Addr} {H H' : Hp} {A B C B' : Type} {R : List Addr → Hp → A → B → Prop} {R' : List Addr → Hp → C → B' → Prop}
theorem PostR.le {r : Res A} {Q : B → Hp → Prop} {w : W3} (l : Le α H α' H') (h : PostR K L R r α H Q w) : PostR K L R r α' H' Q w := by
  cases r with
  | ok a M => exact fun α2 H2 b l2 => h α2 H2 b (l.trans l2)
  | exc c f M => exact fun α2 H2 cls d l2 => h α2 H2 cls d (l.trans l2)
  | bad => exact h
theorem PostS.le {r : SR} {W : WX} {D : Ends} (l : Le α H α' H') (h : PostS K L W D α H r) : PostS K L W D α' H' r := by
  cases r with
  | nx s M => exact fun α2 H2 b l2 => h α2 H2 b (l.trans l2)
  | bk s M => exact fun α2 H2 b l2 => h α2 H2 b (l.trans l2)
  | ct s M => exact fun α2 H2 b l2 => h α2 H2 b (l.trans l2)
  | rt s M => exact fun α2 H2 b l2 => h α2 H2 b (l.trans l2)
  | exc c f s M => exact fun α2 H2 σ cls d l2 => h α2 H2 σ cls d (l.trans l2)
  | bad => exact h
theorem PostR.imp {r : Res A} {Q Q' : B → Hp → Prop} {w : W3} (h : PostR K L R r α H Q w) (hq : ∀ b H, Q b H → Q' b H) : PostR K L R r α H Q' w := by
  cases r with
  | ok a M => exact fun α2 H2 b l r2 rr => hq _ _ (h α2 H2 b l r2 rr)
  | exc c f M => exact h
  | bad => exact h
def Then (K : PySem.W.Frag) (L : Lay) (R : List Addr → Hp → A → B → Prop) (α : List Addr) (H : Hp) (T : A → Mem → List Addr → Hp → Prop) (b : B) (H1 : Hp) : Prop :=
  ∃ a α1 M1, Le α H α1 H1 ∧ Rel K L α1 M1 H1 ∧ R α1 H1 a b ∧ T a M1 α1 H1
theorem PostR.bind {r : Res A} {g : A → Mem → Res C} {Q : B' → Hp → Prop} {w : W3} (h : PostR K L R' (r.bind g) α H Q w) :
    PostR K L R r α H (Then K L R α H fun a M1 α1 H1 => PostR K L R' (g a M1) α1 H1 Q w) w := by
  cases r with
  | ok a M => exact fun α1 H1 b l r1 rr => ⟨a, α1, M, l, r1, rr, PostR.le (r := g a M) l h⟩
  | exc c f M => exact h
  | bad => exact h
theorem PostR.toS {r : Res A} {s : Sl} {σ : L2.St} {g : A → Mem → SR} {W : WX} {D : Ends} (sl : Slots K α H s σ) (h : PostS K L W D α H (r.toS s g)) :
    PostR K L R r α H (Then K L R α H fun a M1 α1 H1 => PostS K L W D α1 H1 (g a M1)) (fun c d H' => W c d σ H') := by
  cases r with
  | ok a M => exact fun α1 H1 b l r1 rr => ⟨a, α1, M, l, r1, rr, PostS.le (r := g a M) l h⟩
  | exc c f M => exact fun α1 H1 cls d l r1 x => h α1 H1 σ cls d l r1 (sl.le l) x
  | bad => exact h
theorem PostR.pure {a : A} {M : Mem} {b : B} {Q : B → Hp → Prop} {w : W3} (h : PostR K L R (.ok a M) α H Q w) (r : Rel K L α M H) (rr : R α H a b) : Q b H := h α H b (Le.refl _ _) r rr
end
abbrev RB : List Addr → Hp → Bool → Bool → Prop := fun _ _ a b => a = b
def LE (K : PySem.W.Frag) (L : Lay) (W : WX) (f : EF) : TE := fun σ H Q => ∃ α M s, Rel K L α M H ∧ Slots K α H s σ ∧ PostR K L (Rep K) (f s M) α H Q (fun c d H' => W c d σ H')
def LT (K : PySem.W.Frag) (L : Lay) (W : WX) (f : TF) : TT := fun σ H Q => ∃ α M s, Rel K L α M H ∧ Slots K α H s σ ∧ PostR K L RB (f s M) α H Q (fun c d H' => W c d σ H')
def LA (K : PySem.W.Frag) (L : Lay) (W : WX) (f : AF) : TA := fun σ H Q => ∃ α M s, Rel K L α M H ∧ Slots K α H s σ ∧ PostR K L (Reps K) (f s M) α H Q (fun c d H' => W c d σ H')
def LS (K : PySem.W.Frag) (L : Lay) (W : WX) (f : SF) : TS := fun D σ H => ∃ α M s, Rel K L α M H ∧ Slots K α H s σ ∧ PostS K L W D α H (f s M)
abbrev FE (X : Cx) (L : Lay) (W : WX) (e : Expr) (f : EF) : Prop := PE X e (LE X.K L W f)
abbrev FT (X : Cx) (L : Lay) (W : WX) (e : Expr) (f : TF) : Prop := PT X e (LT X.K L W f)
abbrev FW (X : Cx) (L : Lay) (W : WX) (e : Expr) (f : TF) : Prop := PW X e (LT X.K L W f)
abbrev FA (X : Cx) (L : Lay) (W : WX) (es : List Expr) (f : AF) : Prop := PA X es (LA X.K L W f)
abbrev FS (X : Cx) (L : Lay) (W : WX) (st : Stmt) (f : SF) : Prop := PS X st (LS X.K L W f)
abbrev FSs (X : Cx) (L : Lay) (W : WX) (st : List Stmt) (f : SF) : Prop := PSs X st (LS X.K L W f)
section
variable {X : Cx}
theorem peImp {e : Expr} {t t' : TE} (h : PE X e t) (i : ∀ σ H Q, t' σ H Q → t σ H Q) : PE X e t' := ⟨fun pins s σ H Q I q => h.run pins s σ H Q I (i σ H Q q)⟩
theorem ptImp {e : Expr} {t t' : TT} (h : PT X e t) (i : ∀ σ H Q, t' σ H Q → t σ H Q) : PT X e t' := ⟨fun pins s σ H Q I q => h.run pins s σ H Q I (i σ H Q q)⟩
theorem pwImp {e : Expr} {t t' : TT} (h : PW X e t) (i : ∀ σ H Q, t' σ H Q → t σ H Q) : PW X e t' := ⟨fun wh pins s σ H Q I q => h.run wh pins s σ H Q I (i σ H Q q)⟩
theorem paImp {e : List Expr} {t t' : TA} (h : PA X e t) (i : ∀ σ H Q, t' σ H Q → t σ H Q) : PA X e t' := ⟨fun pos pins s σ H Q I q => h.run pos pins s σ H Q I (i σ H Q q)⟩
theorem psImp {e : Stmt} {t t' : TS} (h : PS X e t) (i : ∀ D σ H, t' D σ H → t D σ H) : PS X e t' := ⟨fun pins s σ H D I q => h.run pins s σ H D I (i D σ H q)⟩
theorem pssImp {e : List Stmt} {t t' : TS} (h : PSs X e t) (i : ∀ D σ H, t' D σ H → t D σ H) : PSs X e t' := ⟨fun pins s σ H D I q => h.run pins s σ H D I (i D σ H q)⟩
end
section
variable {K : PySem.W.Frag} {L : Lay} {W : WX} {σ : L2.St} {H H' : Hp} {α α' : List Addr} {M : Mem} {s : Sl}
theorem LE.mk {f : EF} {Q : VK} (r : Rel K L α M H) (sl : Slots K α H s σ) (h : PostR K L (Rep K) (f s M) α H Q (fun c d H' => W c d σ H')) : LE K L W f σ H Q := ⟨α, M, s, r, sl, h⟩
def dC (d : D) : EF := fun _ M => .ok d M
def dVar (i : Nat) : EF := fun s M => match s[i]? with
  | some (some d) => .ok d M
  | _ => .bad
def dOp2 (g : D → D → Mem → Res D) (a b : EF) : EF := fun s M => (a s M).bind fun x M1 => (b s M1).bind fun y M2 => g x y M2
def dOp1 (g : D → Mem → Res D) (a : EF) : EF := fun s M => (a s M).bind g
def dOpN (g : List D → Mem → Res D) (a : AF) : EF := fun s M => (a s M).bind g
def dNil : AF := fun _ M => .ok [] M
def dCons (a : EF) (r : AF) : AF := fun s M => (a s M).bind fun x M1 => (r s M1).bind fun xs M2 => .ok (x :: xs) M2
def tVal (a : EF) : TF := fun s M => (a s M).bind fun x M1 => match x with
  | .bl b => .ok b M1
  | _ => .bad
def tNotF (a : TF) : TF := fun s M => (a s M).bind fun x M1 => .ok (!x) M1
def tAndF (a b : TF) : TF := fun s M => (a s M).bind fun x M1 => match x with
  | true => b s M1
  | false => .ok false M1
def tOrF (a b : TF) : TF := fun s M => (a s M).bind fun x M1 => match x with
  | true => .ok true M1
  | false => b s M1
def dAnd (a b : EF) : EF := fun s M => (a s M).bind fun x M1 => match x with
  | .bl true => b s M1
  | .bl false => .ok (.bl false) M1
  | _ => .bad
def dOr (a b : EF) : EF := fun s M => (a s M).bind fun x M1 => match x with
  | .bl true => .ok (.bl true) M1
  | .bl false => b s M1
  | _ => .bad
def dNot (a : EF) : EF := fun s M => (a s M).bind fun x M1 => match x with
  | .bl b => .ok (.bl (!b)) M1
  | _ => .bad
def dIfE (c : TF) (a b : EF) : EF := fun s M => (c s M).bind fun x M1 => match x with
  | true => a s M1
  | false => b s M1
def sNext : SF := fun s M => .nx s M
def sSeq (t u : SF) : SF := fun s M => (t s M).seq u
def sDrop (a : EF) : SF := fun s M => (a s M).toS s fun _ M1 => .nx s M1
def sRet (a : EF) : SF := fun s M => (a s M).toS s fun d M1 => .rt d M1
def sSet (i : Nat) (a : EF) : SF := fun s M => (a s M).toS s fun d M1 => .nx (s.set i (some d)) M1
def sIf (c : TF) (t u : SF) : SF := fun s M => (c s M).toS s fun b M1 => match b with
  | true => t s M1
  | false => u s M1
def sBrk : SF := fun s M => .bk s M
def sCont : SF := fun s M => .ct s M
def SR.fin (r : SR) : Res D := match r with
  | .nx _ M => .ok .non M
  | .rt d M => .ok d M
  | .exc c f _ M => .exc c f M
  | _ => .bad
end
section
variable {X : Cx} {L : Lay} {W : WX} {a b e : Expr} {fa fb f : EF} {pos : Pos}
theorem fe_int {i j pos} : FE X L W (.Constant (.int i) j pos) (dC (.int i)) := peImp pe_int fun σ H Q ⟨α, M, s, r, sl, h⟩ => PostR.pure h r (by unfold Rep; rfl)
theorem fe_bl {b j pos} : FE X L W (.Constant (.bool b) j pos) (dC (.bl b)) := peImp pe_bl fun σ H Q ⟨α, M, s, r, sl, h⟩ => PostR.pure h r (by unfold Rep; rfl)
theorem fe_non {j pos} : FE X L W (.Constant .none j pos) (dC .non) := peImp pe_non fun σ H Q ⟨α, M, s, r, sl, h⟩ => PostR.pure h r (by unfold Rep; rfl)
theorem fe_str {x j pos} : FE X L W (.Constant (.str x) j pos) (dC (.str x)) := peImp pe_str fun σ H Q ⟨α, M, s, r, sl, h⟩ => PostR.pure h r (by unfold Rep; rfl)
theorem fv (i : Nat) {x : Str} {pos : Pos} (hN : X.N[i]? = some x := by rfl) (hv : Vis X.env.scope x := by first | exact Or.inl rfl | exact Or.inr (Or.inl rfl) | exact Or.inr (Or.inr rfl)) (hd : (x == ("__debug__" : Str)) = false := by decide)
    (hcd : (x == ("__classdict__" : Str)) = false := by decide) : FE X L W (.Name x pos) (dVar i) := peImp (pe_var hN hv hd hcd) fun σ H Q ⟨α, M, s, r, sl, h⟩ => by
  unfold dVar at h
  cases q : s[i]? with
  | none => rw [q] at h; exact h.elim
  | some o =>
    cases o with
    | none => rw [q] at h; exact h.elim
    | some d =>
      rw [q] at h
      obtain ⟨v, e1, rr⟩ := sl.2 i d q
      exact ⟨v, e1, PostR.pure h r rr⟩
def rF2 (K : PySem.W.Frag) (L : Lay) (g : D → D → Mem → Res D) (w : W3) : R2 := fun x y H Q => ∃ α M dx dy, Rel K L α M H ∧ Rep K α H dx x ∧ Rep K α H dy y ∧ PostR K L (Rep K) (g dx dy M) α H Q w
def Op2 (X : Cx) (L : Lay) (f : Value → Value → Sem Value) (g : D → D → Mem → Res D) : Prop := ∀ w, OpR X f (rF2 X.K L g w)
theorem op_case {f : Value → Value → Sem Value} {r : R2} (h : ∀ x y H Q, r x y H Q → ∃ r', OpR X f r' ∧ r' x y H Q) : OpR X f r := fun pins s σ H x y v u Q I rx ry q => by
  obtain ⟨r', h1, h2⟩ := h x y H Q q
  exact h1 pins s σ H x y v u Q I rx ry h2
theorem two_go {K : PySem.W.Frag} {g : D → D → Mem → Res D} {σ : L2.St} {H : Hp} {Q : VK} (h : LE K L W (dOp2 g fa fb) σ H Q) : LE K L W fa σ H fun x H1 => LE K L W fb σ H1 fun y H2 => rF2 K L g (fun c d H' => W c d σ H') x y H2 Q := by
  obtain ⟨α, M, s, r, sl, h⟩ := h
  refine ⟨α, M, s, r, sl, (PostR.bind (R := Rep K) h).imp fun x H1 ⟨dx, α1, M1, l1, r1, rx, h1⟩ => ?_⟩
  refine ⟨α1, M1, s, r1, sl.le l1, (PostR.bind (R := Rep K) h1).imp fun y H2 ⟨dy, α2, M2, l2, r2, ry, h2⟩ => ?_⟩
  exact ⟨α2, M2, dx, dy, r2, rx.le l2, ry, h2⟩
theorem fe_op {op : Operator} {g : D → D → Mem → Res D} (ho : Op2 X L (binaryOp op) g) (ha : FE X L W a fa) (hb : FE X L W b fb) : FE X L W (.BinOp a op b pos) (dOp2 g fa fb) :=
  ⟨fun pins s σ H Q I h => (pe_op (ho (fun c d H' => W c d σ H')) ha hb).run pins s σ H Q I (two_go h)⟩
theorem fe_cmp {op : CmpOp} {g : D → D → Mem → Res D} (ho : Op2 X L (compareOp op) g) (ha : FE X L W a fa) (hb : FE X L W b fb) (hm : behindInMarks op b = false := by first | exact nomark _ | rfl) : FE X L W (.Compare a [op] [b] pos) (dOp2 g fa fb) :=
  ⟨fun pins s σ H Q I h => (pe_cmpR (ho (fun c d H' => W c d σ H')) ha hb hm).run pins s σ H Q I (two_go h)⟩
theorem tval_go {K : PySem.W.Frag} {σ : L2.St} {H : Hp} {Q : Bool → Hp → Prop} (h : LT K L W (tVal f) σ H Q) : LE K L W f σ H fun x H1 => ∃ k, x = .bl k ∧ Q k H1 := by
  obtain ⟨α, M, s, r, sl, h⟩ := h
  refine ⟨α, M, s, r, sl, (PostR.bind (R := Rep K) h).imp fun x H1 ⟨dx, α1, M1, l1, r1, rx, h1⟩ => ?_⟩
  cases dx <;> try exact h1.elim
  unfold Rep at rx
  exact ⟨_, rx, PostR.pure h1 r1 rfl⟩
theorem ft_cmp {op : CmpOp} {g : D → D → Mem → Res D} (ho : Op2 X L (compareOp op) g) (ha : FE X L W a fa) (hb : FE X L W b fb) (hm : behindInMarks op b = false := by first | exact nomark _ | rfl) : FT X L W (.Compare a [op] [b] pos) (tVal (dOp2 g fa fb)) :=
  ⟨fun pins s σ H Q I h => (pt_cmpR (ho (fun c d H' => W c d σ H')) ha hb hm).run pins s σ H Q I (two_go (tval_go h))⟩
theorem ft_val (h : FE X L W e f) (he : ∀ whole, isTrue e X.env whole = (do let v ← whole; standAt e.pos; holding [v] (truthy v)) := by intro _; rfl) : FT X L W e (tVal f) :=
  ptImp (pt_val h he) fun σ H Q q => tval_go q
theorem ft_not {f : TF} (h : FT X L W a f) : FT X L W (.UnaryOp .Not a pos) (tNotF f) := ptImp (pt_not h) fun σ H Q ⟨α, M, s, r, sl, q⟩ =>
  ⟨α, M, s, r, sl, (PostR.bind (R := RB) q).imp fun b H1 ⟨x, α1, M1, l1, r1, rx, h1⟩ => by subst rx; exact PostR.pure h1 r1 rfl⟩
theorem fw_and1 {f : TF} (h : FT X L W a f) : FW X L W (.BoolOp .And [a] pos) f := pw_and1 h
theorem fw_or1 {f : TF} (h : FT X L W a f) : FW X L W (.BoolOp .Or [a] pos) f := pw_or1 h
theorem fw_and {f g : TF} {rest : List Expr} (ha : FT X L W a f) (hb : FW X L W (.BoolOp .And (b :: rest) pos) g) : FW X L W (.BoolOp .And (a :: b :: rest) pos) (tAndF f g) := pwImp (pw_and ha hb) fun σ H Q ⟨α, M, s, r, sl, q⟩ =>
  ⟨α, M, s, r, sl, (PostR.bind (R := RB) q).imp fun b H1 ⟨x, α1, M1, l1, r1, rx, h1⟩ => by
    subst rx
    cases x with
    | true => exact iteT ⟨α1, M1, s, r1, sl.le l1, h1⟩
    | false => exact iteF (PostR.pure h1 r1 rfl)⟩
theorem fw_or {f g : TF} {rest : List Expr} (ha : FT X L W a f) (hb : FW X L W (.BoolOp .Or (b :: rest) pos) g) : FW X L W (.BoolOp .Or (a :: b :: rest) pos) (tOrF f g) := pwImp (pw_or ha hb) fun σ H Q ⟨α, M, s, r, sl, q⟩ =>
  ⟨α, M, s, r, sl, (PostR.bind (R := RB) q).imp fun b H1 ⟨x, α1, M1, l1, r1, rx, h1⟩ => by
    subst rx
    cases x with
    | false => exact iteF ⟨α1, M1, s, r1, sl.le l1, h1⟩
    | true => exact iteT (PostR.pure h1 r1 rfl)⟩
theorem fw_t {f : TF} (h : FW X L W e f) : FT X L W e f := h.pt
theorem fe_one {op} (h : FE X L W a f) : FE X L W (.BoolOp op [a] pos) f := pe_one h
theorem fe_and {rest : List Expr} (ha : FE X L W a fa) (hb : FE X L W (.BoolOp .And (b :: rest) pos) fb) : FE X L W (.BoolOp .And (a :: b :: rest) pos) (dAnd fa fb) := peImp (pe_and ha hb) fun σ H Q ⟨α, M, s, r, sl, q⟩ =>
  ⟨α, M, s, r, sl, (PostR.bind (R := Rep _) q).imp fun b H1 ⟨x, α1, M1, l1, r1, rx, h1⟩ => by
    cases x <;> try exact h1.elim
    rename_i k
    unfold Rep at rx
    refine ⟨k, rx, ?_⟩
    cases k with
    | true => exact iteT ⟨α1, M1, s, r1, sl.le l1, h1⟩
    | false => exact iteF (PostR.pure h1 r1 (by unfold Rep; rfl))⟩
theorem fe_not (ha : FE X L W a fa) : FE X L W (.UnaryOp .Not a pos) (dNot fa) := peImp (pe_not ha) fun σ H Q ⟨α, M, s, r, sl, q⟩ =>
  ⟨α, M, s, r, sl, (PostR.bind (R := Rep _) q).imp fun b H1 ⟨x, α1, M1, l1, r1, rx, h1⟩ => by
    cases x <;> try exact h1.elim
    unfold Rep at rx
    exact ⟨_, rx, PostR.pure h1 r1 (by unfold Rep; rfl)⟩⟩
theorem fe_if {c : Expr} {fc : TF} (hc : FT X L W c fc) (ha : FE X L W a fa) (hb : FE X L W b fb) : FE X L W (.IfExp c a b pos) (dIfE fc fa fb) := peImp (pe_ifExp hc ha hb) fun σ H Q ⟨α, M, s, r, sl, q⟩ =>
  ⟨α, M, s, r, sl, (PostR.bind (R := RB) q).imp fun b H1 ⟨x, α1, M1, l1, r1, rx, h1⟩ => by
    subst rx
    cases x with
    | true => exact iteT ⟨α1, M1, s, r1, sl.le l1, h1⟩
    | false => exact iteF ⟨α1, M1, s, r1, sl.le l1, h1⟩⟩
theorem fa_nil : FA X L W [] dNil := paImp pa_nil fun σ H Q ⟨α, M, s, r, sl, q⟩ => PostR.pure q r reps_nil
theorem fa_cons {es : List Expr} {t : AF} (ha : FE X L W e f) (hr : FA X L W es t) (hs : starEach (e :: es) X.env = (false, eval e X.env) :: starEach es X.env := by rfl) : FA X L W (e :: es) (dCons f t) :=
  paImp (pa_cons ha hr hs) fun σ H Q ⟨α, M, s, r, sl, q⟩ => ⟨α, M, s, r, sl, (PostR.bind (R := Rep _) q).imp fun x H1 ⟨dx, α1, M1, l1, r1, rx, h1⟩ =>
    ⟨α1, M1, s, r1, sl.le l1, (PostR.bind (R := Reps _) h1).imp fun y H2 ⟨dy, α2, M2, l2, r2, ry, h2⟩ => PostR.pure h2 r2 (reps_cons (rx.le l2) ry)⟩⟩
theorem fss_nil : FSs X L W [] sNext := pssImp pss_nil fun D σ H ⟨α, M, s, r, sl, q⟩ => q α H σ (Le.refl _ _) r sl
theorem seq_go {K : PySem.W.Frag} {t u : SF} {D : Ends} {σ : L2.St} {H : Hp} (h : LS K L W (sSeq t u) D σ H) : LS K L W t { D with nx := LS K L W u D } σ H := by
  obtain ⟨α, M, s, r, sl, q⟩ := h
  refine ⟨α, M, s, r, sl, ?_⟩
  unfold sSeq at q
  cases e : t s M with
  | nx s1 M1 =>
    rw [e] at q
    exact fun α' H' σ' l r' sl' => ⟨α', M1, s1, r', sl', PostS.le (r := u s1 M1) l q⟩
  | _ => rw [e] at q; exact q
theorem fss_cons {st : Stmt} {rest : List Stmt} {t u : SF} (h1 : FS X L W st t) (h2 : FSs X L W rest u) : FSs X L W (st :: rest) (sSeq t u) := pssImp (pss_cons h1 h2) fun D σ H q => seq_go q
theorem fss_one {st : Stmt} {t : SF} (h1 : FS X L W st t) : FSs X L W [st] t := pss_one h1
theorem fs_expr (he : FE X L W e f) (hs : swapsWith e none pos.line X.env = pure false := by rfl) : FS X L W (.Expr e pos) (sDrop f) := psImp (ps_expr he hs) fun D σ H ⟨α, M, s, r, sl, q⟩ =>
  ⟨α, M, s, r, sl, (PostR.toS (R := Rep _) sl q).imp fun x H1 ⟨dx, α1, M1, l1, r1, rx, h1⟩ => h1 α1 H1 σ (Le.refl _ _) r1 (sl.le l1)⟩
theorem fs_ret (he : FE X L W e f) : FS X L W (.Return (some e) pos) (sRet f) := psImp (ps_ret he) fun D σ H ⟨α, M, s, r, sl, q⟩ =>
  ⟨α, M, s, r, sl, (PostR.toS (R := Rep _) sl q).imp fun x H1 ⟨dx, α1, M1, l1, r1, rx, h1⟩ => h1 α1 H1 x (Le.refl _ _) r1 rx⟩
theorem fs_set {i : Nat} {x : Str} {pos' : Pos} (hN : X.N.Nodup) (hi : X.N[i]? = some x) (hx : Loc X.env.scope x) (he : FE X L W e f) (hs : swapsWith e (some (.Name x pos')) pos.line X.env = pure false := by rfl) (hf : X.fn x = true ∨ X.env.scope.names.lookup x = some .local := by first | exact .inl rfl | exact .inr rfl | assumption) :
    FS X L W (.Assign [.Name x pos'] e pos) (sSet i f) := psImp (ps_set hN hi hx he hs hf) fun D σ H ⟨α, M, s, r, sl, q⟩ =>
  ⟨α, M, s, r, sl, (PostR.toS (R := Rep _) sl q).imp fun x H1 ⟨dx, α1, M1, l1, r1, rx, h1⟩ => h1 α1 H1 _ (Le.refl _ _) r1 ((sl.le l1).set i rx)⟩
theorem fs_if {c : Expr} {t u : List Stmt} {fc : TF} {ft fu : SF} (hc : FT X L W c fc) (ht : FSs X L W t ft) (hu : FSs X L W u fu) : FS X L W (.If c t u pos) (sIf fc ft fu) := psImp (ps_if hc ht hu) fun D σ H ⟨α, M, s, r, sl, q⟩ =>
  ⟨α, M, s, r, sl, (PostR.toS (R := RB) sl q).imp fun b H1 ⟨x, α1, M1, l1, r1, rx, h1⟩ => by
    subst rx
    cases x with
    | true => exact iteT ⟨α1, M1, s, r1, sl.le l1, h1⟩
    | false => exact iteF ⟨α1, M1, s, r1, sl.le l1, h1⟩⟩
end
end Fl
namespace Fl
open PySem PySem.Spec L2
def isNonD : D → Bool
  | .non => true
  | _ => false
section
variable {K : PySem.W.Frag} {L : Lay} {α : List Addr} {M : Mem} {H : Hp}
theorem rep_bl {b : Bool} : Rep K α H (.bl b) (.bl b) := by unfold Rep; rfl
theorem rep_int {b : Int} : Rep K α H (.int b) (.int b) := by unfold Rep; rfl
theorem rep_str {b : Str} : Rep K α H (.str b) (.str b) := by unfold Rep; rfl
theorem rep_non : Rep K α H .non .non := by unfold Rep; rfl
theorem rep_ref {n : Nat} {a : Addr} (h : α[n]? = some a) : Rep K α H (.ref n) (.ref a) := by unfold Rep; exact ⟨a, h, rfl⟩
theorem rep_tup {ds : List D} {t : Addr} {vs : List V} (h : H t = some (.tup vs)) (h2 : Reps K α H ds vs) : Rep K α H (.tup ds) (.ref t) := by unfold Rep; exact ⟨t, vs, rfl, .inl h, h2⟩
theorem isNon {d : D} {v : V} (h : Rep K α H d v) : isNonD d = decide (v = .non) := by
  cases d
  · rw [h.non]; rfl
  · rw [h.bl]; rfl
  · rw [h.int]; rfl
  · rw [h.str]; rfl
  · obtain ⟨t, vs, e, _⟩ := h.tup; rw [e]; rfl
  · obtain ⟨t, vs, e, _⟩ := h.rol; rw [e]; rfl
  · obtain ⟨t, _, e⟩ := h.ref; rw [e]; rfl
end
def allSome {A B : Type} (f : A → Option B) : List A → Option (List B)
  | [] => some []
  | d :: ds => match f d with
    | some p => (match allSome f ds with
      | some ps => some (p :: ps)
      | none => none)
    | none => none
def toPy (M : Mem) : Nat → D → Option PyData
  | 0, _ => none
  | _ + 1, .non => some .none
  | _ + 1, .bl b => some (.bool b)
  | _ + 1, .int i => some (.int i)
  | _ + 1, .str s => some (.str s)
  | k + 1, .tup ds => (allSome (toPy M k) ds).map .tuple
  | k + 1, .rol ds => (allSome (toPy M k) ds).map .list
  | k + 1, .ref n => match listAt M n with
    | some ds => (allSome (toPy M k) ds).map .list
    | none => none
section
variable {K : PySem.W.Frag} {L : Lay} {α : List Addr} {M : Mem} {H : Hp}
theorem allSome_dp {f : D → Option PyData} (hf : ∀ (d : D) (v : V) (p : PyData), f d = some p → Rep K α H d v → Dp K H v p) : ∀ (ds : List D) (vs : List V) (ps : List PyData), allSome f ds = some ps → Reps K α H ds vs → DpAll K H vs ps
  | [], vs, ps, h, q => by unfold allSome at h; cases h; unfold Reps at q; subst q; exact .nil
  | d :: ds, vs, ps, h, q => by
    unfold allSome at h
    unfold Reps at q
    obtain ⟨x, xs, rfl, h1, h2⟩ := q
    split at h
    · rename_i p e1
      split at h
      · rename_i ps' e2
        cases h
        exact .cons (hf d x p e1 h1) (allSome_dp hf ds xs ps' e2 h2)
      · cases h
    · cases h
theorem toPy_dp (r : Rel K L α M H) : ∀ (k : Nat) (d : D) (v : V) (p : PyData), toPy M k d = some p → Rep K α H d v → Dp K H v p
  | 0, _, _, _, h, _ => by unfold toPy at h; cases h
  | k + 1, .non, v, p, h, q => by unfold toPy at h; cases h; rw [q.non]; exact .non
  | k + 1, .bl b, v, p, h, q => by unfold toPy at h; cases h; rw [q.bl]; exact .bl b
  | k + 1, .int b, v, p, h, q => by unfold toPy at h; cases h; rw [q.int]; exact .int b
  | k + 1, .str b, v, p, h, q => by unfold toPy at h; cases h; rw [q.str]; exact .str b
  | k + 1, .tup ds, v, p, h, q => by
    unfold toPy at h
    cases e : allSome (toPy M k) ds with
    | none => rw [e] at h; cases h
    | some ps =>
      rw [e] at h; cases h
      obtain ⟨t, vs, rfl, ht, hr⟩ := q.tup
      exact .tup ht.sq (allSome_dp (toPy_dp r k) ds vs ps e hr)
  | k + 1, .rol ds, v, p, h, q => by
    unfold toPy at h
    cases e : allSome (toPy M k) ds with
    | none => rw [e] at h; cases h
    | some ps =>
      rw [e] at h; cases h
      obtain ⟨t, vs, rfl, ht, hr⟩ := q.rol
      exact .lst ht.sq (allSome_dp (toPy_dp r k) ds vs ps e hr)
  | k + 1, .ref n, v, p, h, q => by
    unfold toPy at h
    cases e0 : listAt M n with
    | none => rw [e0] at h; cases h
    | some ds =>
      rw [e0] at h
      dsimp only at h
      cases e : allSome (toPy M k) ds with
      | none => rw [e] at h; cases h
      | some ps =>
        rw [e] at h; cases h
        obtain ⟨a, ha, rfl⟩ := q.ref
        obtain ⟨a', vs, ha', hv, hr⟩ := r.list e0
        rw [ha] at ha'; cases ha'
        exact .lst (.of hv) (allSome_dp (toPy_dp r k) ds vs ps e hr)
end
def pyEq (M : Mem) (x y : D) : Option Bool := match toPy M 9 x, toPy M 9 y with
  | some a, some b => match SeqAt.shaped a && SeqAt.shaped b with
    | true => some (PyData.eqv a b)
    | false => none
  | _, _ => none
def pyIn (M : Mem) (x : D) (ds : List D) : Option Bool := match toPy M 9 x, allSome (toPy M 8) ds with
  | some a, some bs => match SeqAt.shaped a && SeqAt.shaped (.list bs) with
    | true => some (bs.any fun z => PyData.eqv z a)
    | false => none
  | _, _ => none
def okB (M : Mem) : Option Bool → Res D
  | some b => .ok (.bl b) M
  | none => .bad
def newL (M : Mem) (ds : List D) : Res D := match decide (ds.length ≤ sizeLine) with
  | true => .ok (.ref M.length) (M ++ [.lst ds])
  | false => .bad
def gAdd : D → D → Mem → Res D
  | .int i, .int j, M => .ok (.int (i + j)) M
  | .str i, .str j, M => match decide (i.length + j.length ≤ sizeLine) with
    | true => .ok (.str (i ++ j)) M
    | false => .bad
  | .tup xs, .tup ys, M => match decide (xs.length + ys.length ≤ sizeLine) with
    | true => .ok (.tup (xs ++ ys)) M
    | false => .bad
  | .ref m, .ref n, M => match listAt M m, listAt M n with
    | some xs, some ys => newL M (xs ++ ys)
    | _, _ => .bad
  | _, _, _ => .bad
def gSub : D → D → Mem → Res D
  | .int i, .int j, M => .ok (.int (i - j)) M
  | _, _, _ => .bad
def gMul : D → D → Mem → Res D
  | .int i, .int j, M => match decide ((-(2 ^ 64) < i ∧ i < 2 ^ 64) ∨ (-(2 ^ 64) < j ∧ j < 2 ^ 64)) with
    | true => .ok (.int (i * j)) M
    | false => .bad
  | .ref m, .int k, M => match listAt M m with
    | some xs => match decide (-(2 ^ 63) ≤ k ∧ k < 2 ^ 63 ∧ xs.length * k.toNat ≤ sizeLine) with
      | true => .ok (.ref M.length) (M ++ [.lst (List.replicate k.toNat xs).flatten])
      | false => .bad
    | none => .bad
  | .tup xs, .int k, M => match decide (xs ≠ [] ∧ 2 ≤ k ∧ k ≤ 1000 ∧ xs.length ≤ 1000) with
    | true => .ok (.tup (List.replicate k.toNat xs).flatten) M
    | false => .bad
  | _, _, _ => .bad
def gDiv : D → D → Mem → Res D
  | .int i, .int j, M => match decide (0 < j ∧ j < 1073741824) with
    | true => .ok (.int (i / j)) M
    | false => .bad
  | _, _, _ => .bad
def gMod : D → D → Mem → Res D
  | .int i, .int j, M => match decide (0 < j) with
    | true => .ok (.int (i % j)) M
    | false => .bad
  | _, _, _ => .bad
def gPow : D → D → Mem → Res D
  | .int i, .int j, M => match decide (0 ≤ j ∧ j ≤ 1000000 ∧ i.natAbs < 2 ^ 64) with
    | true => .ok (.int (i ^ j.toNat)) M
    | false => .bad
  | _, _, _ => .bad
def gLt : D → D → Mem → Res D
  | .int i, .int j, M => .ok (.bl (decide (i < j))) M
  | _, _, _ => .bad
def gLe : D → D → Mem → Res D
  | .int i, .int j, M => .ok (.bl (decide (i ≤ j))) M
  | _, _, _ => .bad
def gGt : D → D → Mem → Res D
  | .int i, .int j, M => .ok (.bl (decide (j < i))) M
  | _, _, _ => .bad
def gGe : D → D → Mem → Res D
  | .int i, .int j, M => .ok (.bl (decide (j ≤ i))) M
  | _, _, _ => .bad
def gEq : D → D → Mem → Res D := fun x y M => okB M (pyEq M x y)
def gNe : D → D → Mem → Res D := fun x y M => okB M ((pyEq M x y).map (!·))
def gIs : D → D → Mem → Res D
  | .non, .non, M => .ok (.bl true) M
  | _, .non, M => .ok (.bl false) M
  | .bl a, .bl b, M => .ok (.bl (decide (a = b))) M
  | _, _, _ => .bad
def gIsNot : D → D → Mem → Res D
  | .non, .non, M => .ok (.bl false) M
  | _, .non, M => .ok (.bl true) M
  | .bl a, .bl b, M => .ok (.bl (!decide (a = b))) M
  | _, _, _ => .bad
section
variable {X : Cx} {L : Lay} {w : W3}
theorem o_add : Op2 X L (binaryOp .Add) gAdd := fun w => op_case fun x y H Q ⟨α, M, dx, dy, r, rx, ry, h⟩ => by
  unfold gAdd at h
  split at h
  · exact ⟨_, op_add, _, _, rx.int, ry.int, PostR.pure h r rep_int⟩
  · split at h
    · rename_i c
      exact ⟨_, op_add_str, _, _, rx.str, ry.str, dt c, PostR.pure h r rep_str⟩
    · exact h.elim
  · split at h
    · rename_i c
      obtain ⟨t, vs, e, ht, hr⟩ := rx.tup
      obtain ⟨t', vs', e', ht', hr'⟩ := ry.tup
      refine ⟨_, op_catA, t, t', vs, vs', e, e', ht.sq, ht'.sq, by rw [← hr.length, ← hr'.length]; exact dt c, ?_⟩
      have mk : ∀ v, Rep X.K α H (.tup _) v → Q v H := fun v rv => PostR.pure h r rv
      have nl : ∀ {ds : List D}, Reps X.K α H ds [] → ds = [] := fun {ds} q => by
        cases ds with
        | nil => rfl
        | cons a b => unfold Reps at q; obtain ⟨_, _, q, _⟩ := q; cases q
      refine ⟨fun ex => ?_, fun nx ey => ?_, fun nx ny p hp => ?_⟩
      · subst ex
        have q := nl hr
        subst q
        exact mk _ (by unfold Rep; exact ⟨t', vs', rfl, ht', hr'⟩)
      · subst ey
        have q := nl hr'
        subst q
        exact mk _ (by rw [List.append_nil]; unfold Rep; exact ⟨t, vs, rfl, ht, hr⟩)
      · have l := Le.tup (α := α) (vs := vs ++ vs') hp
        exact h α _ _ l (r.tup hp) (rep_tup upd_same ((hr.le l).append (hr'.le l)))
    · exact h.elim
  · split at h
    · rename_i xs ys e1 e2
      unfold newL at h
      split at h
      · rename_i c
        obtain ⟨a, ha, rfl⟩ := rx.ref
        obtain ⟨b, hb, rfl⟩ := ry.ref
        obtain ⟨a', vs, ha', hv, hr⟩ := r.list e1
        obtain ⟨b', vs', hb', hv', hr'⟩ := r.list e2
        rw [ha] at ha'; cases ha'
        rw [hb] at hb'; cases hb'
        refine ⟨_, op_cat, a, b, vs, vs', rfl, rfl, hv, hv', ?_, fun p hp => ?_⟩
        · rw [← hr.length, ← hr'.length, ← List.length_append]; exact dt c
        · have l := Le.new (α := α) (o := .lst (vs ++ vs')) hp
          exact h _ _ _ l (r.new (o := .lst _) hp ⟨_, upd_same, (hr.le l).append (hr'.le l)⟩) (rep_ref (by rw [← r.len]; simp))
      · exact h.elim
    · exact h.elim
  · exact h.elim
theorem o_sub : Op2 X L (binaryOp .Sub) gSub := fun w => op_case fun x y H Q ⟨α, M, dx, dy, r, rx, ry, h⟩ => by
  unfold gSub at h
  split at h
  · exact ⟨_, op_sub, _, _, rx.int, ry.int, PostR.pure h r rep_int⟩
  · exact h.elim
theorem o_mul : Op2 X L (binaryOp .Mult) gMul := fun w => op_case fun x y H Q ⟨α, M, dx, dy, r, rx, ry, h⟩ => by
  unfold gMul at h
  split at h
  · split at h
    · rename_i c
      have c2 := dt c
      exact ⟨_, op_mul, _, _, rx.int, ry.int, c2, PostR.pure h r rep_int⟩
    · exact h.elim
  · split at h
    · rename_i xs e1
      split at h
      · rename_i c
        obtain ⟨a, ha, rfl⟩ := rx.ref
        obtain ⟨a', vs, ha', hv, hr⟩ := r.list e1
        rw [ha] at ha'; cases ha'
        obtain ⟨c1, c2, c3⟩ := dt c
        refine ⟨_, op_rep, a, _, vs, rfl, ry.int, hv, c1, c2, by rw [← hr.length]; exact c3, fun p hp => ?_⟩
        exact h _ _ _ (Le.new hp) (r.new (o := .lst _) hp ⟨_, upd_same, (hr.le (Le.new hp)).rep _⟩) (rep_ref (by rw [← r.len]; simp))
      · exact h.elim
    · exact h.elim
  · split at h
    · rename_i c
      obtain ⟨c0, c1, c2, c3⟩ := dt c
      obtain ⟨t, vs, e, ht, hr⟩ := rx.tup
      refine ⟨_, op_repT, t, _, vs, e, ry.int, ht.sq, fun z => ?_, c1, c2, by rw [← hr.length]; exact c3, fun p hp => ?_⟩
      · subst z
        have q := hr.length
        exact c0 (List.length_eq_zero_iff.mp q)
      · exact h α _ _ (Le.tup hp) (r.tup hp) (rep_tup upd_same ((hr.le (Le.tup hp)).rep _))
    · exact h.elim
  · exact h.elim
theorem o_div : Op2 X L (binaryOp .FloorDiv) gDiv := fun w => op_case fun x y H Q ⟨α, M, dx, dy, r, rx, ry, h⟩ => by
  unfold gDiv at h
  split at h
  · split at h
    · rename_i c
      have c2 := dt c
      exact ⟨_, op_fdiv, _, _, rx.int, ry.int, c2, PostR.pure h r rep_int⟩
    · exact h.elim
  · exact h.elim
theorem o_mod : Op2 X L (binaryOp .Mod) gMod := fun w => op_case fun x y H Q ⟨α, M, dx, dy, r, rx, ry, h⟩ => by
  unfold gMod at h
  split at h
  · split at h
    · rename_i c
      exact ⟨_, op_mod, _, _, rx.int, ry.int, dt c, PostR.pure h r rep_int⟩
    · exact h.elim
  · exact h.elim
theorem o_pow : Op2 X L (binaryOp .Pow) gPow := fun w => op_case fun x y H Q ⟨α, M, dx, dy, r, rx, ry, h⟩ => by
  unfold gPow at h
  split at h
  · split at h
    · rename_i c
      have c2 := dt c
      exact ⟨_, op_pow, _, _, rx.int, ry.int, c2, PostR.pure h r rep_int⟩
    · exact h.elim
  · exact h.elim
theorem o_lt : Op2 X L (compareOp .Lt) gLt := fun w => op_case fun x y H Q ⟨α, M, dx, dy, r, rx, ry, h⟩ => by
  unfold gLt at h
  split at h
  · exact ⟨_, op_lt, _, _, rx.int, ry.int, PostR.pure h r rep_bl⟩
  · exact h.elim
theorem o_le : Op2 X L (compareOp .LtE) gLe := fun w => op_case fun x y H Q ⟨α, M, dx, dy, r, rx, ry, h⟩ => by
  unfold gLe at h
  split at h
  · exact ⟨_, op_le, _, _, rx.int, ry.int, PostR.pure h r rep_bl⟩
  · exact h.elim
theorem o_gt : Op2 X L (compareOp .Gt) gGt := fun w => op_case fun x y H Q ⟨α, M, dx, dy, r, rx, ry, h⟩ => by
  unfold gGt at h
  split at h
  · exact ⟨_, op_gt, _, _, rx.int, ry.int, PostR.pure h r rep_bl⟩
  · exact h.elim
theorem o_ge : Op2 X L (compareOp .GtE) gGe := fun w => op_case fun x y H Q ⟨α, M, dx, dy, r, rx, ry, h⟩ => by
  unfold gGe at h
  split at h
  · exact ⟨_, op_ge, _, _, rx.int, ry.int, PostR.pure h r rep_bl⟩
  · exact h.elim
theorem pyEq_dp {K : PySem.W.Frag} {α : List Addr} {M : Mem} {H : Hp} {dx dy : D} {x y : V} {b : Bool} (r : Rel K L α M H) (h : pyEq M dx dy = some b) (rx : Rep K α H dx x) (ry : Rep K α H dy y) :
    ∃ d e, Dp K H x d ∧ Dp K H y e ∧ SeqAt.shaped d = true ∧ SeqAt.shaped e = true ∧ b = PyData.eqv d e := by
  unfold pyEq at h
  split at h
  · rename_i a b' e1 e2
    split at h
    · rename_i c
      cases h
      exact ⟨a, b', toPy_dp r 9 dx x a e1 rx, toPy_dp r 9 dy y b' e2 ry, (Bool.and_eq_true_iff.mp c).1, (Bool.and_eq_true_iff.mp c).2, rfl⟩
    · cases h
  · cases h
theorem o_eq (hu : X.A.units + 70 < cLine) : Op2 X L (compareOp .Eq) gEq := fun w => op_case fun x y H Q ⟨α, M, dx, dy, r, rx, ry, h⟩ => by
  unfold gEq at h
  cases e : pyEq M dx dy with
  | none => rw [e] at h; exact h.elim
  | some b =>
    rw [e] at h
    obtain ⟨d, e2, h1, h2, h3, h4, rfl⟩ := pyEq_dp r e rx ry
    exact ⟨_, op_eqD (by omega), d, e2, h1, h2, h3, h4, PostR.pure h r rep_bl⟩
theorem o_ne (hu : X.A.units + 70 < cLine) : Op2 X L (compareOp .NotEq) gNe := fun w => op_case fun x y H Q ⟨α, M, dx, dy, r, rx, ry, h⟩ => by
  unfold gNe at h
  cases e : pyEq M dx dy with
  | none => rw [e] at h; exact h.elim
  | some b =>
    rw [e] at h
    obtain ⟨d, e2, h1, h2, h3, h4, rfl⟩ := pyEq_dp r e rx ry
    exact ⟨_, op_neD (by omega), d, e2, h1, h2, h3, h4, PostR.pure h r rep_bl⟩
theorem o_is : Op2 X L (compareOp .Is) gIs := fun w => op_case fun x y H Q ⟨α, M, dx, dy, r, rx, ry, h⟩ => by
  unfold gIs at h
  split at h
  · refine ⟨_, op_isN, ry.non, ?_⟩
    have e := rx.non
    subst e
    exact PostR.pure h r rep_bl
  · rename_i hn
    refine ⟨_, op_isN, ry.non, ?_⟩
    have e := isNon rx
    have e2 : isNonD dx = false := by cases dx <;> first | rfl | exact absurd rfl hn
    rw [← e, e2]
    exact PostR.pure h r rep_bl
  · exact ⟨_, op_is_bl, _, _, rx.bl, ry.bl, PostR.pure h r rep_bl⟩
  · exact h.elim
theorem o_isNot : Op2 X L (compareOp .IsNot) gIsNot := fun w => op_case fun x y H Q ⟨α, M, dx, dy, r, rx, ry, h⟩ => by
  unfold gIsNot at h
  split at h
  · refine ⟨_, op_notN, ry.non, ?_⟩
    have e := rx.non
    subst e
    exact PostR.pure h r rep_bl
  · rename_i hn
    refine ⟨_, op_notN, ry.non, ?_⟩
    have e := isNon rx
    have e2 : isNonD dx = false := by cases dx <;> first | rfl | exact absurd rfl hn
    rw [← e, e2]
    exact PostR.pure h r rep_bl
  · exact ⟨_, op_isnot_bl, _, _, rx.bl, ry.bl, PostR.pure h r rep_bl⟩
  · exact h.elim
end
end Fl
namespace Fl
open PySem PySem.Spec L2
def keyOf : D → Option Key
  | .int i => some (.inl i)
  | .str s => some (.inr s)
  | _ => none
def kD : Key → D
  | .inl i => .int i
  | .inr s => .str s
def keysOf : D → Option (List Key)
  | .tup (d :: ds) => allSome keyOf (d :: ds)
  | _ => none
def look {κ : Type} [DecidableEq κ] (kvs : List (κ × D)) (k : κ) : Option D := match kvs with
  | [] => none
  | p :: r => match decide (p.1 = k) with
    | true => some p.2
    | false => look r k
def put {κ : Type} [DecidableEq κ] (kvs : List (κ × D)) (k : κ) (d : D) : List (κ × D) := match kvs with
  | [] => [(k, d)]
  | p :: r => match decide (p.1 = k) with
    | true => (p.1, d) :: r
    | false => p :: put r k d
def dictLook (M : Mem) (n : Nat) (k : D) : Option (Option D) := match M[n]? with
  | some (.dk kvs) => (keyOf k).map (look kvs)
  | some (.fk kvs) => (keyOf k).map (look kvs)
  | some (.dt kvs) => (keysOf k).map (look kvs)
  | some (.ft kvs) => (keysOf k).map (look kvs)
  | _ => none
def isDict (M : Mem) (n : Nat) : Bool := match M[n]? with
  | some (.dk _) => true
  | some (.fk _) => true
  | some (.dt _) => true
  | some (.ft _) => true
  | _ => false
section
variable {K : PySem.W.Frag} {L : Lay} {α : List Addr} {M : Mem} {H : Hp}
theorem keyOf_rep {d : D} {v : V} {k : Key} (h : keyOf d = some k) (r : Rep K α H d v) : v = kV k ∧ d = kD k := by
  cases d <;> try (cases h; done)
  · cases h; exact ⟨r.int, rfl⟩
  · cases h; exact ⟨r.str, rfl⟩
theorem allKeys_rep : ∀ {ds : List D} {vs : List V} {ks : List Key}, allSome keyOf ds = some ks → Reps K α H ds vs → vs = ks.map kV ∧ ds = ks.map kD
  | [], vs, ks, h, r => by unfold allSome at h; cases h; unfold Reps at r; subst r; exact ⟨rfl, rfl⟩
  | d :: ds, vs, ks, h, r => by
    unfold allSome at h
    unfold Reps at r
    obtain ⟨x, xs, rfl, h1, h2⟩ := r
    split at h
    · rename_i p e1
      split at h
      · rename_i ps e2
        cases h
        obtain ⟨a1, a2⟩ := keyOf_rep e1 h1
        obtain ⟨b1, b2⟩ := allKeys_rep e2 h2
        exact ⟨by rw [a1, b1]; rfl, by rw [List.map_cons, ← a2, ← b2]⟩
      · cases h
    · cases h
theorem keysOf_rep {d : D} {v : V} {ks : List Key} (h : keysOf d = some ks) (r : Rep K α H d v) : ∃ t, v = .ref t ∧ H t = some (.tup (ks.map kV)) ∧ d = .tup (ks.map kD) := by
  unfold keysOf at h
  split at h
  · obtain ⟨t, vs, e, ht, hr⟩ := r.tup
    obtain ⟨e1, e2⟩ := allKeys_rep h hr
    subst e1
    rcases ht with ht | ⟨z, _⟩
    · exact ⟨t, e, ht, by rw [e2]⟩
    · have q := hr.length
      rw [z] at q
      simp at q
  · cases h
theorem look_rep {κ : Type} [DecidableEq κ] {kvs : List (κ × D)} {vs : List (κ × V)} (h : KvR K α H kvs vs) (k : κ) : OptR K α H (look kvs k) (valV vs k) := by
  induction h with
  | nil => exact valV_nil
  | @cons p q ps qs hp _ ih =>
    unfold look
    by_cases e : p.1 = k
    · rw [decide_eq_true e]
      have e' : q.1 = k := hp.1.symm.trans e
      exact ⟨q.2, valV_pos e', hp.2⟩
    · rw [decide_eq_false e]
      have e' : ¬ q.1 = k := fun z => e (hp.1.trans z)
      simp only
      rw [valV_neg e']
      exact ih
theorem KvR.nokey {κ : Type} [DecidableEq κ] {kvs : List (κ × D)} {vs : List (κ × V)} (h : KvR K α H kvs vs) {k : κ} {d : D} {v : V} (rd : Rep K α H d v) (e : valV vs k = none) : KvR K α H (put kvs k d) (vs ++ [(k, v)]) := by
  induction h with
  | nil => exact .cons ⟨rfl, rd⟩ .nil
  | @cons p q ps qs hp _ ih =>
    have nq : ¬ q.1 = k := fun z => by rw [valV_pos z] at e; cases e
    have np : ¬ p.1 = k := fun z => nq (hp.1.symm.trans z)
    unfold put
    rw [decide_eq_false np]
    rw [valV_neg nq] at e
    exact .cons hp (ih e)
theorem put_cons {κ : Type} [DecidableEq κ] (p : κ × D) (r : List (κ × D)) (k : κ) (d : D) : put (p :: r) k d = if p.1 = k then (p.1, d) :: r else p :: put r k d := by
  by_cases e : p.1 = k
  · rw [if_pos e]
    show (match decide (p.1 = k) with | true => (p.1, d) :: r | false => p :: put r k d) = _
    rw [decide_eq_true e]
  · rw [if_neg e]
    show (match decide (p.1 = k) with | true => (p.1, d) :: r | false => p :: put r k d) = _
    rw [decide_eq_false e]
theorem KvR.put {κ : Type} [DecidableEq κ] {kvs : List (κ × D)} {vs : List (κ × V)} (h : KvR K α H kvs vs) (nd : (vs.map (·.1)).Nodup) {k : κ} {d : D} {v : V} (rd : Rep K α H d v) : KvR K α H (Fl.put kvs k d) (putK vs k v) := by
  cases e : valV vs k with
  | none => rw [putK_new v e]; exact h.nokey rd e
  | some w =>
    have hk : putK vs k v = vs.map (fun kv => if kv.1 = k then (kv.1, v) else kv) := by
      unfold putK
      rw [valV_any, e]
      rfl
    rw [hk]
    clear hk
    induction h with
    | nil => rw [valV_nil] at e; cases e
    | @cons p q ps qs hp t ih =>
      rw [put_cons, List.map_cons]
      rw [List.map_cons, List.nodup_cons] at nd
      by_cases z : p.1 = k
      · have z' : q.1 = k := hp.1.symm.trans z
        rw [if_pos z, if_pos z']
        have same : qs.map (fun kv => if kv.1 = k then (kv.1, v) else kv) = qs := by
          refine (List.map_congr_left fun x hx => ?_).trans (List.map_id _)
          have nx : ¬ x.1 = k := fun y => nd.1 (List.mem_map.mpr ⟨x, hx, y.trans z'.symm⟩)
          rw [if_neg nx]; rfl
        rw [same]
        exact .cons ⟨hp.1, rd⟩ t
      · have z' : ¬ q.1 = k := fun y => z (hp.1.trans y)
        rw [if_neg z, if_neg z']
        rw [valV_neg z'] at e
        exact .cons hp (ih nd.2 e)
theorem dictLook_rep (r : Rel K L α M H) {n : Nat} {k : D} {v x : V} {o : Option D} (h : dictLook M n k = some o) (rn : Rep K α H (.ref n) x) (rk : Rep K α H k v) :
    ∃ a ov, x = .ref a ∧ DGet H a v ov ∧ OptR K α H o ov := by
  obtain ⟨a, ha, rfl⟩ := rn.ref
  have fin : ∀ {κ : Type} [DecidableEq κ] {kvs : List (κ × D)} {vs : List (κ × V)} (q : KvR K α H kvs vs) (key : κ), OptR K α H (look kvs key) (valV vs key) := fun q key => look_rep q key
  unfold dictLook at h
  split at h
  · rename_i kvs e
    obtain ⟨a', ha', vs, hv, q⟩ := r.at e
    rw [ha] at ha'; cases ha'
    cases ek : keyOf k with
    | none => rw [ek] at h; cases h
    | some key =>
      rw [ek] at h; cases h
      obtain ⟨e1, _⟩ := keyOf_rep ek rk
      subst e1
      exact ⟨a, _, rfl, DGet.k hv, fin q key⟩
  · rename_i kvs e
    obtain ⟨a', ha', o', vs, hv, q⟩ := r.at e
    rw [ha] at ha'; cases ha'
    cases ek : keyOf k with
    | none => rw [ek] at h; cases h
    | some key =>
      rw [ek] at h; cases h
      obtain ⟨e1, _⟩ := keyOf_rep ek rk
      subst e1
      exact ⟨a, _, rfl, .inl ⟨vs, key, .inr ⟨o', hv⟩, rfl, rfl⟩, fin q key⟩
  · rename_i kvs e
    obtain ⟨a', ha', vs, hv, q⟩ := r.at e
    rw [ha] at ha'; cases ha'
    cases ek : keysOf k with
    | none => rw [ek] at h; cases h
    | some key =>
      rw [ek] at h; cases h
      obtain ⟨t, e1, e2, _⟩ := keysOf_rep ek rk
      subst e1
      exact ⟨a, _, rfl, DGet.t hv e2, fin q key⟩
  · rename_i kvs e
    obtain ⟨a', ha', o', vs, hv, q⟩ := r.at e
    rw [ha] at ha'; cases ha'
    cases ek : keysOf k with
    | none => rw [ek] at h; cases h
    | some key =>
      rw [ek] at h; cases h
      obtain ⟨t, e1, e2, _⟩ := keysOf_rep ek rk
      subst e1
      exact ⟨a, _, rfl, .inr ⟨vs, key, t, .inr ⟨o', hv⟩, rfl, e2, rfl⟩, fin q key⟩
  · cases h
end
def inB (M : Mem) (x y : D) : Option Bool := match y with
  | .str s => match x with
    | .str i => some (!(Builtin.Str.occurrences s i 0 s.length 1).isEmpty)
    | _ => none
  | .tup ds => pyIn M x ds
  | .rol ds => pyIn M x ds
  | .ref n => match listAt M n with
    | some ds => pyIn M x ds
    | none => (dictLook M n x).map (·.isSome)
  | _ => none
def gIn : D → D → Mem → Res D := fun x y M => okB M (inB M x y)
def gNotIn : D → D → Mem → Res D := fun x y M => okB M ((inB M x y).map (!·))
theorem pyIn_dp {K : PySem.W.Frag} {L : Lay} {α : List Addr} {M : Mem} {H : Hp} {dx : D} {ds : List D} {x : V} {vs : List V} {b : Bool} (r : Rel K L α M H) (h : pyIn M dx ds = some b) (rx : Rep K α H dx x) (ry : Reps K α H ds vs) :
    ∃ d es, Dp K H x d ∧ DpAll K H vs es ∧ SeqAt.shaped d = true ∧ SeqAt.shaped (.list es) = true ∧ b = es.any fun z => PyData.eqv z d := by
  unfold pyIn at h
  split at h
  · rename_i a bs e1 e2
    split at h
    · rename_i c
      cases h
      exact ⟨a, bs, toPy_dp r 9 dx x a e1 rx, allSome_dp (toPy_dp r 8) ds vs bs e2 ry, (Bool.and_eq_true_iff.mp c).1, (Bool.and_eq_true_iff.mp c).2, rfl⟩
    · cases h
  · cases h
section
variable {X : Cx} {L : Lay} {w : W3}
theorem op_inT (hu : X.A.units + 65 < cLine) : OpR X (compareOp .In) (fun x y H Q => ∃ d ds t vs, Dp X.K H x d ∧ y = .ref t ∧ SqT X.K H t vs ∧ DpAll X.K H vs ds ∧ SeqAt.shaped d = true ∧ SeqAt.shaped (.list ds) = true ∧ Q (.bl (ds.any fun z => PyData.eqv z d)) H) := by
  intro pins s σ H x y v u Q I rx ry h
  obtain ⟨d, ds, t, vs, hd, rfl, ht, he, sd, se, q⟩ := h
  obtain ⟨as, r1⟩ := Dp.reads I d x v hd rx
  obtain ⟨bs, r2⟩ := Dp.reads I (.tuple ds) _ u (.tup ht he) ry
  exact SeqAt.in_tuple_reads r2 r1 (show PyData.canLayAll0 ds = true from SeqAt.canLay_of_shaped se) (SeqAt.canLay_of_shaped sd) (PyProof.Rows.room_in_shaped sd hu) ⟨.bl _, H, I, rfl, q⟩
theorem op_notInT (hu : X.A.units + 65 < cLine) : OpR X (compareOp .NotIn) (fun x y H Q => ∃ d ds t vs, Dp X.K H x d ∧ y = .ref t ∧ SqT X.K H t vs ∧ DpAll X.K H vs ds ∧ SeqAt.shaped d = true ∧ SeqAt.shaped (.list ds) = true ∧ Q (.bl (!ds.any fun z => PyData.eqv z d)) H) := by
  intro pins s σ H x y v u Q I rx ry h
  obtain ⟨d, ds, t, vs, hd, rfl, ht, he, sd, se, q⟩ := h
  obtain ⟨as, r1⟩ := Dp.reads I d x v hd rx
  obtain ⟨bs, r2⟩ := Dp.reads I (.tuple ds) _ u (.tup ht he) ry
  exact SeqAt.notIn_tuple_reads r2 r1 (show PyData.canLayAll0 ds = true from SeqAt.canLay_of_shaped se) (SeqAt.canLay_of_shaped sd) (PyProof.Rows.room_in_shaped sd hu) ⟨.bl _, H, I, rfl, q⟩
theorem op_inDict (hu : X.A.units + 1 < cLine) : OpR X (compareOp .In) (fun x y H Q => ∃ a o, y = .ref a ∧ DGet H a x o ∧ Q (.bl o.isSome) H) := by
  intro pins s σ H x y v u Q I rx ry h
  obtain ⟨a, o, rfl, g, q⟩ := h
  obtain rfl : u = Value.ref a := ry
  exact d_in hu I g rx fun s3 I3 => ⟨.bl o.isSome, H, I3, rfl, q⟩
theorem op_notInDict (hu : X.A.units + 1 < cLine) : OpR X (compareOp .NotIn) (fun x y H Q => ∃ a o, y = .ref a ∧ DGet H a x o ∧ Q (.bl (!o.isSome)) H) := by
  intro pins s σ H x y v u Q I rx ry h
  obtain ⟨a, o, rfl, g, q⟩ := h
  obtain rfl : u = Value.ref a := ry
  exact d_notIn hu I g rx fun s3 I3 => ⟨.bl (!o.isSome), H, I3, rfl, q⟩
theorem o_in (hu : X.A.units + 70 < cLine) : Op2 X L (compareOp .In) gIn := fun w => op_case fun x y H Q ⟨α, M, dx, dy, r, rx, ry, h⟩ => by
  unfold gIn at h
  cases eb : inB M dx dy with
  | none => rw [eb] at h; exact h.elim
  | some b =>
    rw [eb] at h
    have q : Q (.bl b) H := PostR.pure h r rep_bl
    clear h
    unfold inB at eb
    split at eb
    · split at eb
      · cases eb
        exact ⟨_, op_in_str, _, _, rx.str, ry.str, q⟩
      · cases eb
    · obtain ⟨t, vs, e, ht, hr⟩ := ry.tup
      obtain ⟨d, es, h1, h2, h3, h4, rfl⟩ := pyIn_dp r eb rx hr
      exact ⟨_, op_inT (by omega), d, es, t, vs, h1, e, ht.sq, h2, h3, h4, q⟩
    · obtain ⟨t, vs, e, ht, hr⟩ := ry.rol
      obtain ⟨d, es, h1, h2, h3, h4, rfl⟩ := pyIn_dp r eb rx hr
      subst e
      exact ⟨_, op_inD (by omega), d, es, h1, .lst ht.sq h2, h3, h4, q⟩
    · split at eb
      · rename_i ds e1
        obtain ⟨a, ha, rfl⟩ := ry.ref
        obtain ⟨a', vs, ha', hv, hr⟩ := r.list e1
        rw [ha] at ha'; cases ha'
        obtain ⟨d, es, h1, h2, h3, h4, rfl⟩ := pyIn_dp r eb rx hr
        exact ⟨_, op_inD (by omega), d, es, h1, .lst (.of hv) h2, h3, h4, q⟩
      · rename_i n _ _
        cases e : dictLook M n dx with
        | none => rw [e] at eb; cases eb
        | some o =>
          rw [e] at eb; cases eb
          obtain ⟨a, ov, rfl, g, z⟩ := dictLook_rep r e ry rx
          have z2 := z.isSome
          exact ⟨_, op_inDict (by omega), a, ov, rfl, g, by rw [z2]; exact q⟩
    · cases eb
theorem o_notIn (hu : X.A.units + 70 < cLine) : Op2 X L (compareOp .NotIn) gNotIn := fun w => op_case fun x y H Q ⟨α, M, dx, dy, r, rx, ry, h⟩ => by
  unfold gNotIn at h
  cases eb : inB M dx dy with
  | none => rw [eb] at h; exact h.elim
  | some b =>
    rw [eb] at h
    have q : Q (.bl (!b)) H := PostR.pure h r rep_bl
    clear h
    unfold inB at eb
    split at eb
    · split at eb
      · cases eb
        exact ⟨_, L2.op_notin_str, _, _, rx.str, ry.str, q⟩
      · cases eb
    · obtain ⟨t, vs, e, ht, hr⟩ := ry.tup
      obtain ⟨d, es, h1, h2, h3, h4, rfl⟩ := pyIn_dp r eb rx hr
      exact ⟨_, op_notInT (by omega), d, es, t, vs, h1, e, ht.sq, h2, h3, h4, q⟩
    · obtain ⟨t, vs, e, ht, hr⟩ := ry.rol
      obtain ⟨d, es, h1, h2, h3, h4, rfl⟩ := pyIn_dp r eb rx hr
      subst e
      exact ⟨_, op_notInD (by omega), d, es, h1, .lst ht.sq h2, h3, h4, q⟩
    · split at eb
      · rename_i ds e1
        obtain ⟨a, ha, rfl⟩ := ry.ref
        obtain ⟨a', vs, ha', hv, hr⟩ := r.list e1
        rw [ha] at ha'; cases ha'
        obtain ⟨d, es, h1, h2, h3, h4, rfl⟩ := pyIn_dp r eb rx hr
        exact ⟨_, op_notInD (by omega), d, es, h1, .lst (.of hv) h2, h3, h4, q⟩
      · rename_i n _ _
        cases e : dictLook M n dx with
        | none => rw [e] at eb; cases eb
        | some o =>
          rw [e] at eb; cases eb
          obtain ⟨a, ov, rfl, g, z⟩ := dictLook_rep r e ry rx
          have z2 := z.isSome
          exact ⟨_, op_notInDict (by omega), a, ov, rfl, g, by rw [z2]; exact q⟩
    · cases eb
end
def ixF (n : Nat) (i : Int) : Option Nat := match decide (0 ≤ i) with
  | true => (match decide (i < n) with
    | true => some i.toNat
    | false => none)
  | false => (match decide (-(n : Int) ≤ i) with
    | true => some (i + n).toNat
    | false => none)
theorem ixF_eq (n : Nat) (i : Int) : ixF n i = ixN n i := by
  unfold ixF ixN
  by_cases h : 0 ≤ i
  · rw [decide_eq_true h, if_pos h]
    by_cases h2 : i < n
    · rw [decide_eq_true h2, if_pos h2]
    · rw [decide_eq_false h2, if_neg h2]
  · rw [decide_eq_false h, if_neg h]
    by_cases h2 : -(n : Int) ≤ i
    · rw [decide_eq_true h2, if_pos h2]
    · rw [decide_eq_false h2, if_neg h2]
def itemAt (ds : List D) (i : Int) : Option D := match ixF ds.length i with
  | some j => ds[j]?
  | none => none
def okD (M : Mem) : Option D → Res D
  | some d => .ok d M
  | none => .bad
def gIx : D → D → Mem → Res D := fun x y M => match x with
  | .tup ds => (match y with
    | .int i => okD M (itemAt ds i)
    | _ => .bad)
  | .rol ds => (match y with
    | .int i => okD M (itemAt ds i)
    | _ => .bad)
  | .str z => (match y with
    | .int i => (match decide (z.length ≤ sizeLine), atI z.cps.toList i with
      | true, some c => .ok (.str ⟨#[c]⟩) M
      | _, _ => .bad)
    | _ => .bad)
  | .ref n => (match listAt M n with
    | some ds => (match y with
      | .int i => okD M (itemAt ds i)
      | _ => .bad)
    | none => (match dictLook M n y with
      | some (some d) => .ok d M
      | _ => .bad))
  | _ => .bad
theorem itemAt_rep {K : PySem.W.Frag} {α : List Addr} {H : Hp} {ds : List D} {vs : List V} {i : Int} {d : D} (r : Reps K α H ds vs) (h : itemAt ds i = some d) : ∃ v, atI vs i = some v ∧ Rep K α H d v := by
  unfold itemAt at h
  rw [ixF_eq] at h
  split at h
  · rename_i j e
    obtain ⟨v, e1, r1⟩ := r.at h
    refine ⟨v, ?_, r1⟩
    unfold atI
    rw [← r.length, e]
    exact e1
  · cases h
section
variable {X : Cx} {L : Lay} {W : WX} {a b : Expr} {fa fb : EF} {pos : Pos}
theorem ix_case {r : R2} (h : ∀ x y H Q, r x y H Q → ∃ r', IxR X r' ∧ r' x y H Q) : IxR X r := fun value slice pins s σ H x y v u Q I rx ry q hs => by
  obtain ⟨r', h1, h2⟩ := h x y H Q q
  exact h1 value slice pins s σ H x y v u Q I rx ry h2 hs
theorem ix_dict (hu : X.A.units + 1 < cLine) : IxR X (fun x y H Q => ∃ a v, x = .ref a ∧ DGet H a y (some v) ∧ Q v H) := by
  intro value slice pins s σ H x y v u Q I rx ry h hs
  obtain ⟨a, z, rfl, g, q⟩ := h
  obtain rfl : v = Value.ref a := rx
  exact PyProof.Rows.tail_any (dict_typeIs I g) PySem.F.slot_dict_getitem.lookup (d_getItem hu I g ry fun w' s3 I3 rw' => ⟨z, H, I3, rw', q⟩) hs
theorem i_ix (hu : X.A.units + 70 < cLine) (w : W3) : IxR X (rF2 X.K L gIx w) := ix_case fun x y H Q ⟨α, M, dx, dy, r, rx, ry, h⟩ => by
  unfold gIx at h
  split at h
  · rename_i ds
    split at h
    · rename_i i
      obtain ⟨t, vs, e, ht, hr⟩ := rx.tup
      cases ei : itemAt ds i with
      | none => rw [ei] at h; exact h.elim
      | some d =>
        rw [ei] at h
        obtain ⟨v, e1, r1⟩ := itemAt_rep hr ei
        exact ⟨_, ix_tup, t, vs, _, v, e, ry.int, ht.sq, e1, PostR.pure h r r1⟩
    · exact h.elim
  · rename_i ds
    split at h
    · rename_i i
      obtain ⟨t, vs, e, ht, hr⟩ := rx.rol
      cases ei : itemAt ds i with
      | none => rw [ei] at h; exact h.elim
      | some d =>
        rw [ei] at h
        obtain ⟨v, e1, r1⟩ := itemAt_rep hr ei
        exact ⟨_, ix_list, t, vs, _, v, e, ry.int, ht.sq, e1, PostR.pure h r r1⟩
    · exact h.elim
  · split at h
    · split at h
      · rename_i c e
        exact ⟨_, ix_str, _, _, _, rx.str, ry.int, dt (by assumption), e, PostR.pure h r rep_str⟩
      · exact h.elim
    · exact h.elim
  · split at h
    · rename_i ds e1
      split at h
      · rename_i i
        obtain ⟨a, ha, rfl⟩ := rx.ref
        obtain ⟨a', vs, ha', hv, hr⟩ := r.list e1
        rw [ha] at ha'; cases ha'
        cases ei : itemAt ds i with
        | none => rw [ei] at h; exact h.elim
        | some d =>
          rw [ei] at h
          obtain ⟨v, e1, r1⟩ := itemAt_rep hr ei
          exact ⟨_, ix_list, a, vs, _, v, rfl, ry.int, .of hv, e1, PostR.pure h r r1⟩
      · exact h.elim
    · split at h
      · rename_i d e
        obtain ⟨a, ov, rfl, g, u, rfl, ru⟩ := dictLook_rep r e rx ry
        exact ⟨_, ix_dict (by omega), a, u, rfl, g, PostR.pure h r ru⟩
      · exact h.elim
  · exact h.elim
theorem fe_ix (hu : X.A.units + 70 < cLine) (ha : FE X L W a fa) (hb : FE X L W b fb) (hs : PlainIx b := by intro _ _; rfl) : FE X L W (.Subscript a b pos) (dOp2 gIx fa fb) :=
  ⟨fun pins s σ H Q I h => (pe_ix (i_ix hu (fun c d H' => W c d σ H')) ha hb hs).run pins s σ H Q I (two_go h)⟩
abbrev OF := Sl → Mem → Res (Option Int)
abbrev RO : List Addr → Hp → Option Int → Option Int → Prop := fun _ _ a b => a = b
def LO (K : PySem.W.Frag) (L : Lay) (W : WX) (f : OF) : TO := fun σ H Q => ∃ α M s, Rel K L α M H ∧ Slots K α H s σ ∧ PostR K L RO (f s M) α H Q (fun c d H' => W c d σ H')
abbrev FO (X : Cx) (L : Lay) (W : WX) (e : Option Expr) (f : OF) : Prop := PO X e (LO X.K L W f)
def oNone : OF := fun _ M => .ok none M
def oSome (a : EF) : OF := fun s M => (a s M).bind fun x M1 => match x with
  | .int i => .ok (some i) M1
  | _ => .bad
theorem poImp {e : Option Expr} {t t' : TO} (h : PO X e t) (i : ∀ σ H Q, t' σ H Q → t σ H Q) : PO X e t' := ⟨fun pins s σ H Q I q => h.run pins s σ H Q I (i σ H Q q)⟩
theorem fo_none : FO X L W none oNone := poImp po_none fun σ H Q ⟨α, M, s, r, sl, h⟩ => PostR.pure h r rfl
theorem fo_some (h : FE X L W a fa) : FO X L W (some a) (oSome fa) := poImp (po_some h) fun σ H Q ⟨α, M, s, r, sl, h⟩ =>
  ⟨α, M, s, r, sl, (PostR.bind (R := Rep _) h).imp fun x H1 ⟨dx, α1, M1, l1, r1, rx, h1⟩ => by
    cases dx <;> try exact h1.elim
    exact ⟨_, rx.int, PostR.pure h1 r1 rfl⟩⟩
def cutD (xs : List D) (lo hi : Option Int) : List D := (xs.drop (HT.sIx xs.length 0 lo)).take (HT.sIx xs.length xs.length hi - HT.sIx xs.length 0 lo)
theorem cut_rep {K : PySem.W.Frag} {α : List Addr} {H : Hp} {ds : List D} {vs : List V} (r : Reps K α H ds vs) (lo hi : Option Int) : Reps K α H (cutD ds lo hi) (cutV vs lo hi) := by
  unfold cutD cutV
  rw [r.length]
  exact (r.drop _).take _
def gSl (x : D) (lo hi : Option Int) (M : Mem) : Res D := match x with
  | .tup ds => .ok (.tup (cutD ds lo hi)) M
  | .rol ds => .ok (.ref M.length) (M ++ [.lst (cutD ds lo hi)])
  | .ref n => (match listAt M n with
    | some ds => .ok (.ref M.length) (M ++ [.lst (cutD ds lo hi)])
    | none => .bad)
  | .str z => (match decide (z.length ≤ sizeLine) with
    | true => .ok (.str (cutS z lo hi)) M
    | false => .bad)
  | _ => .bad
def dSl (a : EF) (lo hi : OF) : EF := fun s M => (a s M).bind fun x M1 => (lo s M1).bind fun l M2 => (hi s M2).bind fun u M3 => gSl x l u M3
theorem sl_case {r : V → Option Int → Option Int → Hp → VK → Prop} (h : ∀ x lo hi H Q, r x lo hi H Q → ∃ r', SlR X r' ∧ r' x lo hi H Q) : SlR X r := fun pins s σ H x v vl vu lo hi sl Q I rx e pl pu q => by
  obtain ⟨r', h1, h2⟩ := h x lo hi H Q q
  exact h1 pins s σ H x v vl vu lo hi sl Q I rx e pl pu h2
def rFs (K : PySem.W.Frag) (L : Lay) (w : W3) : V → Option Int → Option Int → Hp → VK → Prop := fun x lo hi H Q => ∃ α M dx, Rel K L α M H ∧ Rep K α H dx x ∧ PostR K L (Rep K) (gSl dx lo hi M) α H Q w
theorem s_sl (w : W3) : SlR X (rFs X.K L w) := sl_case fun x lo hi H Q ⟨α, M, dx, r, rx, h⟩ => by
  unfold gSl at h
  split at h
  · rename_i ds
    obtain ⟨t, vs, e, ht, hr⟩ := rx.tup
    refine ⟨_, sl_tupA, t, vs, e, ht.sq, fun z => ?_, fun z p hp => ?_⟩
    · refine PostR.pure h r ?_
      have e1 : cutV vs lo hi = vs := by
        unfold cutV
        rw [z.1, z.2, List.drop_zero, Nat.sub_zero, List.take_length]
      have q := cut_rep hr lo hi
      rw [e1] at q
      unfold Rep
      exact ⟨t, vs, rfl, ht, q⟩
    · exact h α _ _ (Le.tup hp) (r.tup hp) (rep_tup upd_same ((cut_rep hr lo hi).le (Le.tup hp)))
  · obtain ⟨t, vs, e, ht, hr⟩ := rx.rol
    refine ⟨_, sl_list, t, vs, e, ht.sq, fun p hp => ?_⟩
    exact h _ _ _ (Le.new hp) (r.new (o := .lst _) hp ⟨_, upd_same, (cut_rep hr lo hi).le (Le.new hp)⟩) (rep_ref (by rw [← r.len]; simp))
  · split at h
    · rename_i ds e1
      obtain ⟨a, ha, rfl⟩ := rx.ref
      obtain ⟨a', vs, ha', hv, hr⟩ := r.list e1
      rw [ha] at ha'; cases ha'
      refine ⟨_, sl_list, a, vs, rfl, .of hv, fun p hp => ?_⟩
      exact h _ _ _ (Le.new hp) (r.new (o := .lst _) hp ⟨_, upd_same, (cut_rep hr lo hi).le (Le.new hp)⟩) (rep_ref (by rw [← r.len]; simp))
    · exact h.elim
  · split at h
    · rename_i c
      exact ⟨_, sl_str, _, rx.str, dt c, PostR.pure h r rep_str⟩
    · exact h.elim
  · exact h.elim
theorem fe_sl {lo hi : Option Expr} {fl fh : OF} {p2 : Pos} (ha : FE X L W a fa) (hl : FO X L W lo fl) (hh : FO X L W hi fh) : FE X L W (.Subscript a (.Slice lo hi none p2) pos) (dSl fa fl fh) :=
  ⟨fun pins s σ H Q I ⟨α, M, sd, r, sl, h⟩ => (pe_slice (s_sl (L := L) (fun c d H' => W c d σ H')) ha hl hh).run pins s σ H Q I ⟨α, M, sd, r, sl, (PostR.bind (R := Rep _) h).imp fun x H1 ⟨dx, α1, M1, l1, r1, rx, h1⟩ =>
    ⟨α1, M1, sd, r1, sl.le l1, (PostR.bind (R := RO) h1).imp fun l H2 ⟨l', α2, M2, l2, r2, e2, h2⟩ => by
      subst e2
      exact ⟨α2, M2, sd, r2, (sl.le l1).le l2, (PostR.bind (R := RO) h2).imp fun u H3 ⟨u', α3, M3, l3, r3, e3, h3⟩ => by
        subst e3
        exact ⟨α3, M3, dx, r3, (rx.le l2).le l3, h3⟩⟩⟩⟩⟩
end
end Fl
namespace Fl
open PySem PySem.Spec L2
def rFN (K : PySem.W.Frag) (L : Lay) (g : List D → Mem → Res D) (w : W3) : List V → Hp → VK → Prop := fun xs H Q => ∃ α M ds, Rel K L α M H ∧ Reps K α H ds xs ∧ PostR K L (Rep K) (g ds M) α H Q w
def CallF (X : Cx) (L : Lay) (f : Value) (g : List D → Mem → Res D) : Prop := ∀ w, CallR X f (rFN X.K L g w)
section
variable {X : Cx} {L : Lay} {W : WX}
theorem call_case {f : Value} {r : List V → Hp → VK → Prop} (h : ∀ xs H Q, r xs H Q → ∃ r', CallR X f r' ∧ r' xs H Q) : CallR X f r := fun pins s σ H xs us Q I rx q => by
  obtain ⟨r', h1, h2⟩ := h xs H Q q
  exact h1 pins s σ H xs us Q I rx h2
theorem n_go {K : PySem.W.Frag} {g : List D → Mem → Res D} {fa : AF} {σ : L2.St} {H : Hp} {Q : VK} (h : LE K L W (dOpN g fa) σ H Q) : LA K L W fa σ H fun xs H1 => rFN K L g (fun c d H' => W c d σ H') xs H1 Q := by
  obtain ⟨α, M, s, r, sl, h⟩ := h
  exact ⟨α, M, s, r, sl, (PostR.bind (R := Reps K) h).imp fun x H1 ⟨dx, α1, M1, l1, r1, rx, h1⟩ => ⟨α1, M1, dx, r1, rx, h1⟩⟩
theorem fe_cb {x : Str} {p pos : Pos} {e : Expr} {es : List Expr} {id : String} {g : List D → Mem → Res D} {fa : AF} (hc : CallF X L (.builtin id) g) (hg : Gl X x) (hm : X.mg x = none) (hv : bootBuiltins x = some (.builtin id)) (ha : FA X L W (e :: es) fa) (hn : x ≠ "__name__" := by decide) (hdb : (x == ("__debug__" : Str)) = false := by decide)
    (he : starEach (e :: es) X.env = (false, eval e X.env) :: starEach es X.env := by rfl) (hpl : (backTo pos (starEach es X.env)).any (·.1) = false := by rfl) : FE X L W (.Call (.Name x p) (e :: es) [] pos) (dOpN g fa) :=
  ⟨fun pins s σ H Q I h => (pe_callB (hc (fun c d H' => W c d σ H')) hg hm hv ha hn hdb he hpl).run pins s σ H Q I (n_go h)⟩
theorem fe_ct {x : Str} {p pos : Pos} {e : Expr} {es : List Expr} {id : String} {g : List D → Mem → Res D} {fa : AF} (hc : CallF X L (.type id) g) (hg : Gl X x) (hm : X.mg x = none) (hv : bootBuiltins x = some (.type id)) (ha : FA X L W (e :: es) fa) (hn : x ≠ "__name__" := by decide) (hdb : (x == ("__debug__" : Str)) = false := by decide)
    (he : starEach (e :: es) X.env = (false, eval e X.env) :: starEach es X.env := by rfl) (hpl : (backTo pos (starEach es X.env)).any (·.1) = false := by rfl) : FE X L W (.Call (.Name x p) (e :: es) [] pos) (dOpN g fa) :=
  ⟨fun pins s σ H Q I h => (pe_callTy (hc (fun c d H' => W c d σ H')) hg hm hv ha hn hdb he hpl).run pins s σ H Q I (n_go h)⟩
end
section
variable {K : PySem.W.Frag} {α : List Addr} {H : Hp}
theorem Reps.one {d : D} {vs : List V} (h : Reps K α H [d] vs) : ∃ x, vs = [x] ∧ Rep K α H d x := by
  obtain ⟨x, xs, e, h1, h2⟩ := h.cons
  rw [h2.nil] at e
  exact ⟨x, e, h1⟩
theorem Reps.two {d d2 : D} {vs : List V} (h : Reps K α H [d, d2] vs) : ∃ x y, vs = [x, y] ∧ Rep K α H d x ∧ Rep K α H d2 y := by
  obtain ⟨x, xs, e, h1, h2⟩ := h.cons
  obtain ⟨y, e2, h3⟩ := h2.one
  rw [e2] at e
  exact ⟨x, y, e, h1, h3⟩
end
def gLen : List D → Mem → Res D
  | [.str z], M => (match decide (z.length ≤ sizeLine) with
    | true => .ok (.int z.length) M
    | false => .bad)
  | [d], M => (match seqOf M d with
    | some ds => .ok (.int ds.length) M
    | none => .bad)
  | _, _ => .bad
def gList : List D → Mem → Res D
  | [d], M => (match seqOf M d with
    | some ds => .ok (.ref M.length) (M ++ [.lst ds])
    | none => .bad)
  | _, _ => .bad
def gTuple : List D → Mem → Res D
  | [.tup ds], M => .ok (.tup ds) M
  | [.ref n], M => (match listAt M n with
    | some ds => .ok (.tup ds) M
    | none => .bad)
  | _, _ => .bad
def intsOf : List D → Option (List Int) := allSome fun d => match d with
  | .int i => some i
  | _ => none
def blsOf : List D → Option (List Bool) := allSome fun d => match d with
  | .bl i => some i
  | _ => none
theorem intsOf_map : ∀ {ds : List D} {ns : List Int}, intsOf ds = some ns → ds = ns.map .int
  | [], ns, h => by cases h; rfl
  | d :: ds, ns, h => by
    unfold intsOf allSome at h
    split at h
    · rename_i p e1
      split at h
      · rename_i ps e2
        cases h
        rw [intsOf_map (ds := ds) e2]
        cases d <;> first | (cases e1; done) | skip
        cases e1; rfl
      · cases h
    · cases h
theorem blsOf_map : ∀ {ds : List D} {ns : List Bool}, blsOf ds = some ns → ds = ns.map .bl
  | [], ns, h => by cases h; rfl
  | d :: ds, ns, h => by
    unfold blsOf allSome at h
    split at h
    · rename_i p e1
      split at h
      · rename_i ps e2
        cases h
        rw [blsOf_map (ds := ds) e2]
        cases d <;> first | (cases e1; done) | skip
        cases e1; rfl
      · cases h
    · cases h
def gSum : List D → Mem → Res D
  | [.ref n], M => (match listAt M n with
    | some ds => (match intsOf ds with
      | some ns => .ok (.int ns.sum) M
      | none => .bad)
    | none => .bad)
  | _, _ => .bad
def maxI : Int → List Int → Int
  | m, [] => m
  | m, n :: r => match decide (m < n) with
    | true => maxI n r
    | false => maxI m r
def minI : Int → List Int → Int
  | m, [] => m
  | m, n :: r => match decide (n < m) with
    | true => minI n r
    | false => minI m r
theorem maxI_ok : ∀ (m : Int) (r : List Int), maxI m r ∈ m :: r ∧ ∀ y ∈ m :: r, y ≤ maxI m r
  | m, [] => ⟨by simp [maxI], fun y hy => by simp [maxI] at hy ⊢; omega⟩
  | m, n :: r => by
    unfold maxI
    by_cases h : m < n
    · rw [decide_eq_true h]
      obtain ⟨a, b⟩ := maxI_ok n r
      refine ⟨List.mem_cons_of_mem _ a, fun y hy => ?_⟩
      rcases List.mem_cons.mp hy with e | e
      · have := b n List.mem_cons_self
        show y ≤ maxI n r
        omega
      · exact b y e
    · rw [decide_eq_false h]
      obtain ⟨a, b⟩ := maxI_ok m r
      refine ⟨?_, fun y hy => ?_⟩
      · rcases List.mem_cons.mp a with e | e
        · exact List.mem_cons.mpr (.inl e)
        · exact List.mem_cons_of_mem _ (List.mem_cons_of_mem _ e)
      · have hm := b m List.mem_cons_self
        rcases List.mem_cons.mp hy with e | e
        · show y ≤ maxI m r
          omega
        · rcases List.mem_cons.mp e with e | e
          · show y ≤ maxI m r
            omega
          · exact b y (List.mem_cons_of_mem _ e)
theorem minI_ok : ∀ (m : Int) (r : List Int), minI m r ∈ m :: r ∧ ∀ y ∈ m :: r, minI m r ≤ y
  | m, [] => ⟨by simp [minI], fun y hy => by simp [minI] at hy ⊢; omega⟩
  | m, n :: r => by
    unfold minI
    by_cases h : n < m
    · rw [decide_eq_true h]
      obtain ⟨a, b⟩ := minI_ok n r
      refine ⟨List.mem_cons_of_mem _ a, fun y hy => ?_⟩
      rcases List.mem_cons.mp hy with e | e
      · have := b n List.mem_cons_self
        show minI n r ≤ y
        omega
      · exact b y e
    · rw [decide_eq_false h]
      obtain ⟨a, b⟩ := minI_ok m r
      refine ⟨?_, fun y hy => ?_⟩
      · rcases List.mem_cons.mp a with e | e
        · exact List.mem_cons.mpr (.inl e)
        · exact List.mem_cons_of_mem _ (List.mem_cons_of_mem _ e)
      · have hm := b m List.mem_cons_self
        rcases List.mem_cons.mp hy with e | e
        · show minI m r ≤ y
          omega
        · rcases List.mem_cons.mp e with e | e
          · show minI m r ≤ y
            omega
          · exact b y (List.mem_cons_of_mem _ e)
def gMax : List D → Mem → Res D
  | [.ref n], M => (match listAt M n with
    | some ds => (match intsOf ds with
      | some (m :: ns) => .ok (.int (maxI m ns)) M
      | _ => .bad)
    | none => .bad)
  | [.int i, .int j], M => .ok (.int (if j > i then j else i)) M
  | _, _ => .bad
def gMin : List D → Mem → Res D
  | [.ref n], M => (match listAt M n with
    | some ds => (match intsOf ds with
      | some (m :: ns) => .ok (.int (minI m ns)) M
      | _ => .bad)
    | none => .bad)
  | [.int i, .int j], M => .ok (.int (if j < i then j else i)) M
  | _, _ => .bad
def gAll : List D → Mem → Res D
  | [.ref n], M => (match listAt M n with
    | some ds => (match blsOf ds with
      | some ns => .ok (.bl (ns.all id)) M
      | _ => .bad)
    | none => .bad)
  | _, _ => .bad
def gAny : List D → Mem → Res D
  | [.ref n], M => (match listAt M n with
    | some ds => (match blsOf ds with
      | some ns => .ok (.bl (ns.any id)) M
      | _ => .bad)
    | none => .bad)
  | _, _ => .bad
section
variable {X : Cx} {L : Lay}
theorem c_len : CallF X L (.builtin "len") gLen := fun w => call_case fun xs H Q ⟨α, M, ds, r, rx, h⟩ => by
  unfold gLen at h
  split at h
  · split at h
    · rename_i c
      obtain ⟨x, rfl, r1⟩ := rx.one
      exact ⟨_, call_len_str, _, congrArg (fun z => [z]) r1.str, dt c, PostR.pure h r rep_int⟩
    · exact h.elim
  · split at h
    · rename_i ds e
      obtain ⟨x, rfl, r1⟩ := rx.one
      obtain ⟨a, vs, rfl, hs, hr⟩ := r1.seq r e
      refine ⟨_, call_len_seq, a, vs, rfl, hs, ?_⟩
      rw [← hr.length]
      exact PostR.pure h r rep_int
    · exact h.elim
  · exact h.elim
theorem c_list : CallF X L (.type "list") gList := fun w => call_case fun xs H Q ⟨α, M, ds, r, rx, h⟩ => by
  unfold gList at h
  split at h
  · split at h
    · rename_i ds e
      obtain ⟨x, rfl, r1⟩ := rx.one
      obtain ⟨a, vs, rfl, hs, hr⟩ := r1.seq r e
      refine ⟨_, call_list_of, a, vs, rfl, hs, fun l hl => ?_⟩
      exact h _ _ _ (Le.new hl) (r.new (o := .lst _) hl ⟨_, upd_same, hr.le (Le.new hl)⟩) (rep_ref (by rw [← r.len]; simp))
    · exact h.elim
  · exact h.elim
theorem c_tuple : CallF X L (.type "tuple") gTuple := fun w => call_case fun xs H Q ⟨α, M, ds, r, rx, h⟩ => by
  unfold gTuple at h
  split at h
  · obtain ⟨x, rfl, r1⟩ := rx.one
    obtain ⟨t, vs, rfl, ht, hr⟩ := r1.tup
    exact ⟨_, call_tupleT, t, vs, rfl, ht.sq, PostR.pure h r r1⟩
  · split at h
    · rename_i ds e
      obtain ⟨x, rfl, r1⟩ := rx.one
      obtain ⟨a, ha, rfl⟩ := r1.ref
      obtain ⟨a', vs, ha', hv, hr⟩ := r.list e
      rw [ha] at ha'; cases ha'
      refine ⟨_, call_tuple_of, a, vs, rfl, .inl ⟨.of hv, fun l hl => ?_⟩⟩
      exact h α _ _ (Le.tup hl) (r.tup hl) (rep_tup upd_same (hr.le (Le.tup hl)))
    · exact h.elim
  · exact h.elim
theorem ints_at {K : PySem.W.Frag} {α : List Addr} {M : Mem} {H : Hp} (r : Rel K L α M H) {n : Nat} {ds : List D} {ns : List Int} {x : V} (e : listAt M n = some ds) (e2 : intsOf ds = some ns) (r1 : Rep K α H (.ref n) x) : ∃ a, x = .ref a ∧ SqL K H a (ns.map V.int) := by
  obtain ⟨a, ha, rfl⟩ := r1.ref
  obtain ⟨a', vs, ha', hv, hr⟩ := r.list e
  rw [ha] at ha'; cases ha'
  rw [intsOf_map e2] at hr
  exact ⟨a, rfl, by rw [← hr.ints]; exact .of hv⟩
theorem bls_at {K : PySem.W.Frag} {α : List Addr} {M : Mem} {H : Hp} (r : Rel K L α M H) {n : Nat} {ds : List D} {ns : List Bool} {x : V} (e : listAt M n = some ds) (e2 : blsOf ds = some ns) (r1 : Rep K α H (.ref n) x) : ∃ a, x = .ref a ∧ SqL K H a (ns.map V.bl) := by
  obtain ⟨a, ha, rfl⟩ := r1.ref
  obtain ⟨a', vs, ha', hv, hr⟩ := r.list e
  rw [ha] at ha'; cases ha'
  rw [blsOf_map e2] at hr
  exact ⟨a, rfl, by rw [← hr.bls]; exact .of hv⟩
theorem c_sum (hc : X.calm = true) : CallF X L (.builtin "sum") gSum := fun w => call_case fun xs H Q ⟨α, M, ds, r, rx, h⟩ => by
  unfold gSum at h
  split at h
  · split at h
    · rename_i ds e
      split at h
      · rename_i ns e2
        obtain ⟨x, rfl, r1⟩ := rx.one
        obtain ⟨a, rfl, hs⟩ := ints_at r e e2 r1
        exact ⟨_, cr_sum hc, a, ns, rfl, hs, PostR.pure h r rep_int⟩
      · exact h.elim
    · exact h.elim
  · exact h.elim
theorem c_max (hc : X.calm = true) : CallF X L (.builtin "max") gMax := fun w => call_case fun xs H Q ⟨α, M, ds, r, rx, h⟩ => by
  unfold gMax at h
  split at h
  · split at h
    · rename_i ds e
      split at h
      · rename_i m ns e2
        obtain ⟨x, rfl, r1⟩ := rx.one
        obtain ⟨a, rfl, hs⟩ := ints_at r e e2 r1
        refine ⟨_, cr_max hc, a, _, rfl, hs, by simp, fun z hz hle => ?_⟩
        obtain ⟨q1, q2⟩ := maxI_ok m ns
        have ez : z = maxI m ns := Int.le_antisymm (q2 z hz) (hle _ q1)
        rw [ez]
        exact PostR.pure h r rep_int
      · exact h.elim
    · exact h.elim
  · obtain ⟨x, y, rfl, r1, r2⟩ := rx.two
    have e1 := r1.int
    have e2 := r2.int
    subst e1 e2
    exact ⟨_, call_max2 hc, _, _, rfl, PostR.pure h r rep_int⟩
  · exact h.elim
theorem c_min (hc : X.calm = true) : CallF X L (.builtin "min") gMin := fun w => call_case fun xs H Q ⟨α, M, ds, r, rx, h⟩ => by
  unfold gMin at h
  split at h
  · split at h
    · rename_i ds e
      split at h
      · rename_i m ns e2
        obtain ⟨x, rfl, r1⟩ := rx.one
        obtain ⟨a, rfl, hs⟩ := ints_at r e e2 r1
        refine ⟨_, cr_min hc, a, _, rfl, hs, by simp, fun z hz hle => ?_⟩
        obtain ⟨q1, q2⟩ := minI_ok m ns
        have ez : z = minI m ns := Int.le_antisymm (hle _ q1) (q2 z hz)
        rw [ez]
        exact PostR.pure h r rep_int
      · exact h.elim
    · exact h.elim
  · obtain ⟨x, y, rfl, r1, r2⟩ := rx.two
    have e1 := r1.int
    have e2 := r2.int
    subst e1 e2
    exact ⟨_, call_min2 hc, _, _, rfl, PostR.pure h r rep_int⟩
  · exact h.elim
theorem c_all (hc : X.calm = true) : CallF X L (.builtin "all") gAll := fun w => call_case fun xs H Q ⟨α, M, ds, r, rx, h⟩ => by
  unfold gAll at h
  split at h
  · split at h
    · rename_i ds e
      split at h
      · rename_i ns e2
        obtain ⟨x, rfl, r1⟩ := rx.one
        obtain ⟨a, rfl, hs⟩ := bls_at r e e2 r1
        exact ⟨_, cr_all hc, a, ns, rfl, hs, PostR.pure h r rep_bl⟩
      · exact h.elim
    · exact h.elim
  · exact h.elim
theorem c_any (hc : X.calm = true) : CallF X L (.builtin "any") gAny := fun w => call_case fun xs H Q ⟨α, M, ds, r, rx, h⟩ => by
  unfold gAny at h
  split at h
  · split at h
    · rename_i ds e
      split at h
      · rename_i ns e2
        obtain ⟨x, rfl, r1⟩ := rx.one
        obtain ⟨a, rfl, hs⟩ := bls_at r e e2 r1
        exact ⟨_, cr_any hc, a, ns, rfl, hs, PostR.pure h r rep_bl⟩
      · exact h.elim
    · exact h.elim
  · exact h.elim
end
def dTup (a : AF) : EF := fun s M => (a s M).bind fun ds M1 => match decide (ds.length ≤ sizeLine) with
  | true => .ok (.tup ds) M1
  | false => .bad
def dLst (a : AF) : EF := fun s M => (a s M).bind fun ds M1 => match decide (ds.length ≤ sizeLine) with
  | true => .ok (.ref M1.length) (M1 ++ [.lst ds])
  | false => .bad
section
variable {X : Cx} {L : Lay} {W : WX} {es : List Expr} {fa : AF} {pos : Pos}
theorem fe_tup {x1} (h : FA X L W es fa) : FE X L W (.Tuple es x1 pos) (dTup fa) := peImp (pe_tup h) fun σ H Q ⟨α, M, s, r, sl, q⟩ =>
  ⟨α, M, s, r, sl, (PostR.bind (R := Reps _) q).imp fun xs H1 ⟨ds, α1, M1, l1, r1, rx, h1⟩ => by
    dsimp only at h1
    split at h1
    · rename_i c
      refine ⟨by rw [← rx.length]; exact dt c, fun p hp => ?_⟩
      exact h1 α1 _ _ (Le.tup hp) (r1.tup hp) (rep_tup upd_same (rx.le (Le.tup hp)))
    · exact h1.elim⟩
theorem fe_lst (h : FA X L W es fa) : FE X L W (.List es pos) (dLst fa) := peImp (pe_lst h) fun σ H Q ⟨α, M, s, r, sl, q⟩ =>
  ⟨α, M, s, r, sl, (PostR.bind (R := Reps _) q).imp fun xs H1 ⟨ds, α1, M1, l1, r1, rx, h1⟩ => by
    dsimp only at h1
    split at h1
    · rename_i c
      refine ⟨by rw [← rx.length]; exact dt c, fun p hp => ?_⟩
      exact h1 _ _ _ (Le.new hp) (r1.new (o := .lst _) hp ⟨_, upd_same, rx.le (Le.new hp)⟩) (rep_ref (by rw [← r1.len]; simp))
    · exact h1.elim⟩
end
end Fl
namespace Fl
open PySem PySem.Spec L2
def spF (K : PySem.W.Frag) (L : Lay) (S : List D → Mem → Res D) : Sp := fun vs H Q E => ∃ α M ds, Rel K L α M H ∧ Reps K α H ds vs ∧ PostR K L (Rep K) (S ds M) α H Q E
def Arity (n : Nat) (S : List D → Mem → Res D) : Prop := ∀ ds M, ds.length ≠ n → S ds M = .bad
theorem spF_len {K : PySem.W.Frag} {L : Lay} {n : Nat} {S : List D → Mem → Res D} (h : Arity n S) : ∀ vs H Q E, spF K L S vs H Q E → vs.length = n := fun vs H Q E ⟨α, M, ds, r, rs, p⟩ => by
  by_cases e : ds.length = n
  · rw [← rs.length]; exact e
  · rw [h ds M e] at p; exact p.elim
section
variable {X : Cx} {L : Lay} {W : WX} {k n : Nat} {f C : Addr} {fd : FuncData} {ps ks : List Str} {S : List D → Mem → Res D} {g : List Value → List Value → List Value} {gV : List V → List V → List V}
theorem run_g {sp : Sp} {pins : List (Addr × Obj)} {σ : L2.St} {H : Hp} {s : Shared} {Q : VK} {us ws : List Value} {vs zs : List V} (F : FnOk X.prog X.w X.K X.mg X.base (L2.CX X.prog X.w) k f fd ps sp) (hr : Room k X.A) (hb : KBn X.K fd ps n ks g gV) (tk : Takes X W)
    (I : Inv X pins σ H s) (r : Vals vs us) (rz : Vals zs ws) (l1 : vs.length = n) (l2 : zs.length = ks.length) (h : sp (gV vs zs) H Q (WE W σ)) : wpAny (model X.prog X.w) X.A (call (.ref f) us (ks.zip ws)) (EP X pins σ Q) X.xe s := by
  refine wpAny_call (codeAny_mono (F.run X.A X.stack s H ⟨us, ks.zip ws⟩ (g us ws) (gV vs zs) Q (WE W σ) hr I.env0 (hb.to s us ws I.kIn (r.length.symm.trans l1) (rz.length.symm.trans l2)) (hb.rel r rz) h) fun r s' hq => ?_)
  cases r with
  | error e => exact passAt tk σ pins H s e s' I hq
  | ok fl => cases fl <;> first | exact I.after hq | exact False.elim hq
structure GRel (K : PySem.W.Frag) (gD : List D → List D → List D) (gV : List V → List V → List V) : Prop where
  to : ∀ {α : List Addr} {H : Hp} {ds es : List D} {vs zs : List V}, Reps K α H ds vs → Reps K α H es zs → Reps K α H (gD ds es) (gV vs zs)
def lenIs (n : Nat) (l : List D) (r : Res D) : Res D := match decide (l.length = n) with
  | true => r
  | false => .bad
def dCall (n m : Nat) (S : List D → Mem → Res D) (gD : List D → List D → List D) (fa fk : AF) : EF := fun s M => (fa s M).bind fun xs M1 => (fk s M1).bind fun zs M2 => lenIs n xs (lenIs m zs (S (gD xs zs) M2))
theorem lenIs_post {K : PySem.W.Frag} {α : List Addr} {H : Hp} {R : List Addr → Hp → D → V → Prop} {r : Res D} {Q : VK} {w : W3} {l : List D} (h : PostR K L R (lenIs n l r) α H Q w) : l.length = n ∧ PostR K L R r α H Q w := by
  unfold lenIs at h
  split at h
  · rename_i c
    exact ⟨dt c, h⟩
  · exact h.elim
abbrev FK (X : Cx) (L : Lay) (W : WX) (kws : List Keyword) (f : AF) : Prop := PK X kws (LA X.K L W f)
theorem pkImp {e : List Keyword} {t t' : TA} (h : PK X e t) (i : ∀ σ H Q, t' σ H Q → t σ H Q) : PK X e t' := ⟨fun pos pins s σ H Q I q => h.run pos pins s σ H Q I (i σ H Q q)⟩
theorem fk_nil : FK X L W [] dNil := pkImp pk_nil fun σ H Q ⟨α, M, s, r, sl, q⟩ => PostR.pure q r reps_nil
theorem fk_cons {nm : Option Str} {e : Expr} {kpos : Pos} {kws : List Keyword} {fe : EF} {t : AF} (ha : FE X L W e fe) (hr : FK X L W kws t) : FK X L W (⟨nm, e, kpos⟩ :: kws) (dCons fe t) := pkImp (pk_cons ha hr) fun σ H Q ⟨α, M, s, r, sl, q⟩ =>
  ⟨α, M, s, r, sl, (PostR.bind (R := Rep _) q).imp fun x H1 ⟨dx, α1, M1, l1, r1, rx, h1⟩ =>
    ⟨α1, M1, s, r1, sl.le l1, (PostR.bind (R := Reps _) h1).imp fun y H2 ⟨dy, α2, M2, l2, r2, ry, h2⟩ => PostR.pure h2 r2 (reps_cons (rx.le l2) ry)⟩⟩
variable {x m : Str} {p pos apos : Pos} {e o : Expr} {es : List Expr} {kws : List Keyword} {fa fk : AF} {fo : EF} {gD : List D → List D → List D}
theorem fe_call (F : FnOk X.prog X.w X.K X.mg X.base (L2.CX X.prog X.w) k f fd ps (spF X.K L S)) (hr : Room k X.A) (tk : Takes X W) (hg : Gl X x) (hm : X.mg x = some (.ref f)) (hk : PySem.W.keepIn X.K (.ref f) = true) (hb : KBn X.K fd ps n [] g gV) (hG : GRel X.K gD gV)
    (ha : FA X L W (e :: es) fa) (hdb : (x == ("__debug__" : Str)) = false := by decide) (he : starEach (e :: es) X.env = (false, eval e X.env) :: starEach es X.env := by rfl) (hpl : (backTo pos (starEach es X.env)).any (·.1) = false := by rfl) :
    FE X L W (.Call (.Name x p) (e :: es) [] pos) (dCall n 0 S gD fa dNil) := by
  refine ⟨fun pins s σ H Q I ⟨α, M, sd, r, sl, h⟩ => ?_⟩
  refine wpAny_Call_Name_kw (ld_glob I hg hm ?_ hdb)
  refine PySem.W.callWith_K (h₀ := X.base) I.ok.mod.kin hk (thn (ha.run pos pins s σ H _ I ⟨α, M, sd, r, sl, (PostR.bind (R := Reps _) h).imp fun xs H1 q => q⟩) fun us s1 ⟨vs, H1, I1, rv, q⟩ => ⟨I1.kIn, ?_⟩) he hpl
  obtain ⟨ds, α1, M1, l1, r1, rs, h1⟩ := q
  obtain ⟨n1, h1⟩ := lenIs_post h1
  obtain ⟨_, h1⟩ := lenIs_post h1
  exact run_g (us := us) (ws := []) (vs := vs) (zs := []) F hr hb tk I1 rv .nil (rs.length.symm.trans n1) rfl ⟨α1, M1, _, r1, hG.to rs reps_nil, h1⟩
theorem fe_callK (F : FnOk X.prog X.w X.K X.mg X.base (L2.CX X.prog X.w) k f fd ps (spF X.K L S)) (hr : Room k X.A) (tk : Takes X W) (hg : Gl X x) (hm : X.mg x = some (.ref f)) (hk : PySem.W.keepIn X.K (.ref f) = true) (hb : KBn X.K fd ps n ks g gV) (hG : GRel X.K gD gV)
    (ha : FA X L W (e :: es) fa) (hkw : FK X L W kws fk) (hall : (backToKw pos (keywordEach kws X.env)).all (·.1.isSome) = true := by rfl) (hks : (backToKw pos (keywordEach kws X.env)).filterMap (·.1) = ks := by rfl)
    (hdb : (x == ("__debug__" : Str)) = false := by decide) (he : starEach (e :: es) X.env = (false, eval e X.env) :: starEach es X.env := by rfl)
    (hpl : ((backTo pos (starEach (e :: es) X.env)).any (·.1) || (backToKw pos (keywordEach kws X.env)).any (·.1.isNone)) = false := by rfl) :
    FE X L W (.Call (.Name x p) (e :: es) kws pos) (dCall n ks.length S gD fa fk) := by
  refine ⟨fun pins s σ H Q I ⟨α, M, sd, r, sl, h⟩ => ?_⟩
  refine wpAny_Call_Name_kw (ld_glob I hg hm ?_ hdb)
  refine PySem.W.callWith_KW (h₀ := X.base) I.ok.mod.kin hk hall (thn (ha.run pos pins s σ H _ I ⟨α, M, sd, r, sl, (PostR.bind (R := Reps _) h).imp fun xs H1 q => q⟩) fun us s1 ⟨vs, H1, I1, rv, q⟩ => ?_) hpl he
  obtain ⟨ds, α1, M1, l1, r1, rs, h1⟩ := q
  refine thn (hkw.run pos pins s1 σ H1 _ I1 ⟨α1, M1, sd, r1, sl.le l1, (PostR.bind (R := Reps _) h1).imp fun xs H1 q => q⟩) fun ws s2 ⟨zs, H2, I2, rz, q⟩ => ⟨I2.kIn, ?_⟩
  obtain ⟨es', α2, M2, l2, r2, re, h2⟩ := q
  obtain ⟨n1, h2⟩ := lenIs_post h2
  obtain ⟨n2, h2⟩ := lenIs_post h2
  rw [hks]
  exact run_g (us := us) (ws := ws) (vs := vs) (zs := zs) F hr hb tk I2 rv rz (rs.length.symm.trans n1) (re.length.symm.trans n2) ⟨α2, M2, _, r2, hG.to (rs.le l2) re, h2⟩
def insAt (M : Mem) (d : D) : Option (Nat × Nat × List (Nat × D)) := match d with
  | .ref n => (match M[n]? with
    | some (.ins c fs) => some (n, c, fs)
    | _ => none)
  | _ => none
theorem insAt_rep {K : PySem.W.Frag} {α : List Addr} {M : Mem} {H : Hp} {d : D} {v : V} {n c : Nat} {fs : List (Nat × D)} (r : Rel K L α M H) (e : insAt M d = some (n, c, fs)) (rd : Rep K α H d v) :
    d = .ref n ∧ M[n]? = some (.ins c fs) ∧ ∃ a dx vs, α[n]? = some a ∧ v = .ref a ∧ H a = some (.ins (L.cls c) dx vs) ∧ FsR K L α H fs vs ∧ c < L.nc := by
  unfold insAt at e
  split at e
  · split at e
    · rename_i n' c' fs' eo
      cases e
      obtain ⟨a, ha, rfl⟩ := rd.ref
      obtain ⟨a', ha', dx, vs, hv, q, z⟩ := r.at eo
      rw [ha] at ha'; cases ha'
      exact ⟨rfl, eo, a, dx, vs, ha, rfl, hv, q, z⟩
    · cases e
  · cases e
theorem fs_look {K : PySem.W.Frag} {α : List Addr} {H : Hp} {fs : List (Nat × D)} {vs : List (Str × V)} (h : FsR K L α H fs vs) (i : Nat) : OptR K α H (look fs i) (vs.lookup (L.nm i)) := by
  induction h with
  | nil => rfl
  | @cons p q ps qs hp _ ih =>
    obtain ⟨a, b⟩ := q
    have e1 : a = L.nm p.1 := hp.1
    subst e1
    unfold look
    by_cases e : p.1 = i
    · rw [decide_eq_true e]
      have eb : (L.nm i == L.nm p.1) = true := beq_iff_eq.mpr (by rw [e])
      simp only [List.lookup, eb]
      exact ⟨b, rfl, hp.2⟩
    · rw [decide_eq_false e]
      have eb : (L.nm i == L.nm p.1) = false := beq_eq_false_iff_ne.mpr fun z => e (L.inj _ _ z.symm)
      simp only [List.lookup, eb]
      exact ih
theorem fs_put {K : PySem.W.Frag} {α : List Addr} {H : Hp} {fs : List (Nat × D)} {vs : List (Str × V)} (h : FsR K L α H fs vs) (i : Nat) {d : D} {v : V} (r : Rep K α H d v) : FsR K L α H (put fs i d) (putF (L.nm i) v vs) := by
  induction h with
  | nil => exact .cons ⟨rfl, r⟩ .nil
  | @cons p q ps qs hp t ih =>
    obtain ⟨a, b⟩ := q
    have e1 : a = L.nm p.1 := hp.1
    subst e1
    rw [put_cons]
    show FsR K L α H _ (if L.nm p.1 = L.nm i then (L.nm p.1, v) :: qs else (L.nm p.1, b) :: putF (L.nm i) v qs)
    by_cases e : p.1 = i
    · rw [if_pos e, if_pos (by rw [e])]
      exact .cons ⟨rfl, r⟩ t
    · rw [if_neg e, if_neg fun z => e (L.inj _ _ z)]
      exact .cons ⟨rfl, hp.2⟩ ih
def gFld (i : Nat) : D → Mem → Res D := fun d M => match insAt M d with
  | some (_, _, fs) => okD M (look fs i)
  | none => .bad
structure FldOk (K : PySem.W.Frag) (L : Lay) (i : Nat) : Prop where
  cl : ∀ c, c < L.nc → Cls K (L.cls c)
  na : ∀ c, c < L.nc → NoAttr K (L.cls c) (L.nm i)
theorem fe_fld {i : Nat} {nm : Str} (T : FldOk X.K L i) (hn : L.nm i = nm) (he : FE X L W o fo) (hb : attributeBase o nm X.env (eval o X.env) = eval o X.env := by rfl) : FE X L W (.Attribute o nm pos) (dOp1 (gFld i) fo) := peImp (pe_fld he hb) fun σ H Q ⟨α, M, s, r, sl, h⟩ =>
  ⟨α, M, s, r, sl, (PostR.bind (R := Rep _) h).imp fun x H1 ⟨dx, α1, M1, l1, r1, rx, h1⟩ => by
    dsimp only at h1
    unfold gFld at h1
    cases e : insAt M1 dx with
    | none => rw [e] at h1; exact h1.elim
    | some q =>
      obtain ⟨n, c, fs⟩ := q
      rw [e] at h1
      obtain ⟨_, _, a, ddx, vs, ha, rfl, hv, hf, hc⟩ := insAt_rep r1 e rx
      have z := fs_look hf i
      cases el : look fs i with
      | none => simp only [el] at h1; exact h1.elim
      | some d =>
        simp only [el] at h1
        rw [el] at z
        obtain ⟨u, e1, ru⟩ := z
        subst hn
        exact ⟨a, _, ddx, vs, u, rfl, hv, T.cl c hc, T.na c hc, e1, PostR.pure h1 r1 ru⟩⟩
def setFld (M : Mem) (d : D) (i : Nat) (v : D) : Option Mem := match insAt M d with
  | some (n, c, fs) => (match decide (fs.length < 1000) with
    | true => some (M.set n (.ins c (put fs i v)))
    | false => none)
  | none => none
def sFldF (i : Nat) (fo fv : EF) : SF := fun s M => (fv s M).toS s fun v M1 => (fo s M1).toS s fun o M2 => match setFld M2 o i v with
  | some M3 => .nx s M3
  | none => .bad
theorem fs_fld {i : Nat} {nm : Str} {pos' : Pos} {v : Expr} {fv : EF} (T : FldOk X.K L i) (hn : L.nm i = nm) (ho : FE X L W o fo) (hv : FE X L W v fv) (hs : swapsWith v (some (.Attribute o nm pos')) pos.line X.env = pure false := by rfl) : FS X L W (.Assign [.Attribute o nm pos'] v pos) (sFldF i fo fv) :=
  psImp (ps_fld ho hv hs) fun D σ H ⟨α, M, s, r, sl, h⟩ => ⟨α, M, s, r, sl, (PostR.toS (R := Rep _) sl h).imp fun y H1 ⟨dy, α1, M1, l1, r1, ry, h1⟩ =>
    ⟨α1, M1, s, r1, sl.le l1, (PostR.toS (R := Rep _) (sl.le l1) h1).imp fun x H2 ⟨dx, α2, M2, l2, r2, rx, h2⟩ => by
      dsimp only at h2
      unfold setFld at h2
      cases e : insAt M2 dx with
      | none => simp only [e] at h2; exact h2.elim
      | some q =>
        obtain ⟨n, c, fs⟩ := q
        simp only [e] at h2
        obtain ⟨_, eo, a, ddx, vs, ha, rfl, hvs, hf, hc⟩ := insAt_rep r2 e rx
        cases el : decide (fs.length < 1000) with
        | false => rw [el] at h2; exact h2.elim
        | true =>
          rw [el] at h2
          subst hn
          have hm : a ∈ α2 := List.mem_of_getElem? ha
          have le : Le α2 H2 α2 (upd H2 a (.ins (L.cls c) ddx (putF (L.nm i) y vs))) := Le.write hm hvs trivial
          refine ⟨a, _, ddx, vs, rfl, hvs, T.cl c hc, T.na c hc, by rw [← hf.length]; exact dt el, ?_⟩
          exact h2 α2 _ σ le (r2.write (o := .ins c (put fs i dy)) ha ⟨ddx, _, upd_same, fs_put (hf.le le) i ((ry.le l2).le le), hc⟩) (((sl.le l1).le l2).le le)⟩⟩
def gMeth (c j n : Nat) (S : List D → Mem → Res D) (gD : List D → List D → List D) (o : D) (fa : AF) : EF := fun s M => match insAt M o with
  | some (_, c', fs) => (match decide (c' = c), look fs j with
    | true, none => (fa s M).bind fun xs M1 => lenIs n xs (S (gD (o :: xs) []) M1)
    | _, _ => .bad)
  | none => .bad
def dMeth (c j n : Nat) (S : List D → Mem → Res D) (gD : List D → List D → List D) (fo : EF) (fa : AF) : EF := fun s M => (fo s M).bind fun o M1 => gMeth c j n S gD o fa s M1
theorem meth_go {c j : Nat} {fa : AF} {σ : L2.St} {H : Hp} {Q : VK} (hc : c < L.nc → Cls X.K (L.cls c)) (hj : L.nm j = m) (h : LE X.K L W (dMeth c j n S gD fo fa) σ H Q) :
    LE X.K L W fo σ H fun x H1 => ∃ a dx fs, x = .ref a ∧ H1 a = some (.ins (L.cls c) dx fs) ∧ Cls X.K (L.cls c) ∧ fs.lookup m = none ∧ LA X.K L W fa σ H1 fun vs H2 => vs.length = n ∧ ∃ α M ds o, Rel X.K L α M H2 ∧ Rep X.K α H2 o (.ref a) ∧ Reps X.K α H2 ds vs ∧ PostR X.K L (Rep X.K) (S (gD (o :: ds) []) M) α H2 Q (fun c d H' => W c d σ H') := by
  obtain ⟨α, M, s, r, sl, h⟩ := h
  refine ⟨α, M, s, r, sl, (PostR.bind (R := Rep _) h).imp fun x H1 ⟨dx, α1, M1, l1, r1, rx, h1⟩ => ?_⟩
  dsimp only at h1
  unfold gMeth at h1
  cases e : insAt M1 dx with
  | none => simp only [e] at h1; exact h1.elim
  | some q =>
    obtain ⟨n', c', fs⟩ := q
    simp only [e] at h1
    split at h1
    · rename_i e1 e2
      have ec : c' = c := dt e1
      subst ec
      obtain ⟨_, eo, a, ddx, vs, ha, rfl, hvs, hf, hcn⟩ := insAt_rep r1 e rx
      have z := fs_look hf j
      rw [e2] at z
      subst hj
      refine ⟨a, ddx, vs, rfl, hvs, hc hcn, z, α1, M1, s, r1, sl.le l1, (PostR.bind (R := Reps _) h1).imp fun xs H2 ⟨ds, α2, M2, l2, r2, rs, h2⟩ => ?_⟩
      obtain ⟨n1, h2⟩ := lenIs_post h2
      exact ⟨rs.length.symm.trans n1, α2, M2, ds, dx, r2, rx.le l2, rs, h2⟩
    · exact h1.elim
theorem fe_meth {c j : Nat} {pl : Sem Bool} (hc : c < L.nc → Cls X.K (L.cls c)) (hj : L.nm j = m) (hm : Meth X.K (L.cls c) m f) (F : FnOk X.prog X.w X.K X.mg X.base (L2.CX X.prog X.w) k f fd ps (spF X.K L S)) (hr : Room k X.A) (tk : Takes X W) (hb : KBn X.K fd ps (n + 1) [] g gV) (hG : GRel X.K gD gV)
    (he : FE X L W o fo) (ha : FA X L W (e :: es) fa)
    (hst : starEach (e :: es) X.env = (false, eval e X.env) :: starEach es X.env := by rfl) (hpl : (backTo pos (starEach es X.env)).any (·.1) = false := by rfl)
    (ht : eval (.Call (.Attribute o m apos) (e :: es) [] pos) X.env = (do
      let ov ← eval o X.env
      standAt apos.atName
      let (f, first) ← holding [ov] (getMethod ov m pl)
      callWith pos f first (backTo pos (starEach (e :: es) X.env)) (backToKw pos (keywordEach [] X.env))) := by rfl) : FE X L W (.Call (.Attribute o m apos) (e :: es) [] pos) (dMeth c j n S gD fo fa) := by
  refine ⟨fun pins s σ H Q I h => ?_⟩
  refine PySem.W.methodCall_KW (pl := pl) (thn (he.run pins s σ H _ I (meth_go hc hj h)) fun u s1 ⟨x, H1, I1, rx, a, dx, fs, ex, ea, cl, l, q⟩ => ?_) ht
  subst ex
  obtain rfl : u = Value.ref a := rx
  refine getmeth_ok I1 ea cl hm l ?_
  refine PySem.W.callWith_K (first := [.ref a]) (h₀ := X.base) I.ok.mod.kin hm.kp (thn (ha.run pos pins s1 σ H1 _ I1 q) fun us s2 ⟨vs, H2, I2, rv, n1, α, M, ds, od, r2, ro, rs, h2⟩ => ⟨I2.kIn, ?_⟩) hst hpl
  exact run_g (us := .ref a :: us) (ws := []) (vs := .ref a :: vs) (zs := []) F hr hb tk I2 (.cons rfl rv) .nil (by rw [List.length_cons, n1]) rfl ⟨α, M, _, r2, hG.to (reps_cons ro rs) reps_nil, h2⟩
theorem fe_meth0 {c j : Nat} {pl : Sem Bool} (hc : c < L.nc → Cls X.K (L.cls c)) (hj : L.nm j = m) (hm : Meth X.K (L.cls c) m f) (F : FnOk X.prog X.w X.K X.mg X.base (L2.CX X.prog X.w) k f fd ps (spF X.K L S)) (hr : Room k X.A) (tk : Takes X W) (hb : KBn X.K fd ps 1 [] g gV) (hG : GRel X.K gD gV)
    (he : FE X L W o fo)
    (ht : eval (.Call (.Attribute o m apos) [] [] pos) X.env = (do
      let ov ← eval o X.env
      standAt apos.atName
      let (f, first) ← holding [ov] (getMethod ov m pl)
      callWith pos f first (backTo pos (starEach [] X.env)) (backToKw pos (keywordEach [] X.env))) := by rfl) : FE X L W (.Call (.Attribute o m apos) [] [] pos) (dMeth c j 0 S gD fo dNil) := by
  refine ⟨fun pins s σ H Q I h => ?_⟩
  refine PySem.W.methodCall_KW (pl := pl) (thn (he.run pins s σ H _ I (meth_go hc hj h)) fun u s1 ⟨x, H1, I1, rx, a, dx, fs, ex, ea, cl, l, q⟩ => ?_) ht
  subst ex
  obtain rfl : u = Value.ref a := rx
  refine getmeth_ok I1 ea cl hm l ?_
  obtain ⟨α0, M0, sd, r0, sl, h0⟩ := q
  obtain ⟨n1, α, M, ds, od, r2, ro, rs, h2⟩ := PostR.pure (R := Reps _) h0 r0 reps_nil
  refine PySem.W.callWith_K0 (first := [.ref a]) I1.kIn hm.kp ?_
  exact run_g (us := [.ref a]) (ws := []) (vs := [.ref a]) (zs := []) F hr hb tk I1 (.cons rfl .nil) .nil rfl rfl ⟨α, M, _, r2, hG.to (reps_cons ro rs) reps_nil, h2⟩
def gMake (c : Nat) (S : List D → Mem → Res D) (gD : List D → List D → List D) (xs zs : List D) : Mem → Res D := fun M => (S (gD (.ref M.length :: xs) zs) (M ++ [.ins c []])).bind fun v M1 => match v with
  | .non => .ok (.ref M.length) M1
  | _ => .bad
def dMake (c n m : Nat) (S : List D → Mem → Res D) (gD : List D → List D → List D) (fa fk : AF) : EF := fun s M => (fa s M).bind fun xs M1 => (fk s M1).bind fun zs M2 => lenIs n xs (lenIs m zs (gMake c S gD xs zs M2))
theorem make_rel {K : PySem.W.Frag} {α : List Addr} {M : Mem} {H : Hp} {c : Nat} (hc : c < L.nc) (r : Rel K L α M H) {x dx : Addr} (hx : H x = none) (hd : H dx = none) (ne : dx ≠ x) :
    Le α H (α ++ [x]) (upd (upd H dx (.own x)) x (.ins (L.cls c) dx [])) ∧ Rel K L (α ++ [x]) (M ++ [.ins c []]) (upd (upd H dx (.own x)) x (.ins (L.cls c) dx [])) := by
  have nd : dx ∉ α := fun hm => by
    obtain ⟨u, hu, _⟩ := r.mem hm
    rw [hd] at hu; cases hu
  have l1 : Le α H α (upd H dx (.own x)) := by
    refine ⟨⟨[], by simp, by simp⟩, fun a o h _ => ?_, fun a h => ?_, fun a xs h => ?_, fun a o xs h => ?_⟩
    · rw [upd_ne (ne_of_none h hd)]; exact h
    · by_cases q : a = dx
      · rw [q, upd_same]; exact fun z => nomatch z
      · rw [upd_ne q]; exact h
    · rw [upd_ne (ne_of_none h hd)]; exact h
    · rw [upd_ne (ne_of_none h hd)]; exact h
  have r1 : Rel K L α M (upd H dx (.own x)) := ⟨r.len, r.nd, fun i o a h1 h2 => (r.ob i o a h1 h2).stay l1 r (by
    obtain ⟨u, hu, _⟩ := (r.ob i o a h1 h2).ours
    rw [upd_ne (ne_of_none hu hd)]) fun _ _ h => h⟩
  have hx1 : upd H dx (.own x) x = none := by rw [upd_ne (Ne.symm ne)]; exact hx
  exact ⟨l1.trans (Le.new hx1), r1.new (o := .ins c []) hx1 ⟨dx, [], upd_same, .nil, hc⟩⟩
theorem make_go {c : Nat} {fd : FuncData} (hc : c < L.nc) (M : Mk X.K (L.cls c) f) (F : FnOk X.prog X.w X.K X.mg X.base (L2.CX X.prog X.w) k f fd ps (spF X.K L S)) (hr : Room (k + 1) X.A) (hb : KBn X.K fd ps (n + 1) ks g gV) (hG : GRel X.K gD gV) (tk : Takes X W)
    {pins : List (Addr × Obj)} {σ : L2.St} {H : Hp} {s : Shared} {Q : VK} {us ws : List Value} {vs zs : List V} {α : List Addr} {Me : Mem} {ds es : List D} (I : Inv X pins σ H s) (rv : Vals vs us) (rz : Vals zs ws) (r : Rel X.K L α Me H) (rs : Reps X.K α H ds vs) (re : Reps X.K α H es zs) (l1 : ds.length = n) (l2 : es.length = ks.length)
    (h : PostR X.K L (Rep X.K) (gMake c S gD ds es Me) α H Q (fun c d H' => W c d σ H')) : wpAny (model X.prog X.w) X.A (call (.ref (L.cls c)) us (ks.zip ws)) (EP X pins σ Q) X.xe s := by
  have hx : H (s.heap.objs.size + 1) = none := I.hok.fresh (Nat.le_succ _)
  have hd : H s.heap.objs.size = none := I.hok.fresh (Nat.le_refl _)
  have ne : s.heap.objs.size ≠ s.heap.objs.size + 1 := Nat.ne_of_lt (Nat.lt_succ_self _)
  obtain ⟨le, r2⟩ := make_rel hc r hx hd ne
  have I2 := Inv.made (C := L.cls c) I
  have r1 : Vals (V.ref (s.heap.objs.size + 1) :: vs) (Value.ref (s.heap.objs.size + 1) :: us) := .cons rfl rv
  have n1 : (Value.ref (s.heap.objs.size + 1) :: us).length = n + 1 := by rw [List.length_cons, ← rv.length, ← rs.length, l1]
  have n2 : ws.length = ks.length := by rw [← rz.length, ← re.length, l2]
  have self : Rep X.K (α ++ [s.heap.objs.size + 1]) (upd (upd H s.heap.objs.size (.own (s.heap.objs.size + 1))) (s.heap.objs.size + 1) (.ins (L.cls c) s.heap.objs.size [])) (.ref Me.length) (.ref (s.heap.objs.size + 1)) := rep_ref (by rw [← r.len]; simp)
  have hsp : spF X.K L S (gV (V.ref (s.heap.objs.size + 1) :: vs) zs) (upd (upd H s.heap.objs.size (.own (s.heap.objs.size + 1))) (s.heap.objs.size + 1) (.ins (L.cls c) s.heap.objs.size [])) (fun v H3 => v = .non ∧ Q (.ref (s.heap.objs.size + 1)) H3) (WE W σ) := by
    refine ⟨_, _, _, r2, hG.to (reps_cons self (rs.le le)) (re.le le), ?_⟩
    have h1 := PostR.le le h
    unfold gMake at h1
    refine (PostR.bind (R := Rep _) h1).imp fun v H3 ⟨dv, α3, M3, l3, r3, rv3, h3⟩ => ?_
    dsimp only at h3
    cases dv <;> try exact h3.elim
    exact ⟨rv3.non, PostR.pure h3 r3 (self.le l3)⟩
  refine wpAny_call (make_map (f := f) I.kIn M.makes M.init (beq_iff_eq.mp M.fn) (codeAny_mono (F.run _ X.stack _ _ ⟨Value.ref (s.heap.objs.size + 1) :: us, ks.zip ws⟩ (g (Value.ref (s.heap.objs.size + 1) :: us) ws) _ _ (WE W σ) (hr.make (L.cls c) us (ks.zip ws))
    (I2.env0.make (L.cls c) us (ks.zip ws)) (hb.to _ _ ws I2.kIn n1 n2) (hb.rel r1 rz) hsp) fun r s' hq' => ?_))
  cases r with
  | error e => exact passAt tk σ pins _ _ e s' I2 hq'
  | ok fl =>
    cases fl <;> try exact False.elim hq'
    obtain ⟨v, H', I3, rv, ev, q3⟩ := I2.after hq'
    subst ev
    exact ⟨rv, ⟨V.ref (s.heap.objs.size + 1), H', I3, rfl, q3⟩⟩
theorem fe_makeK {c : Nat} (hc : c < L.nc) (M : Mk X.K (L.cls c) f) (F : FnOk X.prog X.w X.K X.mg X.base (L2.CX X.prog X.w) k f fd ps (spF X.K L S)) (hr : Room (k + 1) X.A) (tk : Takes X W) (hg : Gl X x) (hm : X.mg x = some (.ref (L.cls c))) (hb : KBn X.K fd ps (n + 1) ks g gV) (hG : GRel X.K gD gV) (ha : FA X L W (e :: es) fa) (hkw : FK X L W kws fk)
    (hall : (backToKw pos (keywordEach kws X.env)).all (·.1.isSome) = true := by rfl) (hks : (backToKw pos (keywordEach kws X.env)).filterMap (·.1) = ks := by rfl) (hdb : (x == ("__debug__" : Str)) = false := by decide)
    (he : starEach (e :: es) X.env = (false, eval e X.env) :: starEach es X.env := by rfl) (hpl : ((backTo pos (starEach (e :: es) X.env)).any (·.1) || (backToKw pos (keywordEach kws X.env)).any (·.1.isNone)) = false := by rfl) :
    FE X L W (.Call (.Name x p) (e :: es) kws pos) (dMake c n ks.length S gD fa fk) := by
  refine ⟨fun pins s σ H Q I ⟨α, Me, sd, r, sl, h⟩ => ?_⟩
  refine wpAny_Call_Name_kw (ld_glob I hg hm ?_ hdb)
  refine PySem.W.callWith_KW (h₀ := X.base) I.ok.mod.kin M.kp hall (thn (ha.run pos pins s σ H _ I ⟨α, Me, sd, r, sl, (PostR.bind (R := Reps _) h).imp fun xs H1 q => q⟩) fun us s1 ⟨vs, H1, I1, rv, q⟩ => ?_) hpl he
  obtain ⟨ds, α1, M1, l1, r1, rs, h1⟩ := q
  refine thn (hkw.run pos pins s1 σ H1 _ I1 ⟨α1, M1, sd, r1, sl.le l1, (PostR.bind (R := Reps _) h1).imp fun xs H1 q => q⟩) fun ws s2 ⟨zs, H2, I2, rz, q⟩ => ⟨I2.kIn, ?_⟩
  obtain ⟨es', α2, M2, l2, r2, re, h2⟩ := q
  obtain ⟨n1, h2⟩ := lenIs_post h2
  obtain ⟨n2, h2⟩ := lenIs_post h2
  rw [hks]
  exact make_go (us := us) (ws := ws) hc M F hr hb hG tk I2 rv rz r2 (rs.le l2) re n1 n2 h2
theorem fe_make {c : Nat} (hc : c < L.nc) (M : Mk X.K (L.cls c) f) (F : FnOk X.prog X.w X.K X.mg X.base (L2.CX X.prog X.w) k f fd ps (spF X.K L S)) (hr : Room (k + 1) X.A) (tk : Takes X W) (hg : Gl X x) (hm : X.mg x = some (.ref (L.cls c))) (hb : KBn X.K fd ps (n + 1) [] g gV) (hG : GRel X.K gD gV) (ha : FA X L W (e :: es) fa)
    (hdb : (x == ("__debug__" : Str)) = false := by decide)
    (he : starEach (e :: es) X.env = (false, eval e X.env) :: starEach es X.env := by rfl) (hpl : (backTo pos (starEach es X.env)).any (·.1) = false := by rfl) :
    FE X L W (.Call (.Name x p) (e :: es) [] pos) (dMake c n 0 S gD fa dNil) := by
  refine ⟨fun pins s σ H Q I ⟨α, Me, sd, r, sl, h⟩ => ?_⟩
  refine wpAny_Call_Name_kw (ld_glob I hg hm ?_ hdb)
  refine PySem.W.callWith_K (h₀ := X.base) I.ok.mod.kin M.kp (thn (ha.run pos pins s σ H _ I ⟨α, Me, sd, r, sl, (PostR.bind (R := Reps _) h).imp fun xs H1 q => q⟩) fun us s1 ⟨vs, H1, I1, rv, q⟩ => ⟨I1.kIn, ?_⟩) he hpl
  obtain ⟨ds, α1, M1, l1, r1, rs, h1⟩ := q
  obtain ⟨n1, h1⟩ := lenIs_post h1
  obtain ⟨_, h1⟩ := lenIs_post h1
  exact make_go (us := us) (ws := []) (ks := []) hc M F hr hb hG tk I1 rv .nil r1 rs reps_nil n1 rfl h1
end
end Fl
namespace Fl
open PySem PySem.Spec L2
theorem Own.refl (is : List Nat) (σ : L2.St) : Own is σ σ := ⟨rfl, fun _ _ => rfl⟩
theorem Own.set {is : List Nat} {σ : L2.St} {i : Nat} {v : Option V} (h : i ∈ is) : Own is σ (σ.set i v) := ⟨by rw [List.length_set], fun j hj => by
  have ne : i ≠ j := fun z => hj (by rw [← z]; exact h)
  rw [List.getElem?_set_ne ne]⟩
theorem Own.wipe {is : List Nat} {σ σ' : L2.St} (h : Own is (wipe σ is) σ') : L2.wipe σ' is = L2.wipe σ is := by
  have hl : σ'.length = σ.length := h.1.trans (wipe_length σ is)
  have key : ∀ (τ : L2.St) (ks : List Nat) (j : Nat), j ∈ ks → j < τ.length → (L2.wipe τ ks)[j]? = some none := by
    intro τ ks
    induction ks with
    | nil => intro j hj; cases hj
    | cons v vs ih =>
      intro j hj hlt
      unfold L2.wipe
      by_cases e : v = j
      · subst e
        rw [List.getElem?_set_self (by rw [wipe_length]; exact hlt)]
      · rw [List.getElem?_set_ne e]
        rcases List.mem_cons.mp hj with q | q
        · exact absurd q.symm e
        · exact ih j q hlt
  refine List.ext_getElem? fun j => ?_
  by_cases hj : j ∈ is
  · by_cases hlt : j < σ.length
    · rw [key σ' is j hj (by omega), key σ is j hj hlt]
    · rw [List.getElem?_eq_none (by rw [wipe_length]; omega), List.getElem?_eq_none (by rw [wipe_length]; omega)]
  · rw [wipe_out hj, h.2 j hj]
abbrev GF := D → Sl → Mem → Res Sl
abbrev GsF := List D → Sl → Option Sl
abbrev RSl (K : PySem.W.Frag) (is : List Nat) (σ : L2.St) : List Addr → Hp → Sl → L2.St → Prop := fun α H s σ' => Slots K α H s σ' ∧ Own is σ σ'
def LG (K : PySem.W.Frag) (L : Lay) (W : WX) (is : List Nat) (f : GF) : TG := fun v σ H Q => ∃ α M s d, Rel K L α M H ∧ Slots K α H s σ ∧ Rep K α H d v ∧ PostR K L (RSl K is σ) (f d s M) α H (fun σ' H' => Own is σ σ' → Q σ' H') (fun c d H' => W c d σ H')
def LGs (K : PySem.W.Frag) (L : Lay) (is : List Nat) (f : GsF) : TGs := fun vs σ H Q => ∃ α M s ds s2, Rel K L α M H ∧ Slots K α H s σ ∧ Reps K α H ds vs ∧ f ds s = some s2 ∧ ∀ σ', Slots K α H s2 σ' → Own is σ σ' → Q σ' H
abbrev FG (X : Cx) (L : Lay) (W : WX) (is : List Nat) (tg : Expr) (f : GF) : Prop := PG X tg (LG X.K L W is f)
abbrev FGs (X : Cx) (L : Lay) (is : List Nat) (ts : List Expr) (f : GsF) : Prop := PGs X ts (LGs X.K L is f)
def gN (i : Nat) : GF := fun d s M => .ok (s.set i (some d)) M
def gsNil : GsF := fun ds s => match ds with
  | [] => some s
  | _ => none
def gsCons (i : Nat) (r : GsF) : GsF := fun ds s => match ds with
  | d :: ds => r ds (s.set i (some d))
  | _ => none
def gT (n : Nat) (r : GsF) : GF := fun d s M => match d with
  | .tup ds => (match decide (ds.length = n), r ds s with
    | true, some s2 => .ok s2 M
    | _, _ => .bad)
  | _ => .bad
section
variable {X : Cx} {L : Lay} {W : WX} {is : List Nat} {pos : Pos}
theorem pgImp {e : Expr} {t t' : TG} (h : PG X e t) (i : ∀ v σ H Q, t' v σ H Q → t v σ H Q) : PG X e t' := ⟨fun pins s σ H v u Q I r q => h.run pins s σ H v u Q I r (i v σ H Q q)⟩
theorem pgsImp {e : List Expr} {t t' : TGs} (h : PGs X e t) (i : ∀ v σ H Q, t' v σ H Q → t v σ H Q) : PGs X e t' := ⟨fun pins s σ H v u Q I r q => h.run pins s σ H v u Q I r (i v σ H Q q)⟩
theorem fg_name {i : Nat} {x : Str} (hm : i ∈ is) (hN : X.N.Nodup) (hi : X.N[i]? = some x) (hx : Loc X.env.scope x) (hf : X.fn x = true ∨ X.env.scope.names.lookup x = some .local := by first | exact .inl rfl | exact .inr rfl | assumption) : FG X L W is (.Name x pos) (gN i) :=
  pgImp (pg_name hN hi hx hf) fun v σ H Q ⟨α, M, s, d, r, sl, rd, h⟩ => PostR.pure h r ⟨sl.set i rd, Own.set hm⟩ (Own.set hm)
theorem fgs_nil : FGs X L is [] gsNil := pgsImp pgs_nil fun vs σ H Q ⟨α, M, s, ds, s2, r, sl, rd, e, h⟩ => by
  cases ds with
  | nil => cases e; exact ⟨rd.nil, h σ sl (Own.refl _ _)⟩
  | cons a b => cases e
theorem fgs_cons {i : Nat} {x : Str} {es : List Expr} {f : GsF} (hm : i ∈ is) (hN : X.N.Nodup) (hi : X.N[i]? = some x) (hx : Loc X.env.scope x) (h2 : FGs X L is es f) (hf : X.fn x = true ∨ X.env.scope.names.lookup x = some .local := by first | exact .inl rfl | exact .inr rfl | assumption)
    (hs : (assignEach (.Name x pos :: es) X.env).map (·.2) = assign (.Name x pos) X.env :: (assignEach es X.env).map (·.2) := by rfl) : FGs X L is (.Name x pos :: es) (gsCons i f) :=
  pgsImp (pgs_cons (pg_name hN hi hx hf) h2 hs) fun vs σ H Q ⟨α, M, s, ds, s2, r, sl, rd, e, h⟩ => by
    cases ds with
    | nil => cases e
    | cons d ds =>
      obtain ⟨v, vs', rfl, h1, h3⟩ := rd.cons
      exact ⟨v, vs', rfl, α, M, _, ds, s2, r, sl.set i h1, h3, e, fun σ' q o => h σ' q ((Own.set hm).trans o)⟩
theorem fg_tup {es : List Expr} {k n : Nat} {f : GsF} (hc : X.calm = true) (h : FGs X L is es f) (hn : (assignEach es X.env).length = n := by rfl) (hst : (assignEach es X.env).findIdx? (·.1) = none := by rfl) : FG X L W is (.Tuple es k pos) (gT n f) :=
  pgImp (pg_tup hc h hn hst) fun v σ H Q ⟨α, M, s, d, r, sl, rd, q⟩ => by
    cases d <;> try exact q.elim
    rename_i ds
    unfold gT at q
    dsimp only at q
    split at q
    · rename_i s2 e1 e2
      obtain ⟨t, vs, rfl, ht, hr⟩ := rd.tup
      exact ⟨t, vs, rfl, ht.sq, by rw [← hr.length]; exact dt e1, α, M, s, ds, s2, r, sl, hr, e2, fun σ' h1 o => PostR.pure q r ⟨h1, o⟩ o⟩
    · exact q.elim
def sAsg (f : EF) (g : GF) : SF := fun s M => (f s M).toS s fun d M1 => (g d s M1).toS s fun s2 M2 => .nx s2 M2
theorem fs_asg {tg e : Expr} {f : EF} {g : GF} (he : FE X L W e f) (hg : FG X L W is tg g) (hs : swapsWithSole [tg] e pos.line X.env = pure false := by rfl) (hw : swappedStores [tg] e X.env = pure none := by rfl)
    (h1 : (assignEach [tg] X.env).map (·.2) = [assign tg X.env] := by rfl) : FS X L W (.Assign [tg] e pos) (sAsg f g) := psImp (ps_asg he hg hs hw h1) fun D σ H ⟨α, M, s, r, sl, q⟩ =>
  ⟨α, M, s, r, sl, (PostR.toS (R := Rep _) sl q).imp fun x H1 ⟨dx, α1, M1, l1, r1, rx, h1⟩ =>
    ⟨α1, M1, s, dx, r1, sl.le l1, rx, (PostR.toS (R := RSl _ is σ) (sl.le l1) h1).imp fun σ' H2 ⟨s2, α2, M2, l2, r2, ⟨q1, q2⟩, h2⟩ _ => h2 α2 H2 σ' (Le.refl _ _) r2 q1⟩⟩
end
abbrev ItF := Nat → Mem → Option (Option D)
def ItAt (K : PySem.W.Frag) (L : Lay) (α : List Addr) (H : Hp) (M : Mem) (J : It) (i : Nat) : Option (Option D) → Prop
  | none => True
  | some none => J.stop i H
  | some (some d) => J.go i H ∧ ∀ x H2, J.yld i H x H2 → Le α H α H2 ∧ Rel K L α M H2 ∧ Rep K α H2 d x
theorem Le.lx {α α' : List Addr} {H H' : Hp} (l : Le α H α' H') : Lx α H α' H' := ⟨let ⟨β, e, _⟩ := l.ext; ⟨β, e⟩, l.tups, l.rols⟩
def RIt (K : PySem.W.Frag) (L : Lay) : List Addr → Hp → ItF × Nat → It → Prop := fun α H nx J => ∀ i α' H' M', Lx α H α' H' → Rel K L α' M' H' → ItAt K L α' H' M' J i (nx.1 i M')
theorem RIt.le {K : PySem.W.Frag} {L : Lay} {α α' : List Addr} {H H' : Hp} {nx : ItF × Nat} {J : It} (l : Le α H α' H') (h : RIt K L α H nx J) : RIt K L α' H' nx J := fun i α2 H2 M2 l2 r2 => h i α2 H2 M2 (l.lx.trans l2) r2
abbrev IF := Sl → Mem → Res (ItF × Nat)
def LI (K : PySem.W.Frag) (L : Lay) (W : WX) (f : IF) : TI := fun σ H R => ∃ α M s, Rel K L α M H ∧ Slots K α H s σ ∧ PostR K L (RIt K L) (f s M) α H R (fun c d H' => W c d σ H')
abbrev FI (X : Cx) (L : Lay) (W : WX) (tg iter : Expr) (f : IF) : Prop := PI X tg iter (LI X.K L W f)
def nxL (n : Nat) : ItF := fun i M => match listAt M n with
  | some ds => some ds[i]?
  | none => none
def nxT (ds : List D) : ItF := fun i _ => some ds[i]?
def nxR (lo : Int) (n : Nat) : ItF := fun i _ => match decide (i < n) with
  | true => some (some (.int (lo + i)))
  | false => some none
def iSeq (f : EF) : IF := fun s M => (f s M).bind fun d M1 => match d with
  | .tup ds => .ok (nxT ds, ds.length + 1) M1
  | .ref n => (match listAt M1 n with
    | some ds => .ok (nxL n, ds.length + 1) M1
    | none => .bad)
  | _ => .bad
def iRng1 (a : AF) : IF := fun s M => (a s M).bind fun ds M1 => match ds with
  | [.int j] => (match decide (-(2 ^ 62) ≤ j ∧ j < 2 ^ 62) with
    | true => .ok (nxR 0 j.toNat, j.toNat + 1) M1
    | false => .bad)
  | _ => .bad
def iRng2 (a : AF) : IF := fun s M => (a s M).bind fun ds M1 => match ds with
  | [.int i, .int j] => (match decide (-(2 ^ 62) ≤ i ∧ i < 2 ^ 62 ∧ -(2 ^ 62) ≤ j ∧ j < 2 ^ 62) with
    | true => .ok (nxR i (j - i).toNat, (j - i).toNat + 1) M1
    | false => .bad)
  | _ => .bad
section
variable {X : Cx} {L : Lay} {W : WX} {pos : Pos} {tg e : Expr} {f : EF}
theorem piImp {t t' : TI} (h : PI X tg e t) (i : ∀ σ H Q, t' σ H Q → t σ H Q) : PI X tg e t' := ⟨fun pins s σ H Q I q => h.run pins s σ H Q I (i σ H Q q)⟩
theorem own_it {X : Cx} {pins : List (Addr × Obj)} {σ : L2.St} {H : Hp} {s : Shared} (I : L2.Inv X pins σ H s) : ∀ b ∈ [s.heap.objs.size], FpOk X pins H b := fun b hb => by
  rw [List.mem_singleton.mp hb]
  exact I.fpOk (Nat.le_refl _) I.fresh
theorem it_seq {X : Cx} {tg : Expr} {pins : List (Addr × Obj)} {σ : L2.St} {H : Hp} {s : Shared} {a : Addr} {xs : List V} {R : It → Hp → Prop} (I : L2.Inv X pins σ H s)
    (h : (SqL X.K H a xs ∧ R (Itl X.K a) H) ∨ (SqT X.K H a xs ∧ R (Itt X.K a) H)) : wpAny (model X.prog X.w) X.A (pyIter (.ref a)) (PIE X pins σ tg R) X.xe s := by
  have keep : ∀ (o : Obj) b u, s.heap.get? b = some u → (s.heap.push o).get? b = some u := fun o b u e => Heap.get?_push_of_some o e
  rcases h with ⟨hq, q⟩ | ⟨hq, q⟩
  · obtain ⟨its, _, p, _⟩ := I.list hq
    exact wpAny_pyIter_list p.isList ⟨_, _, _, _, H, rfl, I.kept (t' := s.toks) (keep _),
      turn_list a s.heap.objs.size, ⟨_, Heap.get?_push_size _ rfl, rfl, rfl⟩, own_it I, q⟩
  · obtain ⟨its, _, p, _⟩ := I.tuple hq
    have p' : s.heap.IsTuple a its.toArray := p
    exact wpAny_pyIter_tuple p' ⟨_, _, _, _, H, rfl, I.kept (t' := s.toks) (keep _),
      turn_tuple a s.heap.objs.size, ⟨_, Heap.get?_push_size _ rfl, rfl, rfl⟩, own_it I, q⟩
theorem fi_seq (he : FE X L W e f) : FI X L W tg e (iSeq f) := ⟨fun pins s σ H R I ⟨α, M, sd, r, sl, h⟩ => by
  refine thn (he.run pins s σ H _ I ⟨α, M, sd, r, sl, PostR.bind (R := Rep _) h⟩) fun v s1 ⟨x, H1, I1, rx, ⟨dx, α1, M1, l1, r1, rd, h1⟩⟩ => ?_
  dsimp only at h1
  split at h1
  · rename_i ds
    obtain ⟨t, vs, rfl, ht, hr⟩ := rd.tup
    cases rx
    refine it_seq I1 (.inr ⟨ht.sq, PostR.pure (R := RIt _ _) h1 r1 fun i α' H' M' l' r' => ?_⟩)
    have ht' := (ht.lw l'.lw).sq
    have hr' := hr.lw l'.lw
    show ItAt X.K L α' H' M' (Itt X.K t) i (some ds[i]?)
    cases e1 : ds[i]? with
    | none => exact ⟨vs, ht', by rw [← hr'.length]; exact List.getElem?_eq_none_iff.mp e1⟩
    | some d =>
      obtain ⟨v, e2, rv⟩ := hr'.at e1
      refine ⟨⟨vs, v, ht', e2⟩, fun x H2 y => ?_⟩
      obtain ⟨rfl, y⟩ := y
      have e3 := y vs ht'
      rw [e2] at e3; cases e3
      exact ⟨Le.refl _ _, r', rv⟩
  · rename_i n
    split at h1
    · rename_i ds e0
      obtain ⟨a, ha, rfl⟩ := rd.ref
      obtain ⟨a', vs, ha', hv, hr⟩ := r1.list e0
      rw [ha] at ha'; cases ha'
      cases rx
      refine it_seq I1 (.inl ⟨.of hv, PostR.pure (R := RIt _ _) h1 r1 fun i α' H' M' l' r' => ?_⟩)
      show ItAt X.K L α' H' M' (Itl X.K a) i (nxL n i M')
      unfold nxL
      cases e1 : listAt M' n with
      | none => trivial
      | some es =>
        obtain ⟨a2, us, ha2, hu, hr2⟩ := r'.list e1
        rw [l'.get ha] at ha2; cases ha2
        show ItAt X.K L α' H' M' (Itl X.K a) i (some es[i]?)
        cases e2 : es[i]? with
        | none => exact ⟨us, .of hu, by rw [← hr2.length]; exact List.getElem?_eq_none_iff.mp e2⟩
        | some d =>
          obtain ⟨v, e3, rv⟩ := hr2.at e2
          refine ⟨⟨us, v, .of hu, e3⟩, fun x H2 y => ?_⟩
          obtain ⟨rfl, y⟩ := y
          have e4 := y us (.of hu)
          rw [e3] at e4; cases e4
          exact ⟨Le.refl _ _, r', rv⟩
    · exact h1.elim
  · exact h1.elim⟩
theorem rng_it {K : PySem.W.Frag} {α : List Addr} {H : Hp} {lo : Int} {n m : Nat} : RIt K L α H (nxR lo n, m) (Itr lo n) := fun i α' H' M' l' r' => by
  show ItAt K L α' H' M' (Itr lo n) i (nxR lo n i M')
  unfold nxR
  by_cases c : i < n
  · rw [decide_eq_true c]
    refine ⟨c, fun x H2 y => ?_⟩
    obtain ⟨rfl, rfl⟩ := y
    exact ⟨Le.refl _ _, r', rep_int⟩
  · rw [decide_eq_false c]
    exact Nat.le_of_not_lt c
theorem fi_rng1 {a : Expr} {fa : AF} {p : Pos} (hg : Gl X "range") (hm : X.mg "range" = none) (ha : FA X L W [a] fa) (hs : starEach [a] X.env = [(false, eval a X.env)] := by rfl) : FI X L W tg (.Call (.Name "range" p) [a] [] pos) (iRng1 fa) :=
  piImp (pi_range1 hg hm ha hs) fun σ H R ⟨α, M, s, r, sl, h⟩ => ⟨α, M, s, r, sl, (PostR.bind (R := Reps _) h).imp fun vs H1 ⟨ds, α1, M1, l1, r1, rs, h1⟩ => by
    dsimp only at h1
    split at h1
    · split at h1
      · rename_i c
        obtain ⟨x, rfl, rx⟩ := rs.one
        exact ⟨_, congrArg (fun z => [z]) rx.int, (dt c).1, (dt c).2, PostR.pure (R := RIt _ _) h1 r1 rng_it⟩
      · exact h1.elim
    · exact h1.elim⟩
end
def sForL (nx : ItF) (g : GF) (body : SF) : Nat → Nat → SF
  | 0, _, _, _ => .bad
  | k + 1, i, s, M => match nx i M with
    | none => .bad
    | some none => .nx s M
    | some (some d) => (g d s M).toS s fun s1 M1 => match body s1 M1 with
      | .nx s2 M2 => sForL nx g body k (i + 1) s2 M2
      | .ct s2 M2 => sForL nx g body k (i + 1) s2 M2
      | .bk s2 M2 => .nx s2 M2
      | .rt d M2 => .rt d M2
      | .exc c f s2 M2 => .exc c f s2 M2
      | .bad => .bad
def sFor (fi : IF) (g : GF) (body : SF) : SF := fun s M => (fi s M).toS s fun nx M1 => sForL nx.1 g body nx.2 0 s M1
section
variable {X : Cx} {L : Lay} {W : WX} {pos : Pos} {tg iter : Expr} {body : List Stmt} {fi : IF} {g : GF} {fb : SF} {is : List Nat}
theorem fs_for (hp : PassesOwn (model X.prog X.w) X.A X.env X.xe) (hc : X.calm = true) (hi : FI X L W tg iter fi) (hg : FG X L W is tg g) (hb : FSs X L W body fb) (hs : ∀ x, foldedSetIterable iter X.env x = pure x := by intro _; rfl) : FS X L W (.For tg iter body [] pos) (sFor fi g fb) :=
  psImp (ps_for hp hc hi hg hb hs) fun D σ H ⟨α, M, s, r, sl, h⟩ => ⟨α, M, s, r, sl, (PostR.toS (R := RIt _ _) sl h).imp fun J H1 ⟨nx, α1, M1, l1, r1, it, h1⟩ => by
    refine ⟨fun i m σ H => ∃ α M s, Rel X.K L α M H ∧ Slots X.K α H s σ ∧ RIt X.K L α H nx J ∧ PostS X.K L W D α H (sForL nx.1 g fb m i s M), ⟨nx.2, α1, M1, s, r1, sl.le l1, it, h1⟩, ?_⟩
    rintro i m σ H ⟨α, M, s, r, sl, it, h⟩
    cases m with
    | zero => exact h.elim
    | succ k =>
      have q := it i α H M (Le.refl _ _).lx r
      unfold sForL at h
      cases e : nx.1 i M with
      | none => rw [e] at h; exact h.elim
      | some o =>
        rw [e] at h q
        cases o with
        | none => exact .inl ⟨q, h α H σ (Le.refl _ _) r sl⟩
        | some d =>
          obtain ⟨q1, q2⟩ := q
          refine .inr ⟨q1, fun σ H => ∃ α M s, Rel X.K L α M H ∧ Slots X.K α H s σ ∧ RIt X.K L α H nx J ∧ PostS X.K L W D α H (sForL nx.1 g fb k (i + 1) s M), fun σ' H' z => ⟨k, Nat.lt_succ_self _, z⟩, fun x H2 y => ?_⟩
          obtain ⟨l2, r2, rd⟩ := q2 x H2 y
          dsimp only at h
          have h' := PostS.le l2 h
          refine ⟨α, M, s, d, r2, sl.le l2, rd, (PostR.toS (R := RSl _ is σ) (sl.le l2) h').imp fun σ' H3 ⟨s1, α3, M3, l3, r3, ⟨q3, _⟩, h3⟩ _ => ?_⟩
          refine ⟨α3, M3, s1, r3, q3, ?_⟩
          have it3 := (it.le l2).le l3
          dsimp only at h3
          cases eb : fb s1 M3 with
          | nx s2 M2 => rw [eb] at h3; exact fun α' H' σ' l r' sl' => ⟨α', M2, s2, r', sl', it3.le l, PostS.le l h3⟩
          | ct s2 M2 => rw [eb] at h3; exact fun α' H' σ' l r' sl' => ⟨α', M2, s2, r', sl', it3.le l, PostS.le l h3⟩
          | bk s2 M2 => rw [eb] at h3; exact h3
          | rt d M2 => rw [eb] at h3; exact h3
          | exc c f s2 M2 => rw [eb] at h3; exact h3
          | bad => rw [eb] at h3; exact h3⟩
end
def sWhileL (c : TF) (body : SF) : Nat → SF
  | 0, _, _ => .bad
  | k + 1, s, M => (c s M).toS s fun b M1 => match b with
    | false => .nx s M1
    | true => match body s M1 with
      | .nx s2 M2 => sWhileL c body k s2 M2
      | .ct s2 M2 => sWhileL c body k s2 M2
      | .bk s2 M2 => .nx s2 M2
      | .rt d M2 => .rt d M2
      | .exc c f s2 M2 => .exc c f s2 M2
      | .bad => .bad
section
variable {X : Cx} {L : Lay} {W : WX} {pos : Pos} {c : Expr} {body : List Stmt} {fc : TF} {fb : SF}
theorem fs_while (n : Nat) (hp : PassesOwn (model X.prog X.w) X.A X.env X.xe) (hc : FT X L W c fc) (hb : FSs X L W body fb) : FS X L W (.While c body [] pos) (sWhileL fc fb n) :=
  psImp (ps_while hp hc hb) fun D σ H ⟨α, M, s, r, sl, h⟩ => by
    refine ⟨fun m σ H => ∃ α M s, Rel X.K L α M H ∧ Slots X.K α H s σ ∧ PostS X.K L W D α H (sWhileL fc fb m s M), ⟨n, α, M, s, r, sl, h⟩, ?_⟩
    clear h sl r s M α
    rintro m σ H ⟨α, M, s, r, sl, h⟩
    cases m with
    | zero => exact h.elim
    | succ k =>
      unfold sWhileL at h
      refine ⟨α, M, s, r, sl, (PostR.toS (R := RB) sl h).imp fun b H1 ⟨b', α1, M1, l1, r1, e, h1⟩ => ?_⟩
      subst e
      cases b' with
      | false => exact iteF (h1 α1 H1 σ (Le.refl _ _) r1 (sl.le l1))
      | true =>
        refine iteT ⟨fun σ H => ∃ α M s, Rel X.K L α M H ∧ Slots X.K α H s σ ∧ PostS X.K L W D α H (sWhileL fc fb k s M), fun σ' H' z => ⟨k, Nat.lt_succ_self _, z⟩, α1, M1, s, r1, sl.le l1, ?_⟩
        dsimp only at h1
        cases eb : fb s M1 with
        | nx s2 M2 => rw [eb] at h1; exact fun α' H' σ' l r' sl' => ⟨α', M2, s2, r', sl', PostS.le l h1⟩
        | ct s2 M2 => rw [eb] at h1; exact fun α' H' σ' l r' sl' => ⟨α', M2, s2, r', sl', PostS.le l h1⟩
        | bk s2 M2 => rw [eb] at h1; exact h1
        | rt d M2 => rw [eb] at h1; exact h1
        | exc c f s2 M2 => rw [eb] at h1; exact h1
        | bad => rw [eb] at h1; exact h1
end
def wipeD (s : Sl) : List Nat → Sl
  | [] => s
  | v :: vs => (wipeD s vs).set v none
theorem Slots.wipe {K : PySem.W.Frag} {α : List Addr} {H : Hp} {s : Sl} {σ : L2.St} (h : Slots K α H s σ) : ∀ is : List Nat, Slots K α H (wipeD s is) (L2.wipe σ is)
  | [] => h
  | v :: vs => (Slots.wipe h vs).del v none
def Res.noX {A : Type} (r : Res A) : Res A := match r with
  | .ok a M => .ok a M
  | _ => .bad
def lcL (nx : ItF) (g : GF) (tt : TF) (te : EF) (s : Sl) : Nat → Nat → Mem → Res (List D)
  | 0, _, _ => .bad
  | k + 1, i, M => match nx i M with
    | none => .bad
    | some none => .ok [] M
    | some (some d) => (g d s M).noX.bind fun s1 M1 => (tt s1 M1).noX.bind fun b M2 => match b with
      | true => (te s1 M2).noX.bind fun y M3 => (lcL nx g tt te s k (i + 1) M3).bind fun ys M4 => .ok (y :: ys) M4
      | false => lcL nx g tt te s k (i + 1) M2
def dLc (fi : IF) (g : GF) (tt : TF) (te : EF) (is : List Nat) : EF := fun s M => (fi s M).bind fun nx M1 => match decide (nx.2 ≤ sizeLine) with
  | true => (lcL nx.1 g tt te (wipeD s is) nx.2 0 M1).bind fun ys M2 => .ok (.ref M2.length) (M2 ++ [.lst ys])
  | false => .bad
abbrev FTs (X : Cx) (L : Lay) (W : WX) (es : List Expr) (f : TF) : Prop := PTs X es (LT X.K L W f)
def tYesF : TF := fun _ M => .ok true M
abbrev W0 : WX := fun _ _ _ _ => False
section
variable {X : Cx} {L : Lay} {W : WX}
theorem ptsImp {e : List Expr} {t t' : TT} (h : PTs X e t) (i : ∀ σ H Q, t' σ H Q → t σ H Q) : PTs X e t' := ⟨fun pins s σ H Q I q => h.run pins s σ H Q I (i σ H Q q)⟩
theorem fts_nil : FTs X L W [] tYesF := ptsImp pts_nil fun σ H Q ⟨α, M, s, r, sl, h⟩ => PostR.pure h r rfl
theorem fts_one {c : Expr} {f : TF} (h : FT X L W c f) : FTs X L W [c] f := pts_one h
theorem nox_bind {K : PySem.W.Frag} {A B C B' : Type} {R : List Addr → Hp → A → B → Prop} {R' : List Addr → Hp → C → B' → Prop} {r : Res A} {g : A → Mem → Res C} {α α0 : List Addr} {H H0 : Hp} {Q : B' → Hp → Prop} {w : W3} (h : PostR K L R' (r.noX.bind g) α0 H0 Q w) (w' : W3) :
    PostR K L R r α H (Then K L R α H fun a M1 _ _ => PostR K L R' (g a M1) α0 H0 Q w) w' := by
  cases r with
  | ok a M => exact fun α1 H1 b l r1 rr => ⟨a, α1, M, l, r1, rr, h⟩
  | exc c f M => exact False.elim h
  | bad => exact False.elim h
theorem out_lw {α : List Addr} {H : Hp} {p : Addr} {o : HO} {xs : List V} (h : H p = some (.lst xs)) : Lw α H α (upd H p o) :=
  ⟨⟨[], by simp⟩, fun a ys e => by
    have ne : a ≠ p := fun z => by rw [z, h] at e; cases e
    rw [upd_ne ne]; exact e, fun a q ys e => by
    have ne : a ≠ p := fun z => by rw [z, h] at e; cases e
    rw [upd_ne ne]; exact e⟩
theorem out_le {α α' : List Addr} {H H' : Hp} {p : Addr} {o : HO} (l : Le α H α' H') (n : H p = none) (hp : p ∉ α') : Le α H α' (upd H' p o) := by
  refine ⟨l.ext, fun a u h hn => ?_, fun a h => ?_, fun a ys h => ?_, fun a q ys h => ?_⟩
  · rw [upd_ne (ne_of_none h n)]; exact l.keep a u h hn
  · by_cases e : a = p
    · rw [e, upd_same]; exact fun z => nomatch z
    · rw [upd_ne e]; exact l.dom a h
  · rw [upd_ne (ne_of_none h n)]; exact l.tups a ys h
  · rw [upd_ne (ne_of_none h n)]; exact l.rols a q ys h
theorem out_rel {K : PySem.W.Frag} {α : List Addr} {M : Mem} {H : Hp} {p : Addr} {o : HO} {xs : List V} (r : Rel K L α M H) (h : H p = some (.lst xs)) (hp : p ∉ α) : Rel K L α M (upd H p o) :=
  ⟨r.len, r.nd, fun i x a h1 h2 => (r.ob i x a h1 h2).stayW (out_lw h) (by rw [upd_ne (fun z => hp (by rw [← z]; exact List.mem_of_getElem? h2))]) (fun dd fs _ e => by
    have ne : dd ≠ p := fun z => by rw [z, h] at e; cases e
    rw [upd_ne ne]; exact e) fun _ _ z => z⟩
theorem out_in {K : PySem.W.Frag} {α : List Addr} {M : Mem} {H : Hp} {p : Addr} {xs : List V} {ds : List D} (r : Rel K L α M H) (h : H p = some (.lst xs)) (hp : p ∉ α) (q : Reps K α H ds xs) : Rel K L (α ++ [p]) (M ++ [.lst ds]) H := by
  have lw : Lw α H (α ++ [p]) H := ⟨⟨[p], rfl⟩, fun _ _ e => e, fun _ _ _ e => e⟩
  refine ⟨by rw [List.length_append, List.length_append, r.len]; rfl, List.nodup_append.mpr ⟨r.nd, by simp, fun a ha b hb => by rw [List.mem_singleton.mp hb]; exact fun z => hp (by rw [← z]; exact ha)⟩, fun i x a h1 h2 => ?_⟩
  by_cases hi : i < M.length
  · rw [List.getElem?_append_left hi] at h1
    rw [List.getElem?_append_left (by rw [r.len]; exact hi)] at h2
    have q' := r.ob i x a h1 h2
    cases x with
    | exc c f =>
      obtain ⟨cls, d, e1, e2, e3⟩ := q'
      refine ⟨cls, d, e1, e2.lw lw (fun _ _ _ z => z), fun dd ed hm => ?_⟩
      rcases List.mem_append.mp hm with z | z
      · exact e3 dd ed z
      · have ep := List.mem_singleton.mp z
        have e4 := e2.2
        cases f with
        | none => rw [e4] at ed; cases ed
        | some pf =>
          obtain ⟨d2, v, e5, e6, _⟩ := e4
          rw [ed] at e5; cases e5
          rw [ep, h] at e6; cases e6
    | lst ds => obtain ⟨vs, e1, e2⟩ := q'; exact ⟨vs, e1, e2.lw lw⟩
    | dk ds => obtain ⟨vs, e1, e2⟩ := q'; exact ⟨vs, e1, e2.lw lw⟩
    | dt ds => obtain ⟨vs, e1, e2⟩ := q'; exact ⟨vs, e1, e2.lw lw⟩
    | fk ds => obtain ⟨o, vs, e1, e2⟩ := q'; exact ⟨o, vs, e1, e2.lw lw⟩
    | ft ds => obtain ⟨o, vs, e1, e2⟩ := q'; exact ⟨o, vs, e1, e2.lw lw⟩
    | dn ds => obtain ⟨vs, e1, e2⟩ := q'; exact ⟨vs, e1, e2.lw lw⟩
    | fn ds => obtain ⟨o, vs, e1, e2⟩ := q'; exact ⟨o, vs, e1, e2.lw lw⟩
    | ins c fs => obtain ⟨dx, vs, e1, e2, e3⟩ := q'; exact ⟨dx, vs, e1, e2.lw lw, e3⟩
  · rw [List.getElem?_append_right (by omega)] at h1
    rw [List.getElem?_append_right (by rw [r.len]; omega), r.len] at h2
    have e : i - M.length = 0 := by
      cases z : i - M.length with
      | zero => rfl
      | succ k => rw [z] at h1; simp at h1
    rw [e] at h1 h2
    have e1 : MO.lst ds = x := by simpa using h1
    have e2 : p = a := by simpa using h2
    subst e1 e2
    exact ⟨xs, h, q.lw lw⟩
theorem bind_bind {A B C : Type} (r : Res A) (f : A → Mem → Res B) (g : B → Mem → Res C) : (r.bind f).bind g = r.bind fun a M => (f a M).bind g := by cases r <;> rfl
theorem lc_go {K : PySem.W.Frag} {fi : IF} {g : GF} {tt : TF} {te : EF} {is : List Nat} {σ : L2.St} {H : Hp} {Q : VK} (h : LE K L W (dLc fi g tt te is) σ H Q) : tLc (LI K L W fi) (LG K L W0 is g) (LT K L W0 tt) (LE K L W0 te) is σ H Q := by
  obtain ⟨α, M, s, r, sl, h⟩ := h
  refine ⟨α, M, s, r, sl, (PostR.bind (R := RIt _ _) h).imp fun J H1 ⟨nx, α1, M1, l1, r1, it, h1⟩ D hD => ?_⟩
  dsimp only at h1
  split at h1
  · rename_i hz
    have hz := dt hz
    have sl1 := (sl.le l1).wipe is
    have nd : D ∉ α1 := fun hm => by
      obtain ⟨u, hu, _⟩ := r1.mem hm
      rw [hD] at hu; cases hu
    -- what holds between two turns
    refine ⟨fun i m H => ∃ α M acc accV, i + m = nx.2 ∧ acc.length ≤ i ∧ Le α1 H1 α H ∧ Rel K L α M H ∧ H D = some (.lst accV) ∧ D ∉ α ∧ Reps K α H acc accV ∧
      PostR K L (Rep K) ((lcL nx.1 g tt te (wipeD s is) m i M).bind fun ys M2 => .ok (.ref M2.length) (M2 ++ [.lst (acc ++ ys)])) α1 H1 Q (fun c d H' => W c d σ H'), ⟨nx.2, ?_⟩, ?_⟩
    · have rT : Rel K L α1 M1 (upd H1 D (.lst [])) := ⟨r1.len, r1.nd, fun i x a e1 e2 => by
        obtain ⟨u, hu, _⟩ := (r1.ob i x a e1 e2).ours
        refine (r1.ob i x a e1 e2).stayW ⟨⟨[], by simp⟩, fun a ys e => by rw [upd_ne (ne_of_none e hD)]; exact e, fun a q ys e => by rw [upd_ne (ne_of_none e hD)]; exact e⟩ (by rw [upd_ne (ne_of_none hu hD)]) (fun dd fs _ e => by rw [upd_ne (ne_of_none e hD)]; exact e) fun _ _ z => z⟩
      exact ⟨α1, M1, [], [], by omega, Nat.le_refl _, out_le (Le.refl _ _) hD nd, rT, upd_same, nd, reps_nil, h1⟩
    · rintro i m H ⟨α, M, acc, accV, hn, hl, le, r, hH, ndα, hacc, hp⟩
      cases m with
      | zero => exact hp.elim
      | succ k =>
        have q := it i α H M le.lx r
        unfold lcL at hp
        cases e : nx.1 i M with
        | none => rw [e] at hp; exact hp.elim
        | some o =>
          rw [e] at hp q
          cases o with
          | none =>
            refine .inl ⟨q, ?_⟩
            have hp' : PostR K L (Rep K) (.ok (.ref M.length) (M ++ [.lst (acc ++ [])])) α1 H1 Q (fun c d H' => W c d σ H') := hp
            rw [List.append_nil] at hp'
            obtain ⟨β, eβ, fβ⟩ := le.ext
            have le2 : Le α1 H1 (α ++ [D]) H := ⟨⟨β ++ [D], by rw [eβ, List.append_assoc], fun b hb => by
              rcases List.mem_append.mp hb with z | z
              · exact fβ b z
              · rw [List.mem_singleton.mp z]; exact hD⟩, le.keep, le.dom, le.tups, le.rols⟩
            exact hp' _ H _ le2 (out_in r hH ndα hacc) (rep_ref (by rw [← r.len]; simp))
          | some d =>
            obtain ⟨q1, q2⟩ := q
            refine .inr ⟨q1, fun H => ∃ α M acc accV, (i + 1) + k = nx.2 ∧ acc.length ≤ i + 1 ∧ Le α1 H1 α H ∧ Rel K L α M H ∧ H D = some (.lst accV) ∧ D ∉ α ∧ Reps K α H acc accV ∧
              PostR K L (Rep K) ((lcL nx.1 g tt te (wipeD s is) k (i + 1) M).bind fun ys M2 => .ok (.ref M2.length) (M2 ++ [.lst (acc ++ ys)])) α1 H1 Q (fun c d H' => W c d σ H'), fun H' z => ⟨k, Nat.lt_succ_self _, z⟩, fun x H2 y => ?_⟩
            obtain ⟨lx, r2, rd⟩ := q2 x H2 y
            have le2 := le.trans lx
            -- D under a step of ours
            have keepD : ∀ {α α' : List Addr} {H H' : Hp} {M' : Mem}, Le α H α' H' → Rel K L α' M' H' → H D = some (.lst accV) → D ∉ α → H' D = some (.lst accV) ∧ D ∉ α' := fun {α α' H H' M'} l r' e n => by
              refine ⟨l.keep _ _ e n, fun hm => ?_⟩
              obtain ⟨β, eβ, fβ⟩ := l.ext
              rw [eβ] at hm
              rcases List.mem_append.mp hm with z | z
              · exact n z
              · rw [fβ D z] at e; cases e
            obtain ⟨hH2, nd2⟩ := keepD lx r2 hH ndα
            dsimp only at hp
            rw [bind_bind] at hp
            refine ⟨α, M, wipeD s is, d, r2, sl1.le le2, rd, (nox_bind (R := RSl K is (L2.wipe σ is)) hp _).imp fun σ2 H3 ⟨s1, α3, M3, l3, r3, ⟨q3, q4⟩, h3⟩ _ => ⟨q4.wipe, ?_⟩⟩
            obtain ⟨hH3, nd3⟩ := keepD l3 r3 hH2 nd2
            have le3 := le2.trans l3
            dsimp only at h3
            rw [bind_bind] at h3
            refine ⟨α3, M3, s1, r3, q3, (nox_bind (R := RB) h3 _).imp fun b H4 ⟨b', α4, M4, l4, r4, eb, h4⟩ => ?_⟩
            obtain ⟨hH4, nd4⟩ := keepD l4 r4 hH3 nd3
            have le4 := le3.trans l4
            subst eb
            dsimp only at h4
            cases b' with
            | false => exact iteF ⟨α4, M4, acc, accV, by omega, by omega, le4, r4, hH4, nd4, ((hacc.le lx).le l3).le l4, h4⟩
            | true =>
              refine iteT ?_
              dsimp only at h4
              rw [bind_bind] at h4
              refine ⟨α4, M4, s1, r4, q3.le l4, (nox_bind (R := Rep K) h4 _).imp fun y H5 ⟨dy, α5, M5, l5, r5, ry, h5⟩ => ?_⟩
              obtain ⟨hH5, nd5⟩ := keepD l5 r5 hH4 nd4
              have le5 := le4.trans l5
              have hacc5 := (((hacc.le lx).le l3).le l4).le l5
              refine ⟨accV, hH5, ?_, α5, M5, acc ++ [dy], accV ++ [y], by omega, by rw [List.length_append, List.length_singleton]; omega, out_le le5 hD nd5, out_rel r5 hH5 nd5, upd_same, nd5, (hacc5.append (reps_cons ry reps_nil)).lw (out_lw hH5), ?_⟩
              · rw [← hacc5.length]; omega
              · dsimp only at h5
                rw [bind_bind] at h5
                have ea : ∀ ys : List Fl.D, acc ++ [dy] ++ ys = acc ++ (dy :: ys) := fun ys => by simp
                simp only [ea]
                exact h5
  · exact h1.elim
theorem fe_lc {elt tg iter : Expr} {ifs : List Expr} {scope : Scope} {own : List (Str × Nat)} {pos : Pos} {fi : IF} {g : GF} {tt : TF} {te : EF} {is : List Nat} (hc : X.calm = true) (hN : X.N.Nodup) (hi : FI X L W tg iter fi) (ok : BlkOk X.N X.env.scope scope own) (ei : own.map (·.2) = is)
    (hg : ∀ (s : Shared) (H : Hp) (C : Addr) (cl : List (Str × Addr)) (fp : List Addr), FG (X.blk s H scope (compEnvC scope cl C X.env) fp) L W0 is tg g) (ht : ∀ (s : Shared) (H : Hp) (C : Addr) (cl : List (Str × Addr)) (fp : List Addr), FTs (X.blk s H scope (compEnvC scope cl C X.env) fp) L W0 ifs tt)
    (he : ∀ (s : Shared) (H : Hp) (C : Addr) (cl : List (Str × Addr)) (fp : List Addr), FE (X.blk s H scope (compEnvC scope cl C X.env) fp) L W0 elt te) (hs : ∀ x, foldedSetIterable iter X.env x = pure x := by intro _; rfl) :
    FE X L W (.ListComp elt [⟨tg, iter, ifs, 0⟩] scope pos) (dLc fi g tt te is) := by
  subst ei
  exact peImp (pe_lc hc hN hi ok hg ht he hs) fun σ H Q h => lc_go h
theorem fs_setLc {i : Nat} {y : Str} {py : Pos} {elt tg iter : Expr} {ifs : List Expr} {scope : Scope} {own : List (Str × Nat)} {pos spos : Pos} {fi : IF} {g : GF} {tt : TF} {te : EF} {is : List Nat} (hc : X.calm = true) (hN : X.N.Nodup) (hy : X.N[i]? = some y) (hyl : X.env.scope.names.lookup y = some .local)
    (hsw : swapsWith (.ListComp elt [⟨tg, iter, ifs, 0⟩] scope pos) (some (.Name y py)) spos.line X.env = pure true) (hi : FI X L W tg iter fi) (ok : BlkOk X.N X.env.scope scope own) (ei : own.map (·.2) = is)
    (hg : ∀ (s : Shared) (H : Hp) (C : Addr) (cl : List (Str × Addr)) (fp : List Addr), FG (X.blk s H scope (compEnvC scope cl C X.env) fp) L W0 is tg g) (ht : ∀ (s : Shared) (H : Hp) (C : Addr) (cl : List (Str × Addr)) (fp : List Addr), FTs (X.blk s H scope (compEnvC scope cl C X.env) fp) L W0 ifs tt)
    (he : ∀ (s : Shared) (H : Hp) (C : Addr) (cl : List (Str × Addr)) (fp : List Addr), FE (X.blk s H scope (compEnvC scope cl C X.env) fp) L W0 elt te) (hs : ∀ x, foldedSetIterable iter X.env x = pure x := by intro _; rfl) :
    FS X L W (.Assign [.Name y py] (.ListComp elt [⟨tg, iter, ifs, 0⟩] scope pos) spos) (sSet i (dLc fi g tt te is)) := by
  subst ei
  refine psImp (ps_setLc hc hN hy hyl hsw hi ok hg ht he hs) fun D σ H ⟨α, M, s, r, sl, h⟩ => lc_go ⟨α, M, s, r, sl, ?_⟩
  exact (PostR.toS (R := Rep _) sl h).imp fun x H1 ⟨dx, α1, M1, l1, r1, rx, h1⟩ => h1 α1 H1 _ (Le.refl _ _) r1 ((sl.le l1).set i rx)
end
end Fl
namespace Fl
open PySem PySem.Spec L2
open PyProof.Rows (envOfC)
def startD (n : Nat) (ds : List D) : Sl := ds.map some ++ List.replicate (n - ds.length) none
theorem start_slots {K : PySem.W.Frag} {α : List Addr} {H : Hp} {N : List Str} {ds : List D} {vs : List V} (h : Reps K α H ds vs) : Slots K α H (startD N.length ds) (L2.start N vs) := by
  have hl := h.length
  unfold startD L2.start
  refine ⟨by rw [List.length_append, List.length_append, List.length_map, List.length_map, List.length_replicate, List.length_replicate, hl], fun i d e => ?_⟩
  by_cases hi : i < ds.length
  · rw [List.getElem?_append_left (by rw [List.length_map]; exact hi), List.getElem?_map] at e
    rw [List.getElem?_append_left (by rw [List.length_map]; omega), List.getElem?_map]
    cases q : ds[i]? with
    | none => rw [q] at e; cases e
    | some x =>
      rw [q] at e
      have e' : x = d := Option.some.inj (Option.some.inj e)
      subst e'
      obtain ⟨v, e1, r⟩ := h.at q
      exact ⟨v, by rw [e1]; rfl, r⟩
  · rw [List.getElem?_append_right (by rw [List.length_map]; omega), List.getElem?_replicate] at e
    split at e <;> cases e
section
variable {P : Program} {w : World} {K : PySem.W.Frag} {L : Lay} {mg : Str → Option Value} {base : Heap} {x qual : Str} {params : Arguments} {body : List Stmt} {scope : Scope} {dvs : List V} {kws : List (Str × V)} {f : Addr} {fd : FuncData} {N ps : List Str} {k : Nat} {S : List D → Mem → Res D} {fb : SF}
abbrev WD (E : XK) : WX := fun cls d _ H => E cls d H
theorem def_ok (F : FunD K x qual params body scope dvs kws f fd) (sc : FnScope N ps scope) (ar : Arity ps.length S)
    (hb : ∀ (cdv : Value) (A : Around) (outer : List Env) (s : Shared) (H : Hp) (E : XK), Room k (A.deeper (envOfC qual scope s.heap.objs.size f cdv)) → Takes (cxOf (L2.CX P w) P w K mg base N qual scope f cdv A outer s H E) (WD E) →
      PassesOwn (model P w) (A.deeper (envOfC qual scope s.heap.objs.size f cdv)) (envOfC qual scope s.heap.objs.size f cdv) (cxOf (L2.CX P w) P w K mg base N qual scope f cdv A outer s H E).xe →
      FSs (cxOf (L2.CX P w) P w K mg base N qual scope f cdv A outer s H E) L (WD E) body fb)
    (hS : ∀ ds M, ds.length = ps.length → S ds M = (fb (startD N.length ds) M).fin) : FnOk P w K mg base (L2.CX P w) (k + 1) f fd ps (spF K L S) := by
  refine F.ok sc (spF_len ar) fun cdv A outer s H vs Q E hr h => ⟨_, hb cdv A outer s H E hr (takes_of rfl rfl rfl rfl) (passes_of rfl), ?_⟩
  have hl := spF_len ar _ _ _ _ h
  obtain ⟨α, M, ds, r, rs, p⟩ := h
  refine ⟨α, M, _, r, start_slots rs, ?_⟩
  rw [hS ds M (rs.length.trans hl)] at p
  cases e : fb (startD N.length ds) M with
  | nx s1 M1 => rw [e] at p; exact fun α' H' σ l r' _ => p α' H' .non l r' rep_non
  | rt d M1 => rw [e] at p; exact p
  | bk s1 M1 => rw [e] at p; exact p.elim
  | ct s1 M1 => rw [e] at p; exact p.elim
  | exc c f s1 M1 => rw [e] at p; exact fun α' H' σ cls d l r' _ => p α' H' cls d l r'
  | bad => rw [e] at p; exact p.elim
end
section
variable {K : PySem.W.Frag} {L : Lay} {α α' : List Addr} {M : Mem} {H H' : Hp}
theorem Le.add {p : Addr} {o : HO} (n : H p = none) : Le α H α (upd H p o) := by
  refine ⟨⟨[], by simp, by simp⟩, fun a u h _ => ?_, fun a h => ?_, fun a xs h => ?_, fun a q xs h => ?_⟩
  · rw [upd_ne (ne_of_none h n)]; exact h
  · by_cases q : a = p
    · rw [q, upd_same]; exact fun z => nomatch z
    · rw [upd_ne q]; exact h
  · rw [upd_ne (ne_of_none h n)]; exact h
  · rw [upd_ne (ne_of_none h n)]; exact h
theorem Rel.add (r : Rel K L α M H) {p : Addr} {ho : HO} (n : H p = none) : Rel K L α M (upd H p ho) := by
  refine ⟨r.len, r.nd, fun i o a h1 h2 => (r.ob i o a h1 h2).stay (Le.add n) r ?_ fun _ _ h => h⟩
  obtain ⟨u, hu, _⟩ := (r.ob i o a h1 h2).ours
  rw [upd_ne (ne_of_none hu n)]
end
def sRaise (c : Nat) : SF := fun s M => .exc c none s M
def sRaise1 (c i : Nat) (fa : EF) : SF := fun s M => (fa s M).toS s fun d M1 => .exc c (some (i, d)) s M1
structure ExK (K : PySem.W.Frag) (mg : Str → Option Value) (x : Str) (C : Addr) : Prop where
  gC : mg x = some (.ref C)
  ex : PySem.W.excIn K C [.type "ValueError", .type "Exception", .type "BaseException", .type "object"] "ValueError.__new__" = true
  kp : PySem.W.keepIn K (.ref C) = true
  sb : PySem.W.subIn K (.ref C) (.type "BaseException") = some true
  ty : PySem.W.typeIn K (.ref C) = some (.type "type")
structure ExF (K : PySem.W.Frag) (C fI : Addr) (f : Str) : Prop where
  o : OexC K C
  no : PySem.W.findIn K (.ref C) f = some none
  iC : PySem.W.findIn K (.ref C) "__init__" = some (some (.ref fI))
  tI : PySem.W.typeIn K (.ref fI) = some (.type "function")
def spXI (K : PySem.W.Frag) (f : Str) : Sp := fun vs H Q _ => ∃ (a C : Addr) (y : V), vs = [.ref a, y] ∧ OexC K C ∧ PySem.W.findIn K (.ref C) f = some none ∧ H a = some (exo a C none) ∧
  ∀ dx, H dx = none → dx ≠ a → Q .non (upd (upd H dx (exd dx [(f, y)])) a (exo a C (some dx)))
section
variable {X : Cx} {L : Lay} {W : WX} {x m : Str} {j : Nat} {p p2 p3 pos : Pos} {e : Expr} {f : EF}
theorem fs_raise {c : Nat} (hc : X.calm = true) (tk : Takes X W) (T : ExK X.K X.mg x (L.cls c)) (hg : Gl X x) (hdb : (x == ("__debug__" : Str)) = false := by decide) : FS X L W (.Raise (some (.Call (.Name x p) [.Constant (.str m) j p2] [] p3)) none pos) (sRaise c) :=
  psImp (ps_raise hc tk (pmk_own PySem.F.excBase_ValueError T.ex T.gC T.kp (raises_own T.sb T.ty) hg hdb)) fun D σ H ⟨α, M, s, r, sl, h⟩ => h α H σ _ _ (Le.refl _ _) r sl ⟨rfl, rfl⟩
theorem fs_raise1 {c i k : Nat} {fI : Addr} {fd : FuncData} {ps : List Str} {fn : Str} (hc : X.calm = true) (tk : Takes X W) (T : ExF X.K (L.cls c) fI fn) (hn : L.nm i = fn) (F1 : FnOk X.prog X.w X.K X.mg X.base CX0 k fI fd ps (spXI X.K fn)) (hr : Room (k + 1) X.A) (hb : Binds X.K fd ps []) (hg : Gl X x) (hm : X.mg x = some (.ref (L.cls c)))
    (ha : FE X L W e f) (hdb : (x == ("__debug__" : Str)) = false := by decide) (he : starEach [e] X.env = (false, eval e X.env) :: starEach [] X.env := by rfl) : FS X L W (.Raise (some (.Call (.Name x p) [e] [] p3)) none pos) (sRaise1 c i f) :=
  psImp (ps_raise hc tk (pmk_oex T.o T.iC T.tI F1 hr hb .nil pass0 hg hm (pa_cons ha pa_nil he) hdb he rfl)) fun D σ H ⟨α, M, s, r, sl, h⟩ =>
    ⟨α, M, s, r, sl, (PostR.toS (R := Rep _) sl h).imp fun v H1 ⟨d, α1, M1, l1, r1, rd, h1⟩ => ⟨by show 1 ≤ 1000; decide, fun a hna => ⟨a, L.cls c, v, rfl, T.o, T.no, upd_same, fun dx hdx ne => by
      have hd1 : H1 dx = none := by rw [upd_ne ne] at hdx; exact hdx
      have e1 : upd (del (upd (upd (upd H1 a (exo a (L.cls c) none)) dx (exd dx [(fn, v)])) a (exo a (L.cls c) (some dx))) a) dx (.xd [(fn, v)]) = upd H1 dx (.xd [(fn, v)]) := by
        funext b
        by_cases q : b = dx
        · rw [q, upd_same, upd_same]
        · rw [upd_ne q, upd_ne q]
          by_cases q2 : b = a
          · rw [q2, del_same, hna]
          · rw [del_ne q2, upd_ne q2, upd_ne q, upd_ne q2]
      refine ⟨rfl, dx, _, upd_same, by rw [upd_ne ne, upd_same], hd1, ?_⟩
      rw [e1]
      subst hn
      exact h1 α1 _ σ _ _ (Le.add hd1) (r1.add hd1) ((sl.le l1).le (Le.add hd1)) ⟨rfl, dx, v, rfl, upd_same, rd.le (Le.add hd1)⟩⟩⟩⟩
end
end Fl
namespace Fl
open PySem PySem.Spec L2
section
variable {X : Cx} {pins : List (Addr × Obj)} {σ : L2.St} {H : Hp} {s : Shared} {a : Addr} {o : HO} {oe : Obj} {vs : Array Value}
theorem Inv.track (I : L2.Inv X pins σ H s) (he : s.heap.get? a = some oe) (hd : oe.data = .fields vs) (na : H a = none) (n0 : X.s_0.heap.get? a = none) (nL : a ≠ X.env.locals) (np : ∀ p ∈ X.pn ++ pins, p.1 ≠ a) (ob : ObjOk X.prog X.w (upd H a o) s.heap a o) : L2.Inv X pins σ (upd H a o) s := by
  have ne0 : ∀ b ob, X.s_0.heap.get? b = some ob → b ≠ a := fun b ob e z => by rw [z, n0] at e; cases e
  have neC : ∀ x c, X.env.cells.lookup x = some c → c ≠ a := fun x c e z => by
    obtain ⟨v, oc, h1, h2⟩ := I.cell x c e
    rw [z, he] at h1; cases h1
    rw [hd] at h2; cases h2
  refine { ok := I.ok, os := I.os, bare := I.bare, loc := I.loc, cell := I.cell, len := I.len, base := ?_, free := ?_, freeC := ?_, pin := ?_, hok := ?_ }
  · exact ⟨I.base.keep, I.base.slot, fun b ob e n hx => by rw [upd_ne (ne0 b ob e)]; exact I.base.free b ob e n hx, I.base.there,
      fun b xs e => by rw [upd_ne (ne_of_none (I.base.tups b xs e) na)]; exact I.base.tups b xs e,
      fun b ob u e => by rw [upd_ne (ne_of_none (I.base.frzs b ob u e) na)]; exact I.base.frzs b ob u e,
      fun b ps e => by
        obtain ⟨m, q⟩ := I.base.tbls b ps e
        exact ⟨m, by rw [upd_ne (ne_of_none q na)]; exact q⟩⟩
  · rw [upd_ne (Ne.symm nL)]; exact I.free
  · intro x c e
    rw [upd_ne (neC x c e)]; exact I.freeC x c e
  · intro p hp
    obtain ⟨h1, h2, h3⟩ := I.pin p hp
    exact ⟨h1, by rw [upd_ne (np p hp)]; exact h2, h3⟩
  · intro b u e
    by_cases hb : b = a
    · subst hb
      rw [upd_same] at e; cases e
      exact ob
    · rw [upd_ne hb] at e
      exact (I.hok b u e).stay (fun _ _ _ q => q) (fun c q => by rw [upd_ne (ne_of_none q na)]; exact q) fun c xs q => by rw [upd_ne (ne_of_none q na)]; exact q
end
theorem exH_ok {P : Program} {w : World} {H : Hp} {h : Heap} {a : Addr} {cls : Value} {d : Option Addr} {oe : Obj} {vs : Array Value} (he : h.get? a = some oe) (hz : Zc cls d oe) (hd : oe.data = .fields vs) : ObjOk P w H h a (ExH cls d a) :=
  ⟨⟨oe, vs, he, hz, hd⟩, ⟨oe, he⟩, fun _ _ ⟨o, v, q, r⟩ k => ⟨o, v, k o q, r⟩⟩
abbrev Clause := (Nat → Option Bool) × Nat × SF
def unname (i : Nat) : SR → SR
  | .nx s M => .nx (s.set i none) M
  | .bk s M => .bk (s.set i none) M
  | .ct s M => .ct (s.set i none) M
  | .rt d M => .rt d M
  | _ => .bad
def handle : List Clause → Nat → Option (Nat × D) → SF
  | [], c, f, s, M => .exc c f s M
  | (tab, i, su) :: r, c, f, s, M => match tab c with
    | some true => unname i (su (s.set i (some (.ref M.length))) (M ++ [.exc c f]))
    | some false => handle r c f s M
    | none => .bad
def sTry (fb : SF) (cl : List Clause) : SF := fun s M => match fb s M with
  | .exc c f s1 M1 => handle cl c f s1 M1
  | r => r
abbrev sx (X : Cx) (a : Addr) : Cx := { X with A := X.A.mark (some (.ref a)), calm := false, xe := fun _ _ => False }
inductive HdF (X : Cx) (L : Lay) : List ExceptHandler → List Clause → Prop
  | nil : HdF X L [] []
  | cons {x n : Str} {cv : Value} {i : Nat} {tab : Nat → Option Bool} {su : SF} {b₀ : Stmt} {suite : List Stmt} {np pos' : Pos} {hds : List ExceptHandler} {l : List Clause} (hc : Names X x cv) (hi : X.N[i]? = some n) (hln : X.env.kindOf n = some .local)
      (ht : ∀ c b, tab c = some b → PySem.W.exmOne X.K (.ref (L.cls c)) cv = some b) (hsu : ∀ a : Addr, FSs (sx X a) L W0 (b₀ :: suite) su) (r : HdF X L hds l) :
      HdF X L (.ExceptHandler (some (.Name x np)) (some n) (b₀ :: suite) pos' :: hds) ((tab, i, su) :: l)
def wTry (K : PySem.W.Frag) (L : Lay) (W : WX) (cl : List Clause) (D : Ends) : WX := fun cls d σ H => ∃ c f s α M, Rel K L α M H ∧ Slots K α H s σ ∧ XRep K L α H c f cls d ∧ PostS K L W D α H (handle cl c f s M)
theorem sx_ok {X : Cx} (ok : X.Ok) (a : Addr) : (sx X a).Ok :=
  { mod := ok.mod, kind := ok.kind, glob := ok.glob, blt := ok.blt, above := ok.above, inj := ok.inj, has := ok.has, cab := ok.cab, hd := fun z => Bool.noConfusion z, frames := ok.frames, stk := ok.stk, exf := ok.exf, bs := ok.bs, bsz := ok.bsz, noex := ok.noex, exfs := ok.exfs, funs := ok.funs, frf := ok.frf }
theorem Inv.sx {X : Cx} {pins : List (Addr × Obj)} {σ : L2.St} {H : Hp} {s : Shared} (I : L2.Inv X pins σ H s) (a : Addr) : L2.Inv (sx X a) pins σ H s :=
  { ok := sx_ok I.ok a, os := I.os, bare := I.bare, base := I.base, loc := I.loc, cell := I.cell, free := I.free, freeC := I.freeC, pin := I.pin, hok := I.hok, len := I.len }
theorem Inv.unsx {X : Cx} {pins : List (Addr × Obj)} {σ : L2.St} {H : Hp} {s : Shared} {a : Addr} (ok : X.Ok) (I : L2.Inv (Fl.sx X a) pins σ H s) : L2.Inv X pins σ H s :=
  { ok := ok, os := I.os, bare := I.bare, base := I.base, loc := I.loc, cell := I.cell, free := I.free, freeC := I.freeC, pin := I.pin, hok := I.hok, len := I.len }
section
variable {X : Cx} {L : Lay} {W : WX} {body : List Stmt} {h₀ : ExceptHandler} {hds : List ExceptHandler} {cl : List Clause} {pos : Pos} {fb : SF}
theorem fs_try (hs : X.stack = X.env :: X.outer) (hf : X.env.frame = some X.env.locals) (hex : X.ex = []) (hN : X.N.Nodup) (tk : Takes X W)
    (hb : ∀ (W' : WX) (pn : List (Addr × Obj)) (xe : Value → Shared → Prop), Takes (X.tr pn xe) W' → PassesOwn (model X.prog X.w) X.A X.env xe → FSs (X.tr pn xe) L W' body fb)
    (hh : HdF X L (h₀ :: hds) cl) : FS X L W (.Try body (h₀ :: hds) [] [] pos) (sTry fb cl) := by
  refine ⟨fun pins s0 σ0 H0 D I ⟨α, M, sd, r, sl, h⟩ => ?_⟩
  have ok := I.ok
  have hfr : X.A.frames = some (X.env :: X.outer) := ok.frames.trans (congrArg some hs)
  -- the body's reading, with the wish of the clauses
  have hbody : LS X.K L (wTry X.K L W cl D) fb D σ0 H0 := by
    refine ⟨α, M, sd, r, sl, ?_⟩
    unfold sTry at h
    cases e : fb sd M with
    | exc c f s1 M1 => rw [e] at h; exact fun α' H' σ cls d l r' sl' x => ⟨c, f, s1, α', M1, r', sl', x, PostS.le l h⟩
    | nx s1 M1 => rw [e] at h; exact h
    | bk s1 M1 => rw [e] at h; exact h
    | ct s1 M1 => rw [e] at h; exact h
    | rt d M1 => rw [e] at h; exact h
    | bad => rw [e] at h; exact h
  refine wpAny_Try_except (wpAny_mono ((hb (wTry X.K L W cl D) (X.pn ++ pins) (fun e s₁ => wpAny (model X.prog X.w) X.A (noteFrame e X.env) (fun _ s₂ => wpAny (model X.prog X.w) X.A (setFlight e none) (fun _ s₃ =>
    wpAny (model X.prog X.w) X.A (handleBy e X.env (h₀ :: hds)) (SP X pins D) X.xe s₃) X.xe s₂) X.xe s₁) (fun u s' xx => ?_) PassesOwn.looking).run [] s0 σ0 H0 D (I.toTry _) hbody) (fun f s1 hsp => ?_) (fun e s1 he => he))
  · -- an error
    obtain ⟨a, B, sI, pins', σ, H, cls, d, rfl, J', nb, up, sky, na, os, ag, c, f, s1, α1, M1, r1, sl1, x1, h1⟩ := xx
    have J : L2.Inv X pins σ H sI := J'.ofTry ok
    have sky' : Sky B (X.env :: X.outer) a (Zc cls d) X.env.locals s'.heap := hs ▸ sky
    refine Sky.land (s := s') (env := X.env) Zc.steady hfr hf sky' fun h3 fl3 up3 => ?_
    have J3 : L2.Inv X pins σ H { s' with heap := h3 } := J.landed nb fl3.1 (up.trans up3) os ag
    obtain ⟨oe3, vs3, he3, hz3, hd3⟩ := fl3.there
    -- the error's object is none of the frames, and new
    have nfr : a ∉ frs (X.env :: X.outer) := fun hm => by
      obtain ⟨_, o', e', hnf⟩ := fl3.2.2.1.mem hm
      rw [he3] at e'; cases e'
      exact hnf _ hd3
    have nL : a ≠ X.env.locals := fun z => nfr (List.mem_filterMap.mpr ⟨X.env, List.mem_cons_self, hf.trans (congrArg some z.symm)⟩)
    have nI : sI.heap.get? a = none := by
      cases e : sI.heap.get? a with
      | none => rfl
      | some o =>
        have q := nb a o e (by rw [hs]; exact nfr)
        rw [fl3.2.1] at q; cases q
    have n0 : X.s_0.heap.get? a = none := by
      cases e : X.s_0.heap.get? a with
      | none => rfl
      | some o =>
        obtain ⟨o', q⟩ := J.base.there a o e (by rw [hex]; exact fun z => nomatch z)
        rw [nI] at q; cases q
    have np : ∀ p ∈ X.pn ++ pins, p.1 ≠ a := fun p hp z => by
      have q := (J.pin p hp).1
      rw [z, nI] at q; cases q
    -- clause by clause
    have go : ∀ {hds' : List ExceptHandler} {l' : List Clause}, HdF X L hds' l' → PostS X.K L W D α1 H (handle l' c f s1 M1) → wpAny (model X.prog X.w) X.A (handleBy (.ref a) X.env hds') (SP X pins D) X.xe { s' with heap := h3 } := by
      intro hds' l' hk
      induction hk with
      | nil =>
        intro hp
        refine wpAny_handleBy_nil ?_
        obtain ⟨_, _, _, oe, vs, T, oT, ts', he, _, hd, hv1, _⟩ := id fl3
        have fin : wpAny (model X.prog X.w) X.A (setFlight (.ref a) X.env.frame) (fun _ s4 => wpAny (model X.prog X.w) X.A (throw (.ref a) : Sem Flow) (SP X pins D) X.xe s4) X.xe { s' with heap := h3 } := by
          rw [hf]
          exact HandSPX.setFlight_upZ fl3 fun h4 hh4 up4 => wpAny_throw (tk _ _ ⟨a, B, sI, pins, σ, H, cls, d, rfl, J, nb, (up.trans up3).trans up4, .inr (.inr (hs ▸ hh4)), na, os, ag, hp α1 H σ cls d (Le.refl _ _) r1 sl1 x1⟩)
        unfold PySem.passOn
        refine wpAny_bind (wpAny_field he hd hv1 ?_)
        rw [if_neg (show ¬ ((Value.ref T == Value.none) = true) from fun z => by simp at z)]
        first
          | exact wpAny_bind fin
          | exact wpAny_bind (wpAny_pure (wpAny_bind fin))
      | @cons x n cv i tab su b₀ suite np' pos' hds2 l2 hc hi hln ht hsu _ ih =>
        intro hp
        unfold handle at hp
        cases et : tab c with
        | none => rw [et] at hp; exact hp.elim
        | some b =>
          rw [et] at hp
          have hb1 : PySem.W.exmOne X.K cls cv = some b := by rw [x1.1]; exact ht c b et
          have S3 := Inv.sx J3 a
          have LT : PySem.W.Looks (model X.prog X.w) h3 (typeOf (.ref a)) cls := fun A Q E s k q => wpAny_typeOf_ref (k _ _ he3) (hz3.1 ▸ q)
          have LM := PySem.W.exm_one (M := model X.prog X.w) J3.kIn LT hb1
          have test : ∀ {Q : Value → Shared → Prop} {E : Value → Shared → Prop}, Q cv { s' with heap := h3 } → wpAny (model X.prog X.w) (X.A.mark (some (.ref a))) (eval (.Name x np') X.env) Q E { s' with heap := h3 } := fun {Q E} q => by
            obtain ⟨hg, hdbg, hm⟩ := hc
            rcases hm with hm | ⟨hm, hv, hnn⟩
            · exact ld_glob (X := Fl.sx X a) S3 hg hm q hdbg
            · exact ld_blt (X := Fl.sx X a) S3 hg hm hv q hnn hdbg
          refine wpAny_handleBy_cons (codeAny_handlers_test (test (LM.here ?_))) (fun q => nomatch q)
          cases b with
          | false => exact ih hp
          | true =>
            refine codeAny_handlers_suite_as (HandSPX.lands_againZ fl3 fun h4 fl4 up4 => ?_)
            have J4 : L2.Inv X pins σ H { s' with heap := h4 } := J.landed nb fl4.1 ((up.trans up3).trans up4) os ag
            obtain ⟨oe4, vs4, he4, hz4, hd4⟩ := fl4.there
            have T4 : L2.Inv X pins σ (upd H a (ExH cls d a)) { s' with heap := h4 } := Inv.track J4 he4 hd4 na n0 nL np (exH_ok he4 hz4 hd4)
            have out := x1.out r1
            have rx : Rel X.K L (α1 ++ [a]) (M1 ++ [.exc c f]) (upd H a (ExH cls d a)) := r1.new (o := .exc c f) na ⟨cls, d, upd_same, x1.lw (Le.new na).lw (fun dd fs _ q => by rw [upd_ne (ne_of_none q na)]; exact q), fun dd ed hm => by
              rcases List.mem_append.mp hm with z | z
              · exact out dd ed z
              · have x2 := x1.2
                cases f with
                | none => rw [x2] at ed; cases ed
                | some pf =>
                  obtain ⟨d2, v, e2, hd2, _⟩ := x2
                  rw [ed] at e2; cases e2
                  rw [List.mem_singleton.mp z, na] at hd2; cases hd2⟩
            have lx : Le α1 H (α1 ++ [a]) (upd H a (ExH cls d a)) := Le.new na
            have rr : Rep X.K (α1 ++ [a]) (upd H a (ExH cls d a)) (.ref M1.length) (.ref a) := rep_ref (by rw [← r1.len]; simp)
            refine store_ok (X := Fl.sx X a) (v := .ref a) (Inv.sx T4 a) hN hi (.inl hln) rfl (fun s5 S5 => ?_) (.inr hln)
            -- the ends of the suite
            have end_ : ∀ {σ6 : L2.St} {H6 : Hp} {s6 : Shared} {Q : Shared → Prop}, L2.Inv (Fl.sx X a) pins σ6 H6 s6 → (∀ s7, L2.Inv X pins (σ6.set i none) H6 s7 → Q s7) →
                wpAny (model X.prog X.w) X.A (do bindName X.env n .none; unbindBehindTheSuite X.env n pos') (fun _ s7 => Q s7) X.xe s6 := fun S6 hq => gone_ok (Inv.unsx ok S6) hN hi hln hq
            have hq := PostS.le lx hp
            refine wpAny_mono ((hsu a).run pins s5 _ _ { nx := fun σ' H' => D.nx (σ'.set i none) H', rt := D.rt, bk := fun σ' H' => D.bk (σ'.set i none) H', ct := fun σ' H' => D.ct (σ'.set i none) H' } S5 ⟨_, _, _, rx, (sl1.le lx).set i rr, ?_⟩) (fun fl s6 hsp => ?_) (fun _ _ z => z.elim)
            · cases es : su (s1.set i (some (.ref M1.length))) (M1 ++ [.exc c f]) with
              | nx s2 M2 => simp only [es] at hq; exact fun α' H' σ' l r' sl' => hq α' H' _ l r' (sl'.del i none)
              | bk s2 M2 => simp only [es] at hq; exact fun α' H' σ' l r' sl' => hq α' H' _ l r' (sl'.del i none)
              | ct s2 M2 => simp only [es] at hq; exact fun α' H' σ' l r' sl' => hq α' H' _ l r' (sl'.del i none)
              | rt d M2 => simp only [es] at hq; exact hq
              | exc c f s2 M2 => simp only [es] at hq; exact hq.elim
              | bad => simp only [es] at hq; exact hq.elim
            · cases fl with
              | next => obtain ⟨σ6, H6, S6, q6⟩ := hsp; exact end_ S6 fun s7 J7 => ⟨_, _, J7, q6⟩
              | brk => obtain ⟨σ6, H6, S6, q6⟩ := hsp; exact end_ S6 fun s7 J7 => ⟨_, _, J7, q6⟩
              | cont => obtain ⟨σ6, H6, S6, q6⟩ := hsp; exact end_ S6 fun s7 J7 => ⟨_, _, J7, q6⟩
              | ret u => obtain ⟨v6, σ6, H6, S6, r6, q6⟩ := hsp; exact end_ S6 fun s7 J7 => ⟨_, _, _, J7, r6, q6⟩
    exact go hh h1
  · -- no error
    cases f with
    | next => obtain ⟨σ', H', J', q⟩ := hsp; exact wpAny_execs_nil ⟨σ', H', J'.ofTry ok, q⟩
    | brk => obtain ⟨σ', H', J', q⟩ := hsp; exact ⟨σ', H', J'.ofTry ok, q⟩
    | cont => obtain ⟨σ', H', J', q⟩ := hsp; exact ⟨σ', H', J'.ofTry ok, q⟩
    | ret u => obtain ⟨v, σ', H', J', r, q⟩ := hsp; exact ⟨v, σ', H', J'.ofTry ok, r, q⟩
end
end Fl
namespace Fl
open PySem PySem.Spec L2
inductive TyK where
  | non | bl | int | str | tup | lst | dct | ins (c : Nat) | exc (c : Nat)
def tyO (M : Mem) (n : Nat) : Option TyK := match M[n]? with
  | some (.lst _) => some .lst
  | some (.dk _) => some .dct
  | some (.dt _) => some .dct
  | some (.fk _) => some .dct
  | some (.ins c _) => some (.ins c)
  | some (.exc c _) => some (.exc c)
  | _ => none
def tyK (M : Mem) : D → Option TyK
  | .non => some .non
  | .bl _ => some .bl
  | .int _ => some .int
  | .str _ => some .str
  | .tup _ => some .tup
  | .rol _ => some .lst
  | .ref n => tyO M n
def tyVal (L : Lay) : TyK → Value
  | .non => .type "NoneType"
  | .bl => .type "bool"
  | .int => .type "int"
  | .str => .type "str"
  | .tup => .type "tuple"
  | .lst => .type "list"
  | .dct => .type "dict"
  | .ins c => .ref (L.cls c)
  | .exc c => .ref (L.cls c)
structure InsF (K : PySem.W.Frag) (C : Addr) : Prop where
  cl : Cls K C
  ha : PySem.W.findIn K (.ref C) "__class__" = some (some (.builtin "object.__class__"))
  hn : PySem.W.specialIn K (.builtin "object.__class__") "__get__" = some (some (.builtin "getset_descriptor.__get__"))
  ht : PySem.W.takesIn K (.builtin "object.__class__") = some true
  hm : PySem.W.mroIn K C (.type "object") = some true
def gIsi (tab : TyK → Option Bool) : D → Mem → Res D := fun d M => okB M ((tyK M d).bind tab)
theorem tyX_of {K : PySem.W.Frag} {L : Lay} {α : List Addr} {M : Mem} {H : Hp} {d : D} {v : V} {k : TyK} (r : Rel K L α M H) (e : tyK M d = some k) (rd : Rep K α H d v) (hne : ∀ c, k ≠ .exc c) (hi : ∀ c, k = .ins c → InsF K (L.cls c)) : TyX K H v (tyVal L k) := by
  cases d with
  | non => cases e; rw [rd.non]; exact .base .non
  | bl b => cases e; rw [rd.bl]; exact .base (.bl b)
  | int b => cases e; rw [rd.int]; exact .base (.int b)
  | str b => cases e; rw [rd.str]; exact .base (.str b)
  | tup ds =>
    cases e
    obtain ⟨t, vs, rfl, ht, _⟩ := rd.tup
    rcases ht with ht | ⟨_, o, its, n, h1, h2, _⟩
    · exact .base (.tup ht)
    · exact .kTuple h1 h2
  | rol ds =>
    cases e
    obtain ⟨t, vs, rfl, ht, _⟩ := rd.rol
    rcases ht with ⟨o, ht⟩ | ⟨o, its, n, h1, h2, _⟩
    · exact .base (.frz ht)
    · exact .kList h1 h2
  | ref n =>
    obtain ⟨a, ha, rfl⟩ := rd.ref
    have e' : tyO M n = some k := e
    clear e
    have e := e'
    unfold tyO at e
    split at e
    · rename_i eo
      cases e
      obtain ⟨a', ha', vs, hv, _⟩ := r.at eo
      rw [ha] at ha'; cases ha'
      exact .base (.lst hv)
    · rename_i eo
      cases e
      obtain ⟨a', ha', vs, hv, _⟩ := r.at eo
      rw [ha] at ha'; cases ha'
      exact .base (.dK hv)
    · rename_i eo
      cases e
      obtain ⟨a', ha', vs, hv, _⟩ := r.at eo
      rw [ha] at ha'; cases ha'
      exact .base (.dT hv)
    · rename_i eo
      cases e
      obtain ⟨a', ha', o, vs, hv, _⟩ := r.at eo
      rw [ha] at ha'; cases ha'
      exact .fDict hv
    · rename_i c fs eo
      cases e
      obtain ⟨a', ha', dx, vs, hv, _⟩ := r.at eo
      rw [ha] at ha'; cases ha'
      obtain ⟨h1, h2, h3, h4, h5⟩ := hi c rfl
      exact .base (.ins hv h1 h2 h3 h4 h5)
    · cases e
      exact absurd rfl (hne _)
    · cases e
structure XcF (K : PySem.W.Frag) (C : Addr) : Prop where
  cl : (PySem.W.clsIn K C).isSome = true
  ga : PySem.W.findIn K (.ref C) "__getattribute__" = some (some (.builtin "BaseException.__getattribute__"))
  gg : PySem.W.findIn K (.ref C) "__getattr__" = some none
  sb : PySem.W.subIn K (.ref C) (.type "BaseException") = some true
  ha : PySem.W.findIn K (.ref C) "__class__" = some (some (.builtin "object.__class__"))
  hn : PySem.W.specialIn K (.builtin "object.__class__") "__get__" = some (some (.builtin "getset_descriptor.__get__"))
  ht : PySem.W.takesIn K (.builtin "object.__class__") = some true
  hm : PySem.W.mroIn K C (.type "object") = some true
structure TabOk (K : PySem.W.Frag) (L : Lay) (tab : TyK → Option Bool) (cv : Value) : Prop where
  kit : ∀ k b, tab k = some b → PySem.W.kitOne K (tyVal L k) cv = some b
  ins : ∀ c b, tab (.ins c) = some b → InsF K (L.cls c)
  exc : ∀ c b, tab (.exc c) = some b → XcF K (L.cls c)
def ErrAt (H : Hp) (a C : Addr) : Prop := ∃ d, H a = some (ExH (.ref C) d a) ∧ (d = none ∨ ∃ dd fs, d = some dd ∧ H dd = some (.xd fs))
theorem err_inst {X : Cx} {pins : List (Addr × Obj)} {σ : L2.St} {H : Hp} {s : Shared} {a C : Addr} (I : L2.Inv X pins σ H s) (h : ErrAt H a C) : ∃ (ox : Obj) (od : Option Obj), PySem.W.InstAt s.heap a ox C od := by
  obtain ⟨d, ha, hd⟩ := h
  obtain ⟨⟨oe, vs, he, hz, hdat⟩, _⟩ := I.hok a _ ha
  have nc : PySem.W.notCls oe := by unfold PySem.W.notCls; rw [hdat]
  rcases hd with rfl | ⟨dd, fs, rfl, hdd⟩
  · exact ⟨oe, none, he, hz.1, nc, by rw [hz.2]; trivial⟩
  · obtain ⟨mA, hns, _⟩ := (show ObjOk X.prog X.w H s.heap dd (.xd fs) from I.hok dd _ hdd)
    obtain ⟨od, ho, _⟩ := lookIn_ns hns
    exact ⟨oe, some od, he, hz.1, nc, by rw [hz.2]; exact ho⟩
def rIsiX (K : PySem.W.Frag) : List V → Hp → VK → Prop := fun xs H Q => ∃ (x c : V) (t u : Value) (b : Bool), xs = [x, c] ∧ ClsV c u ∧ (TyX K H x t ∨ ∃ a C, x = .ref a ∧ t = .ref C ∧ ErrAt H a C ∧ XcF K C) ∧ PySem.W.kitOne K t u = some b ∧ Q (.bl b) H
theorem call_isiX {X : Cx} : CallR X (.builtin "isinstance") (rIsiX X.K) := fun pins s σ H xs us Q I r h => by
  obtain ⟨x, c, t, u, b, rfl, k, ty, e, q⟩ := h
  rcases ty with ty | ⟨a, C, rfl, rfl, er, T⟩
  · exact call_isi pins s σ H _ us Q I r ⟨x, c, t, u, b, rfl, k, ty, e, q⟩
  · obtain ⟨u1, u2, rfl, r1, r2⟩ := vals2 r
    have e2 := k.eq r2
    subst e2
    obtain rfl : u1 = Value.ref a := r1
    obtain ⟨ox, od, J⟩ := err_inst I er
    exact PySem.W.kia_one (PySem.W.kitx_exc T.cl T.ga T.gg T.sb T.ha T.hn T.ht T.hm) I.kIn J e (fun z => nomatch z) fun tk => ⟨.bl b, H, I.tok tk, rfl, q⟩
section
variable {X : Cx} {L : Lay} {W : WX} {e : Expr} {f : EF} {pos : Pos}
theorem isi_go {K : PySem.W.Frag} {tab : TyK → Option Bool} {cv : Value} {c : V} (T : TabOk K L tab cv) (hcv : ClsV c cv) {σ : L2.St} {H : Hp} {Q : VK} (h : LE K L W (dOp1 (gIsi tab) f) σ H Q) :
    LE K L W f σ H fun x H1 => rIsiX K [x, c] H1 Q := by
  obtain ⟨α, M, s, r, sl, h⟩ := h
  refine ⟨α, M, s, r, sl, (PostR.bind (R := Rep K) h).imp fun x H1 ⟨dx, α1, M1, l1, r1, rx, h1⟩ => ?_⟩
  dsimp only at h1
  unfold gIsi at h1
  cases ek : tyK M1 dx with
  | none => rw [ek] at h1; exact h1.elim
  | some k =>
    rw [ek] at h1
    cases eb : tab k with
    | none =>
      have z : (some k).bind tab = none := eb
      rw [z] at h1; exact h1.elim
    | some b =>
      have z : (some k).bind tab = some b := eb
      rw [z] at h1
      refine ⟨x, c, tyVal L k, cv, b, rfl, hcv, ?_, T.kit k b eb, PostR.pure h1 r1 rep_bl⟩
      by_cases hx : ∃ c, k = .exc c
      · obtain ⟨c', rfl⟩ := hx
        refine .inr ?_
        cases dx <;> try (cases ek; done)
        rename_i n
        obtain ⟨a, ha, rfl⟩ := rx.ref
        have ek' : tyO M1 n = some (.exc c') := ek
        unfold tyO at ek'
        split at ek' <;> try (cases ek'; done)
        rename_i c2 f2 eo
        cases ek'
        obtain ⟨a', ha', cls, d, e1, e2, _⟩ := r1.at eo
        rw [ha] at ha'; cases ha'
        have e3 := e2.1
        subst e3
        refine ⟨a, L.cls c', rfl, rfl, ⟨d, e1, ?_⟩, T.exc c' b eb⟩
        have e4 := e2.2
        cases f2 with
        | none => exact .inl e4
        | some p => obtain ⟨dd, v, z1, z2, _⟩ := e4; exact .inr ⟨dd, _, z1, z2⟩
      · exact .inl (tyX_of r1 ek rx (fun c z => hx ⟨c, z⟩) fun c z => by subst z; exact T.ins c b eb)
theorem fe_isi {tab : TyK → Option Bool} {n : Str} {T : String} {p q : Pos} (ho : TabOk X.K L tab (.type T)) (hg : Gl X "isinstance") (hm : X.mg "isinstance" = none) (hg2 : Gl X n) (hm2 : X.mg n = none) (hv2 : bootBuiltins n = some (.type T)) (he : FE X L W e f)
    (hs : starEach [e, .Name n q] X.env = (false, eval e X.env) :: starEach [.Name n q] X.env := by rfl) (hs2 : starEach [.Name n q] X.env = (false, eval (.Name n q) X.env) :: starEach [] X.env := by rfl) (hn : n ≠ "__name__" := by decide) (hd : (n == ("__debug__" : Str)) = false := by decide)
    (hpl : (backTo pos (starEach [.Name n q] X.env)).any (·.1) = false := by rfl) : FE X L W (.Call (.Name "isinstance" p) [e, .Name n q] [] pos) (dOp1 (gIsi tab) f) :=
  ⟨fun pins s σ H Q I h => (pe_callB call_isiX hg hm (by decide +kernel) (pa_cons he (pa_cons (pe_bltn (v := .ty T) (u := .type T) hg2 hm2 hv2 rfl hn hd) pa_nil hs2) hs) (by decide) (by decide) hs hpl).run pins s σ H Q I (by
    obtain ⟨α, M, sd, r, sl, h⟩ := isi_go ho (.ty T) h
    exact ⟨α, M, sd, r, sl, h.imp fun x H1 q1 => q1⟩)⟩
theorem fe_isiC {tab : TyK → Option Bool} {n : Str} {C : Addr} {p q : Pos} (ho : TabOk X.K L tab (.ref C)) (hg : Gl X "isinstance") (hm : X.mg "isinstance" = none) (hg2 : Gl X n) (hm2 : X.mg n = some (.ref C)) (he : FE X L W e f)
    (hs : starEach [e, .Name n q] X.env = (false, eval e X.env) :: starEach [.Name n q] X.env := by rfl) (hs2 : starEach [.Name n q] X.env = (false, eval (.Name n q) X.env) :: starEach [] X.env := by rfl) (hd : (n == ("__debug__" : Str)) = false := by decide)
    (hpl : (backTo pos (starEach [.Name n q] X.env)).any (·.1) = false := by rfl) : FE X L W (.Call (.Name "isinstance" p) [e, .Name n q] [] pos) (dOp1 (gIsi tab) f) :=
  ⟨fun pins s σ H Q I h => (pe_callB call_isiX hg hm (by decide +kernel) (pa_cons he (pa_cons (pe_glob (v := .ref C) hg2 hm2 rfl hd) pa_nil hs2) hs) (by decide) (by decide) hs hpl).run pins s σ H Q I (by
    obtain ⟨α, M, sd, r, sl, h⟩ := isi_go ho (.own C) h
    exact ⟨α, M, sd, r, sl, h.imp fun x H1 q1 => q1⟩)⟩
end
def tabInt : TyK → Option Bool
  | .int => some true | .bl => some true | .ins _ => none | .exc _ => none | _ => some false
def tabBool : TyK → Option Bool
  | .bl => some true | .ins _ => none | .exc _ => none | _ => some false
def tabStr : TyK → Option Bool
  | .str => some true | .ins _ => none | .exc _ => none | _ => some false
def tabTup : TyK → Option Bool
  | .tup => some true | .ins _ => none | .exc _ => none | _ => some false
def tabLst : TyK → Option Bool
  | .lst => some true | .ins _ => none | .exc _ => none | _ => some false
theorem tab_by {K : PySem.W.Frag} {L : Lay} {tab : TyK → Option Bool} {T : String} (hi : ∀ c, tab (.ins c) = none) (hx : ∀ c, tab (.exc c) = none)
    (h : tab .non = kitB "NoneType" T ∧ tab .bl = kitB "bool" T ∧ tab .int = kitB "int" T ∧ tab .str = kitB "str" T ∧ tab .tup = kitB "tuple" T ∧ tab .lst = kitB "list" T ∧ tab .dct = kitB "dict" T) : TabOk K L tab (.type T) := by
  obtain ⟨h1, h2, h3, h4, h5, h6, h7⟩ := h
  refine ⟨fun k b e => ?_, fun c b e => ?_, fun c b e => by rw [hx] at e; cases e⟩
  · cases k with
    | non => exact kit_ty (h1 ▸ e)
    | bl => exact kit_ty (h2 ▸ e)
    | int => exact kit_ty (h3 ▸ e)
    | str => exact kit_ty (h4 ▸ e)
    | tup => exact kit_ty (h5 ▸ e)
    | lst => exact kit_ty (h6 ▸ e)
    | dct => exact kit_ty (h7 ▸ e)
    | ins c => rw [hi] at e; cases e
    | exc c => rw [hx] at e; cases e
  · rw [hi] at e; cases e
section
variable {K : PySem.W.Frag} {L : Lay}
theorem tabInt_ok : TabOk K L tabInt (.type "int") := tab_by (fun _ => rfl) (fun _ => rfl) (by decide +kernel)
theorem tabBool_ok : TabOk K L tabBool (.type "bool") := tab_by (fun _ => rfl) (fun _ => rfl) (by decide +kernel)
theorem tabTup_ok : TabOk K L tabTup (.type "tuple") := tab_by (fun _ => rfl) (fun _ => rfl) (by decide +kernel)
theorem tabLst_ok : TabOk K L tabLst (.type "list") := tab_by (fun _ => rfl) (fun _ => rfl) (by decide +kernel)
end
end Fl
namespace Fl
open PySem PySem.Spec L2
section
variable {X : Cx} {L : Lay} {W : WX} {x : Str} {pos : Pos}
theorem fe_glob {i : Int} {t : Tok} (hg : Gl X x) (hm : X.mg x = some (.int i t)) (hd : (x == ("__debug__" : Str)) = false := by decide) : FE X L W (.Name x pos) (dC (.int i)) :=
  peImp (pe_glob (v := .int i) hg hm ⟨t, rfl⟩ hd) fun σ H Q ⟨α, M, s, r, sl, h⟩ => PostR.pure h r rep_int
end
def setIx (M : Mem) (o i v : D) : Option Mem := match o with
  | .ref n => (match M[n]? with
    | some (.lst ds) => (match i with
      | .int k => (match ixF ds.length k with
        | some j => some (M.set n (.lst (ds.set j v)))
        | none => none)
      | _ => none)
    | some (.dk kvs) => (match keyOf i, decide (kvs.length < sizeLine) with
      | some k, true => some (M.set n (.dk (put kvs k v)))
      | _, _ => none)
    | some (.dt kvs) => (match keysOf i, decide (kvs.length < sizeLine) with
      | some k, true => some (M.set n (.dt (put kvs k v)))
      | _, _ => none)
    | _ => none)
  | _ => none
def rFP (K : PySem.W.Frag) (L : Lay) : TSet := fun o i v H Q => ∃ α M od id vd M', Rel K L α M H ∧ Rep K α H od o ∧ Rep K α H id i ∧ Rep K α H vd v ∧ setIx M od id vd = some M' ∧ ∀ H', Le α H α H' → Rel K L α M' H' → Q H'
theorem Inv.dkNd {X : Cx} {pins : List (Addr × Obj)} {σ : L2.St} {H : Hp} {s : Shared} {a : Addr} {kvs : List (Key × V)} (I : L2.Inv X pins σ H s) (h : H a = some (.dK kvs)) : (kvs.map (·.1)).Nodup := by
  obtain ⟨z, hd, vs, rel, dd⟩ := dk_rd I.hok (.inl h)
  have all : ∀ {l : List (Key × V)} {m : List (Key × Value)}, KV l m → l.map (·.1) = m.map (·.1) := by
    intro l m q
    induction q with
    | nil => rfl
    | cons p _ ih => rw [List.map_cons, List.map_cons, p.1, ih]
  rw [all rel]
  obtain ⟨o, es, c, _, _, _, _, _, q⟩ := dd
  exact q
theorem Inv.dtNd {X : Cx} {pins : List (Addr × Obj)} {σ : L2.St} {H : Hp} {s : Shared} {a : Addr} {kvs : List (List Key × V)} (I : L2.Inv X pins σ H s) (h : H a = some (.dT kvs)) : (kvs.map (·.1)).Nodup := by
  obtain ⟨z, hd, vs, rel, dd⟩ := dt_rd I.hok (.inl h)
  have all : ∀ {l : List (List Key × V)} {m : List (List Key × Addr × Value)}, KT H l m → l.map (·.1) = m.map (·.1) := by
    intro l m q
    induction q with
    | nil => rfl
    | cons p _ ih => rw [List.map_cons, List.map_cons, p.1, ih]
  rw [all rel]
  obtain ⟨o, es, c, _, _, _, _, _, q⟩ := dd
  exact q
section
variable {X : Cx} {L : Lay} {W : WX} {is : List Nat} {pos : Pos}
theorem p_set (hu : X.A.units + 1 < cLine) : PSet X (rFP X.K L) := by
  intro pins s σ H o i v ov iv u Q I ro ri rv h
  obtain ⟨α, M, od, id, vd, M', r, qo, qi, qv, e, q⟩ := h
  unfold setIx at e
  split at e
  · rename_i n
    obtain ⟨a, ha, rfl⟩ := qo.ref
    have hm : a ∈ α := List.mem_of_getElem? ha
    split at e
    · rename_i ds eo
      obtain ⟨a', ha', vs, hv, hr⟩ := r.at eo
      rw [ha] at ha'; cases ha'
      split at e
      · rename_i k
        split at e
        · rename_i j ej
          cases e
          have ei := qi.int
          subst ei
          have le : Le α H α (upd H a (.lst (vs.set j v))) := Le.write hm hv trivial
          rw [ixF_eq, hr.length] at ej
          exact set_list pins s σ H _ _ _ _ _ _ Q I ro ri rv ⟨a, vs, k, j, rfl, rfl, hv, ej, q _ le (r.write (o := .lst _) ha ⟨_, upd_same, (hr.le le).set j (qv.le le)⟩)⟩
        · cases e
      · cases e
    · rename_i kvs eo
      obtain ⟨a', ha', vs, hv, hr⟩ := r.at eo
      rw [ha] at ha'; cases ha'
      split at e
      · rename_i k ek el
        cases e
        obtain ⟨e1, _⟩ := keyOf_rep ek qi
        subst e1
        have le : Le α H α (upd H a (.dK (putK vs k v))) := Le.write hm hv trivial
        exact set_dict hu pins s σ H _ _ _ _ _ _ Q I ro ri rv ⟨a, _, rfl, DPut.k hv (by rw [← hr.length]; exact dt el), q _ le (r.write (o := .dk _) ha ⟨_, upd_same, KvR.put (hr.le le) (Inv.dkNd I hv) (qv.le le)⟩)⟩
      · cases e
    · rename_i kvs eo
      obtain ⟨a', ha', vs, hv, hr⟩ := r.at eo
      rw [ha] at ha'; cases ha'
      split at e
      · rename_i k ek el
        cases e
        obtain ⟨t, e1, et, _⟩ := keysOf_rep ek qi
        subst e1
        have le : Le α H α (upd H a (.dT (putK vs k v))) := Le.write hm hv trivial
        exact set_dict hu pins s σ H _ _ _ _ _ _ Q I ro ri rv ⟨a, _, rfl, DPut.t hv et (by rw [← hr.length]; exact dt el), q _ le (r.write (o := .dt _) ha ⟨_, upd_same, KvR.put (hr.le le) (Inv.dtNd I hv) (qv.le le)⟩)⟩
      · cases e
    · cases e
  · cases e
def gIxSet (fo fi : EF) : GF := fun d s M => (fo s M).bind fun o M1 => (fi s M1).bind fun i M2 => match setIx M2 o i d with
  | some M3 => .ok s M3
  | none => .bad
theorem fg_sub {o i : Expr} {fo fi : EF} (hu : X.A.units + 70 < cLine) (ho : FE X L W o fo) (hi : FE X L W i fi)
    (ha : ∀ v, assign (.Subscript o i pos) X.env v = (do
      let ov ← holding [v] (eval o X.env)
      let iv ← holding [v, ov] (eval i X.env)
      standAt pos
      holding [v, ov, iv] (setItem ov iv v)
      release [v, ov, iv] []) := by intro _; rfl) : FG X L W is (.Subscript o i pos) (gIxSet fo fi) :=
  ⟨fun pins s σ H v u Q I rv ⟨α, M, sd, d, r, sl, rd, h⟩ => (pg_sub ho hi (p_set (L := L) (by omega)) ha).run pins s σ H v u Q I rv ⟨α, M, sd, r, sl, (PostR.bind (R := Rep _) h).imp fun x H1 ⟨dx, α1, M1, l1, r1, rx, h1⟩ =>
    ⟨α1, M1, sd, r1, sl.le l1, (PostR.bind (R := Rep _) h1).imp fun y H2 ⟨dy, α2, M2, l2, r2, ry, h2⟩ => by
      dsimp only at h2
      split at h2
      · rename_i M3 e3
        exact ⟨α2, M2, dx, dy, d, M3, r2, rx.le l2, ry, (rd.le l1).le l2, e3, fun H' l r' => h2 α2 H' σ l r' ⟨((sl.le l1).le l2).le l, Own.refl _ _⟩ (Own.refl _ _)⟩
      · exact h2.elim⟩⟩⟩
def IpF (X : Cx) (L : Lay) (op : Operator) (g : D → D → Mem → Res D) : Prop := ∀ w, PIp X op (rF2 X.K L g w)
theorem ip_case {op : Operator} {r : TIp} (h : ∀ x y H Q, r x y H Q → ∃ r', PIp X op r' ∧ r' x y H Q) : PIp X op r := fun pins s σ H x y v u Q I rx ry q => by
  obtain ⟨r', h1, h2⟩ := h x y H Q q
  exact h1 pins s σ H x y v u Q I rx ry h2
def gIAdd : D → D → Mem → Res D
  | .int i, .int j, M => .ok (.int (i + j)) M
  | _, _, _ => .bad
theorem i_add : IpF X L .Add gIAdd := fun w => ip_case fun x y H Q ⟨α, M, dx, dy, r, rx, ry, h⟩ => by
  unfold gIAdd at h
  split at h
  · exact ⟨_, ip_add, _, _, rx.int, ry.int, PostR.pure h r rep_int⟩
  · exact h.elim
theorem i_sub : IpF X L .Sub gSub := fun w => ip_case fun x y H Q ⟨α, M, dx, dy, r, rx, ry, h⟩ => by
  unfold gSub at h
  split at h
  · exact ⟨_, ip_sub, _, _, rx.int, ry.int, PostR.pure h r rep_int⟩
  · exact h.elim
def rGetV (K : PySem.W.Frag) : V → V → Hp → VK → Prop := fun x y H Q => (∃ a vs k v, x = .ref a ∧ y = .int k ∧ H a = some (.lst vs) ∧ atI vs k = some v ∧ Q v H) ∨ ∃ a v, x = .ref a ∧ DGet H a y (some v) ∧ Q v H
theorem p_getV (hu : X.A.units + 1 < cLine) : PGet X (rGetV X.K) := by
  intro pins s σ H x y ov iv Q I ro ri h
  rcases h with ⟨a, vs, k, v, rfl, rfl, hv, e, q⟩ | ⟨a, v, rfl, g, q⟩
  · cases ro
    obtain ⟨t, rfl⟩ := ri
    obtain ⟨its, n, r, ho, hz⟩ := I.lst hv
    have pl : PySem.IsL s.heap a its.toArray n := ho
    unfold atI at e
    cases hj : ixN vs.length k with
    | none => rw [hj] at e; cases e
    | some j =>
      rw [hj] at e
      have e : vs[j]? = some v := e
      obtain ⟨u, hu1, ru⟩ := r.get e
      obtain ⟨h1, h2, h3, h4⟩ := ixN_seq hj
      have hl := r.length
      have hn := line63
      by_cases h0 : 0 ≤ k
      · have hk : k.toNat = j := by
          rw [seqIndex_of h0 h4] at h1
          exact Option.some.inj h1
        exact wpAny_getItem_list (PySem.IsL.isList pl) h0 (by omega) (by rw [hk]; simpa using hu1) ⟨v, H, I, ru, q⟩
      · have hk : (k + (vs.length : Int)).toNat = j := by
          rw [seqIndex_neg (by omega) h3] at h1
          exact Option.some.inj h1
        exact wpAny_getItem_list_neg (PySem.IsL.isList pl) (by omega) (by rw [List.size_toArray, ← hl]; exact h3) (by omega) (by rw [List.size_toArray, ← hl, hk]; simpa using hu1) ⟨v, H, I, ru, q⟩
  · cases ro
    exact d_getItem hu I g ri fun w' s' I' rw' => ⟨v, H, I', rw', q⟩
def getIx (M : Mem) (o i : D) : Option D := match o with
  | .ref n => (match listAt M n with
    | some ds => (match i with
      | .int k => itemAt ds k
      | _ => none)
    | none => (match dictLook M n i with
      | some (some d) => some d
      | _ => none))
  | _ => none
def sIxAug (fo fi fe : EF) (g : D → D → Mem → Res D) : SF := fun s M => (fo s M).toS s fun o M1 => (fi s M1).toS s fun i M2 => match getIx M2 o i with
  | some x => (fe s M2).toS s fun y M3 => (g x y M3).toS s fun z M4 => (match setIx M4 o i z with
    | some M5 => .nx s M5
    | none => .bad)
  | none => .bad
theorem getIx_rep {α : List Addr} {M : Mem} {H : Hp} {od id xd : D} {o i : V} (r : Rel X.K L α M H) (ro : Rep X.K α H od o) (ri : Rep X.K α H id i) (e : getIx M od id = some xd) {Q : VK} (q : ∀ v, Rep X.K α H xd v → Q v H) : rGetV X.K o i H Q := by
  unfold getIx at e
  split at e
  · rename_i n
    split at e
    · rename_i ds e1
      split at e
      · rename_i k
        obtain ⟨a, ha, rfl⟩ := ro.ref
        obtain ⟨a', vs, ha', hv, hr⟩ := r.list e1
        rw [ha] at ha'; cases ha'
        obtain ⟨v, e2, rv⟩ := itemAt_rep hr e
        exact .inl ⟨a, vs, k, v, rfl, ri.int, hv, e2, q v rv⟩
      · cases e
    · split at e
      · rename_i d e2
        cases e
        obtain ⟨a, ov, rfl, g, u, rfl, ru⟩ := dictLook_rep r e2 ro ri
        exact .inr ⟨a, u, rfl, g, q u ru⟩
      · cases e
  · cases e
theorem fs_ixAug {o i e : Expr} {fo fi fe : EF} {op : Operator} {g : D → D → Mem → Res D} {tpos : Pos} (hu : X.A.units + 70 < cLine) (ho : FE X L W o fo) (hi : FE X L W i fi) (he : FE X L W e fe) (hp : IpF X L op g)
    (ha : ∀ ov iv new, augStore i ov iv new = (do holding [new, ov, iv] (setItem ov iv new); release [new, ov, iv] []; pure .next) := by intros; rfl) : FS X L W (.AugAssign (.Subscript o i tpos) op e pos) (sIxAug fo fi fe g) :=
  ⟨fun pins s σ H D I ⟨α, M, sd, r, sl, h⟩ => (ps_augS ho hi (p_getV (by omega)) he (hp (fun c d H' => W c d σ H')) (p_set (L := L) (by omega)) ha).run pins s σ H D I ⟨α, M, sd, r, sl, (PostR.toS (R := Rep _) sl h).imp fun x H1 ⟨dx, α1, M1, l1, r1, rx, h1⟩ =>
    ⟨α1, M1, sd, r1, sl.le l1, (PostR.toS (R := Rep _) (sl.le l1) h1).imp fun y H2 ⟨dy, α2, M2, l2, r2, ry, h2⟩ => by
      dsimp only at h2
      split at h2
      · rename_i xd ex
        refine getIx_rep r2 (rx.le l2) ry ex fun v rv => ?_
        have sl2 := (sl.le l1).le l2
        refine ⟨α2, M2, sd, r2, sl2, (PostR.toS (R := Rep _) sl2 h2).imp fun z H3 ⟨dz, α3, M3, l3, r3, rz, h3⟩ => ?_⟩
        refine ⟨α3, M3, xd, dz, r3, rv.le l3, rz, (PostR.toS (R := Rep _) (sl2.le l3) h3).imp fun z2 H4 ⟨dz2, α4, M4, l4, r4, rz2, h4⟩ => ?_⟩
        dsimp only at h4
        split at h4
        · rename_i M5 e5
          exact ⟨α4, M4, dx, dy, dz2, M5, r4, ((rx.le l2).le l3).le l4, (ry.le l3).le l4, rz2, e5, fun H' l r' => h4 α4 H' σ l r' (((sl2.le l3).le l4).le l)⟩
        · exact h4.elim
      · exact h2.elim⟩⟩⟩
def sAug (i : Nat) (fe : EF) (g : D → D → Mem → Res D) : SF := fun s M => match s[i]? with
  | some (some x) => (fe s M).toS s fun y M1 => (g x y M1).toS s fun z M2 => .nx (s.set i (some z)) M2
  | _ => .bad
theorem fs_aug {i : Nat} {x : Str} {e : Expr} {fe : EF} {op : Operator} {g : D → D → Mem → Res D} {pos' : Pos} (hN : X.N.Nodup) (hi : X.N[i]? = some x) (hx : Loc X.env.scope x) (he : FE X L W e fe) (ho : IpF X L op g) (hf : X.fn x = true ∨ X.env.scope.names.lookup x = some .local := by first | exact .inl rfl | exact .inr rfl | assumption) :
    FS X L W (.AugAssign (.Name x pos') op e pos) (sAug i fe g) :=
  ⟨fun pins s σ H D I ⟨α, M, sd, r, sl, h⟩ => (ps_aug hN hi hx he (ho (fun c d H' => W c d σ H')) hf).run pins s σ H D I (by
    unfold sAug at h
    split at h
    · rename_i xd ex
      obtain ⟨v, e1, rv⟩ := sl.2 i xd ex
      refine ⟨v, e1, α, M, sd, r, sl, (PostR.toS (R := Rep _) sl h).imp fun y H1 ⟨dy, α1, M1, l1, r1, ry, h1⟩ => ?_⟩
      exact ⟨α1, M1, xd, dy, r1, rv.le l1, ry, (PostR.toS (R := Rep _) (sl.le l1) h1).imp fun z H2 ⟨dz, α2, M2, l2, r2, rz, h2⟩ => h2 α2 H2 _ (Le.refl _ _) r2 (((sl.le l1).le l2).set i rz)⟩
    · exact h.elim)⟩
end
end Fl
namespace Fl
open PySem PySem.Spec L2
def rFM (K : PySem.W.Frag) (L : Lay) (g : D → List D → Mem → Res D) (w : W3) : V → List V → Hp → VK → Prop := fun x xs H Q => ∃ α M d ds, Rel K L α M H ∧ Rep K α H d x ∧ Reps K α H ds xs ∧ PostR K L (Rep K) (g d ds M) α H Q w
def MtF (X : Cx) (L : Lay) (id : String) (g : D → List D → Mem → Res D) : Prop := ∀ w, MtR X id (rFM X.K L g w)
def TyOk (K : PySem.W.Frag) (L : Lay) (T : String) (ty : D → Mem → Bool) : Prop := ∀ α M H d v, Rel K L α M H → Rep K α H d v → ty d M = true → tyV K T v H
def dBm (ty : D → Mem → Bool) (g : D → List D → Mem → Res D) (fo : EF) (fa : AF) : EF := fun s M => (fo s M).bind fun x M1 => match ty x M1 with
  | true => (fa s M1).bind fun ds M2 => g x ds M2
  | false => .bad
def tyLst : D → Mem → Bool := fun d M => match d with
  | .ref n => (listAt M n).isSome
  | .rol _ => true
  | _ => false
section
variable {X : Cx} {L : Lay} {W : WX} {o e : Expr} {es : List Expr} {fo : EF} {fa : AF} {name : Str} {apos cpos : Pos} {T id : String} {ty : D → Mem → Bool} {g : D → List D → Mem → Res D}
theorem tyLst_ok : TyOk X.K L "list" tyLst := fun α M H d v r rd h => by
  unfold tyLst at h
  split at h
  · rename_i n
    cases e : listAt M n with
    | none => rw [e] at h; cases h
    | some ds =>
      obtain ⟨a, ha, rfl⟩ := rd.ref
      obtain ⟨a', vs, ha', hv, hr⟩ := r.list e
      rw [ha] at ha'; cases ha'
      exact .inl ⟨rfl, vs, .of hv⟩
  · obtain ⟨t, vs, rfl, ht, _⟩ := rd.rol
    exact .inl ⟨rfl, vs, ht.sq⟩
  · cases h
theorem fe_bm (pa : PlainAttrs T) (slot : Slot T name id) (hty : typeOf (.builtin id) = pure (.type "method_descriptor")) (ht : TyOk X.K L T ty) (hm : MtF X L id g) (ho : FE X L W o fo) (ha : FA X L W (e :: es) fa)
    (hbase : attributeBase o name X.env (eval o X.env) = eval o X.env := by rfl)
    (hfew : ((backTo cpos (starEach (e :: es) X.env)).all (fun x => !x.1) && (backToKw cpos (keywordEach [] X.env)).all (fun x => x.1.isSome)
      && decide ((e :: es).length + ([] : List Keyword).length + (if ([] : List Keyword).isEmpty then 0 else 1) < 30)) = true := by rfl)
    (hline : (apos.endLine == cpos.line) = true := by rfl) (hs : starEach (e :: es) X.env = (false, eval e X.env) :: starEach es X.env := by rfl) (hplain : (backTo cpos (starEach es X.env)).any (·.1) = false := by rfl) :
    FE X L W (.Call (.Attribute o name apos) (e :: es) [] cpos) (dBm ty g fo fa) :=
  ⟨fun pins s σ H Q I ⟨α, M, sd, r, sl, h⟩ => (pe_bm pa slot hty (hm (fun c d H' => W c d σ H')) ho ha hbase hfew hline hs hplain).run pins s σ H Q I ⟨α, M, sd, r, sl, (PostR.bind (R := Rep _) h).imp fun x H1 ⟨dx, α1, M1, l1, r1, rx, h1⟩ => by
    dsimp only at h1
    cases et : ty dx M1 with
    | false => rw [et] at h1; exact h1.elim
    | true =>
      rw [et] at h1
      exact ⟨ht α1 M1 H1 dx x r1 rx et, α1, M1, sd, r1, sl.le l1, (PostR.bind (R := Reps _) h1).imp fun xs H2 ⟨ds, α2, M2, l2, r2, rs, h2⟩ => ⟨α2, M2, dx, ds, r2, rx.le l2, rs, h2⟩⟩⟩⟩
theorem mt_case {r : V → List V → Hp → VK → Prop} (h : ∀ x xs H Q, r x xs H Q → ∃ r', MtR X id r' ∧ r' x xs H Q) : MtR X id r := fun pins s σ H x xs v us Q I rx rxs q => by
  obtain ⟨r', h1, h2⟩ := h x xs H Q q
  exact h1 pins s σ H x xs v us Q I rx rxs h2
def gAppend : D → List D → Mem → Res D := fun d as M => match d, as with
  | .ref n, [y] => (match listAt M n with
    | some ds => (match decide (ds.length < sizeLine) with
      | true => .ok .non (M.set n (.lst (ds ++ [y])))
      | false => .bad)
    | none => .bad)
  | _, _ => .bad
theorem m_append : MtF X L "list.append" gAppend := fun w => mt_case fun x xs H Q ⟨α, M, d, ds, r, rx, rs, h⟩ => by
  unfold gAppend at h
  split at h
  · split at h
    · rename_i es e1
      split at h
      · rename_i c
        obtain ⟨a, ha, rfl⟩ := rx.ref
        obtain ⟨a', vs, ha', hv, hr⟩ := r.list e1
        rw [ha] at ha'; cases ha'
        obtain ⟨y, rfl, ry⟩ := rs.one
        have le : Le α H α (upd H a (.lst (vs ++ [y]))) := Le.write (List.mem_of_getElem? ha) hv trivial
        exact ⟨_, mt_append, a, vs, y, rfl, rfl, hv, by rw [← hr.length]; exact dt c, h _ _ _ le (r.write (o := .lst _) ha ⟨_, upd_same, (hr.le le).append (reps_cons (ry.le le) reps_nil)⟩) rep_non⟩
      · exact h.elim
    · exact h.elim
  · exact h.elim
def gPopAt : D → List D → Mem → Res D := fun d as M => match d, as with
  | .ref n, [.int i] => (match listAt M n with
    | some ds => (match ixF ds.length i with
      | some j => (match ds[j]? with
        | some y => .ok y (M.set n (.lst (ds.eraseIdx j)))
        | none => .bad)
      | none => .bad)
    | none => .bad)
  | _, _ => .bad
def rPopIx : V → List V → Hp → VK → Prop := fun x vs H Q => ∃ l xs i k y, x = .ref l ∧ vs = [.int i] ∧ H l = some (.lst xs) ∧ ixN xs.length i = some k ∧ xs[k]? = some y ∧ Q y (upd H l (.lst (xs.eraseIdx k)))
theorem mt_popIx : MtR X "list.pop" rPopIx := fun pins s σ H x xs v us Q I rx rxs ⟨l, ys, i, k, y, e1, e2, hv, ek, ey, q⟩ => by
  obtain ⟨z, _⟩ := I.lstM hv
  obtain ⟨h1, h2, h3, h4⟩ := ixN_seq ek
  have hn := line63
  exact mt_popAt pins s σ H x xs v us Q I rx rxs ⟨l, ys, i, k, y, e1, e2, hv, by omega, by omega, h1, ey, q⟩
theorem m_popAt : MtF X L "list.pop" gPopAt := fun w => mt_case fun x xs H Q ⟨α, M, d, ds, r, rx, rs, h⟩ => by
  unfold gPopAt at h
  split at h
  · split at h
    · rename_i es e1
      split at h
      · rename_i j ej
        split at h
        · rename_i y ey
          obtain ⟨a, ha, rfl⟩ := rx.ref
          obtain ⟨a', vs, ha', hv, hr⟩ := r.list e1
          rw [ha] at ha'; cases ha'
          obtain ⟨z, rfl, rz⟩ := rs.one
          have ez := rz.int
          subst ez
          rw [ixF_eq, hr.length] at ej
          obtain ⟨v, ev, rv⟩ := hr.at ey
          have le : Le α H α (upd H a (.lst (vs.eraseIdx j))) := Le.write (List.mem_of_getElem? ha) hv trivial
          exact ⟨_, mt_popIx, a, vs, _, j, v, rfl, rfl, hv, ej, ev, h _ _ _ le (r.write (o := .lst _) ha ⟨_, upd_same, (hr.le le).erase j⟩) (rv.le le)⟩
        · exact h.elim
      · exact h.elim
    · exact h.elim
  · exact h.elim
def gInsert : D → List D → Mem → Res D := fun d as M => match d, as with
  | .ref n, [.int i, y] => (match listAt M n with
    | some ds => (match decide (ds.length < sizeLine ∧ 0 ≤ i ∧ i < 1073741824) with
      | true => .ok .non (M.set n (.lst (ds.take i.toNat ++ [y] ++ ds.drop i.toNat)))
      | false => .bad)
    | none => .bad)
  | _, _ => .bad
def findAt (ps : List PyData) (p : PyData) : Option Nat := match ps with
  | [] => none
  | z :: r => match PyData.eqv z p with
    | true => some 0
    | false => (findAt r p).map (· + 1)
theorem findAt_ok : ∀ {ps : List PyData} {p : PyData} {j : Nat}, findAt ps p = some j → ∃ z, ps[j]? = some z ∧ PyData.eqv z p = true ∧ ∀ (m : Nat) (z' : PyData), m < j → ps[m]? = some z' → PyData.eqv z' p = false
  | [], p, j, h => by cases h
  | z :: r, p, j, h => by
    unfold findAt at h
    cases e : PyData.eqv z p with
    | true =>
      rw [e] at h; cases h
      exact ⟨z, rfl, e, fun m z' hm _ => absurd hm (Nat.not_lt_zero m)⟩
    | false =>
      rw [e] at h
      dsimp only at h
      cases e2 : findAt r p with
      | none => rw [e2] at h; cases h
      | some i =>
        rw [e2] at h; cases h
        obtain ⟨z2, h1, h2, h3⟩ := findAt_ok e2
        refine ⟨z2, by simpa using h1, h2, fun m z' hm hz => ?_⟩
        cases m with
        | zero => simp at hz; rw [← hz]; exact e
        | succ m => exact h3 m z' (Nat.lt_of_succ_lt_succ hm) (by simpa using hz)
def twoPy (M : Mem) (x : D) (ds : List D) : Option (PyData × List PyData) := match toPy M 9 x, allSome (toPy M 8) ds with
  | some a, some bs => (match SeqAt.shaped a && SeqAt.shaped (.list bs) with
    | true => some (a, bs)
    | false => none)
  | _, _ => none
theorem twoPy_dp {M : Mem} {α : List Addr} {H : Hp} {dx : D} {ds : List D} {x : V} {vs : List V} {a : PyData} {bs : List PyData} (r : Rel X.K L α M H) (h : twoPy M dx ds = some (a, bs)) (rx : Rep X.K α H dx x) (ry : Reps X.K α H ds vs) :
    Dp X.K H x a ∧ DpAll X.K H vs bs ∧ SeqAt.shaped a = true ∧ SeqAt.shaped (.list bs) = true := by
  unfold twoPy at h
  split at h
  · rename_i a' bs' e1 e2
    split at h
    · rename_i c
      cases h
      exact ⟨toPy_dp r 9 dx x a e1 rx, allSome_dp (toPy_dp r 8) ds vs bs e2 ry, (Bool.and_eq_true_iff.mp c).1, (Bool.and_eq_true_iff.mp c).2⟩
    · cases h
  · cases h
def gIndex : D → List D → Mem → Res D := fun d as M => match seqOf M d, as with
  | some ds, [y] => (match twoPy M y ds with
    | some (p, ps) => (match findAt ps p with
      | some j => .ok (.int j) M
      | none => .bad)
    | none => .bad)
  | _, _ => .bad
theorem Rep.lstAt {α : List Addr} {M : Mem} {H : Hp} (r : Rel X.K L α M H) {d : D} {v : V} {ds : List D} (h : Rep X.K α H d v) (hs : seqOf M d = some ds) (ht : tyLst d M = true) : ∃ a vs, v = .ref a ∧ SqL X.K H a vs ∧ Reps X.K α H ds vs := by
  cases d <;> try (cases hs; done)
  · cases ht
  · cases hs
    obtain ⟨t, vs, e, ht, hr⟩ := h.rol
    exact ⟨t, vs, e, ht.sq, hr⟩
  · obtain ⟨a, ha, e⟩ := h.ref
    obtain ⟨a', vs, ha', hv, hr⟩ := r.list hs
    rw [ha] at ha'; cases ha'
    exact ⟨a, vs, e, .of hv, hr⟩
def onLst (g : D → List D → Mem → Res D) : D → List D → Mem → Res D := fun d as M => match tyLst d M with
  | true => g d as M
  | false => .bad
theorem m_index (hu : X.A.units + 70 < cLine) : MtF X L "list.index" (onLst gIndex) := fun w => mt_case fun x xs H Q ⟨α, M, d, ds, r, rx, rs, h⟩ => by
  unfold onLst at h
  split at h
  · rename_i ht
    unfold gIndex at h
    split at h
    · rename_i es y e1
      split at h
      · rename_i p ps ep
        split at h
        · rename_i j ej
          obtain ⟨a, vs, rfl, hs, hr⟩ := Rep.lstAt r rx e1 ht
          obtain ⟨y', rfl, ry⟩ := rs.one
          obtain ⟨h1, h2, h3, h4⟩ := twoPy_dp r ep ry hr
          obtain ⟨z, z1, z2, z3⟩ := findAt_ok ej
          exact ⟨_, mt_indexD (by omega), a, y', p, ps, j, z, rfl, rfl, .lst hs h2, h1, h4, h3, z1, z2, z3, PostR.pure h r rep_int⟩
        · exact h.elim
      · exact h.elim
    · exact h.elim
  · exact h.elim
def rCntD (K : PySem.W.Frag) : V → List V → Hp → VK → Prop := fun x xs H Q => ∃ (a : Addr) (y : V) (d : PyData) (vs : List V) (ds : List PyData), x = V.ref a ∧ xs = [y] ∧ SqL K H a vs ∧ DpAll K H vs ds ∧ Dp K H y d ∧
  SeqAt.shaped (.list ds) = true ∧ SeqAt.shaped d = true ∧ Q (.int (ds.countP fun z => PyData.eqv z d : Nat)) H
theorem mt_countD (hu : X.A.units + 65 < cLine) : MtR X "list.count" (rCntD X.K) := by
  intro pins s σ H x xs v us Q I rx rxs h
  obtain ⟨a, y, d, vs, ds, rfl, rfl, hs, ha, hy, sl, sd, q⟩ := h
  cases rx
  obtain ⟨uy, rfl, ry⟩ := rxs.one
  obtain ⟨bs, r1⟩ := Dp.reads I d y uy hy ry
  have hxs : PyData.canLayAll0 ds = true := SeqAt.canLay_of_shaped sl
  have hroom : X.A.units + 1 + min (PyData.depthAll ds) d.depth < cLine := PyProof.Rows.room_in_shaped sd hu
  obtain ⟨its, rv, ⟨⟨cls, dd, data, sls⟩, n, ho, hc, hdn, hdt⟩, hlen⟩ := I.list hs
  simp only at hc hdt
  subst hc hdt
  obtain ⟨as, h4⟩ := Dp.readsAll I ds _ its ha rv
  have h4' : ReadsAll s.heap its.toArray.toList ds as := h4
  refine call_meets PySem.F.slot_list_count ⟨_, ho, rfl⟩ PySem.F.entry_list_count (PySem.F.args_list_count_2 _ _)
    (SeqAt.list_countAt a its.toArray n dd sls uy (fun u => PyData.eqv (SeqAt.readOf s.heap u) d)) ⟨ho, SeqAt.items_eqAt (vs := its.toArray) h4' r1 hxs (SeqAt.canLay_of_shaped sd) hroom, ?_⟩
  have ec : its.toArray.toList.countP (fun u => PyData.eqv (SeqAt.readOf s.heap u) d) = ds.countP fun z => PyData.eqv z d := by
    rw [← SeqAt.readsAll_map ds its as hxs h4, List.countP_map]
    rfl
  refine ⟨.int (ds.countP fun z => PyData.eqv z d : Nat), H, I.tok _, ⟨s.toks, ?_⟩, q⟩
  rw [ec]
def gCount : D → List D → Mem → Res D := fun d as M => match seqOf M d, as with
  | some ds, [y] => (match twoPy M y ds with
    | some (p, ps) => .ok (.int (ps.countP fun z => PyData.eqv z p : Nat)) M
    | none => .bad)
  | _, _ => .bad
theorem m_count (hu : X.A.units + 70 < cLine) : MtF X L "list.count" (onLst gCount) := fun w => mt_case fun x xs H Q ⟨α, M, d, ds, r, rx, rs, h⟩ => by
  unfold onLst at h
  split at h
  · rename_i ht
    unfold gCount at h
    split at h
    · rename_i es y e1
      split at h
      · rename_i p ps ep
        obtain ⟨a, vs, rfl, hs, hr⟩ := Rep.lstAt r rx e1 ht
        obtain ⟨y', rfl, ry⟩ := rs.one
        obtain ⟨h1, h2, h3, h4⟩ := twoPy_dp r ep ry hr
        exact ⟨_, mt_countD (by omega), a, y', p, vs, ps, rfl, rfl, hs, h2, h1, h4, h3, PostR.pure h r rep_int⟩
      · exact h.elim
    · exact h.elim
  · exact h.elim
def rRemD (K : PySem.W.Frag) : V → List V → Hp → VK → Prop := fun x xs H Q => ∃ (a : Addr) (y : V) (d : PyData) (vs : List V) (ds : List PyData) (j : Nat) (z : PyData), x = V.ref a ∧ xs = [y] ∧ H a = some (.lst vs) ∧ DpAll K H vs ds ∧ Dp K H y d ∧
  SeqAt.shaped (.list ds) = true ∧ SeqAt.shaped d = true ∧ ds[j]? = some z ∧ PyData.eqv z d = true ∧ (∀ (m : Nat) (z' : PyData), m < j → ds[m]? = some z' → PyData.eqv z' d = false) ∧ Q .non (upd H a (.lst (vs.eraseIdx j)))
theorem mt_removeD (hu : X.A.units + 65 < cLine) : MtR X "list.remove" (rRemD X.K) := by
  intro pins s σ H x xs v us Q I rx rxs h
  obtain ⟨a, y, d, vs, ds, j, z, rfl, rfl, hv, ha, hy, sl, sd, hz, hzj, hno, q⟩ := h
  cases rx
  obtain ⟨uy, rfl, ry⟩ := rxs.one
  obtain ⟨bs, r1⟩ := Dp.reads I d y uy hy ry
  have hxs : PyData.canLayAll0 ds = true := SeqAt.canLay_of_shaped sl
  have hroom : X.A.units + 1 + min (PyData.depthAll ds) d.depth < cLine := PyProof.Rows.room_in_shaped sd hu
  obtain ⟨zl, its, n, rv, hl, ho⟩ := I.lstM hv
  obtain ⟨as, h4⟩ := Dp.readsAll I ds _ its ha rv
  have h4' : ReadsAll s.heap its.toArray.toList ds as := h4
  have hn : its.length = ds.length := SeqAt.ReadsAll.length ds its as h4
  have hmap : its.map (SeqAt.readOf s.heap) = ds := SeqAt.readsAll_map ds its as hxs h4
  obtain ⟨hjd, _⟩ := List.getElem?_eq_some_iff.mp hz
  have hjl : j < its.length := by omega
  have hj : j < its.toArray.size := by simpa using hjl
  have at_ : ∀ (m : Nat) (hm : m < its.toArray.size) (z' : PyData), ds[m]? = some z' → SeqAt.readOf s.heap its.toArray[m] = z' := by
    intro m hm z' hz'
    have hml : m < its.length := by simpa using hm
    rw [← hmap, List.getElem?_map, List.getElem?_eq_getElem hml] at hz'
    have e1 : SeqAt.readOf s.heap its[m] = z' := Option.some.inj (show some (SeqAt.readOf s.heap its[m]) = some z' from hz')
    simpa using e1
  refine call_meets PySem.F.slot_list_remove ⟨_, ho, rfl⟩ PySem.F.entry_list_remove (PySem.F.args_list_remove_2 _ _)
    (SeqAt.list_removeAt a its.toArray n none #[] uy (fun u => PyData.eqv (SeqAt.readOf s.heap u) d) j hj ?_ ?_ (by rw [List.size_toArray]; omega)) ⟨ho, SeqAt.items_eqAt (vs := its.toArray) h4' r1 hxs (SeqAt.canLay_of_shaped sd) hroom, ?_⟩
  · show PyData.eqv (SeqAt.readOf s.heap its.toArray[j]) d = true
    rw [at_ j hj z hz]; exact hzj
  · intro m hm hmj
    have hmd : m < ds.length := by omega
    show PyData.eqv (SeqAt.readOf s.heap its.toArray[m]) d = false
    rw [at_ m hm _ (List.getElem?_eq_getElem hmd)]
    exact hno m _ hmj (List.getElem?_eq_getElem hmd)
  · refine ⟨.non, _, I.lset (its' := its.eraseIdx j) (t' := s.toks) hv ho ?_ (rv.eraseIdx j) ?_, rfl, q⟩
    · show its.toArray.eraseIdxIfInBounds j = (its.eraseIdx j).toArray
      rw [List.eraseIdxIfInBounds_toArray]
    · have z2 := len_erase vs j
      omega
def gRemove : D → List D → Mem → Res D := fun d as M => match d, as with
  | .ref n, [y] => (match listAt M n with
    | some ds => (match twoPy M y ds with
      | some (p, ps) => (match findAt ps p with
        | some j => .ok .non (M.set n (.lst (ds.eraseIdx j)))
        | none => .bad)
      | none => .bad)
    | none => .bad)
  | _, _ => .bad
theorem m_remove (hu : X.A.units + 70 < cLine) : MtF X L "list.remove" gRemove := fun w => mt_case fun x xs H Q ⟨α, M, d, ds, r, rx, rs, h⟩ => by
  unfold gRemove at h
  split at h
  · split at h
    · rename_i es e1
      split at h
      · rename_i p ps ep
        split at h
        · rename_i j ej
          obtain ⟨a, ha, rfl⟩ := rx.ref
          obtain ⟨a', vs, ha', hv, hr⟩ := r.list e1
          rw [ha] at ha'; cases ha'
          obtain ⟨y', rfl, ry⟩ := rs.one
          obtain ⟨h1, h2, h3, h4⟩ := twoPy_dp r ep ry hr
          obtain ⟨z, z1, z2, z3⟩ := findAt_ok ej
          have le : Le α H α (upd H a (.lst (vs.eraseIdx j))) := Le.write (List.mem_of_getElem? ha) hv trivial
          exact ⟨_, mt_removeD (by omega), a, y', p, vs, ps, j, z, rfl, rfl, hv, h2, h1, h4, h3, z1, z2, z3, h _ _ _ le (r.write (o := .lst _) ha ⟨_, upd_same, (hr.le le).erase j⟩) rep_non⟩
        · exact h.elim
      · exact h.elim
    · exact h.elim
  · exact h.elim
end
end Fl
namespace Fl
open PySem PySem.Spec L2
def dChain (g g' : D → D → Mem → Res D) (fa fb fc : EF) : EF := fun s M => (fa s M).bind fun x M1 => (fb s M1).bind fun y M2 => (g x y M2).bind fun k M3 => match k with
  | .bl true => (fc s M3).bind fun z M4 => g' y z M4
  | .bl false => .ok (.bl false) M3
  | _ => .bad
section
variable {X : Cx} {L : Lay} {W : WX} {a b c : Expr} {fa fb fc : EF} {pos : Pos} {op op' : CmpOp} {g g' : D → D → Mem → Res D}
theorem chain_go {K : PySem.W.Frag} {σ : L2.St} {H : Hp} {Q : VK} (h : LE K L W (dChain g g' fa fb fc) σ H Q) : tChain (rF2 K L g (fun c d H' => W c d σ H')) (rF2 K L g' (fun c d H' => W c d σ H')) (LE K L W fa) (LE K L W fb) (LE K L W fc) σ H Q := by
  obtain ⟨α, M, s, r, sl, h⟩ := h
  refine ⟨α, M, s, r, sl, (PostR.bind (R := Rep K) h).imp fun x H1 ⟨dx, α1, M1, l1, r1, rx, h1⟩ => ?_⟩
  refine ⟨α1, M1, s, r1, sl.le l1, (PostR.bind (R := Rep K) h1).imp fun y H2 ⟨dy, α2, M2, l2, r2, ry, h2⟩ => ?_⟩
  refine ⟨α2, M2, dx, dy, r2, rx.le l2, ry, (PostR.bind (R := Rep K) h2).imp fun z H3 ⟨dz, α3, M3, l3, r3, rz, h3⟩ => ?_⟩
  dsimp only at h3
  cases dz <;> try exact h3.elim
  rename_i k
  refine ⟨k, rz.bl, ?_⟩
  cases k with
  | false => exact iteF (PostR.pure h3 r3 rep_bl)
  | true =>
    refine iteT ⟨α3, M3, s, r3, ((sl.le l1).le l2).le l3, (PostR.bind (R := Rep K) h3).imp fun u H4 ⟨du, α4, M4, l4, r4, ru, h4⟩ => ?_⟩
    exact ⟨α4, M4, dy, du, r4, (ry.le l3).le l4, ru, h4⟩
theorem fe_chain (ho : Op2 X L (compareOp op) g) (ho' : Op2 X L (compareOp op') g') (ha : FE X L W a fa) (hb : FE X L W b fb) (hc : FE X L W c fc) (hm : lastMarks [op, op'] [b, c] = false := by with_unfolding_all rfl) :
    FE X L W (.Compare a [op, op'] [b, c] pos) (dChain g g' fa fb fc) :=
  ⟨fun pins s σ H Q I h => (pe_chain (ho (fun c d H' => W c d σ H')) (ho' (fun c d H' => W c d σ H')) ha hb hc hm).run pins s σ H Q I (chain_go h)⟩
end
abbrev JF := Str → Sl → Mem → Res Str
def dFmt (fe : EF) : EF := fun s M => (fe s M).bind fun x M1 => match x with
  | .str y => (match decide (y.length ≤ sizeLine) with
    | true => .ok (.str y) M1
    | false => .bad)
  | .int i => (match decide (i.natAbs.log2 < 1920) with
    | true => .ok (.str (toString i)) M1
    | false => .bad)
  | _ => .bad
def jNil : JF := fun acc _ M => .ok acc M
def jCons (fe : EF) (f : JF) : JF := fun acc s M => (fe s M).bind fun x M1 => match x with
  | .str y => (match decide ((acc ++ y).length ≤ sizeLine) with
    | true => f (acc ++ y) s M1
    | false => .bad)
  | _ => .bad
def dJoin (f : JF) : EF := fun s M => (f Str.empty s M).bind fun t M1 => .ok (.str t) M1
section
variable {X : Cx} {L : Lay} {W : WX} {e v1 v2 : Expr} {es : List Expr} {fe : EF} {f : JF} {pos : Pos}
def gRev : D → Mem → Res D := fun d M => match tyLst d M, seqOf M d with
  | true, some ds => .ok (.ref M.length) (M ++ [.lst ds.reverse])
  | _, _ => .bad
end
end Fl
namespace Fl
open PySem PySem.Spec L2
def isDictD (M : Mem) : D → Bool
  | .ref n => isDict M n
  | _ => false
def lookD (M : Mem) (o k : D) : Option (Option D) := match o with
  | .ref n => dictLook M n k
  | _ => none
def dGet1 (fo fk : EF) : EF := fun s M => (fo s M).bind fun o M1 => match isDictD M1 o with
  | true => (fk s M1).bind fun k M2 => (match lookD M2 o k with
    | some (some d) => .ok d M2
    | some none => .ok .non M2
    | none => .bad)
  | false => .bad
def dGet2 (fo fk fx : EF) : EF := fun s M => (fo s M).bind fun o M1 => match isDictD M1 o with
  | true => (fk s M1).bind fun k M2 => (fx s M2).bind fun x M3 => (match lookD M3 o k with
    | some (some d) => .ok d M3
    | some none => .ok x M3
    | none => .bad)
  | false => .bad
def dSetd (fo fk fx : EF) : EF := fun s M => (fo s M).bind fun o M1 => match isDictD M1 o with
  | true => (fk s M1).bind fun k M2 => (fx s M2).bind fun x M3 => (match lookD M3 o k with
    | some (some d) => .ok d M3
    | some none => (match setIx M3 o k x with
      | some M4 => .ok x M4
      | none => .bad)
    | none => .bad)
  | false => .bad
section
variable {K : PySem.W.Frag} {L : Lay} {α : List Addr} {M : Mem} {H : Hp}
theorem isDict_at (r : Rel K L α M H) {d : D} {v : V} (h : isDictD M d = true) (rd : Rep K α H d v) : ∃ a, v = .ref a ∧ IsD H a := by
  unfold isDictD at h
  split at h
  · obtain ⟨a, ha, rfl⟩ := rd.ref
    refine ⟨a, rfl, ?_⟩
    unfold isDict at h
    split at h
    · rename_i kvs e
      obtain ⟨a', ha', vs, hv, _⟩ := r.at e
      rw [ha] at ha'; cases ha'
      exact .inl ⟨vs, .inl hv⟩
    · rename_i kvs e
      obtain ⟨a', ha', o, vs, hv, _⟩ := r.at e
      rw [ha] at ha'; cases ha'
      exact .inl ⟨vs, .inr ⟨o, hv⟩⟩
    · rename_i kvs e
      obtain ⟨a', ha', vs, hv, _⟩ := r.at e
      rw [ha] at ha'; cases ha'
      exact .inr ⟨vs, .inl hv⟩
    · rename_i kvs e
      obtain ⟨a', ha', o, vs, hv, _⟩ := r.at e
      rw [ha] at ha'; cases ha'
      exact .inr ⟨vs, .inr ⟨o, hv⟩⟩
    · cases h
  · cases h
theorem lookD_rep (r : Rel K L α M H) {d k : D} {x v : V} {o : Option D} (h : lookD M d k = some o) (rd : Rep K α H d x) (rk : Rep K α H k v) : ∃ a ov, x = .ref a ∧ DGet H a v ov ∧ OptR K α H o ov := by
  unfold lookD at h
  split at h
  · exact dictLook_rep r h rd rk
  · cases h
end
section
variable {X : Cx} {L : Lay} {W : WX} {o e f : Expr} {apos cpos : Pos} {fo fk fx : EF}
theorem fe_get1 (hu : X.A.units + 70 < cLine) (ho : FE X L W o fo) (he : FE X L W e fk)
    (base : attributeBase o "get" X.env (eval o X.env) = eval o X.env := by rfl)
    (few : ((backTo cpos (starEach [e] X.env)).all (fun x => !x.1) && (backToKw cpos (keywordEach [] X.env)).all (fun x => x.1.isSome) && decide (([e] : List Expr).length + ([] : List Keyword).length + (if ([] : List Keyword).isEmpty then 0 else 1) < 30)) = true := by rfl)
    (line : (apos.endLine == cpos.line) = true := by rfl) (trees : backTo cpos (starEach [e] X.env) = [(false, eval e X.env)] := by rfl) :
    FE X L W (.Call (.Attribute o "get" apos) [e] [] cpos) (dGet1 fo fk) := peImp (pe_dget1 (by omega) ho he ⟨base, few, line, trees⟩) fun σ H Q ⟨α, M, s, r, sl, h⟩ =>
  ⟨α, M, s, r, sl, (PostR.bind (R := Rep _) h).imp fun x H1 ⟨dx, α1, M1, l1, r1, rx, h1⟩ => by
    dsimp only at h1
    cases ed : isDictD M1 dx with
    | false => rw [ed] at h1; exact h1.elim
    | true =>
      rw [ed] at h1
      obtain ⟨a, rfl, hd⟩ := isDict_at r1 ed rx
      refine ⟨a, rfl, hd, α1, M1, s, r1, sl.le l1, (PostR.bind (R := Rep _) h1).imp fun y H2 ⟨dy, α2, M2, l2, r2, ry, h2⟩ => ?_⟩
      dsimp only at h2
      cases el : lookD M2 dx dy with
      | none => rw [el] at h2; exact h2.elim
      | some q =>
        rw [el] at h2
        obtain ⟨a', ov, e1, g, z⟩ := lookD_rep r2 el (rx.le l2) ry
        cases e1
        cases q with
        | none =>
          have z : ov = none := z
          subst z
          exact ⟨_, g, PostR.pure h2 r2 rep_non⟩
        | some d =>
          obtain ⟨u, rfl, ru⟩ := z
          exact ⟨_, g, PostR.pure h2 r2 ru⟩⟩
theorem fe_get2 (hu : X.A.units + 70 < cLine) (ho : FE X L W o fo) (he : FE X L W e fk) (hf : FE X L W f fx)
    (base : attributeBase o "get" X.env (eval o X.env) = eval o X.env := by rfl)
    (few : ((backTo cpos (starEach [e, f] X.env)).all (fun x => !x.1) && (backToKw cpos (keywordEach [] X.env)).all (fun x => x.1.isSome) && decide (([e, f] : List Expr).length + ([] : List Keyword).length + (if ([] : List Keyword).isEmpty then 0 else 1) < 30)) = true := by rfl)
    (line : (apos.endLine == cpos.line) = true := by rfl) (trees : backTo cpos (starEach [e, f] X.env) = [(false, eval e X.env), (false, eval f X.env)] := by rfl) :
    FE X L W (.Call (.Attribute o "get" apos) [e, f] [] cpos) (dGet2 fo fk fx) := peImp (pe_dget2 (by omega) ho he hf ⟨base, few, line, trees⟩) fun σ H Q ⟨α, M, s, r, sl, h⟩ =>
  ⟨α, M, s, r, sl, (PostR.bind (R := Rep _) h).imp fun x H1 ⟨dx, α1, M1, l1, r1, rx, h1⟩ => by
    dsimp only at h1
    cases ed : isDictD M1 dx with
    | false => rw [ed] at h1; exact h1.elim
    | true =>
      rw [ed] at h1
      obtain ⟨a, rfl, hd⟩ := isDict_at r1 ed rx
      refine ⟨a, rfl, hd, α1, M1, s, r1, sl.le l1, (PostR.bind (R := Rep _) h1).imp fun y H2 ⟨dy, α2, M2, l2, r2, ry, h2⟩ => ?_⟩
      refine ⟨α2, M2, s, r2, (sl.le l1).le l2, (PostR.bind (R := Rep _) h2).imp fun y3 H3 ⟨dz, α3, M3, l3, r3, rz, h3⟩ => ?_⟩
      dsimp only at h3
      cases el : lookD M3 dx dy with
      | none => rw [el] at h3; exact h3.elim
      | some q =>
        rw [el] at h3
        obtain ⟨a', ov, e1, g, z⟩ := lookD_rep r3 el ((rx.le l2).le l3) (ry.le l3)
        cases e1
        cases q with
        | none =>
          have z : ov = none := z
          subst z
          exact ⟨_, g, PostR.pure h3 r3 rz⟩
        | some d =>
          obtain ⟨u, rfl, ru⟩ := z
          exact ⟨_, g, PostR.pure h3 r3 ru⟩⟩
end
section
variable {X : Cx} {pins : List (Addr × Obj)} {σ : L2.St} {H : Hp} {s : Shared} {a : Addr} {y v : V} {u r : Value} {A : Around} {E : Value → Shared → Prop}
theorem d_setdA {o : Option V} {Q : Value → Shared → Prop} (hu : A.units + 1 < cLine) (I : L2.Inv X pins σ H s) (g : DGet H a y o) (ry : RelV y u) (rv : RelV v r)
    (h1 : ∀ w, o = some w → ∀ (w' : Value) (s' : Shared), L2.Inv X pins σ H s' → RelV w w' → Q w' s')
    (h2 : o = none → ∃ H', DPut H a y v H' ∧ ∀ (w' : Value) (s' : Shared), L2.Inv X pins σ H' s' → RelV v w' → Q w' s') :
    wpAny (model X.prog X.w) A (call (.builtin "dict.setdefault") [.ref a, u, r]) Q E s := by
  cases o with
  | none =>
    obtain ⟨H', p, h2⟩ := h2 rfl
    rcases p with ⟨kvs, k, e, rfl, hl, rfl⟩ | ⟨kvs, k, b, e, rfl, eb, hl, rfl⟩
    · rcases g with ⟨kvs', k', e', ey, l⟩ | ⟨kvs', k', b', e', ey, eb', l⟩
      · have ek := kV_inj ey
        subst ek
        have e2 : kvs' = kvs := by
          rcases e' with q | ⟨o, q⟩
          · rw [e] at q; cases q; rfl
          · rw [e] at q; cases q
        subst e2
        exact d_setd I e ry rv hl (fun w hw => by rw [hw] at l; cases l) fun _ w' s' I' rw' => h2 w' s' I' rw'
      · rcases e' with q | ⟨o, q⟩ <;> (rw [e] at q; cases q)
    · cases (show u = Value.ref b from ry)
      rcases g with ⟨kvs', k', e', ey, l⟩ | ⟨kvs', k', b', e', ey, eb', l⟩
      · rcases e' with q | ⟨o, q⟩ <;> (rw [e] at q; cases q)
      · cases ey
        rw [eb] at eb'
        have ek : k.map kV = k'.map kV := by
          have z := Option.some.inj eb'
          injection z
        have ek2 : k = k' := kVs_inj ek
        subst ek2
        have e2 : kvs' = kvs := by
          rcases e' with q | ⟨o, q⟩
          · rw [e] at q; cases q; rfl
          · rw [e] at q; cases q
        subst e2
        obtain ⟨z, hd, xs, rel, dd⟩ := dt_of I.hok e
        have hz : xs.length ≤ sizeLine := by rw [← Paired.length rel]; exact z
        have hl2 : (putK kvs' k v).length ≤ sizeLine := by have := length_putK kvs' k v; omega
        have q := rel.val k
        rw [← l] at q
        have qn : atKey xs k = none := by
          cases qa : atKey xs k with
          | none => rfl
          | some p => rw [qa] at q; exact (show False from q).elim
        refine call_setdefault_heap (hsz := hz) (tupleKind_room_in1 hu) (key_of I.hok eb) hd dd (fun p hp => by rw [qn] at hp; cases hp) fun _ h' dd' hs => h2 _ _ ?_ rv
        obtain ⟨q, es, ep, hq, g2, g3, g4, _, g5⟩ := dd'
        refine d_write I (by rw [e]; exact True.intro) hs ⟨q, hq⟩ ⟨hl2, hd, _, (rel.put k eb rv).keeps fun c ys ec => ?_, q, es, ep, hq, g2, g3, g4, g5⟩
        rw [upd_ne (ne_of ec e (fun z => nomatch z))]
        exact ec
  | some w =>
    rcases g with ⟨kvs, k, e, ey, l⟩ | ⟨kvs, k, b, e, ey, eb, l⟩
    · subst ey
      obtain ⟨z, hd, vs, rel, dd⟩ := dk_rd I.hok e
      have hz : vs.length ≤ sizeLine := by rw [← rel.length]; exact z
      obtain ⟨w', hw, rw'⟩ := RelO.some_of (v := w) (o := valueAt vs k) (by rw [l]; exact rel.val k)
      refine call_meetsIn PySem.F.slot_dict_setdefault dd.typeIs PySem.F.entry_dict_setdefault (PySem.F.args_dict_setdefault_3 _ _ _) (kt_meets_setdefault (mixKind X.prog X.w) a (kV_is ry) hd r) ⟨vs, dd, hz, fun v' hv => ?_, fun hn => by rw [hn] at hw; cases hw⟩
      rw [hw] at hv; cases hv
      exact h1 w rfl _ _ (I.tok _) rw'
    · subst ey
      cases (show u = Value.ref b from ry)
      obtain ⟨z, hd, xs, rel, dd⟩ := dt_rd I.hok e
      have hz : xs.length ≤ sizeLine := by rw [← Paired.length rel]; exact z
      obtain ⟨w', hw, rw'⟩ := RelO.some_of (v := w) (o := (atKey xs k).map (·.2)) (by rw [l]; exact rel.val k)
      obtain ⟨p, hp, hp2⟩ := Option.map_eq_some_iff.mp hw
      refine call_setdefault_heap (hsz := hz) (tupleKind_room_in1 hu) (key_of I.hok eb) hd dd (fun p' hp' => ?_) fun hn => by rw [hp] at hn; cases hn
      rw [hp] at hp'; cases hp'
      rw [hp2]
      exact h1 w rfl _ _ (I.tok _) rw'
end
theorem setIx_put {X : Cx} {pins : List (Addr × Obj)} {σ : L2.St} {s : Shared} {L : Lay} {α : List Addr} {M M' : Mem} {H : Hp} {od kd vd : D} {a : Addr} {y v : V} {q : Option D} (I : L2.Inv X pins σ H s) (r : Rel X.K L α M H) (el : lookD M od kd = some q) (qo : Rep X.K α H od (.ref a)) (qi : Rep X.K α H kd y) (qv : Rep X.K α H vd v)
    (e : setIx M od kd vd = some M') : ∃ H', DPut H a y v H' ∧ Le α H α H' ∧ Rel X.K L α M' H' := by
  unfold setIx at e
  split at e
  · rename_i n
    obtain ⟨a', ha, z⟩ := qo.ref
    cases z
    have hm : a ∈ α := List.mem_of_getElem? ha
    split at e
    · rename_i ds eo
      have z : dictLook M n kd = some q := el
      unfold dictLook at z
      rw [eo] at z; cases z
    · rename_i kvs eo
      obtain ⟨a', ha', vs, hv, hr⟩ := r.at eo
      rw [ha] at ha'; cases ha'
      split at e
      · rename_i k ek el
        cases e
        obtain ⟨e1, _⟩ := keyOf_rep ek qi
        subst e1
        have le : Le α H α (upd H a (.dK (putK vs k v))) := Le.write hm hv trivial
        exact ⟨_, DPut.k hv (by rw [← hr.length]; exact dt el), le, r.write (o := .dk _) ha ⟨_, upd_same, KvR.put (hr.le le) (Inv.dkNd I hv) (qv.le le)⟩⟩
      · cases e
    · rename_i kvs eo
      obtain ⟨a', ha', vs, hv, hr⟩ := r.at eo
      rw [ha] at ha'; cases ha'
      split at e
      · rename_i k ek el
        cases e
        obtain ⟨t, e1, et, _⟩ := keysOf_rep ek qi
        subst e1
        have le : Le α H α (upd H a (.dT (putK vs k v))) := Le.write hm hv trivial
        exact ⟨_, DPut.t hv et (by rw [← hr.length]; exact dt el), le, r.write (o := .dt _) ha ⟨_, upd_same, KvR.put (hr.le le) (Inv.dtNd I hv) (qv.le le)⟩⟩
      · cases e
    · cases e
  · cases e
section
variable {X : Cx} {L : Lay} {W : WX} {o e f : Expr} {apos cpos : Pos} {fo fk fx : EF}
theorem fe_setd (hu : X.A.units + 70 < cLine) (ho : FE X L W o fo) (he : FE X L W e fk) (hf : FE X L W f fx)
    (base : attributeBase o "setdefault" X.env (eval o X.env) = eval o X.env := by rfl)
    (few : ((backTo cpos (starEach [e, f] X.env)).all (fun x => !x.1) && (backToKw cpos (keywordEach [] X.env)).all (fun x => x.1.isSome) && decide (([e, f] : List Expr).length + ([] : List Keyword).length + (if ([] : List Keyword).isEmpty then 0 else 1) < 30)) = true := by rfl)
    (line : (apos.endLine == cpos.line) = true := by rfl) (trees : backTo cpos (starEach [e, f] X.env) = [(false, eval e X.env), (false, eval f X.env)] := by rfl) :
    FE X L W (.Call (.Attribute o "setdefault" apos) [e, f] [] cpos) (dSetd fo fk fx) := by
  refine ⟨fun pins s σ H Q I ⟨α, M, sd, r, sl, h⟩ => ?_⟩
  refine wpAny_Call_method base few line PySem.F.plainAttrs_dict PySem.F.slot_dict_setdefault PySem.F.type_dict_setdefault (thn (ho.run pins s σ H _ I ⟨α, M, sd, r, sl, PostR.bind (R := Rep _) h⟩) fun u s1 ⟨x, H1, I1, rx, dx, α1, M1, l1, r1, rd, h1⟩ => ?_)
  dsimp only at h1
  cases ed : isDictD M1 dx with
  | false => rw [ed] at h1; exact h1.elim
  | true =>
    rw [ed] at h1
    obtain ⟨a, rfl, hd⟩ := isDict_at r1 ed rd
    obtain rfl : u = Value.ref a := rx
    obtain ⟨t1, t2, _⟩ := isD_at I1 hd
    refine ⟨t1, t2, ?_⟩
    rw [trees]
    have sl1 := sl.le l1
    refine Calls.callWith_builtin rfl (Calls.evalArgs_plain (Calls.spliced_cons (thn (he.run pins s1 σ H1 _ I1 ⟨α1, M1, sd, r1, sl1, PostR.bind (R := Rep _) h1⟩) fun iv s2 ⟨y, H2, I2, ry, dy, α2, M2, l2, r2, rdy, h2⟩ =>
      Calls.spliced_cons (thn (hf.run pins s2 σ H2 _ I2 ⟨α2, M2, sd, r2, sl1.le l2, PostR.bind (R := Rep _) h2⟩) fun fv s3 ⟨z, H3, I3, rz, dz, α3, M3, l3, r3, rdz, h3⟩ => Calls.spliced_nil ?_))))
    dsimp only at h3
    cases el : lookD M3 dx dy with
    | none => rw [el] at h3; exact h3.elim
    | some q =>
      rw [el] at h3
      have rd3 := (rd.le l2).le l3
      have ry3 := rdy.le l3
      obtain ⟨a', ov, e1, g, oz⟩ := lookD_rep r3 el rd3 ry3
      cases e1
      refine d_setdA (by omega) I3 g ry rz (fun w hw w' s' I' rw' => ?_) fun hn => ?_
      · cases q with
        | none =>
          have oz : ov = none := oz
          rw [oz] at hw; cases hw
        | some d =>
          obtain ⟨u2, rfl, ru⟩ := oz
          cases hw
          exact ⟨w, H3, I', rw', PostR.pure h3 r3 ru⟩
      · cases q with
        | some d =>
          obtain ⟨u2, rfl, ru⟩ := oz
          cases hn
        | none =>
          dsimp only at h3
          cases es : setIx M3 dx dy dz with
          | none => rw [es] at h3; exact h3.elim
          | some M4 =>
            rw [es] at h3
            obtain ⟨H', hp, hq⟩ := setIx_put I3 r3 el rd3 ry3 rdz es
            exact ⟨H', hp, fun w' s' I' rw' => ⟨z, H', I', rw', h3 α3 H' z hq.1 hq.2 (rdz.le hq.1)⟩⟩
end
end Fl
namespace Fl
open PySem PySem.Spec L2 PyProof.Rows
abbrev fset (w : World) : Obj := { cls := .type "set", dict := none, data := .set #[] 0 (.fresh 0 0 (!w.params.followText "set-order")) }
section
variable {P : Program} {w : World} {A : Around} {E : Value → Shared → Prop} {s : Shared}
theorem set_of_ints {l : Addr} {its : Array Value} (ns : List Int) {Q : Value → Shared → Prop} (hh : A.handled = none) (hl : s.heap.IsList l its) (hit : IntsAre its.toList ns) (hb : ns.length + 1 < scanBound)
    (h : ∀ (g : Heap) (tk c : Nat), SetR w g s.heap.objs.size (fun j => decide (j ∈ ns)) c → c ≤ ns.length → (∀ b o, s.heap.get? b = some o → g.get? b = some o) → Q (.ref s.heap.objs.size) { s with heap := g, toks := tk }) :
    wpAny (model P w) A (call (.type "set") [.ref l]) Q E s := by
  have hz : its.size = ns.length := by have q := IntsAre.length hit; rw [Array.length_toList] at q; exact q
  obtain ⟨c, tl, hmro⟩ := F.called_set.mro
  have m1 := F.called_set.made
  have m2 := F.called_set.sub
  refine wpAny_call (codeAny_of_tree ?_); show wpAny _ _ (callAny (.type "set") _) _ _ _
  refine wpAny_pure ⟨Code.quiet_builtin _ (by decide +kernel), ?_⟩
  refine codeAny_builtin F.entry_type_call ?_
  rw [Around.under_plain (weight_type_call_type "set" [.ref l] []) rfl]
  have h1 := F.called_set.notType
  have h2 := F.called_set.canCreate
  have hct := F.typeCall_set_1 (.ref l)
  repeat (any_goals (first | assumption | wp_step))
  refine codeAny_mono (code_set_led1 (.ref l) (E := E) (Q₁ := fun ob t₁ => ob = .ref s.heap.objs.size ∧ t₁ = { s with heap := s.heap.push (fset w) }) ⟨rfl, rfl⟩) fun r t₁ hr => ?_
  cases r with
  | error e => exact hr
  | ok fl =>
    cases fl with
    | ret ob =>
      obtain ⟨rfl, rfl⟩ := hr
      have hS : (s.heap.push (fset w)).get? s.heap.objs.size = some (fset w) := Heap.get?_push_size _ rfl
      have hT : Shared.TypeIs { s with heap := s.heap.push (fset w) } (.ref s.heap.objs.size) "set" := ⟨_, hS, rfl⟩
      have i1 := F.called_set.init.lookup
      have i2 := F.called_set.init.bind (.ref s.heap.objs.size)
      repeat (any_goals (first | assumption | wp_step))
      refine codeAny_mono (codeAny_call_builtin (R := wants (fun r t₂ => r = .none ∧ ∃ g tk c, t₂ = { s with heap := g, toks := tk } ∧ SetR w g s.heap.objs.size (fun j => decide (j ∈ ns)) c ∧ c ≤ ns.length ∧
          (∀ b o, s.heap.get? b = some o → g.get? b = some o)) E) F.called_set.init.plain F.entry_set_init (check_set_init_1 hT ?_)) fun r₂ t₂ hr₂ => ?_
      · obtain ⟨⟨oc, od, odt, osl⟩, hol, hcl, nl, hdl⟩ := hl
        simp only at hcl hdl
        subst hcl hdl
        have hol' : (s.heap.push (fset w)).get? l = some { cls := .type "list", dict := od, data := .seq its nl, slots := osl } := Heap.get?_push_of_some _ hol
        have k1 := F.sub_list_set
        have k2 := F.sub_list_frozenset
        have k3 : (Value.type "list" == Value.type "dict") = false := by decide
        have hl1 : (s.heap.push (fset w)).IsList l its := ⟨_, hol', rfl, nl, rfl⟩
        unfold Builtin.«set.__init__» noKeywords Builtin.Frozenset.updateFrom
        generalize hPI : pyIter = PI
        wp_walk
        subst hPI
        refine wpAny_pyIter_list hl1 (wpAny_bind (wpAny_runValue ?_))
        have hlS : l < s.heap.objs.size := Heap.lt_size hol
        have hh3 : A.in1.in1.in1.handled = none := by simp [hh]
        have z1 : (s.heap.push (fset w)).objs.size = s.heap.objs.size + 1 := Heap.size_push ..
        have hne : l ≠ (s.heap.push (fset w)).objs.size := by rw [z1]; exact Nat.ne_of_lt (Nat.lt_succ_of_lt hlS)
        have hSf : s.heap.objs.size ∉ [(s.heap.push (fset w)).objs.size, l] := by
          rw [z1]; intro q
          rcases List.mem_cons.mp q with e | e
          · exact absurd e (Nat.ne_of_lt (Nat.lt_succ_self _))
          · exact absurd (List.mem_singleton.mp e) (Nat.ne_of_gt hlS)
        have hval : ∀ (i : Nat) (v : Value), its[i]? = some v → ∃ k t, ns[i]? = some k ∧ v = .int k t := fun i v hv => by
          have hi : i < ns.length := by rw [← hz]; exact (Array.getElem?_eq_some_iff.mp hv).1
          obtain ⟨t, e⟩ := IntsAre.int_at hit i v (by rw [Array.getElem?_toList]; exact hv)
          exact ⟨ns[i], t, List.getElem?_eq_getElem hi, by rw [e, List.getD_eq_getElem?_getD, List.getElem?_eq_getElem hi]; rfl⟩
        refine set_update_ints ((Walks.list hh3 _ l hne its).toS) s.heap.objs.size hSf ns hz hb hval (its.size - 0) 0 _ (by omega) (Nat.zero_le _) ⟨⟨_, Heap.get?_push_size _ rfl, rfl, rfl⟩, (hl1.push _)⟩
          ⟨0, Nat.le_refl 0, setR_new_at (Heap.get?_push_of_some _ hS)⟩ fun s' c' hm hc' hS' => ?_
        obtain ⟨g, g2, d', tk', os'⟩ := s'
        have eg : g2 = s.gens := hm.gens
        have ed : d' = s.drawn := hm.drawn
        have eo : os' = s.os := hm.os
        subst eg ed eo
        show wpAny _ _ _ _ _ _
        refine wpAny_pure ?_
        show wpAny _ _ (ret Value.none) _ _ _
        rw [hz] at hc'
        refine wpAny_pure ⟨rfl, g, tk', c', rfl, hS', hc', fun b o e => ?_⟩
        have b0 : b < s.heap.objs.size := Heap.lt_size e
        exact hm.heap b o (fun q => by
          rw [z1] at q
          rcases List.mem_cons.mp q with e | q
          · exact absurd e (Nat.ne_of_lt b0)
          · exact absurd (List.mem_singleton.mp q) (Nat.ne_of_lt (Nat.lt_succ_of_lt b0))) (Heap.get?_push_of_some _ (Heap.get?_push_of_some _ e))
      · cases r₂ with
        | error e => exact hr₂
        | ok fl₂ =>
          cases fl₂ with
          | ret r =>
            obtain ⟨rfl, g, tk, c', rfl, hS', hc', hk'⟩ := hr₂
            repeat (any_goals (first | assumption | wp_step))
            exact h _ _ _ hS' hc' hk'
          | _ => exact hr₂.elim
    | _ => exact hr.elim
end
end Fl
namespace Fl
open PySem PySem.Spec L2
def insS {A : Type} (le : A → A → Bool) (x : A) : List A → List A
  | [] => [x]
  | y :: r => match le x y with
    | true => x :: y :: r
    | false => y :: insS le x r
def isortS {A : Type} (le : A → A → Bool) : List A → List A
  | [] => []
  | x :: r => insS le x (isortS le r)
section
variable {A : Type} {le : A → A → Bool}
theorem insS_perm (x : A) : ∀ l : List A, (insS le x l).Perm (x :: l)
  | [] => List.Perm.refl _
  | y :: r => by
    unfold insS
    split
    · exact List.Perm.refl _
    · exact ((insS_perm x r).cons y).trans (List.Perm.swap x y r)
theorem isortS_perm : ∀ l : List A, (isortS le l).Perm l
  | [] => List.Perm.refl _
  | x :: r => by
    unfold isortS
    exact (insS_perm x _).trans ((isortS_perm r).cons x)
theorem insS_sorted (h : PySem.W.TotalLe le) (x : A) : ∀ l : List A, l.Pairwise (fun a b => le a b = true) → (insS le x l).Pairwise (fun a b => le a b = true)
  | [], _ => List.pairwise_singleton _ _
  | y :: r, hp => by
    unfold insS
    split
    · rename_i c
      refine List.pairwise_cons.mpr ⟨fun z hz => ?_, hp⟩
      rcases List.mem_cons.mp hz with e | e
      · rw [e]; exact c
      · exact h.trans _ _ _ c ((List.pairwise_cons.mp hp).1 z e)
    · rename_i c
      have c2 : le y x = true := (h.total x y).resolve_left (by rw [c]; exact Bool.false_ne_true)
      refine List.pairwise_cons.mpr ⟨fun z hz => ?_, insS_sorted h x r (List.pairwise_cons.mp hp).2⟩
      rcases List.mem_cons.mp ((insS_perm x r).mem_iff.mp hz) with e | e
      · rw [e]; exact c2
      · exact (List.pairwise_cons.mp hp).1 z e
theorem isortS_sorted (h : PySem.W.TotalLe le) : ∀ l : List A, (isortS le l).Pairwise (fun a b => le a b = true)
  | [] => List.Pairwise.nil
  | x :: r => insS_sorted h x _ (isortS_sorted h r)
theorem insS_filter (h : PySem.W.TotalLe le) (c x : A) : ∀ l : List A, (insS le x l).filter (PySem.W.sameRank le c) = (x :: l).filter (PySem.W.sameRank le c)
  | [] => rfl
  | y :: r => by
    unfold insS
    split
    · rfl
    · rename_i e
      have ih := insS_filter h c x r
      rw [List.filter_cons (x := y), ih, List.filter_cons (x := x), List.filter_cons (x := x), List.filter_cons (x := y)]
      cases hx : PySem.W.sameRank le c x with
      | false => simp
      | true =>
        cases hy : PySem.W.sameRank le c y with
        | false => simp
        | true =>
          unfold PySem.W.sameRank at hx hy
          rw [Bool.and_eq_true] at hx hy
          have z := h.trans _ _ _ hx.2 hy.1
          rw [e] at z; cases z
theorem isortS_filter (h : PySem.W.TotalLe le) (c : A) : ∀ l : List A, (isortS le l).filter (PySem.W.sameRank le c) = l.filter (PySem.W.sameRank le c)
  | [] => rfl
  | x :: r => by
    unfold isortS
    rw [insS_filter h, List.filter_cons, List.filter_cons, isortS_filter h c r]
theorem isortS_merge (h : PySem.W.TotalLe le) (l : List A) : isortS le l = l.mergeSort le := PySem.W.sort_unique h (isortS_sorted h l) fun c => isortS_filter h c l
theorem sorted_eq {l m : List Int} (h : l.Pairwise (· ≤ ·)) (h2 : m.Pairwise (· ≤ ·)) (p : l.Perm m) : l = m := by
  induction l generalizing m with
  | nil => exact (List.Perm.nil_eq p)
  | cons x l ih =>
    cases m with
    | nil => exact absurd p.length_eq (by simp)
    | cons y m =>
      have e : x = y := by
        have a := (p.mem_iff (a := x)).mp List.mem_cons_self
        have b := (p.mem_iff (a := y)).mpr List.mem_cons_self
        have a1 : y ≤ x := by
          rcases List.mem_cons.mp a with q | q
          · omega
          · exact (List.pairwise_cons.mp h2).1 x q
        have b1 : x ≤ y := by
          rcases List.mem_cons.mp b with q | q
          · omega
          · exact (List.pairwise_cons.mp h).1 y q
        omega
      subst e
      rw [ih (List.pairwise_cons.mp h).2 (List.pairwise_cons.mp h2).2 ((List.perm_cons x).mp p)]
end
def leI (a b : Int) : Bool := decide (a ≤ b)
theorem leI_total : PySem.W.TotalLe leI := ⟨fun a b c h1 h2 => by unfold leI at *; rw [decide_eq_true_iff] at *; omega, fun a b => by unfold leI; rw [decide_eq_true_iff, decide_eq_true_iff]; omega⟩
def sortI (ns : List Int) : List Int := isortS leI ns
theorem sortI_sorted (ns : List Int) : (sortI ns).Pairwise (· ≤ ·) := (isortS_sorted leI_total ns).imp fun h => of_decide_eq_true h
theorem sortI_perm (ns : List Int) : (sortI ns).Perm ns := isortS_perm ns
def nubI : List Int → List Int
  | [] => []
  | x :: r => match r.contains x with
    | true => nubI r
    | false => x :: nubI r
theorem nubI_mem : ∀ (l : List Int) (k : Int), k ∈ nubI l ↔ k ∈ l
  | [], k => Iff.rfl
  | x :: r, k => by
    unfold nubI
    split
    · rename_i c
      rw [nubI_mem r k, List.mem_cons]
      constructor
      · exact .inr
      · rintro (e | e)
        · rw [e]; simpa using c
        · exact e
    · rw [List.mem_cons, nubI_mem r k, List.mem_cons]
theorem nubI_nodup : ∀ l : List Int, (nubI l).Nodup
  | [] => List.nodup_nil
  | x :: r => by
    unfold nubI
    split
    · exact nubI_nodup r
    · rename_i c
      exact List.nodup_cons.mpr ⟨fun h => by rw [nubI_mem] at h; simp [h] at c, nubI_nodup r⟩
def sortNub (ns : List Int) : List Int := sortI (nubI ns)
theorem nodup_perm {A : Type} [DecidableEq A] : ∀ {l m : List A}, l.Nodup → m.Nodup → (∀ k, k ∈ l ↔ k ∈ m) → l.Perm m := fun h1 h2 h => (List.perm_ext_iff_of_nodup h1 h2).mpr h
theorem sortNub_eq {ns l : List Int} (h : l.Pairwise (· < ·)) (hm : ∀ k, k ∈ l ↔ k ∈ ns) : l = sortNub ns := by
  refine sorted_eq (h.imp fun h => Int.le_of_lt h) (sortI_sorted _) (nodup_perm (h.imp fun h => Int.ne_of_lt h) ((sortI_perm _).nodup_iff.mpr (nubI_nodup ns)) fun k => ?_)
  unfold sortNub
  rw [hm, (sortI_perm _).mem_iff, nubI_mem]
def dSortSet (fe : EF) : EF := fun s M => (fe s M).bind fun d M1 => match seqOf M1 d with
  | some ds => (match intsOf ds with
    | some ns => (match decide (ns.length < 64) with
      | true => .ok (.ref M1.length) (M1 ++ [.lst ((sortNub ns).map .int)])
      | false => .bad)
    | none => .bad)
  | none => .bad
def dLenSet (fe : EF) : EF := fun s M => (fe s M).bind fun d M1 => match d with
  | .ref n => (match listAt M1 n with
    | some ds => (match intsOf ds with
      | some ns => (match decide (ns.length < 64) with
        | true => .ok (.int (nubI ns).length) M1
        | false => .bad)
      | none => .bad)
    | none => .bad)
  | _ => .bad
theorem seqInts {K : PySem.W.Frag} {L : Lay} {α : List Addr} {M : Mem} {H : Hp} (r : Rel K L α M H) {d : D} {v : V} {ds : List D} {ns : List Int} (h : Rep K α H d v) (hs : seqOf M d = some ds) (hi : intsOf ds = some ns) : ∃ a, v = .ref a ∧ (SqL K H a (ns.map V.int) ∨ SqT K H a (ns.map V.int)) := by
  obtain ⟨a, vs, rfl, hq, hr⟩ := h.seq r hs
  rw [intsOf_map hi] at hr
  rw [hr.ints] at hq
  exact ⟨a, rfl, hq⟩
section
variable {X : Cx} {L : Lay} {W : WX} {e : Expr} {fe : EF} {p p2 q pos : Pos}
theorem setO_keys {w : World} {h : Heap} {a : Addr} {ns : List Int} {c : Nat} (R : SetR w h a (fun j => decide (j ∈ ns)) c) : c = (nubI ns).length := by
  obtain ⟨o, es, ep, t, ho, hex, hd, g, nd, hm, hb, hf, hn, hr, hl⟩ := R
  have pm : (es.toList.map L2.keyOf).Perm (nubI ns) := nodup_perm nd (nubI_nodup ns) fun k => by rw [nubI_mem, ← hm k, decide_eq_true_iff]
  have z := pm.length_eq
  rw [List.length_map, Array.length_toList] at z
  omega
theorem fe_sortSet (hc : X.calm = true) (hg : Gl X "sorted") (hm : X.mg "sorted" = none) (hg2 : Gl X "set") (hm2 : X.mg "set" = none) (he : FE X L W e fe)
    (na : starEach [e] X.env = (false, eval e X.env) :: starEach [] X.env := by rfl) : FE X L W (.Call (.Name "sorted" p) [.Call (.Name "set" p2) [e] [] q] [] pos) (dSortSet fe) := by
  refine ⟨fun pins s σ H Q I ⟨α, M, sd, r, sl, h⟩ => ?_⟩
  refine PyProof.Rows.Call_ (ld_blt I hg hm PyProof.Rows.boot_sorted ?_)
  refine PyProof.Rows.callWith_builtin1 (PyProof.Rows.args_cons ?_ rfl) rfl rfl
  refine PyProof.Rows.Call_ (ld_blt I hg2 hm2 PyProof.Rows.boot_set ?_)
  refine PyProof.Rows.callWith_type1 (PyProof.Rows.args_cons (thn (he.run pins s σ H _ I ⟨α, M, sd, r, sl, PostR.bind (R := Rep _) h⟩) fun v s1 ⟨x, H1, I1, rx, dx, α1, M1, l1, r1, rd, h1⟩ => PyProof.Rows.args_nil ?_) na) na rfl
  dsimp only at h1
  split at h1
  · rename_i ds e1
    split at h1
    · rename_i ns e2
      split at h1
      · rename_i c
        have c := dt c
        obtain ⟨a, rfl, hq⟩ := seqInts r1 rd e1 e2
        cases rx
        have hb : ns.length + 1 < scanBound := by unfold scanBound; omega
        have fin : ∀ (g : Heap) (tk c : Nat), SetR X.w g s1.heap.objs.size (fun j => decide (j ∈ ns)) c → c ≤ ns.length → (∀ b o, s1.heap.get? b = some o → g.get? b = some o) →
            wpAny (model X.prog X.w) X.A (spliced (backTo pos (starEach [] X.env))) (fun vs s₂ => wpAny (model X.prog X.w) X.A (call (.builtin "sorted") (Value.ref s1.heap.objs.size :: vs)) (EP X pins σ Q) X.xe s₂) X.xe { s1 with heap := g, toks := tk } := fun g tk c' hS hc' hk => by
          refine PyProof.Rows.args_nil ?_
          have hn : H1 s1.heap.objs.size = none := I1.hok.fresh (Nat.le_refl _)
          have I2 : L2.Inv X pins σ (upd H1 s1.heap.objs.size (SetO X.w s1.heap.objs.size (fun j => decide (j ∈ ns)) c')) { s1 with heap := g, toks := tk } := I1.laid (t' := tk) hk (Nat.le_refl _) (setO_new hS)
          refine cr_sortedSet hc pins _ σ _ [.ref s1.heap.objs.size] _ Q I2 (.cons rfl .nil) ⟨_, _, c', rfl, upd_same, by omega, fun ms p hp hms _ hpn => ?_⟩
          have em := sortNub_eq (ns := ns) hp fun k => by rw [hms k, decide_eq_true_iff]
          rw [em]
          exact h1 _ _ _ ((Le.add hn).trans (Le.new hpn)) ((r1.add hn).new (o := .lst _) hpn ⟨_, upd_same, reps_int⟩) (rep_ref (by rw [← r1.len]; simp))
        rcases hq with hq | hq
        · obtain ⟨its, rv, pl, hz⟩ := I1.list hq
          exact set_of_ints ns (I1.ok.hd hc) pl.isList (by simpa using rv.ints) hb fin
        · obtain ⟨its, rv, pl, hz⟩ := I1.tuple hq
          exact call_set_tupI ns (I1.ok.hd hc) pl (by simpa using rv.ints) hb fin
      · exact h1.elim
    · exact h1.elim
  · exact h1.elim
end
end Fl
namespace Fl
open PySem PySem.Spec L2 PyProof.Rows
def gRevT : D → Mem → Res D := fun d M => match d with
  | .tup (x :: xs) => .ok (.tup (x :: xs).reverse) M
  | _ => .bad
section
variable {X : Cx} {L : Lay} {W : WX} {e : Expr} {fe : EF}
def dTupRg (fe : EF) : EF := fun s M => (fe s M).bind fun d M1 => match d with
  | .int n => (match decide (0 ≤ n ∧ n ≤ 16777216) with
    | true => .ok (.tup ((List.range n.toNat).map fun i => .int (i : Nat))) M1
    | false => .bad)
  | _ => .bad
end
def leP : D × PyData → D × PyData → Bool := PySem.W.dataLe false (fun b : D × PyData => b.2)
def alikeB (ps : List PyData) : Bool := ps.all fun p => ps.all fun q => PySem.W.alike p q
def isTupP : PyData → Bool
  | .tuple (_ :: _) => true
  | _ => false
def notTupP : PyData → Bool
  | .none => false
  | .tuple _ => false
  | _ => true
def sortOkB (ps : List PyData) : Bool := alikeB ps && ((ps.all isTupP || ps.all notTupP) && ps.all fun p => decide (p.depth < 60))
def sortP (ds : List D) (ps : List PyData) : List D := (isortS leP (ds.zip ps)).map (·.1)
def lstOf (M : Mem) : D → Option (List D)
  | .rol ds => some ds
  | .ref n => listAt M n
  | _ => none
theorem Rep.lstOf {K : PySem.W.Frag} {L : Lay} {α : List Addr} {M : Mem} {H : Hp} (r : Rel K L α M H) {d : D} {v : V} {ds : List D} (h : Rep K α H d v) (hs : lstOf M d = some ds) : ∃ a vs, v = .ref a ∧ SqL K H a vs ∧ Reps K α H ds vs := by
  cases d <;> try (cases hs; done)
  · cases hs
    obtain ⟨t, vs, e, ht, hr⟩ := h.rol
    exact ⟨t, vs, e, ht.sq, hr⟩
  · obtain ⟨a, ha, e⟩ := h.ref
    obtain ⟨a', vs, ha', hv, hr⟩ := r.list hs
    rw [ha] at ha'; cases ha'
    exact ⟨a, vs, e, .of hv, hr⟩
def gSorted : List D → Mem → Res D
  | [d], M => (match lstOf M d with
    | some ds => (match allSome (toPy M 8) ds with
      | some ps => (match sortOkB ps, decide (ds.length ≤ sizeLine) with
        | true, true => .ok (.ref M.length) (M ++ [.lst (sortP ds ps)])
        | _, _ => .bad)
      | none => .bad)
    | none => (match d with
      | .ref n => (match M[n]? with
        | some (.dk kvs) => (match intsOf (kvs.map fun kv => kD kv.1) with
          | some ns => (match decide (ns.length < 64) with
            | true => .ok (.ref M.length) (M ++ [.lst ((sortI ns).map .int)])
            | false => .bad)
          | none => .bad)
        | some (.fk kvs) => (match intsOf (kvs.map fun kv => kD kv.1) with
          | some ns => (match decide (ns.length < 64) with
            | true => .ok (.ref M.length) (M ++ [.lst ((sortI ns).map .int)])
            | false => .bad)
          | none => .bad)
        | _ => .bad)
      | _ => .bad))
  | _, _ => .bad
theorem allSome_zip {A B : Type} {f : A → Option B} : ∀ {l : List A} {m : List B}, allSome f l = some m → l.length = m.length ∧ ∀ p ∈ l.zip m, f p.1 = some p.2
  | [], m, h => by cases h; exact ⟨rfl, fun p hp => by simp at hp⟩
  | a :: l, m, h => by
    unfold allSome at h
    split at h
    · rename_i b e1
      split at h
      · rename_i bs e2
        cases h
        obtain ⟨h1, h2⟩ := allSome_zip e2
        refine ⟨by simp [h1], fun p hp => ?_⟩
        rcases List.mem_cons.mp (show p ∈ (a, b) :: l.zip bs from hp) with e | e
        · rw [e]; exact e1
        · exact h2 p e
      · cases h
    · cases h
theorem leP_total : PySem.W.TotalLe leP := by
  unfold leP PySem.W.dataLe
  exact PySem.W.sortLe_total _ _ _
def SrtR (K : PySem.W.Frag) (α : List Addr) (H : Hp) (u : Value) (b : D × PyData) : Prop := ∃ v, RelV v u ∧ Rep K α H b.1 v
theorem each_of {K : PySem.W.Frag} {α : List Addr} {H : Hp} : ∀ {ds : List D} {ps : List PyData} {vs : List V} {us : List Value}, ds.length = ps.length → Reps K α H ds vs → Vals vs us → PySem.W.EachIs (SrtR K α H) us (ds.zip ps)
  | [], ps, vs, us, hl, hr, hv => by
    have e := hr.nil
    subst e
    cases hv
    exact .nil
  | d :: ds, [], vs, us, hl, hr, hv => by simp at hl
  | d :: ds, p :: ps, vs, us, hl, hr, hv => by
    obtain ⟨x, xs, rfl, h1, h2⟩ := hr.cons
    cases hv with
    | cons a b => exact .cons ⟨x, a, h1⟩ (each_of (by simpa using hl) h2 b)
theorem each_back {K : PySem.W.Frag} {α : List Addr} {H : Hp} : ∀ {us : List Value} {bs : List (D × PyData)}, PySem.W.EachIs (SrtR K α H) us bs → ∃ vs, Vals vs us ∧ Reps K α H (bs.map (·.1)) vs
  | _, _, .nil => ⟨[], .nil, reps_nil⟩
  | _, _, .cons ⟨v, h1, h2⟩ t => by
    obtain ⟨vs, h3, h4⟩ := each_back t
    exact ⟨v :: vs, .cons h1 h3, reps_cons h2 h4⟩
theorem each_imp {A B : Type} {R R' : A → B → Prop} : ∀ {as : List A} {bs : List B}, PySem.W.EachIs R as bs → (∀ a b, b ∈ bs → R a b → R' a b) → PySem.W.EachIs R' as bs
  | _, _, .nil, _ => .nil
  | _, _, .cons h t, k => .cons (k _ _ List.mem_cons_self h) (each_imp t fun a b hb => k a b (List.mem_cons_of_mem _ hb))
section
variable {X : Cx} {L : Lay}
theorem dictInts {K : PySem.W.Frag} {α : List Addr} {H : Hp} {kvs : List (Key × D)} {vs : List (Key × V)} {ns : List Int} (h : KvR K α H kvs vs) (e : intsOf (kvs.map fun kv => kD kv.1) = some ns) : vs.map (·.1) = ns.map Sum.inl := by
  have e1 := intsOf_map e
  clear e
  induction h generalizing ns with
  | nil => cases ns with
    | nil => rfl
    | cons a b => simp at e1
  | @cons p q ps qs hp _ ih =>
    cases ns with
    | nil => simp at e1
    | cons n ns =>
      rw [List.map_cons, List.map_cons] at e1
      injection e1 with a b
      rw [List.map_cons, List.map_cons, ih b, ← hp.1]
      cases hk : p.1 with
      | inl i => rw [hk] at a; injection a with a; rw [a]
      | inr x => rw [hk] at a; cases a
theorem c_sorted (hc : X.calm = true) (hu : X.A.units + 70 < cLine) : CallF X L (.builtin "sorted") gSorted := fun w => call_case fun xs H Q ⟨α, M, ds, r, rx, h⟩ => by
  unfold gSorted at h
  split at h
  · rename_i d
    split at h
    · rename_i ds e
      split at h
      · rename_i ps e2
        split at h
        · rename_i c1 c2
          have c2 := dt c2
          obtain ⟨x, rfl, r1⟩ := rx.one
          obtain ⟨a, vs, rfl, hq, hr⟩ := Rep.lstOf r r1 e
          obtain ⟨hl, hz⟩ := allSome_zip e2
          unfold sortOkB at c1
          rw [Bool.and_eq_true, Bool.and_eq_true] at c1
          obtain ⟨a1, a2, a3⟩ := c1
          refine ⟨fun xs H' Q' => xs = [.ref a] ∧ H' = H ∧ Q' = Q, ?_, rfl, rfl, rfl⟩
          intro pins s σ H' xs us Q' I rvs ⟨ex, eH, eQ⟩
          subst ex eH eQ
          rw [Vals.ref1 rvs]
          have em : (ds.zip ps).map (fun b : D × PyData => b.2) = ps := List.map_snd_zip (by omega)
          have halike : PySem.W.AllAlike ((ds.zip ps).map fun b : D × PyData => b.2) := by
            rw [em]
            intro p hp q hq
            exact List.all_eq_true.mp (List.all_eq_true.mp a1 p hp) q hq
          have hsort : PySem.W.Sortable ((ds.zip ps).map fun b : D × PyData => b.2) := by
            rw [em]
            rw [Bool.or_eq_true] at a2
            rcases a2 with a2 | a2
            · refine .inl fun p hp => ?_
              have z := List.all_eq_true.mp a2 p hp
              unfold isTupP at z
              split at z
              · exact ⟨_, _, rfl⟩
              · cases z
            · refine .inr fun p hp => ?_
              have z := List.all_eq_true.mp a2 p hp
              unfold notTupP at z
              split at z
              · cases z
              · cases z
              · rename_i n1 n2
                exact ⟨n1, n2⟩
          have hlen : (ds.zip ps).length ≤ sizeLine := by rw [List.length_zip]; omega
          have go : ∀ {its : List Value}, Vals vs its → PySem.W.EachIs (fun v b => ∃ as, Reads s.heap v b.2 as) its (ds.zip ps) := fun {its} rv =>
            each_imp (each_of hl hr rv) fun u b hb ⟨v, h1, h2⟩ => Dp.reads I b.2 v u (toPy_dp r 8 b.1 v b.2 (hz b hb) h2) h1
          have fin : ∀ {its : List Value}, Vals vs its → ∀ out : List Value, PySem.W.EachIs (SrtR X.K α H') out ((ds.zip ps).mergeSort (PySem.W.dataLe false fun b : D × PyData => b.2)) →
              EP X pins σ Q' (.ref (s.heap.objs.size + 1)) { s with heap := PyProof.Rows.sortedAll s.heap its out.toArray } := fun {its} rv out ho => by
            obtain ⟨ep, he'⟩ := PyProof.Rows.sortedAll_at s.heap its out.toArray
            obtain ⟨ws, h1, h2⟩ := each_back ho
            have hn : H' (s.heap.objs.size + 1) = none := I.hok.fresh (Nat.le_succ _)
            have e3 : ((ds.zip ps).mergeSort (PySem.W.dataLe false fun b : D × PyData => b.2)).map (·.1) = sortP ds ps := by
              unfold sortP
              rw [isortS_merge leP_total]
              rfl
            rw [e3] at h2
            have hl2 : ws.length ≤ sizeLine := by
              have q := h2.length
              have q2 : (sortP ds ps).length = ds.length := by
                unfold sortP
                rw [List.length_map, (isortS_perm _).length_eq, List.length_zip]; omega
              omega
            refine ⟨.ref _, upd H' (s.heap.objs.size + 1) (.lst ws), I.laid (t' := s.toks) (fun _ _ => PyProof.Rows.sortedAll_old) (Nat.le_succ _) ⟨hl2, out, ep, h1, he'⟩, rfl, ?_⟩
            exact h _ _ _ (Le.new hn) (r.new (o := .lst _) hn ⟨_, upd_same, h2.le (Le.new hn)⟩) (rep_ref (by rw [← r.len]; simp))
          have hdep : ∀ b, b ∈ ds.zip ps → X.A.units + 2 + b.2.depth < cLine := fun b hb => by
            have z := dt (List.all_eq_true.mp a3 b.2 (by rw [← em]; exact List.mem_map_of_mem hb))
            omega
          obtain ⟨its, rv, hL, hsz⟩ := I.list hq
          exact PySem.W.sorted_data hL.isList (each_of hl hr rv) (go rv) halike hsort hlen hdep fun out _ ho => fin rv out ho
        · exact h.elim
      · exact h.elim
    · rename_i e0
      split at h
      · rename_i n
        split at h
        · rename_i kvs eo
          split at h
          · rename_i ns e2
            split at h
            · rename_i c
              obtain ⟨x, rfl, r1⟩ := rx.one
              obtain ⟨a, ha, rfl⟩ := r1.ref
              obtain ⟨a', ha', vs, hv, hr⟩ := r.at eo
              rw [ha] at ha'; cases ha'
              refine ⟨_, call_sortedDI hc, a, vs, ns, rfl, .inl hv, dictInts hr e2, dt c, fun ys p hp hs hn => ?_⟩
              have ey : ys = sortI ns := sorted_eq hs (sortI_sorted _) (hp.trans (sortI_perm _).symm)
              rw [ey]
              exact h _ _ _ (Le.new hn) (r.new (o := .lst _) hn ⟨_, upd_same, reps_int⟩) (rep_ref (by rw [← r.len]; simp))
            · exact h.elim
          · exact h.elim
        · rename_i kvs eo
          split at h
          · rename_i ns e2
            split at h
            · rename_i c
              obtain ⟨x, rfl, r1⟩ := rx.one
              obtain ⟨a, ha, rfl⟩ := r1.ref
              obtain ⟨a', ha', o, vs, hv, hr⟩ := r.at eo
              rw [ha] at ha'; cases ha'
              refine ⟨_, call_sortedDI hc, a, vs, ns, rfl, .inr ⟨o, hv⟩, dictInts hr e2, dt c, fun ys p hp hs hn => ?_⟩
              have ey : ys = sortI ns := sorted_eq hs (sortI_sorted _) (hp.trans (sortI_perm _).symm)
              rw [ey]
              exact h _ _ _ (Le.new hn) (r.new (o := .lst _) hn ⟨_, upd_same, reps_int⟩) (rep_ref (by rw [← r.len]; simp))
            · exact h.elim
          · exact h.elim
        · exact h.elim
      · exact h.elim
  · exact h.elim
end
end Fl
namespace Fl
open PySem PySem.Spec L2 PyProof.Rows
theorem tuple_mul1 (l : Addr) (its : Array Value) (n : Nat) (dd : Option Addr) (sl : Array (Option Value)) (u : Tok) :
    Meets (Builtin.«tuple.__mul__» ⟨[.ref l, .int 1 u], []⟩) (fun _ R s => s.heap.get? l = some { cls := .type "tuple", dict := dd, data := .seq its n, slots := sl } ∧ R (.ok (.ret (Value.ref l))) s) :=
  .of_wp fun prog w A R s h => by
    obtain ⟨hp, g, d, tk, os⟩ := s
    obtain ⟨hl, h⟩ := h
    have f1 := AutoSeq1.idx_int
    wp_walk using wpAny_loadPart' hl
    repeat (first
      | (refine wpAny_ite_false (decide_eq_false (by simp)) ?_; wp_walk using wpAny_loadPart' hl)
      | (refine wpAny_ite_true (decide_eq_true (by simp)) ?_; wp_walk using wpAny_loadPart' hl))
    exact ⟨_, rfl, h⟩
def gMulX : D → D → Mem → Res D := fun x y M => match x, y with
  | .tup xs, .int k => (match decide (k = 1) with
    | true => .ok (.tup xs) M
    | false => gMul (.tup xs) (.int k) M)
  | _, _ => gMul x y M
section
variable {X : Cx} {L : Lay}
theorem op_rep1 : OpR X (binaryOp .Mult) (fun x y H Q => ∃ l xs, x = .ref l ∧ y = .int 1 ∧ SqT X.K H l xs ∧ Q (.ref l) H) := by
  intro pins s σ H x y v u Q I rx ry h
  obtain ⟨l, xs, rfl, rfl, hT, q⟩ := h
  cases rx
  obtain ⟨t, rfl⟩ := ry
  obtain ⟨its, r, ⟨⟨cls, dd, data, sl⟩, ho, hc, n, hd⟩, hs⟩ := I.tuple hT
  simp only at hc hd
  subst hc hd
  exact wpAny_binaryOp_repeat_ref (T := "tuple") (U := "int") (by decide) ⟨_, ho, rfl⟩ (fun s' => typeIs_int s' 1 t) noFill_tuple_mul F.fills_int_mul F.slot_int_rmul repeat_tuple F.slot_int_index.lookup
    (call_meets F.slot_int_rmul (typeIs_int s 1 t) F.entry_int_rmul (F.args_int_rmul_2 _ _) (int_rmul_tuple 1 t l its.toArray n dd sl)
      ⟨ho, rfl, ⟨_, ho, rfl⟩, call_meets F.slot_tuple_mul ⟨_, ho, rfl⟩ F.entry_tuple_mul (F.args_tuple_mul_2 _ _) (tuple_mul1 l its.toArray n dd sl t) ⟨ho, ⟨.ref l, H, I, rfl, q⟩⟩⟩)
theorem o_mulX : Op2 X L (binaryOp .Mult) gMulX := fun w => op_case fun x y H Q ⟨α, M, dx, dy, r, rx, ry, h⟩ => by
  unfold gMulX at h
  split at h
  · split at h
    · rename_i xs k c
      have c := dt c
      subst c
      obtain ⟨t, vs, e, ht, hr⟩ := rx.tup
      subst e
      exact ⟨_, op_rep1, t, vs, rfl, ry.int, ht.sq, PostR.pure h r rx⟩
    · exact ⟨_, o_mul w, α, M, _, _, r, rx, ry, h⟩
  · exact ⟨_, o_mul w, α, M, _, _, r, rx, ry, h⟩
end
end Fl
namespace Fl
open PySem PySem.Spec L2
theorem hu70 {k : Nat} {A : Around} (hr : Room k A) : A.units + 70 < cLine := by have := hr.un; omega
theorem bb_len : bootBuiltins "len" = some (.builtin "len") := by decide +kernel
theorem bb_all : bootBuiltins "all" = some (.builtin "all") := by decide +kernel
theorem bb_any : bootBuiltins "any" = some (.builtin "any") := by decide +kernel
theorem bb_sum : bootBuiltins "sum" = some (.builtin "sum") := by decide +kernel
theorem bb_max : bootBuiltins "max" = some (.builtin "max") := by decide +kernel
theorem bb_min : bootBuiltins "min" = some (.builtin "min") := by decide +kernel
theorem bb_sorted : bootBuiltins "sorted" = some (.builtin "sorted") := by decide +kernel
theorem bb_list : bootBuiltins "list" = some (.type "list") := by decide +kernel
theorem bb_tuple : bootBuiltins "tuple" = some (.type "tuple") := by decide +kernel
theorem bb_int : bootBuiltins "int" = some (.type "int") := by decide +kernel
theorem bb_bool : bootBuiltins "bool" = some (.type "bool") := by decide +kernel
def dNewK : EF := fun _ M => .ok (.ref M.length) (M ++ [.dk []])
def dNewT : EF := fun _ M => .ok (.ref M.length) (M ++ [.dt []])
section
variable {X : Cx} {L : Lay} {W : WX} {pos : Pos}
theorem fe_newK : FE X L W (.Dict [] [] pos) dNewK := peImp pe_dnewK fun σ H Q ⟨α, M, s, r, sl, h⟩ p hp =>
  h _ _ _ (Le.new hp) (r.new (o := .dk []) hp ⟨_, upd_same, .nil⟩) (rep_ref (by rw [← r.len]; simp))
theorem fe_newT : FE X L W (.Dict [] [] pos) dNewT := peImp pe_dnewT fun σ H Q ⟨α, M, s, r, sl, h⟩ p hp =>
  h _ _ _ (Le.new hp) (r.new (o := .dt []) hp ⟨_, upd_same, .nil⟩) (rep_ref (by rw [← r.len]; simp))
end
section
variable {K : PySem.W.Frag} {x qual : Str} {params : Arguments} {body : List Stmt} {scope : Scope} {kws : List (Str × V)} {f : Addr} {fd : FuncData} {ps : List Str} {n : Nat}
theorem kb_plain (hb : Binds K fd ps []) (hn : n = ps.length) : KBn K fd ps n [] (fun us _ => us) (fun vs _ => vs) :=
  ⟨fun s us ws X l1 l2 => by
    have e : ws = [] := List.length_eq_zero_iff.mp (by simpa using l2)
    subst e
    have q := hb s us X (by rw [List.append_nil, l1, hn])
    rw [List.append_nil] at q
    exact q, fun r _ => r⟩
theorem FunD.kbN (F : FunD K x qual params body scope [] kws f fd) (n : Nat) (ks : List Str) (g : {α : Type} → List α → List α → List α)
    (hrel : ∀ {vs zs : List V} {us ws : List Value}, Vals vs us → Vals zs ws → Vals (g vs zs) (g us ws))
    (h : ∀ (kV doc pm : Value) (an : Option Addr) (cdv ct : Value) (us ws : List Value), us.length = n → ws.length = ks.length → bindArgs (PySem.W.fnOf x qual params body scope .none kV doc pm an cdv ct) ⟨us, ks.zip ws⟩ = pure (ps.zip (g us ws))) :
    KBn K fd ps n ks (fun us ws => g us ws) (fun vs zs => g vs zs) := by
  obtain ⟨oc, od, dV, kV, doc, pm, an, cdv, ct, osl, rfl, lk, hcd, hD, hK⟩ := F.ex
  rcases hD with ⟨_, rfl⟩ | ⟨e, _⟩
  · exact ⟨fun s us ws X l1 l2 => .of_eq (h kV doc pm an cdv ct us ws l1 l2), fun r1 r2 => hrel r1 r2⟩
  · exact absurd rfl e
theorem gr_plain : GRel K (fun xs _ => xs) (fun vs _ => vs) := ⟨fun r _ => r⟩
theorem gr_app : GRel K (fun xs zs => xs ++ zs) (fun vs zs => vs ++ zs) := ⟨fun r r2 => r.append r2⟩
end
end Fl
namespace Fl
open PySem PySem.Spec L2
theorem nmOf_inj : ∀ i j, nmOf i = nmOf j → i = j := by
  have hn : nmList.Nodup := by decide +kernel
  have hs : ∀ x ∈ nmList, x.cps.size < 100 := by decide +kernel
  intro i j h
  unfold nmOf at h
  cases e1 : nmList[i]? with
  | some x =>
    cases e2 : nmList[j]? with
    | some y =>
      simp only [e1, e2] at h
      rw [h, ← e2] at e1
      obtain ⟨hi, _⟩ := List.getElem?_eq_some_iff.mp (e1.trans e2)
      exact (List.getElem?_inj hi hn).mp e1
    | none =>
      simp only [e1, e2] at h
      have z := hs x (List.mem_of_getElem? e1)
      rw [h] at z
      simp at z; omega
  | none =>
    cases e2 : nmList[j]? with
    | some y =>
      simp only [e1, e2] at h
      have z := hs y (List.mem_of_getElem? e2)
      rw [← h] at z
      simp at z; omega
    | none =>
      simp only [e1, e2] at h
      have z : (Array.replicate (i + 100) 46).size = (Array.replicate (j + 100) 46).size := by
        injection h with h; rw [h]
      simp at z; exact z
section
variable {K : PySem.W.Frag} {ds : List D} {dv : List V}
theorem gr_dfl (h : ∀ α H, Reps K α H ds dv) : GRel K (fun xs _ => xs ++ ds) (fun vs _ => vs ++ dv) := ⟨fun r _ => r.append (h _ _)⟩
theorem gr_dfe (h : ∀ α H, Reps K α H ds dv) : GRel K (fun xs zs => xs ++ (zs ++ ds)) (fun vs zs => vs ++ (zs ++ dv)) := ⟨fun r z => r.append (z.append (h _ _))⟩
end
def gNeg : D → Mem → Res D := fun d M => match d with
  | .int i => .ok (.int (-i)) M
  | _ => .bad
theorem law_end {K : PySem.W.Frag} {L : Lay} {S : List D → Mem → Res D} {H : Hp} {a : Addr} {ns : List Int} (h : ∃ M, S [.rol (ns.map .int)] [] = .ok (.bl true) M) (hO : Only H) (hS : SqL K H a (ns.map V.int)) :
    spF K L S [.ref a] H (fun v _ => v = .bl true) fun _ _ _ => False := by
  obtain ⟨M, h⟩ := h
  have ro : RolAt K H a (ns.map V.int) := by
    rcases hS with (hS | ⟨o, hS⟩) | hS
    · rcases hO a with q | ⟨o, xs, q⟩ <;> (rw [hS] at q; cases q)
    · exact .inl ⟨o, hS⟩
    · exact .inr hS
  refine ⟨[], [], [.rol (ns.map .int)], ⟨rfl, List.nodup_nil, fun n o a h => by simp at h⟩, reps_cons (by unfold Rep; exact ⟨a, _, rfl, ro, reps_int⟩) reps_nil, ?_⟩
  rw [h]
  exact fun α' H' v _ _ rv => rv.bl
def CXA (P : Program) : CXT := fun o H s E u s' => ∃ w, L2.CX P w o H s E u s'
theorem FnOk.anyW {P : Program} {w : World} {K : PySem.W.Frag} {mg : Str → Option Value} {base : Heap} {k : Nat} {f : Addr} {fd : FuncData} {ps : List Str} {sp : Sp} (F : FnOk P w K mg base (L2.CX P w) k f fd ps sp) : FnOk P w K mg base (CXA P) k f fd ps sp :=
  ⟨F.len, fun A outer s H args us vs Q E hr he hb hv hs => codeAny_mono (F.run A outer s H args us vs Q E hr he hb hv hs) fun r s' h => by
    cases r with
    | error e => exact ⟨w, h⟩
    | ok fl => cases fl <;> exact h⟩
theorem cxa_none {P : Program} (H : Hp) (s : Shared) (e : Value) (s' : Shared) (h : CXA P [] H s (fun _ _ _ => False) e s') : False := by
  obtain ⟨w, a, B, H', cls, d, _, _, _, _, _, _, _, z⟩ := h
  exact z
end Fl
namespace Fl
open PySem PySem.Spec L2
theorem obsXG_eq {n : Nat} {fa : List He.Fa} {fn : List He.DefD} {xs : List (PySem.W.Frag → Bool)} {g : Addr → Option Obj} {s : Shared} (h : ∀ a, g a = s.heap.get? a) : obsXG n fa fn xs g = (hookX n fa fn xs).obs s := by
  have e : g = s.heap.get? := funext h
  rw [e]; rfl
theorem insB_ok {K : PySem.W.Frag} {C : Addr} (h : insB K C = true) : InsF K C := by
  unfold insB at h
  obtain ⟨h1, h2⟩ := He.ba h
  obtain ⟨a1, h1⟩ := He.ba h1
  obtain ⟨a2, h1⟩ := He.ba h1
  obtain ⟨a3, a4⟩ := He.ba h1
  obtain ⟨b1, h2⟩ := He.ba h2
  obtain ⟨b2, h2⟩ := He.ba h2
  obtain ⟨b3, b4⟩ := He.ba h2
  exact ⟨⟨a1, a2, a3, He.eqO_ok a4⟩, He.eqO_ok b1, He.eqO_ok b2, of_decide_eq_true b3, of_decide_eq_true b4⟩
theorem xcB_ok {K : PySem.W.Frag} {C : Addr} (h : xcB K C = true) : XcF K C := by
  unfold xcB at h
  obtain ⟨h1, h2⟩ := He.ba h
  obtain ⟨a1, h1⟩ := He.ba h1
  obtain ⟨a2, h1⟩ := He.ba h1
  obtain ⟨a3, a4⟩ := He.ba h1
  obtain ⟨b1, h2⟩ := He.ba h2
  obtain ⟨b2, h2⟩ := He.ba h2
  obtain ⟨b3, b4⟩ := He.ba h2
  exact ⟨a1, He.eqO_ok a2, He.eqO_ok a3, of_decide_eq_true a4, He.eqO_ok b1, He.eqO_ok b2, of_decide_eq_true b3, of_decide_eq_true b4⟩
def isEx (c : Nat) : Bool := decide (6 ≤ c ∧ c ≤ 17)
theorem isEx_mem {c : Nat} (h : isEx c = true) : c ∈ exRow := by
  have h := of_decide_eq_true h
  unfold exRow
  simp only [List.mem_cons, List.not_mem_nil, or_false]
  omega
structure ExAll (K : PySem.W.Frag) (L : Lay) : Prop where
  xc : ∀ c, isEx c = true → XcF K (L.cls c)
  ve : ∀ c, isEx c = true → PySem.W.kitOne K (.ref (L.cls c)) (.type "ValueError") = some true
  em : ∀ c d, isEx c = true → isEx d = true → PySem.W.exmOne K (.ref (L.cls c)) (.ref (L.cls d)) = some (exSub c d)
  kt : ∀ c d, isEx c = true → isEx d = true → PySem.W.kitOne K (.ref (L.cls c)) (.ref (L.cls d)) = some (exSub c d)
theorem exB_ok {cls : PySem.W.Frag → Nat → Addr} {K : PySem.W.Frag} {L : Lay} (hL : L.cls = cls K) (h : exB cls K = true) : ExAll K L := by
  unfold exB at h
  have h1 := List.all_eq_true.mp h
  refine ⟨fun c hc => ?_, fun c hc => ?_, fun c d hc hd => ?_, fun c d hc hd => ?_⟩
  all_goals
    rw [hL]
    obtain ⟨a1, a2⟩ := He.ba (h1 c (isEx_mem hc))
    obtain ⟨a2, a3⟩ := He.ba a2
  · exact xcB_ok a1
  · exact of_decide_eq_true a2
  · exact of_decide_eq_true (He.ba (List.all_eq_true.mp a3 d (isEx_mem hd))).1
  · exact of_decide_eq_true (He.ba (List.all_eq_true.mp a3 d (isEx_mem hd))).2
def tabX (d : Nat) : TyK → Option Bool
  | .exc c => (match isEx c with
    | true => some (exSub c d)
    | false => none)
  | _ => none
def tabVE : TyK → Option Bool
  | .exc c => (match isEx c with
    | true => some true
    | false => none)
  | _ => none
def tabC (d : Nat) : Nat → Option Bool := fun c => match isEx c with
  | true => some (exSub c d)
  | false => none
section
variable {K : PySem.W.Frag} {L : Lay}
theorem tabX_ok (T : ExAll K L) (d : Nat) (hd : isEx d = true) : TabOk K L (tabX d) (.ref (L.cls d)) := by
  refine ⟨fun k b e => ?_, fun c b e => (by cases e), fun c b e => ?_⟩
  · cases k <;> try (cases e; done)
    rename_i c
    unfold tabX at e
    cases hc : isEx c with
    | false => simp only [hc] at e; cases e
    | true =>
      simp only [hc] at e
      cases e
      exact T.kt c d hc hd
  · unfold tabX at e
    cases hc : isEx c with
    | false => simp only [hc] at e; cases e
    | true => exact T.xc c hc
theorem tabVE_ok (T : ExAll K L) : TabOk K L tabVE (.type "ValueError") := by
  refine ⟨fun k b e => ?_, fun c b e => (by cases e), fun c b e => ?_⟩
  · cases k <;> try (cases e; done)
    rename_i c
    unfold tabVE at e
    cases hc : isEx c with
    | false => simp only [hc] at e; cases e
    | true =>
      simp only [hc] at e
      cases e
      exact T.ve c hc
  · unfold tabVE at e
    cases hc : isEx c with
    | false => simp only [hc] at e; cases e
    | true => exact T.xc c hc
theorem tabC_ok (T : ExAll K L) (d : Nat) (hd : isEx d = true) : ∀ c b, tabC d c = some b → PySem.W.exmOne K (.ref (L.cls c)) (.ref (L.cls d)) = some b := fun c b e => by
  unfold tabC at e
  cases hc : isEx c with
  | false => simp only [hc] at e; cases e
  | true =>
    simp only [hc] at e
    cases e
    exact T.em c d hc hd
theorem bb_VE : bootBuiltins "ValueError" = some (.type "ValueError") := by decide +kernel
end
theorem exk_of {K : PySem.W.Frag} {mg : Str → Option Value} {x : Str} {C : Addr} (g : mg x = some (.ref C)) (c : (He.Fa.exc x).ok K = true) (hC : He.ga K x = C := by rfl) : ExK K mg x C := by
  obtain ⟨h1, h2, h3, h4⟩ := He.exc_ok c
  subst hC
  exact ⟨g, h1, h2, h3, h4⟩
end Fl
namespace Fl
open PySem PySem.Spec L2
def lockM (M : Mem) (n : Nat) : Option (Mem × MO) := match M[n]? with
  | some (.dk kvs) => some (M.set n (.fk kvs), .dk kvs)
  | some (.dt kvs) => some (M.set n (.ft kvs), .dt kvs)
  | some (.dn kvs) => some (M.set n (.fn kvs), .dn kvs)
  | _ => none
def lockAt (fo : EF) (s : Sl) (M : Mem) : Option (Nat × Mem × MO) := match fo s M with
  | .ok (.ref n) _ => (lockM M n).map fun p => (n, p.1, p.2)
  | _ => none
def SR.back (n : Nat) (o : MO) : SR → SR
  | .nx s M => .nx s (M.set n o)
  | .rt d M => .rt d (M.set n o)
  | .bk s M => .bk s (M.set n o)
  | .ct s M => .ct s (M.set n o)
  | .exc c f s M => .bad
  | .bad => .bad
def Res.back {A : Type} (n : Nat) (o : MO) : Res A → Res A
  | .ok a M => .ok a (M.set n o)
  | .exc _ _ _ => .bad
  | .bad => .bad
def sLock (fo : EF) (t : SF) : SF := fun s M => match lockAt fo s M with
  | some (n, M1, o) => (t s M1).back n o
  | none => .bad
def dLock (fo : EF) (t : EF) : EF := fun s M => match lockAt fo s M with
  | some (n, M1, o) => (t s M1).back n o
  | none => .bad
section
variable {K : PySem.W.Frag} {L : Lay} {α α' : List Addr} {M M' : Mem} {H H' : Hp}
structure Lk (K : PySem.W.Frag) (L : Lay) (α : List Addr) (M : Mem) (H : Hp) (n : Nat) (M1 : Mem) (o : MO) (d : Addr) (u : HO) : Prop where
  at_ : α[n]? = some d
  hd : H d = some u
  mu : Mut (some u)
  nf : ∀ o' u', u ≠ .frz o' u'
  ou : Ours u
  nl : ∀ xs, u ≠ .lst xs
  rel : ∀ od, Rel K L α M1 (upd H d (.frz od u))
  le : ∀ od, Le α H α (upd H d (.frz od u))
  back : ∀ od α' M' H', Le α (upd H d (.frz od u)) α' H' → Rel K L α' M' H' → Rel K L α' (M'.set n o) (upd H' d u)
theorem lock_le {d : Addr} {u : HO} {od : Obj} (hm : d ∈ α) (hd : H d = some u) (nf : ∀ o' u', u ≠ .frz o' u') (ou : Ours u) (l : Le α (upd H d (.frz od u)) α' H') : Le α H α' (upd H' d u) := by
  obtain ⟨β, e, f⟩ := l.ext
  have hd' : H' d = some (.frz od u) := l.rols d od u upd_same
  refine ⟨⟨β, e, fun b hb => ?_⟩, fun a o h hn => ?_, fun a h => ?_, fun a xs h => ?_, fun a o xs h => ?_⟩
  · have z := f b hb
    by_cases q : b = d
    · rw [q, upd_same] at z; cases z
    · rwa [upd_ne q] at z
  · have ne : a ≠ d := fun z => hn (z ▸ hm)
    rw [upd_ne ne]
    exact l.keep a o (by rw [upd_ne ne]; exact h) hn
  · by_cases q : a = d
    · rw [q, upd_same]; exact fun z => nomatch z
    · rw [upd_ne q]
      exact l.dom a (by rw [upd_ne q]; exact h)
  · have ne : a ≠ d := fun z => by rw [z, hd] at h; cases h; exact ou
    rw [upd_ne ne]
    exact l.tups a xs (by rw [upd_ne ne]; exact h)
  · have ne : a ≠ d := fun z => by rw [z, hd] at h; cases h; exact nf _ _ rfl
    rw [upd_ne ne]
    exact l.rols a o xs (by rw [upd_ne ne]; exact h)
theorem lock_at {fo : EF} {s : Sl} {n : Nat} {M1 : Mem} {o : MO} (r : Rel K L α M H) (h : lockAt fo s M = some (n, M1, o)) : ∃ d u, Lk K L α M H n M1 o d u := by
  unfold lockAt at h
  split at h
  · rename_i m M0 e
    cases hl : lockM M m with
    | none => rw [hl] at h; cases h
    | some p =>
      rw [hl] at h
      simp only [Option.map_some, Option.some.injEq, Prod.mk.injEq] at h
      obtain ⟨rfl, rfl, rfl⟩ := h
      unfold lockM at hl
      split at hl
      · rename_i kvs eo
        cases hl
        obtain ⟨d, ha, vs, hv, hr⟩ := r.at eo
        have hm : d ∈ α := List.mem_of_getElem? ha
        have le : ∀ od, Le α H α (upd H d (.frz od (.dK vs))) := fun od => Le.write hm hv trivial
        refine ⟨d, _, ⟨ha, hv, trivial, fun _ _ z => (nomatch z), trivial, fun _ z => (nomatch z), fun od => r.write (o := .fk kvs) ha ⟨od, vs, upd_same, hr.le (le od)⟩, le, fun od α' M' H' l r' => ?_⟩⟩
        have l2 := lock_le hm hv (fun _ _ z => nomatch z) trivial l
        exact r'.write (o := .dk kvs) (l.get ha) ⟨vs, upd_same, hr.le l2⟩
      · rename_i kvs eo
        cases hl
        obtain ⟨d, ha, vs, hv, hr⟩ := r.at eo
        have hm : d ∈ α := List.mem_of_getElem? ha
        have le : ∀ od, Le α H α (upd H d (.frz od (.dT vs))) := fun od => Le.write hm hv trivial
        refine ⟨d, _, ⟨ha, hv, trivial, fun _ _ z => (nomatch z), trivial, fun _ z => (nomatch z), fun od => r.write (o := .ft kvs) ha ⟨od, vs, upd_same, hr.le (le od)⟩, le, fun od α' M' H' l r' => ?_⟩⟩
        have l2 := lock_le hm hv (fun _ _ z => nomatch z) trivial l
        exact r'.write (o := .dt kvs) (l.get ha) ⟨vs, upd_same, hr.le l2⟩
      · rename_i kvs eo
        cases hl
        obtain ⟨d, ha, vs, hv, hr⟩ := r.at eo
        have hm : d ∈ α := List.mem_of_getElem? ha
        have le : ∀ od, Le α H α (upd H d (.frz od (NDict d vs))) := fun od => Le.write hm hv trivial
        refine ⟨d, _, ⟨ha, hv, trivial, fun _ _ z => (nomatch z), trivial, fun _ z => (nomatch z), fun od => r.write (o := .fn kvs) ha ⟨od, vs, upd_same, hr.le (le od)⟩, le, fun od α' M' H' l r' => ?_⟩⟩
        have l2 := lock_le hm hv (fun _ _ z => nomatch z) trivial l
        exact r'.write (o := .dn kvs) (l.get ha) ⟨vs, upd_same, hr.le l2⟩
      · cases hl
  · cases h
theorem Lw.unlock {d : Addr} {u : HO} {od : Obj} (h : H' d = some (.frz od u)) (nl : ∀ xs, u ≠ .lst xs) : Lw α' H' α' (upd H' d u) := by
  refine ⟨⟨[], by simp⟩, fun a xs e => ?_, fun a o xs e => ?_⟩
  · rw [upd_ne (fun z => by rw [z, h] at e; cases e)]; exact e
  · have ne : a ≠ d := fun z => by
      rw [z, h] at e; cases e
      exact nl _ rfl
    rw [upd_ne ne]; exact e
end
section
variable {X : Cx} {L : Lay} {fo : EF}
theorem fs_lock {st : Stmt} {t : SF} (h : FS X L W0 st t) {W : WX} : FS X L W st (sLock fo t) := by
  refine psImp (ps_lock h) fun D σ H ⟨α, M, s, r, sl, q⟩ => ?_
  unfold sLock at q
  cases e : lockAt fo s M with
  | none => rw [e] at q; exact q.elim
  | some p =>
    obtain ⟨n, M1, o⟩ := p
    rw [e] at q
    obtain ⟨d, u, k⟩ := lock_at r e
    have hm : d ∈ α := List.mem_of_getElem? k.at_
    refine ⟨d, u, k.hd, k.mu, fun od => ⟨α, M1, s, k.rel od, sl.le (k.le od), ?_⟩⟩
    dsimp only at q
    cases et : t s M1 with
    | nx s2 M2 =>
      rw [et] at q
      intro α' H' σ' l r' sl'
      have hd' : H' d = some (.frz od u) := l.rols d od u upd_same
      exact ⟨hd', q α' _ σ' (lock_le hm k.hd k.nf k.ou l) (k.back od α' M2 H' l r') (sl'.lw (Lw.unlock hd' k.nl))⟩
    | bk s2 M2 =>
      rw [et] at q
      intro α' H' σ' l r' sl'
      have hd' : H' d = some (.frz od u) := l.rols d od u upd_same
      exact ⟨hd', q α' _ σ' (lock_le hm k.hd k.nf k.ou l) (k.back od α' M2 H' l r') (sl'.lw (Lw.unlock hd' k.nl))⟩
    | ct s2 M2 =>
      rw [et] at q
      intro α' H' σ' l r' sl'
      have hd' : H' d = some (.frz od u) := l.rols d od u upd_same
      exact ⟨hd', q α' _ σ' (lock_le hm k.hd k.nf k.ou l) (k.back od α' M2 H' l r') (sl'.lw (Lw.unlock hd' k.nl))⟩
    | rt v M2 =>
      rw [et] at q
      intro α' H' v' l r' rv
      have hd' : H' d = some (.frz od u) := l.rols d od u upd_same
      exact ⟨hd', q α' _ v' (lock_le hm k.hd k.nf k.ou l) (k.back od α' M2 H' l r') (rv.lw (Lw.unlock hd' k.nl))⟩
    | exc c f s2 M2 => rw [et] at q; exact q.elim
    | bad => rw [et] at q; exact q.elim
end
section
variable {X : Cx} {L : Lay} {W : WX} {tg e : Expr} {f fo : EF}
theorem fe_lock {t : EF} (h : FE X L W0 e t) : FE X L W e (dLock fo t) := by
  refine peImp (pe_lock h) fun σ H Q ⟨α, M, s, r, sl, q⟩ => ?_
  unfold dLock at q
  cases el : lockAt fo s M with
  | none => rw [el] at q; exact q.elim
  | some p =>
    obtain ⟨n, M1, o⟩ := p
    rw [el] at q
    obtain ⟨d, u, k⟩ := lock_at r el
    have hm : d ∈ α := List.mem_of_getElem? k.at_
    refine ⟨d, u, k.hd, k.mu, fun od => ⟨α, M1, s, k.rel od, sl.le (k.le od), ?_⟩⟩
    dsimp only at q
    cases et : t s M1 with
    | ok v M2 =>
      rw [et] at q
      intro α' H' v' l r' rv
      have hd' : H' d = some (.frz od u) := l.rols d od u upd_same
      exact ⟨hd', q α' _ v' (lock_le hm k.hd k.nf k.ou l) (k.back od α' M2 H' l r') (rv.lw (Lw.unlock hd' k.nl))⟩
    | exc c f M2 => rw [et] at q; exact q.elim
    | bad => rw [et] at q; exact q.elim
def nxK (n : Nat) : ItF := fun i M => match M[n]? with
  | some (.fk kvs) => some (kvs[i]?.map fun kv => kD kv.1)
  | some (.ft kvs) => some (kvs[i]?.map fun kv => .tup (kv.1.map kD))
  | _ => none
def iKeysF (f : EF) : IF := fun s M => (f s M).bind fun d M1 => match d with
  | .ref n => (match M1[n]? with
    | some (.fk kvs) => .ok (nxK n, kvs.length + 1) M1
    | some (.ft kvs) => .ok (nxK n, kvs.length + 1) M1
    | _ => .bad)
  | _ => .bad
theorem KvR.ixs {κ : Type} {K : PySem.W.Frag} {α : List Addr} {H : Hp} {ks : List (κ × D)} {vs : List (κ × V)} (h : KvR K α H ks vs) (i : Nat) : (ks[i]?.map (·.1)) = vs[i]?.map (·.1) := by
  induction h generalizing i with
  | nil => rfl
  | cons p _ ih =>
    cases i with
    | zero => simp [p.1]
    | succ i => simpa using ih i
theorem rep_kD {K : PySem.W.Frag} {α : List Addr} {H : Hp} (k : Key) : Rep K α H (kD k) (kV k) := by
  cases k <;> (unfold Rep kD kV; rfl)
theorem reps_kD {K : PySem.W.Frag} {α : List Addr} {H : Hp} (ks : List Key) : Reps K α H (ks.map kD) (ks.map kV) := by
  induction ks with
  | nil => exact reps_nil
  | cons k r ih => exact reps_cons (rep_kD k) ih
theorem fi_keys (he : FE X L W e f) : FI X L W tg e (iKeysF f) := piImp (pi_keys he) fun σ H R ⟨α, M, s, r, sl, h⟩ => ⟨α, M, s, r, sl, (PostR.bind (R := Rep _) h).imp fun x H1 ⟨dx, α1, M1, l1, r1, rd, h1⟩ => by
  dsimp only at h1
  split at h1
  · rename_i n
    split at h1
    · rename_i kvs eo
      obtain ⟨a, ha, rfl⟩ := rd.ref
      obtain ⟨a', ha', o, vs, hv, hr⟩ := r1.at eo
      rw [ha] at ha'; cases ha'
      refine ⟨a, o, rfl, .inl ⟨vs, hv, PostR.pure (R := RIt _ _) h1 r1 fun i α' H' M' l' r' => ?_⟩⟩
      have hv' : H' a = some (.frz o (.dK vs)) := l'.rols a o _ hv
      show ItAt X.K L α' H' M' (Itk a o vs) i (nxK n i M')
      unfold nxK
      split
      · rename_i ks2 eo2
        obtain ⟨a2, ha2, o2, vs2, hv2, hr2⟩ := r'.at eo2
        rw [l'.get ha] at ha2; cases ha2
        rw [hv'] at hv2; cases hv2
        have z := hr2.ixs i
        cases e1 : ks2[i]? with
        | none =>
          rw [e1] at z
          have z : none = vs[i]?.map (·.1) := z
          exact ⟨hv', List.getElem?_eq_none_iff.mp (Option.map_eq_none_iff.mp z.symm)⟩
        | some kv =>
          rw [e1] at z
          obtain ⟨kv2, e2, e3⟩ := Option.map_eq_some_iff.mp z.symm
          refine ⟨⟨hv', (List.getElem?_eq_some_iff.mp e2).1⟩, fun x H2 y => ?_⟩
          obtain ⟨rfl, k, v, e4, rfl⟩ := y
          rw [e2] at e4; cases e4
          have e3 : k = kv.1 := e3
          rw [e3]
          exact ⟨Le.refl _ _, r', rep_kD _⟩
      · rename_i ks2 eo2
        obtain ⟨a2, ha2, o2, vs2, hv2, hr2⟩ := r'.at eo2
        rw [l'.get ha] at ha2; cases ha2
        rw [hv'] at hv2; cases hv2
      · trivial
    · rename_i kvs eo
      obtain ⟨a, ha, rfl⟩ := rd.ref
      obtain ⟨a', ha', o, vs, hv, hr⟩ := r1.at eo
      rw [ha] at ha'; cases ha'
      refine ⟨a, o, rfl, .inr ⟨vs, hv, PostR.pure (R := RIt _ _) h1 r1 fun i α' H' M' l' r' => ?_⟩⟩
      have hv' : H' a = some (.frz o (.dT vs)) := l'.rols a o _ hv
      show ItAt X.K L α' H' M' (Itkt a o vs) i (nxK n i M')
      unfold nxK
      split
      · rename_i ks2 eo2
        obtain ⟨a2, ha2, o2, vs2, hv2, hr2⟩ := r'.at eo2
        rw [l'.get ha] at ha2; cases ha2
        rw [hv'] at hv2; cases hv2
      · rename_i ks2 eo2
        obtain ⟨a2, ha2, o2, vs2, hv2, hr2⟩ := r'.at eo2
        rw [l'.get ha] at ha2; cases ha2
        rw [hv'] at hv2; cases hv2
        have z := hr2.ixs i
        cases e1 : ks2[i]? with
        | none =>
          rw [e1] at z
          have z : none = vs[i]?.map (·.1) := z
          exact ⟨hv', List.getElem?_eq_none_iff.mp (Option.map_eq_none_iff.mp z.symm)⟩
        | some kv =>
          rw [e1] at z
          obtain ⟨kv2, e2, e3⟩ := Option.map_eq_some_iff.mp z.symm
          refine ⟨⟨hv', (List.getElem?_eq_some_iff.mp e2).1⟩, fun x H2 y => ?_⟩
          obtain ⟨rfl, k, v, q, e4, rfl, hq⟩ := y
          rw [e2] at e4; cases e4
          have e3 : k = kv.1 := e3
          rw [e3] at hq
          refine ⟨Le.refl _ _, r', ?_⟩
          unfold Rep
          exact ⟨q, _, rfl, .inl hq, reps_kD _⟩
      · trivial
    · exact h1.elim
  · exact h1.elim⟩
end
structure ClAll (K : PySem.W.Frag) (L : Lay) : Prop where
  nc : L.nc = 6
  ins : ∀ c, c < 6 → InsF K (L.cls c)
  na : ∀ c, c < 6 → ∀ i, i < 25 → NoAttr K (L.cls c) (L.nm i)
theorem clB_ok {cls : PySem.W.Frag → Nat → Addr} {K : PySem.W.Frag} {L : Lay} (hL : L.cls = cls K) (hn : L.nm = nmOf) (hc : L.nc = 6) (h : clB cls K = true) : ClAll K L := by
  unfold clB at h
  have h1 := List.all_eq_true.mp h
  refine ⟨hc, fun c hc => ?_, fun c hc i hi => ?_⟩
  · rw [hL]
    exact insB_ok (He.ba (h1 c (List.mem_range.mpr hc))).1
  · rw [hL, hn]
    exact He.eqO_ok (List.all_eq_true.mp (He.ba (h1 c (List.mem_range.mpr hc))).2 i (List.mem_range.mpr hi))
theorem ClAll.cl {K : PySem.W.Frag} {L : Lay} (T : ClAll K L) (c : Nat) (h : c < L.nc) : Cls K (L.cls c) := (T.ins c (by rw [T.nc] at h; exact h)).cl
theorem ClAll.fld {K : PySem.W.Frag} {L : Lay} (T : ClAll K L) (i : Nat) (hi : i < 25) : FldOk K L i := ⟨T.cl, fun c h => T.na c (by rw [T.nc] at h; exact h) i hi⟩
end Fl
namespace Fl
open PySem PySem.Spec L2
def tabLT : TyK → Option Bool
  | .lst => some true | .tup => some true | .ins _ => none | .exc _ => none | _ => some false
section
variable {X : Cx} {L : Lay} {W : WX} {e : Expr} {f : EF} {pos : Pos}
theorem lt_any {K : PySem.W.Frag} {L : Lay} {k : TyK} {b : Bool} (h : tabLT k = some b) : PySem.W.kitAny K (tyVal L k) [.type "list", .type "tuple"] = some b := by
  have z : ∀ T, tabLst k = kitB T "list" → tabTup k = kitB T "tuple" → tyVal L k = .type T → PySem.W.kitAny K (tyVal L k) [.type "list", .type "tuple"] = some b := fun T h1 h2 h3 => by
    rw [h3]
    unfold PySem.W.kitAny
    cases k <;> first | (cases h; done) | skip
    all_goals
      cases h
      rw [kit_ty (K := K) h1.symm]
    all_goals first
      | rfl
      | (show PySem.W.kitAny K _ [.type "tuple"] = _
         unfold PySem.W.kitAny
         rw [kit_ty (K := K) h2.symm]
         try rfl)
  cases k <;> first | (cases h; done) | skip
  · exact z "NoneType" (by decide +kernel) (by decide +kernel) rfl
  · exact z "bool" (by decide +kernel) (by decide +kernel) rfl
  · exact z "int" (by decide +kernel) (by decide +kernel) rfl
  · exact z "str" (by decide +kernel) (by decide +kernel) rfl
  · exact z "tuple" (by decide +kernel) (by decide +kernel) rfl
  · exact z "list" (by decide +kernel) (by decide +kernel) rfl
  · exact z "dict" (by decide +kernel) (by decide +kernel) rfl
theorem bb_list' : bootBuiltins "list" = some (.type "list") := by decide +kernel
theorem bb_tuple' : bootBuiltins "tuple" = some (.type "tuple") := by decide +kernel
theorem fe_isiLT {p q1 q2 tpos : Pos} {k} (hg : Gl X "isinstance") (hm : X.mg "isinstance" = none) (hg1 : Gl X "list") (hm1 : X.mg "list" = none) (hg2 : Gl X "tuple") (hm2 : X.mg "tuple" = none) (he : FE X L W e f)
    (hs : starEach [e, .Tuple [.Name "list" q1, .Name "tuple" q2] k tpos] X.env = (false, eval e X.env) :: starEach [.Tuple [.Name "list" q1, .Name "tuple" q2] k tpos] X.env := by rfl)
    (hs2 : starEach [.Tuple [.Name "list" q1, .Name "tuple" q2] k tpos] X.env = (false, eval (.Tuple [.Name "list" q1, .Name "tuple" q2] k tpos) X.env) :: starEach [] X.env := by rfl)
    (hs3 : starEach [.Name "list" q1, .Name "tuple" q2] X.env = (false, eval (.Name "list" q1) X.env) :: starEach [.Name "tuple" q2] X.env := by rfl)
    (hs4 : starEach [.Name "tuple" q2] X.env = (false, eval (.Name "tuple" q2) X.env) :: starEach [] X.env := by rfl)
    (hpl : (backTo pos (starEach [.Tuple [.Name "list" q1, .Name "tuple" q2] k tpos] X.env)).any (·.1) = false := by rfl) :
    FE X L W (.Call (.Name "isinstance" p) [e, .Tuple [.Name "list" q1, .Name "tuple" q2] k tpos] [] pos) (dOp1 (gIsi tabLT) f) :=
  ⟨fun pins s σ H Q I ⟨α, M, sd, r, sl, h⟩ => (pe_callB call_isiT hg hm (by decide +kernel) (pa_cons he (pa_cons (pe_tup (pa_cons (pe_bltn (v := .ty "list") (u := .type "list") hg1 hm1 bb_list' rfl (by decide) (by decide)) (pa_cons (pe_bltn (v := .ty "tuple") (u := .type "tuple") hg2 hm2 bb_tuple' rfl (by decide) (by decide)) pa_nil hs4) hs3)) pa_nil hs2) hs) (by decide) (by decide) hs hpl).run pins s σ H Q I
    ⟨α, M, sd, r, sl, (PostR.bind (R := Rep _) h).imp fun x H1 ⟨dx, α1, M1, l1, r1, rx, h1⟩ => by
      refine ⟨Nat.le_trans (by decide : ([V.ty "list", V.ty "tuple"] : List V).length ≤ 2) (by decide), fun T hT => ?_⟩
      dsimp only at h1
      unfold gIsi at h1
      cases ek : tyK M1 dx with
      | none => rw [ek] at h1; exact h1.elim
      | some k =>
        rw [ek] at h1
        cases eb : tabLT k with
        | none =>
          have z : (some k).bind tabLT = none := eb
          rw [z] at h1; exact h1.elim
        | some b =>
          have z : (some k).bind tabLT = some b := eb
          rw [z] at h1
          have le := Le.tup (α := α1) (vs := [.ty "list", .ty "tuple"]) hT
          have r2 := r1.tup (vs := [.ty "list", .ty "tuple"]) hT
          have ty := tyX_of r2 ek (rx.le le) (fun c z => by subst z; cases eb) (fun c z => by subst z; cases eb)
          exact ⟨x, T, [.ty "list", .ty "tuple"], tyVal L k, [.type "list", .type "tuple"], b, rfl, upd_same, .cons (.ty _) (.cons (.ty _) .nil), ty, lt_any eb, h1 α1 _ _ le r2 rep_bl⟩⟩⟩
end
def tabW (d : Nat) : TyK → Option Bool
  | .exc _ => none
  | .ins c => (match decide (c = d), decide (d = 0 ∧ c = 3) with
    | true, _ => some true
    | false, true => some false
    | false, false => none)
  | _ => some false
structure WAll (K : PySem.W.Frag) (L : Lay) : Prop where
  ty : ∀ T ∈ (["NoneType", "bool", "int", "str", "tuple", "list", "dict"] : List String), PySem.W.kitOne K (.type T) (.ref (L.cls 0)) = some false
  w : PySem.W.kitOne K (.ref (L.cls 0)) (.ref (L.cls 0)) = some true
  c : PySem.W.kitOne K (.ref (L.cls 3)) (.ref (L.cls 0)) = some false
theorem wB_ok {cls : PySem.W.Frag → Nat → Addr} {K : PySem.W.Frag} {L : Lay} (hL : L.cls = cls K) (h : wB cls K = true) : WAll K L := by
  unfold wB at h
  obtain ⟨h1, h2⟩ := He.ba h
  obtain ⟨h2, h3⟩ := He.ba h2
  refine ⟨fun T hT => ?_, ?_, ?_⟩
  · rw [hL]; exact of_decide_eq_true (List.all_eq_true.mp h1 T hT)
  · rw [hL]; exact of_decide_eq_true h2
  · rw [hL]; exact of_decide_eq_true h3
theorem tabW_ins {d c : Nat} {b : Bool} (h : tabW d (.ins c) = some b) : (c = d ∧ b = true) ∨ (d = 0 ∧ c = 3 ∧ b = false) := by
  have e : (match decide (c = d), decide (d = 0 ∧ c = 3) with
    | true, _ => some true
    | false, true => some false
    | false, false => none) = some b := h
  cases h1 : decide (c = d) with
  | true => rw [h1] at e; cases e; exact .inl ⟨of_decide_eq_true h1, rfl⟩
  | false =>
    cases h2 : decide (d = 0 ∧ c = 3) with
    | true => rw [h1, h2] at e; cases e; exact .inr ⟨(of_decide_eq_true h2).1, (of_decide_eq_true h2).2, rfl⟩
    | false => rw [h1, h2] at e; cases e
theorem tabW_ok {K : PySem.W.Frag} {L : Lay} (T : WAll K L) (C : ClAll K L) : TabOk K L (tabW 0) (.ref (L.cls 0)) := by
  refine ⟨fun k b e => ?_, fun c b e => ?_, fun c b e => by cases e⟩
  · cases k with
    | exc c => cases e
    | ins c =>
      rcases tabW_ins e with ⟨rfl, rfl⟩ | ⟨_, rfl, rfl⟩
      · exact T.w
      · exact T.c
    | _ => cases e; exact T.ty _ (by decide)
  · rcases tabW_ins e with ⟨rfl, rfl⟩ | ⟨_, rfl, rfl⟩
    · exact C.ins 0 (by decide)
    · exact C.ins 3 (by decide)
end Fl
namespace Fl
open PySem PySem.Spec L2
theorem oexB_ok {K : PySem.W.Frag} {C : Addr} (q : oexB K C = true) : OexC K C := by
  unfold oexB at q
  obtain ⟨q, h⟩ := Bool.and_eq_true_iff.mp q
  obtain ⟨h1, h⟩ := Bool.and_eq_true_iff.mp h
  obtain ⟨h2, h⟩ := Bool.and_eq_true_iff.mp h
  obtain ⟨h3, h4⟩ := Bool.and_eq_true_iff.mp h
  refine ⟨?_, He.eqO_ok h1, of_decide_eq_true h2, of_decide_eq_true h3, h4⟩
  split at q
  · rename_i dd cd sl ho
    split at q
    · rename_i C' bm k0 k1 k2 k3 n k5 hm hs
      simp only [Bool.and_eq_true, beq_iff_eq, Bool.not_eq_true'] at q
      obtain ⟨⟨⟨rfl, rfl⟩, hdel⟩, hh, hr⟩ := q
      obtain ⟨nm, bs, mro, ns, qn, hd, sn, sub, ab, col, del⟩ := cd
      dsimp only at hm hdel hh
      subst hm hdel hh
      have hsl : sl = #[k0, k1, k2, k3, some (.builtin "ValueError.__new__"), k5] := by
        obtain ⟨l⟩ := sl
        simp only at hs
        rw [hs]
      subst hsl
      exact ⟨nm, qn, ns, bs, bm, sn, sub, ab, col, dd, k0, k1, k2, k3, k5, ho, hr⟩
    · cases q
  · cases q
theorem exfB_ok {K : PySem.W.Frag} {C fI : Addr} {f : Str} (h : exfB K C fI f = true) : ExF K C fI f := by
  obtain ⟨h1, h⟩ := Bool.and_eq_true_iff.mp h
  obtain ⟨h2, h⟩ := Bool.and_eq_true_iff.mp h
  obtain ⟨h3, h4⟩ := Bool.and_eq_true_iff.mp h
  exact ⟨oexB_ok h1, He.eqO_ok h2, He.eqO_ok h3, of_decide_eq_true h4⟩
section
variable {P : Program} {w : World} {K : PySem.W.Frag} {mg : Str → Option Value} {base : Heap} {x qual fn : Str} {params : Arguments} {body : List Stmt} {scope : Scope} {f : Addr} {fd : FuncData}
theorem xi_ok (F : FunD K x qual params body scope [] [] f fd) {ps : List Str} (sc : FnScope ps ps scope) (hl : ps.length = 2)
    (hb : ∀ (cdv : Value) (A : Around) (outer : List Env) (s : Shared) (H : Hp) (E : XK), PSs (cxOf CX0 P w K mg base ps qual scope f cdv A outer s H E) body (tOst K fn (tVar 0) (tVar 1))) : FnOk P w K mg base CX0 1 f fd ps (spXI K fn) := by
  refine F.ok sc (fun vs H Q E ⟨a, C, y, e, _⟩ => by rw [e, hl]; rfl) fun cdv A outer s H vs Q E hr h => ⟨_, hb cdv A outer s H E, ?_⟩
  obtain ⟨a, C, y, rfl, T, no, ha, h⟩ := h
  have e1 : (L2.start ps [V.ref a, y])[1]? = some (some y) := rfl
  have e0 : (L2.start ps [V.ref a, y])[0]? = some (some (V.ref a)) := rfl
  exact ⟨y, e1, V.ref a, e0, a, C, rfl, T, no, .inl ⟨ha, fun dx hd ne => h dx hd ne⟩⟩
end
def gXFld (c i : Nat) : D → Mem → Res D := fun d M => match d with
  | .ref n => (match M[n]? with
    | some (.exc c' (some (i', v))) => (match decide (c' = c), decide (i' = i) with
      | true, true => .ok v M
      | _, _ => .bad)
    | _ => .bad)
  | _ => .bad
structure XrOk (K : PySem.W.Frag) (C : Addr) (n : Str) : Prop where
  T : XfC K C
  no : PySem.W.findIn K (.ref C) n = some none
theorem xrB_ok {K : PySem.W.Frag} {C : Addr} {n : Str} (h : xrB K C n = true) : XrOk K C n := by
  obtain ⟨h1, h2⟩ := Bool.and_eq_true_iff.mp h
  exact ⟨xfB_ok h1, He.eqO_ok h2⟩
section
variable {X : Cx} {L : Lay} {W : WX} {e : Expr} {f : EF} {pos : Pos} {n : Str}
theorem fe_xfld {c i : Nat} (T : XrOk X.K (L.cls c) n) (hn : L.nm i = n) (he : FE X L W e f) (hb : attributeBase e n X.env (eval e X.env) = eval e X.env := by rfl) : FE X L W (.Attribute e n pos) (dOp1 (gXFld c i) f) := by
  refine ⟨fun pins s σ H Q I h => ?_⟩
  obtain ⟨α, M, sd, r, sl, h⟩ := h
  have g := PostR.bind (R := Rep X.K) h
  refine attr_of hb (thn (he.run pins s σ H _ I ⟨α, M, sd, r, sl, g⟩) fun u s1 hh => ?_)
  obtain ⟨x, H1, I1, rx, dx, α1, M1, l1, r1, rd, h1⟩ := hh
  unfold gXFld at h1
  cases dx <;> try exact h1.elim
  rename_i k
  dsimp only at h1
  cases q : M1[k]? with
  | none => rw [q] at h1; exact h1.elim
  | some o =>
    rw [q] at h1
    cases o <;> try exact h1.elim
    rename_i c' fo
    cases fo with
    | none => exact h1.elim
    | some p =>
      obtain ⟨i', v⟩ := p
      dsimp only at h1
      by_cases hc : c' = c
      · by_cases hi : i' = i
        · rw [decide_eq_true hc, decide_eq_true hi] at h1
          subst hc hi
          obtain ⟨a, ha, cls, d, e1, ⟨e2, e3⟩, e4⟩ := r1.at q
          obtain ⟨a', ha', rfl⟩ := rd.ref
          rw [ha] at ha'; cases ha'
          obtain rfl : u = Value.ref a := rx
          obtain ⟨dd, vv, rfl, hdd, rv⟩ := e3
          subst e2
          obtain ⟨oe, vs, g1, g2, g3⟩ : ∃ (oe : Obj) (vs : Array Value), s1.heap.get? a = some oe ∧ Zc (.ref (L.cls c')) (some dd) oe ∧ oe.data = .fields vs := (I1.hok a _ e1).1
          obtain ⟨mA, hns, hr⟩ : ObjOk X.prog X.w H1 s1.heap dd (.xd [(L.nm i', vv)]) := I1.hok dd _ hdd
          obtain ⟨od, ho, hl⟩ := lookIn_ns hns
          subst hn
          obtain ⟨u, hu, ru⟩ := RelO.some_of (v := vv) (o := mA (L.nm i')) (by
            have z := hr (L.nm i')
            have e : List.lookup (L.nm i') [(L.nm i', vv)] = some vv := by simp [List.lookup]
            rw [e] at z
            exact z)
          have J : PySem.W.InstAt s1.heap a oe (L.cls c') (some od) := ⟨g1, g2.1, by unfold PySem.W.notCls; rw [g3] <;> rfl, by rw [g2.2]; exact ho⟩
          exact HandSPX.exc_get I1.kIn J T.T.ga T.T.gg T.T.exC (PySem.W.findObj_own T.T.hdC T.no rfl (by rw [hl, hu])) (handed_of ru) ⟨vv, H1, I1.tok _, ru, PostR.pure h1 r1 rv⟩
        · rw [decide_eq_true hc, decide_eq_false hi] at h1; exact h1.elim
      · rw [decide_eq_false hc] at h1; exact h1.elim
end
end Fl
namespace Fl
open PySem PySem.Spec L2
def dcL (nx : ItF) (g : GF) (tt : TF) (tk tv : EF) (s : Sl) : Nat → Nat → List (Key × D) → Mem → Res (List (Key × D))
  | 0, _, _, _ => .bad
  | k + 1, i, acc, M => match nx i M with
    | none => .bad
    | some none => .ok acc M
    | some (some d) => (g d s M).noX.bind fun s1 M1 => (tt s1 M1).noX.bind fun b M2 => match b with
      | true => (tk s1 M2).noX.bind fun y M3 => (tv s1 M3).noX.bind fun z M4 => (match keyOf y, decide (acc.length < sizeLine) with
        | some q, true => dcL nx g tt tk tv s k (i + 1) (put acc q z) M4
        | _, _ => .bad)
      | false => dcL nx g tt tk tv s k (i + 1) acc M2
def dDc (fi : IF) (g : GF) (tt : TF) (tk tv : EF) (is : List Nat) : EF := fun s M => (fi s M).bind fun nx M1 => (dcL nx.1 g tt tk tv (wipeD s is) nx.2 0 [] M1).bind fun kvs M2 => .ok (.ref M2.length) (M2 ++ [.dk kvs])
theorem put_keys {κ : Type} [DecidableEq κ] : ∀ (kvs : List (κ × D)) (k : κ) (d : D), (k ∈ kvs.map (·.1) ∧ (put kvs k d).map (·.1) = kvs.map (·.1)) ∨ (k ∉ kvs.map (·.1) ∧ (put kvs k d).map (·.1) = kvs.map (·.1) ++ [k])
  | [], k, d => .inr ⟨by simp, rfl⟩
  | p :: r, k, d => by
    unfold put
    by_cases e : p.1 = k
    · rw [decide_eq_true e]
      exact .inl ⟨by simp [e], rfl⟩
    · rw [decide_eq_false e]
      have ne : ¬ k = p.1 := fun z => e z.symm
      rcases put_keys r k d with ⟨h1, h2⟩ | ⟨h1, h2⟩
      · exact .inl ⟨by simp only [List.map_cons, List.mem_cons]; exact .inr h1, by simp only [List.map_cons, h2]⟩
      · exact .inr ⟨by simp only [List.map_cons, List.mem_cons]; exact fun z => z.elim ne h1, by simp only [List.map_cons, h2, List.cons_append]⟩
theorem put_nd {κ : Type} [DecidableEq κ] {kvs : List (κ × D)} {k : κ} {d : D} (h : (kvs.map (·.1)).Nodup) : ((put kvs k d).map (·.1)).Nodup := by
  rcases put_keys kvs k d with ⟨h1, h2⟩ | ⟨h1, h2⟩
  · rw [h2]; exact h
  · rw [h2, List.nodup_append]
    exact ⟨h, by simp, fun a ha b hb e => h1 (by rw [List.mem_singleton] at hb; rw [← hb, ← e]; exact ha)⟩
theorem KvR.keys {κ : Type} {K : PySem.W.Frag} {α : List Addr} {H : Hp} {ks : List (κ × D)} {vs : List (κ × V)} (h : KvR K α H ks vs) : ks.map (·.1) = vs.map (·.1) := by
  induction h with
  | nil => rfl
  | cons p _ ih => rw [List.map_cons, List.map_cons, ih, p.1]
section
variable {X : Cx} {L : Lay} {W : WX}
theorem outk_lw {α : List Addr} {H : Hp} {p : Addr} {o : HO} {xs : List (Key × V)} (h : H p = some (.dK xs)) : Lw α H α (upd H p o) :=
  ⟨⟨[], by simp⟩, fun a ys e => by
    have ne : a ≠ p := fun z => by rw [z, h] at e; cases e
    rw [upd_ne ne]; exact e, fun a q ys e => by
    have ne : a ≠ p := fun z => by rw [z, h] at e; cases e
    rw [upd_ne ne]; exact e⟩
theorem outk_rel {K : PySem.W.Frag} {α : List Addr} {M : Mem} {H : Hp} {p : Addr} {o : HO} {xs : List (Key × V)} (r : Rel K L α M H) (h : H p = some (.dK xs)) (hp : p ∉ α) : Rel K L α M (upd H p o) :=
  ⟨r.len, r.nd, fun i x a h1 h2 => (r.ob i x a h1 h2).stayW (outk_lw h) (by rw [upd_ne (fun z => hp (by rw [← z]; exact List.mem_of_getElem? h2))]) (fun dd fs _ e => by
    have ne : dd ≠ p := fun z => by rw [z, h] at e; cases e
    rw [upd_ne ne]; exact e) fun _ _ z => z⟩
theorem outk_in {K : PySem.W.Frag} {α : List Addr} {M : Mem} {H : Hp} {p : Addr} {xs : List (Key × V)} {ds : List (Key × D)} (r : Rel K L α M H) (h : H p = some (.dK xs)) (hp : p ∉ α) (q : KvR K α H ds xs) : Rel K L (α ++ [p]) (M ++ [.dk ds]) H := by
  have lw : Lw α H (α ++ [p]) H := ⟨⟨[p], rfl⟩, fun _ _ e => e, fun _ _ _ e => e⟩
  refine ⟨by rw [List.length_append, List.length_append, r.len]; rfl, List.nodup_append.mpr ⟨r.nd, by simp, fun a ha b hb => by rw [List.mem_singleton.mp hb]; exact fun z => hp (by rw [← z]; exact ha)⟩, fun i x a h1 h2 => ?_⟩
  by_cases hi : i < M.length
  · rw [List.getElem?_append_left hi] at h1
    rw [List.getElem?_append_left (by rw [r.len]; exact hi)] at h2
    have q' := r.ob i x a h1 h2
    cases x with
    | exc c f =>
      obtain ⟨cls, d, e1, e2, e3⟩ := q'
      refine ⟨cls, d, e1, e2.lw lw (fun _ _ _ z => z), fun dd ed hm => ?_⟩
      rcases List.mem_append.mp hm with z | z
      · exact e3 dd ed z
      · have ep := List.mem_singleton.mp z
        have e4 := e2.2
        cases f with
        | none => rw [e4] at ed; cases ed
        | some pf =>
          obtain ⟨d2, v, e5, e6, _⟩ := e4
          rw [ed] at e5; cases e5
          rw [ep, h] at e6; cases e6
    | lst ds => obtain ⟨vs, e1, e2⟩ := q'; exact ⟨vs, e1, e2.lw lw⟩
    | dk ds => obtain ⟨vs, e1, e2⟩ := q'; exact ⟨vs, e1, e2.lw lw⟩
    | dt ds => obtain ⟨vs, e1, e2⟩ := q'; exact ⟨vs, e1, e2.lw lw⟩
    | fk ds => obtain ⟨o, vs, e1, e2⟩ := q'; exact ⟨o, vs, e1, e2.lw lw⟩
    | ft ds => obtain ⟨o, vs, e1, e2⟩ := q'; exact ⟨o, vs, e1, e2.lw lw⟩
    | dn ds => obtain ⟨vs, e1, e2⟩ := q'; exact ⟨vs, e1, e2.lw lw⟩
    | fn ds => obtain ⟨o, vs, e1, e2⟩ := q'; exact ⟨o, vs, e1, e2.lw lw⟩
    | ins c fs => obtain ⟨dx, vs, e1, e2, e3⟩ := q'; exact ⟨dx, vs, e1, e2.lw lw, e3⟩
  · rw [List.getElem?_append_right (by omega)] at h1
    rw [List.getElem?_append_right (by rw [r.len]; omega), r.len] at h2
    have e : i - M.length = 0 := by
      cases z : i - M.length with
      | zero => rfl
      | succ k => rw [z] at h1; simp at h1
    rw [e] at h1 h2
    have e1 : MO.dk ds = x := by simpa using h1
    have e2 : p = a := by simpa using h2
    subst e1 e2
    exact ⟨xs, h, q.lw lw⟩
theorem dc_go {K : PySem.W.Frag} {fi : IF} {g : GF} {tt : TF} {tk tv : EF} {is : List Nat} {σ : L2.St} {H : Hp} {Q : VK} (h : LE K L W (dDc fi g tt tk tv is) σ H Q) : tDc (LI K L W fi) (LG K L W0 is g) (LT K L W0 tt) (LE K L W0 tk) (LE K L W0 tv) is σ H Q := by
  obtain ⟨α, M, s, r, sl, h⟩ := h
  refine ⟨α, M, s, r, sl, (PostR.bind (R := RIt _ _) h).imp fun J H1 ⟨nx, α1, M1, l1, r1, it, h1⟩ D hD => ?_⟩
  dsimp only at h1
  have sl1 := (sl.le l1).wipe is
  have nd : D ∉ α1 := fun hm => by
    obtain ⟨u, hu, _⟩ := r1.mem hm
    rw [hD] at hu; cases hu
  -- what holds between two turns
  refine ⟨fun i m H => ∃ α M acc accV, i + m = nx.2 ∧ Le α1 H1 α H ∧ Rel K L α M H ∧ H D = some (.dK accV) ∧ D ∉ α ∧ KvR K α H acc accV ∧ (acc.map (·.1)).Nodup ∧
    PostR K L (Rep K) ((dcL nx.1 g tt tk tv (wipeD s is) m i acc M).bind fun kvs M2 => .ok (.ref M2.length) (M2 ++ [.dk kvs])) α1 H1 Q (fun c d H' => W c d σ H'), ⟨nx.2, ?_⟩, ?_⟩
  · have rT : Rel K L α1 M1 (upd H1 D (.dK [])) := ⟨r1.len, r1.nd, fun i x a e1 e2 => by
      obtain ⟨u, hu, _⟩ := (r1.ob i x a e1 e2).ours
      refine (r1.ob i x a e1 e2).stayW ⟨⟨[], by simp⟩, fun a ys e => by rw [upd_ne (ne_of_none e hD)]; exact e, fun a q ys e => by rw [upd_ne (ne_of_none e hD)]; exact e⟩ (by rw [upd_ne (ne_of_none hu hD)]) (fun dd fs _ e => by rw [upd_ne (ne_of_none e hD)]; exact e) fun _ _ z => z⟩
    exact ⟨α1, M1, [], [], by omega, out_le (Le.refl _ _) hD nd, rT, upd_same, nd, .nil, by simp, h1⟩
  · rintro i m H ⟨α, M, acc, accV, hn, le, r, hH, ndα, hacc, hnd, hp⟩
    cases m with
    | zero => exact hp.elim
    | succ k =>
      have q := it i α H M le.lx r
      unfold dcL at hp
      cases e : nx.1 i M with
      | none => rw [e] at hp; exact hp.elim
      | some o =>
        rw [e] at hp q
        cases o with
        | none =>
          refine .inl ⟨q, ?_⟩
          have hp' : PostR K L (Rep K) (.ok (.ref M.length) (M ++ [.dk acc])) α1 H1 Q (fun c d H' => W c d σ H') := hp
          obtain ⟨β, eβ, fβ⟩ := le.ext
          have le2 : Le α1 H1 (α ++ [D]) H := ⟨⟨β ++ [D], by rw [eβ, List.append_assoc], fun b hb => by
            rcases List.mem_append.mp hb with z | z
            · exact fβ b z
            · rw [List.mem_singleton.mp z]; exact hD⟩, le.keep, le.dom, le.tups, le.rols⟩
          exact hp' _ H _ le2 (outk_in r hH ndα hacc) (rep_ref (by rw [← r.len]; simp))
        | some d =>
          obtain ⟨q1, q2⟩ := q
          refine .inr ⟨q1, fun H => ∃ α M acc accV, (i + 1) + k = nx.2 ∧ Le α1 H1 α H ∧ Rel K L α M H ∧ H D = some (.dK accV) ∧ D ∉ α ∧ KvR K α H acc accV ∧ (acc.map (·.1)).Nodup ∧
            PostR K L (Rep K) ((dcL nx.1 g tt tk tv (wipeD s is) k (i + 1) acc M).bind fun kvs M2 => .ok (.ref M2.length) (M2 ++ [.dk kvs])) α1 H1 Q (fun c d H' => W c d σ H'), fun H' z => ⟨k, Nat.lt_succ_self _, z⟩, fun x H2 y => ?_⟩
          obtain ⟨lx, r2, rd⟩ := q2 x H2 y
          have le2 := le.trans lx
          -- D under a step of ours
          have keepD : ∀ {α α' : List Addr} {H H' : Hp} {M' : Mem}, Le α H α' H' → Rel K L α' M' H' → H D = some (.dK accV) → D ∉ α → H' D = some (.dK accV) ∧ D ∉ α' := fun {α α' H H' M'} l r' e n => by
            refine ⟨l.keep _ _ e n, fun hm => ?_⟩
            obtain ⟨β, eβ, fβ⟩ := l.ext
            rw [eβ] at hm
            rcases List.mem_append.mp hm with z | z
            · exact n z
            · rw [fβ D z] at e; cases e
          obtain ⟨hH2, nd2⟩ := keepD lx r2 hH ndα
          dsimp only at hp
          rw [bind_bind] at hp
          refine ⟨α, M, wipeD s is, d, r2, sl1.le le2, rd, (nox_bind (R := RSl K is (L2.wipe σ is)) hp _).imp fun σ2 H3 ⟨s1, α3, M3, l3, r3, ⟨q3, q4⟩, h3⟩ _ => ⟨q4.wipe, ?_⟩⟩
          obtain ⟨hH3, nd3⟩ := keepD l3 r3 hH2 nd2
          have le3 := le2.trans l3
          dsimp only at h3
          rw [bind_bind] at h3
          refine ⟨α3, M3, s1, r3, q3, (nox_bind (R := RB) h3 _).imp fun b H4 ⟨b', α4, M4, l4, r4, eb, h4⟩ => ?_⟩
          obtain ⟨hH4, nd4⟩ := keepD l4 r4 hH3 nd3
          have le4 := le3.trans l4
          subst eb
          dsimp only at h4
          cases b' with
          | false => exact iteF ⟨α4, M4, acc, accV, by omega, le4, r4, hH4, nd4, ((hacc.le lx).le l3).le l4, hnd, h4⟩
          | true =>
            refine iteT ?_
            dsimp only at h4
            rw [bind_bind] at h4
            refine ⟨α4, M4, s1, r4, q3.le l4, (nox_bind (R := Rep K) h4 _).imp fun y H5 ⟨dy, α5, M5, l5, r5, ry, h5⟩ => ?_⟩
            obtain ⟨hH5, nd5⟩ := keepD l5 r5 hH4 nd4
            have le5 := le4.trans l5
            dsimp only at h5
            rw [bind_bind] at h5
            refine ⟨α5, M5, s1, r5, (q3.le l4).le l5, (nox_bind (R := Rep K) h5 _).imp fun z H6 ⟨dz, α6, M6, l6, r6, rz, h6⟩ => ?_⟩
            obtain ⟨hH6, nd6⟩ := keepD l6 r6 hH5 nd5
            have le6 := le5.trans l6
            have hacc6 := ((((hacc.le lx).le l3).le l4).le l5).le l6
            dsimp only at h6
            split at h6
            · rename_i q ek el
              obtain ⟨ey, _⟩ := keyOf_rep ek ry
              have nv : (accV.map (·.1)).Nodup := by rw [← hacc6.keys]; exact hnd
              exact ⟨accV, q, ey, hH6, by rw [← hacc6.length]; exact dt el, α6, M6, put acc q dz, putK accV q z, by omega, out_le le6 hD nd6, outk_rel r6 hH6 nd6, upd_same, nd6, (KvR.put hacc6 nv rz).lw (outk_lw hH6), put_nd hnd, h6⟩
            · exact h6.elim
theorem fe_dc {kx vx tg iter : Expr} {ifs : List Expr} {scope : Scope} {own : List (Str × Nat)} {pos : Pos} {fi : IF} {g : GF} {tt : TF} {tk tv : EF} {is : List Nat} (hc : X.calm = true) (hN : X.N.Nodup) (hi : FI X L W tg iter fi) (ok : BlkOk X.N X.env.scope scope own) (ei : own.map (·.2) = is)
    (hg : ∀ (s : Shared) (H : Hp) (C : Addr) (cl : List (Str × Addr)) (fp : List Addr), FG (X.blk s H scope (compEnvC scope cl C X.env) fp) L W0 is tg g) (ht : ∀ (s : Shared) (H : Hp) (C : Addr) (cl : List (Str × Addr)) (fp : List Addr), FTs (X.blk s H scope (compEnvC scope cl C X.env) fp) L W0 ifs tt)
    (hk : ∀ (s : Shared) (H : Hp) (C : Addr) (cl : List (Str × Addr)) (fp : List Addr), FE (X.blk s H scope (compEnvC scope cl C X.env) fp) L W0 kx tk)
    (he : ∀ (s : Shared) (H : Hp) (C : Addr) (cl : List (Str × Addr)) (fp : List Addr), FE (X.blk s H scope (compEnvC scope cl C X.env) fp) L W0 vx tv) (hs : ∀ x, foldedSetIterable iter X.env x = pure x := by intro _; rfl) :
    FE X L W (.DictComp kx vx [⟨tg, iter, ifs, 0⟩] scope pos) (dDc fi g tt tk tv is) := by
  subst ei
  exact peImp (pe_dc hc hN hi ok hg ht hk he hs) fun σ H Q h => dc_go h
end
end Fl
namespace PySem
theorem meets_dict_ior {K : Type} [DecidableEq K] {prog : Program} {w : World} (knd : KeyKind prog w K) (d o : Addr) (hdo : d ≠ o) (hoS : (o == sysModules) = false) :
    MeetsIn prog w (Builtin.«dict.__ior__» ⟨[.ref d, .ref o], []⟩) (fun _ R s => ∃ kvs more, s.heap.DictOf knd d kvs ∧ s.heap.DictOf knd o more ∧ kvs.length + more.length ≤ sizeLine ∧
      ∀ h', h'.DictOf knd d (merged kvs more) → h'.DictOf knd o more → Heap.SameBut d s.heap h' → R (.ok (.ret (.ref d))) { s with heap := h' }) :=
  .of_wp fun A R s ⟨kvs, more, hd, ho, hsz, h⟩ => by
    unfold Builtin.«dict.__ior__»
    refine wpAny_bind ?_
    unfold Builtin.Dict.dictSlotArgs
    refine wpAny_bind (wpAny_notOrdered_dict hd.typeIs ?_)
    show wpAny _ _ (pure (Value.ref d, Value.ref o)) _ _ s
    refine wpAny_pure ?_
    show wpAny _ _ (Builtin.Dict.updateFrom "dict.__ior__" d (.ref o) [] (.ref d)) _ _ s
    unfold Builtin.Dict.updateFrom
    refine wpAny_bind (wpAny_typeOf ho.typeIs ?_)
    rw [if_neg (by decide)]
    refine wpAny_bind ?_
    unfold Builtin.Dict.merge
    refine wpAny_bind ?_
    · unfold Builtin.Dict.readDirectly
      refine wpAny_bind (wpAny_isInstance ho.typeIs isSubtype_dict_dict ?_)
      simp only [Bool.not_true, Bool.false_eq_true, if_false]
      refine wpAny_bind (wpAny_specialOf ho.typeIs F.slot_dict_iter.lookup (wpAny_pure ?_))
      simp only [beq_self_eq_true, if_true]
      refine wpAny_bind (wpAny_pure ?_)
      refine wpAny_mergeDict (hsz := hsz) hdo hoS hd ho fun h' hd' ho' hs' => ?_
      show wpAny _ _ (Builtin.Dict.addKeywords d [] >>= _) _ _ _
      exact wpAny_bind (wpAny_pure (wpAny_pure ⟨.ref d, rfl, h h' hd' ho' hs'⟩))
theorem ior_road {M : Model} {A : Around} {E : Value → Shared → Prop} {s : Shared} {a b : Value} {Q : Value → Shared → Prop} (ha : s.TypeIs a "dict") (hc : wpAny M A (call (.builtin "dict.__ior__") [a, b]) (fun v s' => v ≠ .notImplemented ∧ Q v s') E s) : wpAny M A (inplaceOp .BitOr a b) Q E s := by
  have hsl : typeLookup (.type "dict") (dunderI "or") = pure (some (.builtin "dict.__ior__")) := PySem.F.slot_dict_ior.lookup
  have hsq : isSeqSlot (some (.builtin "dict.__ior__")) = false := by decide +kernel
  have hfi : fillsInplaceSlot (.type "dict") "or" (Operator.BitOr == .Add) = pure true := by
    unfold fillsInplaceSlot
    show (typeLookup (.type "dict") (dunderI "or") >>= fun fi => pure (fi.isSome && !isSeqSlot fi)) = pure true
    rw [hsl]
    show (pure (true && !isSeqSlot (some (.builtin "dict.__ior__"))) : Sem Bool) = pure true
    rw [hsq] <;> rfl
  unfold inplaceOp
  refine wpAny_holding ?_
  refine wpAny_bind (wpAny_typeOf ha (wpAny_bind (wpAny_of_eq hfi ?_)))
  show wpAny M A (if true = true then _ else _) Q E s
  rw [if_pos rfl]
  refine wpAny_bind (wpAny_tryMethod_slot (name := dunderI "or") ha PySem.F.slot_dict_ior (wpAny_mono hc (fun v s' h' => ⟨h'.1, ?_⟩) fun _ _ e => e))
  exact wpAny_bind (wpAny_rule (wpAny_pure h'.2))
end PySem
namespace Fl
open PySem PySem.Spec L2
theorem KV.merged {kvs ls : List (Key × V)} {vs us : List (Key × Value)} (r : KV kvs vs) (q : KV ls us) : KV (ls.foldl (fun m p => putK m p.1 p.2) kvs) (merged vs us) := by
  unfold KV at q
  induction q generalizing kvs vs with
  | nil => exact r
  | @cons p q ps qs hp t ih =>
    show KV (ps.foldl _ (putK kvs p.1 p.2)) (PySem.merged (stored vs q.1 q.2) qs)
    have e : p.1 = q.1 := hp.1
    rw [e]
    exact ih (KV.put r q.1 hp.2)
def rIor : R2 := fun x y H Q => ∃ a b ks ls, x = .ref a ∧ y = .ref b ∧ a ≠ b ∧ H a = some (.dK ks) ∧ H b = some (.dK ls) ∧ ks.length + ls.length ≤ sizeLine ∧ Q (.ref a) (upd H a (.dK (ls.foldl (fun m p => putK m p.1 p.2) ks)))
theorem iop_ior {X : Cx} : OpR X (inplaceOp .BitOr) rIor := by
  intro pins s σ H x y v u Q I rx ry h
  obtain ⟨a, b, ks, ls, rfl, rfl, ne, ea, eb, hz, q⟩ := h
  obtain rfl : v = Value.ref a := rx
  obtain rfl : u = Value.ref b := ry
  obtain ⟨za, ya, va, ra, da⟩ := dk_of I.hok ea
  obtain ⟨zb, yb, vb, rb, db⟩ := dk_of I.hok eb
  have hl : va.length + vb.length ≤ sizeLine := by rw [← ra.length, ← rb.length]; exact hz
  refine ior_road da.typeIs (call_meetsIn PySem.F.slot_dict_ior da.typeIs PySem.F.entry_dict_ior (PySem.F.args_dict_ior_2 _ _) (meets_dict_ior (mixKind X.prog X.w) a b ne yb) ⟨va, vb, da, db, hl, fun h' d1 d2 hs => ⟨fun z => (nomatch z), ?_⟩⟩)
  have rm := KV.merged ra rb
  have lm : (ls.foldl (fun m p => putK m p.1 p.2) ks).length ≤ sizeLine := by
    rw [rm.length]
    exact Nat.le_trans (merged_length_le va vb) hl
  have he : ∃ q, h'.get? a = some q := let ⟨q, _, _, hq, _⟩ := d1; ⟨q, hq⟩
  exact ⟨.ref a, _, d_write I (by rw [ea]; exact True.intro) hs he (dk_new lm ya rm d1), rfl, q⟩
def gIOr : D → D → Mem → Res D := fun x y M => match x, y with
  | .ref m, .ref n => (match M[m]?, M[n]? with
    | some (.dk ks), some (.dk ls) => (match decide (m ≠ n ∧ ks.length + ls.length ≤ 100000) with
      | true => .ok (.ref m) (M.set m (.dk (ls.foldl (fun a p => put a p.1 p.2) ks)))
      | false => .bad)
    | _, _ => .bad)
  | _, _ => .bad
theorem KvR.merge {K : PySem.W.Frag} {α : List Addr} {H : Hp} {ks ls : List (Key × D)} {vs us : List (Key × V)} (h : KvR K α H ks vs) (hn : (ks.map (·.1)).Nodup) (q : KvR K α H ls us) : KvR K α H (ls.foldl (fun a p => Fl.put a p.1 p.2) ks) (us.foldl (fun m p => putK m p.1 p.2) vs) := by
  induction q generalizing ks vs with
  | nil => exact h
  | @cons p q ps qs hp t ih =>
    have e : p.1 = q.1 := hp.1
    show KvR K α H (ps.foldl _ (Fl.put ks p.1 p.2)) (qs.foldl _ (putK vs q.1 q.2))
    rw [← e]
    exact ih (KvR.put h (by rw [← h.keys]; exact hn) hp.2) (put_nd hn)
theorem i_or {X : Cx} {L : Lay} : IpF X L .BitOr gIOr := fun w => by
  intro pins s σ H x y v u Q I rx ry ⟨α, M, dx, dy, r, px, py, h⟩
  unfold gIOr at h
  split at h
  · rename_i m n
    split at h
    · rename_i ks ls e1 e2
      split at h
      · rename_i c
        obtain ⟨c1, c2⟩ := dt c
        obtain ⟨a, ha, rfl⟩ := px.ref
        obtain ⟨b, hb, rfl⟩ := py.ref
        obtain ⟨a', ha', vs, hv, hr⟩ := r.at e1
        rw [ha] at ha'; cases ha'
        obtain ⟨b', hb', us, hu, hq⟩ := r.at e2
        rw [hb] at hb'; cases hb'
        have ne : a ≠ b := fun z => c1 (r.inj (by rw [← z] at hb; exact ha) (by rw [← z] at hb; exact hb))
        have nd : (ks.map (·.1)).Nodup := by rw [hr.keys]; exact Inv.dkNd I hv
        have hm : a ∈ α := List.mem_of_getElem? ha
        have le : Le α H α (upd H a (.dK (us.foldl (fun m p => putK m p.1 p.2) vs))) := Le.write hm hv trivial
        refine iop_ior pins s σ H _ _ _ _ Q I rx ry ⟨a, b, vs, us, rfl, rfl, ne, hv, hu, ?_, h α _ _ le (r.write (o := .dk _) ha ⟨_, upd_same, (KvR.merge hr nd hq).le le⟩) px⟩
        rw [← hr.length, ← hq.length]
        exact Nat.le_trans c2 (by decide)
      · exact h.elim
    · exact h.elim
  · exact h.elim
theorem emptyB_ok {K : PySem.W.Frag} {a : Addr} (h : emptyB K a = true) : WrT K a [] := by
  unfold emptyB at h
  split at h
  · rename_i c dd its n sl e
    obtain ⟨h1, h2⟩ := He.ba h
    have e2 : its = #[] := Array.isEmpty_iff.mp h2
    refine ⟨_, its, n, e, of_decide_eq_true h1, rfl, by rw [e2]; exact Nat.zero_le _, by rw [e2]; exact .nil⟩
  · cases h
theorem empty_rep {K : PySem.W.Frag} {a : Addr} (h : WrT K a []) (α : List Addr) (H : Hp) : Rep K α H (.tup []) (.ref a) := by
  unfold Rep
  exact ⟨a, [], rfl, .inr ⟨rfl, h⟩, reps_nil⟩
end Fl
namespace Wk
open PySem PySem.Spec PyProof.Rows L2 Fl
abbrev N__law_town : List Str := ["_law_script"]
abbrev p__law_town : List Str := ["_law_script"]
theorem sc__law_town : FnScope N__law_town p__law_town (defScope s__law_town) := ⟨rfl, rfl, rfl, by decide +kernel, rfl, by decide +kernel, by decide +kernel⟩
abbrev N_is_whole : List Str := ["thing", "low", "high"]
abbrev p_is_whole : List Str := ["thing", "low", "high"]
theorem sc_is_whole : FnScope N_is_whole p_is_whole (defScope s_is_whole) := ⟨rfl, rfl, rfl, by decide +kernel, rfl, by decide +kernel, by decide +kernel⟩
abbrev N_look_number : List Str := ["thing", "low", "high"]
abbrev p_look_number : List Str := ["thing", "low", "high"]
theorem sc_look_number : FnScope N_look_number p_look_number (defScope s_look_number) := ⟨rfl, rfl, rfl, by decide +kernel, rfl, by decide +kernel, by decide +kernel⟩
abbrev N_look_liars : List Str := ["liars", "houses", "few", "fine", "one"]
abbrev p_look_liars : List Str := ["liars", "houses", "few"]
theorem sc_look_liars : FnScope N_look_liars p_look_liars (defScope s_look_liars) := ⟨rfl, rfl, rfl, by decide +kernel, rfl, by decide +kernel, by decide +kernel⟩
abbrev N_Board___init__ : List Str := ["self", "houses", "few"]
abbrev p_Board___init__ : List Str := ["self", "houses", "few"]
theorem sc_Board___init__ : FnScope N_Board___init__ p_Board___init__ (defScope s_Board___init__) := ⟨rfl, rfl, rfl, by decide +kernel, rfl, by decide +kernel, by decide +kernel⟩
abbrev N_House___init__ : List Str := ["self", "sums", "purse"]
abbrev p_House___init__ : List Str := ["self", "sums"]
theorem sc_House___init__ : FnScope N_House___init__ p_House___init__ (defScope s_House___init__) := ⟨rfl, rfl, rfl, by decide +kernel, rfl, by decide +kernel, by decide +kernel⟩
abbrev N_World___init__ : List Str := ["self", "houses", "few", "sums", "liars", "cheats", "fine", "house", "one"]
abbrev p_World___init__ : List Str := ["self", "houses", "few", "sums", "liars", "cheats"]
theorem sc_World___init__ : FnScope N_World___init__ p_World___init__ (defScope s_World___init__) := ⟨rfl, rfl, rfl, by decide +kernel, rfl, by decide +kernel, by decide +kernel⟩
abbrev N_look_world : List Str := ["world"]
abbrev p_look_world : List Str := ["world"]
theorem sc_look_world : FnScope N_look_world p_look_world (defScope s_look_world) := ⟨rfl, rfl, rfl, by decide +kernel, rfl, by decide +kernel, by decide +kernel⟩
abbrev N_Cutting___init__ : List Str := ["self", "world"]
abbrev p_Cutting___init__ : List Str := ["self", "world"]
theorem sc_Cutting___init__ : FnScope N_Cutting___init__ p_Cutting___init__ (defScope s_Cutting___init__) := ⟨rfl, rfl, rfl, by decide +kernel, rfl, by decide +kernel, by decide +kernel⟩
abbrev N_World_look_purse : List Str := ["self", "purse"]
abbrev p_World_look_purse : List Str := ["self", "purse"]
theorem sc_World_look_purse : FnScope N_World_look_purse p_World_look_purse (defScope s_World_look_purse) := ⟨rfl, rfl, rfl, by decide +kernel, rfl, by decide +kernel, by decide +kernel⟩
abbrev N_World_next_number : List Str := ["self", "purse", "place"]
abbrev p_World_next_number : List Str := ["self", "purse"]
theorem sc_World_next_number : FnScope N_World_next_number p_World_next_number (defScope s_World_next_number) := ⟨rfl, rfl, rfl, by decide +kernel, rfl, by decide +kernel, by decide +kernel⟩
abbrev N_World_honest : List Str := ["self"]
abbrev p_World_honest : List Str := ["self"]
theorem sc_World_honest : FnScope N_World_honest p_World_honest (defScope s_World_honest) := ⟨rfl, rfl, rfl, by decide +kernel, rfl, by decide +kernel, by decide +kernel⟩
abbrev N_World_order_to_all : List Str := ["self", "order", "house"]
abbrev p_World_order_to_all : List Str := ["self", "order"]
theorem sc_World_order_to_all : FnScope N_World_order_to_all p_World_order_to_all (defScope s_World_order_to_all) := ⟨rfl, rfl, rfl, by decide +kernel, rfl, by decide +kernel, by decide +kernel⟩
abbrev N_enough : List Str := ["houses", "few"]
abbrev p_enough : List Str := ["houses", "few"]
theorem sc_enough : FnScope N_enough p_enough (defScope s_enough) := ⟨rfl, rfl, rfl, by decide +kernel, rfl, by decide +kernel, by decide +kernel⟩
abbrev N_Board_is_paper : List Str := ["self", "order"]
abbrev p_Board_is_paper : List Str := ["self", "order"]
theorem sc_Board_is_paper : FnScope N_Board_is_paper p_Board_is_paper (defScope s_Board_is_paper) := ⟨rfl, rfl, rfl, by decide +kernel, rfl, by decide +kernel, by decide +kernel⟩
abbrev N_World_left_at : List Str := ["self", "house", "purse", "room", "own", "place", "order"]
abbrev p_World_left_at : List Str := ["self", "house", "purse"]
theorem sc_World_left_at : FnScope N_World_left_at p_World_left_at (defScope s_World_left_at) := ⟨rfl, rfl, rfl, by decide +kernel, rfl, by decide +kernel, by decide +kernel⟩
abbrev N_World_ask : List Str := ["self", "purse", "goal", "much", "number", "order", "house"]
abbrev p_World_ask : List Str := ["self", "purse", "goal", "much"]
theorem sc_World_ask : FnScope N_World_ask p_World_ask (defScope s_World_ask) := ⟨rfl, rfl, rfl, by decide +kernel, rfl, by decide +kernel, by decide +kernel⟩
abbrev N__law_draw : List Str := ["_law_town_here", "_law_many", "_law_row", "_law_at", "_law_cell", "_law_mixed"]
abbrev p__law_draw : List Str := ["_law_town_here", "_law_many"]
theorem sc__law_draw : FnScope N__law_draw p__law_draw (defScope s__law_draw) := ⟨rfl, rfl, rfl, by decide +kernel, rfl, by decide +kernel, by decide +kernel⟩
abbrev N__law_pick : List Str := ["_law_town_here", "_law_some"]
abbrev p__law_pick : List Str := ["_law_town_here", "_law_some"]
theorem sc__law_pick : FnScope N__law_pick p__law_pick (defScope s__law_pick) := ⟨rfl, rfl, rfl, by decide +kernel, rfl, by decide +kernel, by decide +kernel⟩
abbrev N_House_state : List Str := ["self"]
abbrev p_House_state : List Str := ["self"]
theorem sc_House_state : FnScope N_House_state p_House_state (defScope s_House_state) := ⟨rfl, rfl, rfl, by decide +kernel, rfl, by decide +kernel, by decide +kernel⟩
abbrev N_World_room : List Str := ["self", "house"]
abbrev p_World_room : List Str := ["self", "house"]
theorem sc_World_room : FnScope N_World_room p_World_room (defScope s_World_room) := ⟨rfl, rfl, rfl, by decide +kernel, rfl, by decide +kernel, by decide +kernel⟩
abbrev N_cut_of : List Str := ["world", "house"]
abbrev p_cut_of : List Str := ["world", "house"]
theorem sc_cut_of : FnScope N_cut_of p_cut_of (defScope s_cut_of) := ⟨rfl, rfl, rfl, by decide +kernel, rfl, by decide +kernel, by decide +kernel⟩
abbrev N_Cutting_add : List Str := ["self", "house", "cut", "row"]
abbrev p_Cutting_add : List Str := ["self", "house", "cut"]
theorem sc_Cutting_add : FnScope N_Cutting_add p_Cutting_add (defScope s_Cutting_add) := ⟨rfl, rfl, rfl, by decide +kernel, rfl, by decide +kernel, by decide +kernel⟩
abbrev N_Cutting_sign : List Str := ["self", "house", "cut"]
abbrev p_Cutting_sign : List Str := ["self", "house"]
theorem sc_Cutting_sign : FnScope N_Cutting_sign p_Cutting_sign (defScope s_Cutting_sign) := ⟨rfl, rfl, rfl, by decide +kernel, rfl, by decide +kernel, by decide +kernel⟩
abbrev N_World_letters : List Str := ["self"]
abbrev p_World_letters : List Str := ["self"]
theorem sc_World_letters : FnScope N_World_letters p_World_letters (defScope s_World_letters) := ⟨rfl, rfl, rfl, by decide +kernel, rfl, by decide +kernel, by decide +kernel⟩
abbrev N_is_order : List Str := ["thing", "purses", "purse", "number", "goal", "much"]
abbrev p_is_order : List Str := ["thing", "purses"]
theorem sc_is_order : FnScope N_is_order p_is_order (defScope s_is_order) := ⟨rfl, rfl, rfl, by decide +kernel, rfl, by decide +kernel, by decide +kernel⟩
abbrev N_look_order : List Str := ["thing", "purses"]
abbrev p_look_order : List Str := ["thing", "purses"]
theorem sc_look_order : FnScope N_look_order p_look_order (defScope s_look_order) := ⟨rfl, rfl, rfl, by decide +kernel, rfl, by decide +kernel, by decide +kernel⟩
abbrev N_House_may_vote : List Str := ["self", "order", "purse", "number", "goal", "much"]
abbrev p_House_may_vote : List Str := ["self", "order"]
theorem sc_House_may_vote : FnScope N_House_may_vote p_House_may_vote (defScope s_House_may_vote) := ⟨rfl, rfl, rfl, by decide +kernel, rfl, by decide +kernel, by decide +kernel⟩
abbrev N_House_new_votes : List Str := ["self", "found", "order"]
abbrev p_House_new_votes : List Str := ["self"]
theorem sc_House_new_votes : FnScope N_House_new_votes p_House_new_votes (defScope s_House_new_votes) := ⟨rfl, rfl, rfl, by decide +kernel, rfl, by decide +kernel, by decide +kernel⟩
abbrev N_House_hear : List Str := ["self", "order"]
abbrev p_House_hear : List Str := ["self", "order"]
theorem sc_House_hear : FnScope N_House_hear p_House_hear (defScope s_House_hear) := ⟨rfl, rfl, rfl, by decide +kernel, rfl, by decide +kernel, by decide +kernel⟩
abbrev N_Board_sign : List Str := ["self", "house", "order", "row"]
abbrev p_Board_sign : List Str := ["self", "house", "order"]
theorem sc_Board_sign : FnScope N_Board_sign p_Board_sign (defScope s_Board_sign) := ⟨rfl, rfl, rfl, by decide +kernel, rfl, by decide +kernel, by decide +kernel⟩
abbrev N_World_paper_to_all : List Str := ["self", "order", "house"]
abbrev p_World_paper_to_all : List Str := ["self", "order"]
theorem sc_World_paper_to_all : FnScope N_World_paper_to_all p_World_paper_to_all (defScope s_World_paper_to_all) := ⟨rfl, rfl, rfl, by decide +kernel, rfl, by decide +kernel, by decide +kernel⟩
abbrev N_World_signed : List Str := ["self", "house", "order"]
abbrev p_World_signed : List Str := ["self", "house", "order"]
theorem sc_World_signed : FnScope N_World_signed p_World_signed (defScope s_World_signed) := ⟨rfl, rfl, rfl, by decide +kernel, rfl, by decide +kernel, by decide +kernel⟩
abbrev N_House_settle : List Str := ["self", "order", "purse", "number", "goal", "much"]
abbrev p_House_settle : List Str := ["self", "order"]
theorem sc_House_settle : FnScope N_House_settle p_House_settle (defScope s_House_settle) := ⟨rfl, rfl, rfl, by decide +kernel, rfl, by decide +kernel, by decide +kernel⟩
abbrev N_House_can_settle : List Str := ["self", "order", "purse", "number", "goal", "much"]
abbrev p_House_can_settle : List Str := ["self", "order"]
theorem sc_House_can_settle : FnScope N_House_can_settle p_House_can_settle (defScope s_House_can_settle) := ⟨rfl, rfl, rfl, by decide +kernel, rfl, by decide +kernel, by decide +kernel⟩
abbrev N_House_go_on : List Str := ["self", "found", "able", "one"]
abbrev p_House_go_on : List Str := ["self"]
theorem sc_House_go_on : FnScope N_House_go_on p_House_go_on (defScope s_House_go_on) := ⟨rfl, rfl, rfl, by decide +kernel, rfl, by decide +kernel, by decide +kernel⟩
abbrev N_House_take : List Str := ["self", "order", "purse", "number", "goal", "much"]
abbrev p_House_take : List Str := ["self", "order"]
theorem sc_House_take : FnScope N_House_take p_House_take (defScope s_House_take) := ⟨rfl, rfl, rfl, by decide +kernel, rfl, by decide +kernel, by decide +kernel⟩
abbrev N_World_come : List Str := ["self", "at", "word", "house", "order", "room", "votes", "one"]
abbrev p_World_come : List Str := ["self", "at"]
theorem sc_World_come : FnScope N_World_come p_World_come (defScope s_World_come) := ⟨rfl, rfl, rfl, by decide +kernel, rfl, by decide +kernel, by decide +kernel⟩
abbrev N_World_look_liar : List Str := ["self", "house"]
abbrev p_World_look_liar : List Str := ["self", "house"]
theorem sc_World_look_liar : FnScope N_World_look_liar p_World_look_liar (defScope s_World_look_liar) := ⟨rfl, rfl, rfl, by decide +kernel, rfl, by decide +kernel, by decide +kernel⟩
abbrev N_is_cut : List Str := ["thing", "world", "nexts", "sums", "many", "row", "one"]
abbrev p_is_cut : List Str := ["thing", "world"]
theorem sc_is_cut : FnScope N_is_cut p_is_cut (defScope s_is_cut) := ⟨rfl, rfl, rfl, by decide +kernel, rfl, by decide +kernel, by decide +kernel⟩
abbrev N_Cutting_lie : List Str := ["self", "liar", "cut"]
abbrev p_Cutting_lie : List Str := ["self", "liar", "cut"]
theorem sc_Cutting_lie : FnScope N_Cutting_lie p_Cutting_lie (defScope s_Cutting_lie) := ⟨rfl, rfl, rfl, by decide +kernel, rfl, by decide +kernel, by decide +kernel⟩
abbrev N_House_load : List Str := ["self", "nexts", "sums", "one"]
abbrev p_House_load : List Str := ["self", "nexts", "sums"]
theorem sc_House_load : FnScope N_House_load p_House_load (defScope s_House_load) := ⟨rfl, rfl, rfl, by decide +kernel, rfl, by decide +kernel, by decide +kernel⟩
abbrev N_Cutting_good : List Str := ["self", "need", "cut"]
abbrev p_Cutting_good : List Str := ["self"]
theorem sc_Cutting_good : FnScope N_Cutting_good p_Cutting_good (defScope s_Cutting_good) := ⟨rfl, rfl, rfl, by decide +kernel, rfl, by decide +kernel, by decide +kernel⟩
abbrev N_Cutting_take : List Str := ["self", "house", "cut", "room", "nexts", "sums", "order", "mine", "one"]
abbrev p_Cutting_take : List Str := ["self", "house", "cut"]
theorem sc_Cutting_take : FnScope N_Cutting_take p_Cutting_take (defScope s_Cutting_take) := ⟨rfl, rfl, rfl, by decide +kernel, rfl, by decide +kernel, by decide +kernel⟩
abbrev N_Cutting_signers_of : List Str := ["self", "cut"]
abbrev p_Cutting_signers_of : List Str := ["self", "cut"]
theorem sc_Cutting_signers_of : FnScope N_Cutting_signers_of p_Cutting_signers_of (defScope s_Cutting_signers_of) := ⟨rfl, rfl, rfl, by decide +kernel, rfl, by decide +kernel, by decide +kernel⟩
abbrev N_seen_orders : List Str := ["world", "found", "word", "house", "order"]
abbrev p_seen_orders : List Str := ["world"]
theorem sc_seen_orders : FnScope N_seen_orders p_seen_orders (defScope s_seen_orders) := ⟨rfl, rfl, rfl, by decide +kernel, rfl, by decide +kernel, by decide +kernel⟩
abbrev N_false_owners : List Str := ["world", "orders", "one", "other"]
abbrev p_false_owners : List Str := ["world"]
theorem sc_false_owners : FnScope N_false_owners p_false_owners (defScope s_false_owners) := ⟨rfl, rfl, rfl, by decide +kernel, rfl, by decide +kernel, by decide +kernel⟩
abbrev N_false_houses : List Str := ["world", "found", "signers", "one", "other", "house"]
abbrev p_false_houses : List Str := ["world"]
theorem sc_false_houses : FnScope N_false_houses p_false_houses (defScope s_false_houses) := ⟨rfl, rfl, rfl, by decide +kernel, rfl, by decide +kernel, by decide +kernel⟩
abbrev N_stuck_purses : List Str := ["world", "honest", "spare", "need", "place", "places", "found", "votes", "free", "best", "house", "order"]
abbrev p_stuck_purses : List Str := ["world"]
theorem sc_stuck_purses : FnScope N_stuck_purses p_stuck_purses (defScope s_stuck_purses) := ⟨rfl, rfl, rfl, by decide +kernel, rfl, by decide +kernel, by decide +kernel⟩
abbrev N_lost_nothing : List Str := ["world", "whole", "rooms", "house", "room"]
abbrev p_lost_nothing : List Str := ["world"]
theorem sc_lost_nothing : FnScope N_lost_nothing p_lost_nothing (defScope s_lost_nothing) := ⟨rfl, rfl, rfl, by decide +kernel, rfl, by decide +kernel, by decide +kernel⟩
abbrev N__law_did : List Str := ["_law_kind", "_law_thing", "_law_one", "_law_two"]
abbrev p__law_did : List Str := ["_law_kind", "_law_thing", "_law_one", "_law_two"]
theorem sc__law_did : FnScope N__law_did p__law_did (defScope s__law_did) := ⟨rfl, rfl, rfl, by decide +kernel, rfl, by decide +kernel, by decide +kernel⟩
abbrev N__law_refusal : List Str := ["_law_caught", "_law_kinds", "_law_words"]
abbrev p__law_refusal : List Str := ["_law_caught"]
theorem sc__law_refusal : FnScope N__law_refusal p__law_refusal (defScope s__law_refusal) := ⟨rfl, rfl, rfl, by decide +kernel, rfl, by decide +kernel, by decide +kernel⟩
abbrev N__law_asked : List Str := ["_law_kind", "_law_thing", "_law_one", "_law_two", "_law_caught", "_law_found", "e"]
abbrev p__law_asked : List Str := ["_law_kind", "_law_thing", "_law_one", "_law_two"]
theorem sc__law_asked : FnScope N__law_asked p__law_asked (defScope s__law_asked) := ⟨rfl, rfl, rfl, by decide +kernel, rfl, by decide +kernel, by decide +kernel⟩
abbrev N_World_sums : List Str := ["self", "house"]
abbrev p_World_sums : List Str := ["self", "house"]
theorem sc_World_sums : FnScope N_World_sums p_World_sums (defScope s_World_sums) := ⟨rfl, rfl, rfl, by decide +kernel, rfl, by decide +kernel, by decide +kernel⟩
abbrev N_is_behind : List Str := ["cut", "other", "one", "two"]
abbrev p_is_behind : List Str := ["cut", "other"]
theorem sc_is_behind : FnScope N_is_behind p_is_behind (defScope s_is_behind) := ⟨rfl, rfl, rfl, by decide +kernel, rfl, by decide +kernel, by decide +kernel⟩
abbrev N_law : List Str := ["_law_script", "_law_town_here", "_law_world", "_law_cutting", "_law_thing", "_law_start", "_law_bad", "_law_turn", "_law_cut", "_law_odd", "_law_house", "_law_kind"]
abbrev p_law : List Str := ["_law_script"]
theorem sc_law : FnScope N_law p_law (defScope s_law) := ⟨rfl, rfl, rfl, by decide +kernel, rfl, by decide +kernel, by decide +kernel⟩
abbrev N_NoHouse___init__ : List Str := ["self", "house"]
theorem sc_NoHouse___init__ : FnScope N_NoHouse___init__ N_NoHouse___init__ (defScope s_NoHouse___init__) := ⟨rfl, rfl, rfl, by decide +kernel, rfl, by decide +kernel, by decide +kernel⟩
abbrev N_NoPurse___init__ : List Str := ["self", "purse"]
theorem sc_NoPurse___init__ : FnScope N_NoPurse___init__ N_NoPurse___init__ (defScope s_NoPurse___init__) := ⟨rfl, rfl, rfl, by decide +kernel, rfl, by decide +kernel, by decide +kernel⟩
abbrev Ly (K : PySem.W.Frag) : Lay := ⟨nmOf, clsOf K, 6, nmOf_inj⟩
abbrev A__law_town (K : PySem.W.Frag) : Addr := He.fAd K ("_law_town", none)
abbrev A_is_whole (K : PySem.W.Frag) : Addr := He.fAd K ("is_whole", none)
abbrev A_look_number (K : PySem.W.Frag) : Addr := He.fAd K ("look_number", none)
abbrev A_look_liars (K : PySem.W.Frag) : Addr := He.fAd K ("look_liars", none)
abbrev A_Board___init__ (K : PySem.W.Frag) : Addr := He.fAd K ("Board", some "__init__")
abbrev A_House___init__ (K : PySem.W.Frag) : Addr := He.fAd K ("House", some "__init__")
abbrev A_World___init__ (K : PySem.W.Frag) : Addr := He.fAd K ("World", some "__init__")
abbrev A_look_world (K : PySem.W.Frag) : Addr := He.fAd K ("look_world", none)
abbrev A_Cutting___init__ (K : PySem.W.Frag) : Addr := He.fAd K ("Cutting", some "__init__")
abbrev A_World_look_purse (K : PySem.W.Frag) : Addr := He.fAd K ("World", some "look_purse")
abbrev A_World_next_number (K : PySem.W.Frag) : Addr := He.fAd K ("World", some "next_number")
abbrev A_World_honest (K : PySem.W.Frag) : Addr := He.fAd K ("World", some "honest")
abbrev A_World_order_to_all (K : PySem.W.Frag) : Addr := He.fAd K ("World", some "order_to_all")
abbrev A_enough (K : PySem.W.Frag) : Addr := He.fAd K ("enough", none)
abbrev A_Board_is_paper (K : PySem.W.Frag) : Addr := He.fAd K ("Board", some "is_paper")
abbrev A_World_left_at (K : PySem.W.Frag) : Addr := He.fAd K ("World", some "left_at")
abbrev A_World_ask (K : PySem.W.Frag) : Addr := He.fAd K ("World", some "ask")
abbrev A__law_draw (K : PySem.W.Frag) : Addr := He.fAd K ("_law_draw", none)
abbrev A__law_pick (K : PySem.W.Frag) : Addr := He.fAd K ("_law_pick", none)
abbrev A_House_state (K : PySem.W.Frag) : Addr := He.fAd K ("House", some "state")
abbrev A_World_room (K : PySem.W.Frag) : Addr := He.fAd K ("World", some "room")
abbrev A_cut_of (K : PySem.W.Frag) : Addr := He.fAd K ("cut_of", none)
abbrev A_Cutting_add (K : PySem.W.Frag) : Addr := He.fAd K ("Cutting", some "add")
abbrev A_Cutting_sign (K : PySem.W.Frag) : Addr := He.fAd K ("Cutting", some "sign")
abbrev A_World_letters (K : PySem.W.Frag) : Addr := He.fAd K ("World", some "letters")
abbrev A_is_order (K : PySem.W.Frag) : Addr := He.fAd K ("is_order", none)
abbrev A_look_order (K : PySem.W.Frag) : Addr := He.fAd K ("look_order", none)
abbrev A_House_may_vote (K : PySem.W.Frag) : Addr := He.fAd K ("House", some "may_vote")
abbrev A_House_new_votes (K : PySem.W.Frag) : Addr := He.fAd K ("House", some "new_votes")
abbrev A_House_hear (K : PySem.W.Frag) : Addr := He.fAd K ("House", some "hear")
abbrev A_Board_sign (K : PySem.W.Frag) : Addr := He.fAd K ("Board", some "sign")
abbrev A_World_paper_to_all (K : PySem.W.Frag) : Addr := He.fAd K ("World", some "paper_to_all")
abbrev A_World_signed (K : PySem.W.Frag) : Addr := He.fAd K ("World", some "signed")
abbrev A_House_settle (K : PySem.W.Frag) : Addr := He.fAd K ("House", some "settle")
abbrev A_House_can_settle (K : PySem.W.Frag) : Addr := He.fAd K ("House", some "can_settle")
abbrev A_House_go_on (K : PySem.W.Frag) : Addr := He.fAd K ("House", some "go_on")
abbrev A_House_take (K : PySem.W.Frag) : Addr := He.fAd K ("House", some "take")
abbrev A_World_come (K : PySem.W.Frag) : Addr := He.fAd K ("World", some "come")
abbrev A_World_look_liar (K : PySem.W.Frag) : Addr := He.fAd K ("World", some "look_liar")
abbrev A_is_cut (K : PySem.W.Frag) : Addr := He.fAd K ("is_cut", none)
abbrev A_Cutting_lie (K : PySem.W.Frag) : Addr := He.fAd K ("Cutting", some "lie")
abbrev A_House_load (K : PySem.W.Frag) : Addr := He.fAd K ("House", some "load")
abbrev A_Cutting_good (K : PySem.W.Frag) : Addr := He.fAd K ("Cutting", some "good")
abbrev A_Cutting_take (K : PySem.W.Frag) : Addr := He.fAd K ("Cutting", some "take")
abbrev A_Cutting_signers_of (K : PySem.W.Frag) : Addr := He.fAd K ("Cutting", some "signers_of")
abbrev A_seen_orders (K : PySem.W.Frag) : Addr := He.fAd K ("seen_orders", none)
abbrev A_false_owners (K : PySem.W.Frag) : Addr := He.fAd K ("false_owners", none)
abbrev A_false_houses (K : PySem.W.Frag) : Addr := He.fAd K ("false_houses", none)
abbrev A_stuck_purses (K : PySem.W.Frag) : Addr := He.fAd K ("stuck_purses", none)
abbrev A_lost_nothing (K : PySem.W.Frag) : Addr := He.fAd K ("lost_nothing", none)
abbrev A__law_did (K : PySem.W.Frag) : Addr := He.fAd K ("_law_did", none)
abbrev A__law_refusal (K : PySem.W.Frag) : Addr := He.fAd K ("_law_refusal", none)
abbrev A__law_asked (K : PySem.W.Frag) : Addr := He.fAd K ("_law_asked", none)
abbrev A_World_sums (K : PySem.W.Frag) : Addr := He.fAd K ("World", some "sums")
abbrev A_is_behind (K : PySem.W.Frag) : Addr := He.fAd K ("is_behind", none)
abbrev A_law (K : PySem.W.Frag) : Addr := He.fAd K ("law", none)
theorem ob_eq (s : PySem.W.SharedT) : ob s = hk.obs s.abs := obsXG_eq (HandSHeadRun.getT_eq s)
end Wk
namespace Fl
open PySem
def f__law_town : SF := (sRet (dLst (dCons (dIfE (tVal (dOp2 gNe (dVar 0) (dLst dNil))) (dOpN gList (dCons (dVar 0) dNil)) (dLst (dCons (dC (.int 0)) dNil))) (dCons (dC (.int 0)) dNil))))
def S__law_town : List D → Mem → Res D := fun ds M => match decide (ds.length = 1) with
  | true => (f__law_town (startD 1 ds) M).fin
  | false => .bad
def f_is_whole : SF := (sRet (dAnd (dOp1 (gIsi tabInt) (dVar 0)) (dAnd (dNot (dOp1 (gIsi tabBool) (dVar 0))) (dChain gLe gLe (dVar 1) (dVar 0) (dVar 2)))))
def S_is_whole : List D → Mem → Res D := fun ds M => match decide (ds.length = 3) with
  | true => (f_is_whole (startD 3 ds) M).fin
  | false => .bad
def f_is_order : SF := (sSeq (sIf (tOrF (tNotF (tVal (dOp1 (gIsi tabTup) (dVar 0)))) (tVal (dOp2 gNe (dOpN gLen (dCons (dVar 0) dNil)) (dC (.int 4))))) (sRet (dC (.bl false))) sNext) (sSeq (sAsg (dVar 0) (gT 4 (gsCons 2 (gsCons 3 (gsCons 4 (gsCons 5 gsNil)))))) (sSeq (sIf (tOrF (tNotF (tVal (dCall 3 0 S_is_whole (fun xs _ => xs) (dCons (dVar 2) (dCons (dC (.int 0)) (dCons (dOp2 gSub (dVar 1) (dC (.int 1))) dNil))) dNil))) (tOrF (tNotF (tVal (dCall 3 0 S_is_whole (fun xs _ => xs) (dCons (dVar 4) (dCons (dC (.int 0)) (dCons (dOp2 gSub (dVar 1) (dC (.int 1))) dNil))) dNil))) (tVal (dOp2 gEq (dVar 2) (dVar 4))))) (sRet (dC (.bl false))) sNext) (sRet (dAnd (dCall 3 0 S_is_whole (fun xs _ => xs) (dCons (dVar 3) (dCons (dC (.int 0)) (dCons (dC (.int 99)) dNil))) dNil) (dCall 3 0 S_is_whole (fun xs _ => xs) (dCons (dVar 5) (dCons (dC (.int 1)) (dCons (dC (.int 1000)) dNil))) dNil))))))
def S_is_order : List D → Mem → Res D := fun ds M => match decide (ds.length = 2) with
  | true => (f_is_order (startD 6 ds) M).fin
  | false => .bad
def f_summed : SF := (sSeq (sIf (tOrF (tNotF (tVal (dOp1 (gIsi tabLst) (dVar 0)))) (tNotF (tVal (dOpN gAll (dCons (dLc (iSeq (dVar 0)) (gN 7) tYesF (dCall 1 1 S_is_order (fun xs zs => xs ++ zs) (dCons (dVar 7) dNil) (dCons (dOpN gLen (dCons (dVar 1) dNil)) dNil)) [7]) dNil))))) (sRaise 8) sNext) (sSeq (sSet 2 (dOpN gList (dCons (dVar 1) dNil))) (sSeq (sFor (iSeq (dVar 0)) (gT 4 (gsCons 3 (gsCons 4 (gsCons 5 (gsCons 6 gsNil))))) (sSeq (sIxAug (dVar 2) (dVar 3) (dVar 6) gSub) (sIxAug (dVar 2) (dVar 5) (dVar 6) gIAdd))) (sRet (dVar 2)))))
def S_summed : List D → Mem → Res D := fun ds M => match decide (ds.length = 2) with
  | true => (f_summed (startD 8 ds) M).fin
  | false => .bad
def f__law_draw : SF := (sSeq (sSet 2 (dOp2 gIx (dVar 0) (dC (.int 0)))) (sSeq (sAsg (dOp2 gAdd (dOp2 gIx (dVar 0) (dC (.int 1))) (dC (.int 1))) (gIxSet (dVar 0) (dC (.int 1)))) (sSeq (sSet 3 (dOp2 gMod (dOp2 gIx (dVar 0) (dC (.int 1))) (dOpN gLen (dCons (dVar 2) dNil)))) (sSeq (sSet 4 (dOp2 gIx (dVar 2) (dVar 3))) (sSeq (sIf (tVal (dOp2 gGe (dVar 4) (dC (.int 1000000000000000000)))) (sSeq (sAsg (dOp2 gDiv (dVar 4) (dVar 1)) (gIxSet (dVar 2) (dVar 3))) (sRet (dOp2 gMod (dVar 4) (dVar 1)))) sNext) (sSeq (sSet 5 (dOp2 gMod (dOp2 gAdd (dVar 4) (dOp2 gMulX (dC (.int 104729)) (dOp2 gIx (dVar 0) (dC (.int 1))))) (dC (.int 4294967291)))) (sSeq (sSet 5 (dOp2 gMod (dOp2 gPow (dVar 5) (dC (.int 5))) (dC (.int 4294967279)))) (sRet (dOp2 gMod (dOp2 gDiv (dOp2 gMod (dOp2 gAdd (dOp2 gMulX (dOp2 gDiv (dVar 5) (dC (.int 64))) (dC (.int 69621))) (dVar 5)) (dC (.int 4294967231))) (dC (.int 8))) (dVar 1))))))))))
def S__law_draw : List D → Mem → Res D := fun ds M => match decide (ds.length = 2) with
  | true => (f__law_draw (startD 6 ds) M).fin
  | false => .bad
def f_enough : SF := (sRet (dOp2 gSub (dVar 0) (dVar 1)))
def S_enough : List D → Mem → Res D := fun ds M => match decide (ds.length = 2) with
  | true => (f_enough (startD 2 ds) M).fin
  | false => .bad
def f_in_common : SF := (sSeq (sSet 2 (dOp2 gSub (dOp2 gMulX (dC (.int 2)) (dCall 2 0 S_enough (fun xs _ => xs) (dCons (dVar 0) (dCons (dVar 1) dNil)) dNil)) (dVar 0))) (sRet (dTup (dCons (dVar 2) (dCons (dOp2 gSub (dVar 2) (dVar 1)) dNil)))))
def S_in_common : List D → Mem → Res D := fun ds M => match decide (ds.length = 2) with
  | true => (f_in_common (startD 3 ds) M).fin
  | false => .bad
def f__law_whole : SF := (sRet (dAnd (dOp1 (gIsi tabInt) (dVar 0)) (dNot (dOp1 (gIsi tabBool) (dVar 0)))))
def S__law_whole : List D → Mem → Res D := fun ds M => match decide (ds.length = 1) with
  | true => (f__law_whole (startD 1 ds) M).fin
  | false => .bad
def f__law_pick : SF := (sRet (dOp2 gIx (dVar 1) (dCall 2 0 S__law_draw (fun xs _ => xs) (dCons (dVar 0) (dCons (dOpN gLen (dCons (dVar 1) dNil)) dNil)) dNil)))
def S__law_pick : List D → Mem → Res D := fun ds M => match decide (ds.length = 2) with
  | true => (f__law_pick (startD 2 ds) M).fin
  | false => .bad
def f_look_order : SF := (sIf (tNotF (tVal (dCall 1 1 S_is_order (fun xs zs => xs ++ zs) (dCons (dVar 0) dNil) (dCons (dVar 1) dNil)))) (sRaise 8) sNext)
def S_look_order : List D → Mem → Res D := fun ds M => match decide (ds.length = 2) with
  | true => (f_look_order (startD 2 ds) M).fin
  | false => .bad
def f_place_of : SF := (sSeq (sDrop (dCall 1 0 S_look_order (fun xs _ => xs ++ [(.int 8)]) (dCons (dVar 0) dNil) dNil)) (sRet (dSl (dVar 0) oNone (oSome (dC (.int 2))))))
def S_place_of : List D → Mem → Res D := fun ds M => match decide (ds.length = 1) with
  | true => (f_place_of (startD 1 ds) M).fin
  | false => .bad
def f__law_is : SF := (sRet (dAnd (dOp1 (gIsi tabBool) (dVar 0)) (dOp2 gEq (dVar 0) (dVar 1))))
def S__law_is : List D → Mem → Res D := fun ds M => match decide (ds.length = 2) with
  | true => (f__law_is (startD 2 ds) M).fin
  | false => .bad
def f_clash : SF := (sSeq (sDrop (dCall 1 0 S_look_order (fun xs _ => xs ++ [(.int 8)]) (dCons (dVar 0) dNil) dNil)) (sSeq (sDrop (dCall 1 0 S_look_order (fun xs _ => xs ++ [(.int 8)]) (dCons (dVar 1) dNil) dNil)) (sRet (dAnd (dOp2 gEq (dSl (dVar 0) oNone (oSome (dC (.int 2)))) (dSl (dVar 1) oNone (oSome (dC (.int 2))))) (dOp2 gNe (dVar 0) (dVar 1))))))
def S_clash : List D → Mem → Res D := fun ds M => match decide (ds.length = 2) with
  | true => (f_clash (startD 2 ds) M).fin
  | false => .bad
def f_look_number : SF := (sIf (tNotF (tVal (dCall 3 0 S_is_whole (fun xs _ => xs) (dCons (dVar 0) (dCons (dVar 1) (dCons (dVar 2) dNil))) dNil))) (sRaise 7) sNext)
def S_look_number : List D → Mem → Res D := fun ds M => match decide (ds.length = 3) with
  | true => (f_look_number (startD 3 ds) M).fin
  | false => .bad
def f_checked : SF := (sSeq (sIf (tOrF (tNotF (tVal (dOp1 (gIsi tabTup) (dVar 0)))) (tOrF (tVal (dOp2 gNe (dOpN gLen (dCons (dVar 0) dNil)) (dC (.int 2)))) (tNotF (tVal (dCall 1 1 S_is_order (fun xs zs => xs ++ zs) (dCons (dOp2 gIx (dVar 0) (dC (.int 0))) dNil) (dCons (dVar 3) dNil)))))) (sRet (dC (.bl false))) sNext) (sSeq (sSet 4 (dOp2 gIx (dVar 0) (dC (.int 1)))) (sSeq (sIf (tOrF (tNotF (tVal (dOp1 (gIsi tabTup) (dVar 4)))) (tNotF (tVal (dOpN gAll (dCons (dLc (iSeq (dVar 4)) (gN 6) tYesF (dCall 3 0 S_is_whole (fun xs _ => xs) (dCons (dVar 6) (dCons (dC (.int 0)) (dCons (dOp2 gSub (dVar 1) (dC (.int 1))) dNil))) dNil) [6]) dNil))))) (sRet (dC (.bl false))) sNext) (sSeq (sSet 5 (dOp2 gEq (dSortSet (dVar 4)) (dOpN gList (dCons (dVar 4) dNil)))) (sRet (dAnd (dVar 5) (dOp2 gGe (dOpN gLen (dCons (dVar 4) dNil)) (dCall 2 0 S_enough (fun xs _ => xs) (dCons (dVar 1) (dCons (dVar 2) dNil)) dNil))))))))
def S_checked : List D → Mem → Res D := fun ds M => match decide (ds.length = 4) with
  | true => (f_checked (startD 7 ds) M).fin
  | false => .bad
end Fl
namespace Fl
open PySem
open L2 (Key)
def hole : MO := .exc 1000 none
mutual
def Dr (α : List Nat) : D → D → Prop
  | .non, v => v = .non
  | .bl b, v => v = .bl b
  | .int i, v => v = .int i
  | .str s, v => v = .str s
  | .tup ds, v => ∃ vs, v = .tup vs ∧ Drs α ds vs
  | .rol ds, v => ∃ vs, v = .rol vs ∧ Drs α ds vs
  | .ref n, v => ∃ a, α[n]? = some a ∧ v = .ref a
def Drs (α : List Nat) : List D → List D → Prop
  | [], vs => vs = []
  | d :: ds, vs => ∃ x xs, vs = x :: xs ∧ Dr α d x ∧ Drs α ds xs
end
def KR {κ : Type} (α : List Nat) : List (κ × D) → List (κ × D) → Prop := Paired fun p q => p.1 = q.1 ∧ Dr α p.2 q.2
def XR (α : List Nat) : Option (Nat × D) → Option (Nat × D) → Prop
  | none, F => F = none
  | some p, F => ∃ v, F = some (p.1, v) ∧ Dr α p.2 v
def OR (α : List Nat) : MO → MO → Prop
  | .lst ds, O => ∃ Ds, O = .lst Ds ∧ Drs α ds Ds
  | .dk ks, O => ∃ Ks, O = .dk Ks ∧ KR α ks Ks
  | .dt ks, O => ∃ Ks, O = .dt Ks ∧ KR α ks Ks
  | .fk ks, O => ∃ Ks, O = .fk Ks ∧ KR α ks Ks
  | .ft ks, O => ∃ Ks, O = .ft Ks ∧ KR α ks Ks
  | .dn ks, O => ∃ Ks, O = .dn Ks ∧ KR α ks Ks
  | .fn ks, O => ∃ Ks, O = .fn Ks ∧ KR α ks Ks
  | .ins c fs, O => ∃ Fs, O = .ins c Fs ∧ KR α fs Fs
  | .exc c f, O => c = 1000 ∨ ∃ F, O = .exc c F ∧ XR α f F
def Pre (α β : List Nat) : Prop := ∃ γ, β = α ++ γ
theorem Pre.refl {α : List Nat} : Pre α α := ⟨[], by simp⟩
theorem Pre.trans {α β γ : List Nat} (h : Pre α β) (h' : Pre β γ) : Pre α γ := by
  obtain ⟨a, rfl⟩ := h
  obtain ⟨b, rfl⟩ := h'
  exact ⟨a ++ b, by simp⟩
theorem Pre.get {α β : List Nat} (h : Pre α β) {n a : Nat} (e : α[n]? = some a) : β[n]? = some a := by
  obtain ⟨γ, rfl⟩ := h
  rw [List.getElem?_append_left (List.getElem?_eq_some_iff.mp e).1]; exact e
theorem Pre.snoc {α : List Nat} {a : Nat} : Pre α (α ++ [a]) := ⟨[a], rfl⟩
section
variable {α α' : List Nat}
mutual
theorem Dr.up (l : Pre α α') : ∀ {d v : D}, Dr α d v → Dr α' d v
  | .non, _, h => by unfold Dr at h ⊢; exact h
  | .bl _, _, h => by unfold Dr at h ⊢; exact h
  | .int _, _, h => by unfold Dr at h ⊢; exact h
  | .str _, _, h => by unfold Dr at h ⊢; exact h
  | .tup ds, _, h => by
    unfold Dr at h ⊢
    obtain ⟨vs, e, hr⟩ := h
    exact ⟨vs, e, Drs.up l hr⟩
  | .rol ds, _, h => by
    unfold Dr at h ⊢
    obtain ⟨vs, e, hr⟩ := h
    exact ⟨vs, e, Drs.up l hr⟩
  | .ref n, _, h => by
    unfold Dr at h ⊢
    obtain ⟨a, e, r⟩ := h
    exact ⟨a, l.get e, r⟩
theorem Drs.up (l : Pre α α') : ∀ {ds vs : List D}, Drs α ds vs → Drs α' ds vs
  | [], _, h => by unfold Drs at h ⊢; exact h
  | d :: ds, _, h => by
    unfold Drs at h ⊢
    obtain ⟨x, xs, e, h1, h2⟩ := h
    exact ⟨x, xs, e, Dr.up l h1, Drs.up l h2⟩
end
theorem KR.up {κ : Type} (l : Pre α α') {ks vs : List (κ × D)} (h : KR α ks vs) : KR α' ks vs := by
  induction h with
  | nil => exact .nil
  | cons p _ ih => exact .cons ⟨p.1, p.2.up l⟩ ih
theorem XR.up (l : Pre α α') : ∀ {f F : Option (Nat × D)}, XR α f F → XR α' f F
  | none, _, h => h
  | some p, _, ⟨v, e, h⟩ => ⟨v, e, h.up l⟩
theorem OR.up (l : Pre α α') : ∀ {o O : MO}, OR α o O → OR α' o O
  | .lst _, _, ⟨_, e, h⟩ => ⟨_, e, h.up l⟩
  | .dk _, _, ⟨_, e, h⟩ => ⟨_, e, h.up l⟩
  | .dt _, _, ⟨_, e, h⟩ => ⟨_, e, h.up l⟩
  | .fk _, _, ⟨_, e, h⟩ => ⟨_, e, h.up l⟩
  | .ft _, _, ⟨_, e, h⟩ => ⟨_, e, h.up l⟩
  | .dn _, _, ⟨_, e, h⟩ => ⟨_, e, h.up l⟩
  | .fn _, _, ⟨_, e, h⟩ => ⟨_, e, h.up l⟩
  | .ins _ _, _, ⟨_, e, h⟩ => ⟨_, e, h.up l⟩
  | .exc _ _, _, .inl h => .inl h
  | .exc _ _, _, .inr ⟨_, e, h⟩ => .inr ⟨_, e, h.up l⟩
theorem Drs.length : ∀ {ds vs : List D}, Drs α ds vs → ds.length = vs.length
  | [], _, h => by unfold Drs at h; subst h; rfl
  | d :: ds, _, h => by
    unfold Drs at h
    obtain ⟨x, xs, rfl, _, h2⟩ := h
    rw [List.length_cons, List.length_cons, Drs.length h2]
theorem drs_nil : Drs α [] [] := by unfold Drs; rfl
theorem drs_cons {d v : D} {ds vs : List D} (h : Dr α d v) (h2 : Drs α ds vs) : Drs α (d :: ds) (v :: vs) := by
  unfold Drs; exact ⟨v, vs, rfl, h, h2⟩
theorem Drs.nil_inv {vs : List D} (h : Drs α [] vs) : vs = [] := by unfold Drs at h; exact h
theorem Drs.cons_inv {d : D} {ds vs : List D} (h : Drs α (d :: ds) vs) : ∃ x xs, vs = x :: xs ∧ Dr α d x ∧ Drs α ds xs := by unfold Drs at h; exact h
theorem Drs.append : ∀ {ds es vs ws : List D}, Drs α ds vs → Drs α es ws → Drs α (ds ++ es) (vs ++ ws)
  | [], _, _, _, h, h' => by have := h.nil_inv; subst this; exact h'
  | d :: ds, _, _, _, h, h' => by
    obtain ⟨x, xs, rfl, h1, h2⟩ := h.cons_inv
    exact drs_cons h1 (Drs.append h2 h')
theorem Drs.at {ds vs : List D} (h : Drs α ds vs) {i : Nat} {d : D} (e : ds[i]? = some d) : ∃ v, vs[i]? = some v ∧ Dr α d v := by
  induction ds generalizing vs i with
  | nil => simp at e
  | cons a r ih =>
    obtain ⟨x, xs, rfl, h1, h2⟩ := h.cons_inv
    cases i with
    | zero =>
      have q : a = d := by simpa using e
      subst q
      exact ⟨x, rfl, h1⟩
    | succ i =>
      obtain ⟨v, e1, e2⟩ := ih h2 (i := i) (by simpa using e)
      exact ⟨v, by simpa using e1, e2⟩
theorem Drs.none {ds vs : List D} (h : Drs α ds vs) {i : Nat} (e : ds[i]? = none) : vs[i]? = none := by
  rw [List.getElem?_eq_none_iff] at e ⊢
  rw [← h.length]; exact e
theorem Drs.take : ∀ {ds vs : List D} (n : Nat), Drs α ds vs → Drs α (ds.take n) (vs.take n)
  | _, _, 0, _ => by simp; exact drs_nil
  | [], _, n + 1, h => by have := h.nil_inv; subst this; simp; exact drs_nil
  | d :: ds, _, n + 1, h => by
    obtain ⟨x, xs, rfl, h1, h2⟩ := h.cons_inv
    exact drs_cons h1 (Drs.take n h2)
theorem Drs.drop : ∀ {ds vs : List D} (n : Nat), Drs α ds vs → Drs α (ds.drop n) (vs.drop n)
  | _, _, 0, h => h
  | [], _, n + 1, h => by have := h.nil_inv; subst this; simp; exact drs_nil
  | d :: ds, _, n + 1, h => by
    obtain ⟨x, xs, rfl, h1, h2⟩ := h.cons_inv
    exact Drs.drop n h2
theorem Drs.set : ∀ {ds vs : List D} (n : Nat) {d v : D}, Drs α ds vs → Dr α d v → Drs α (ds.set n d) (vs.set n v)
  | [], _, n, _, _, h, _ => by have := h.nil_inv; subst this; simp; exact drs_nil
  | d :: ds, _, 0, _, _, h, r => by
    obtain ⟨x, xs, rfl, h1, h2⟩ := h.cons_inv
    exact drs_cons r h2
  | d :: ds, _, n + 1, _, _, h, r => by
    obtain ⟨x, xs, rfl, h1, h2⟩ := h.cons_inv
    exact drs_cons h1 (Drs.set n h2 r)
theorem Drs.erase : ∀ {ds vs : List D} (n : Nat), Drs α ds vs → Drs α (ds.eraseIdx n) (vs.eraseIdx n)
  | [], _, n, h => by have := h.nil_inv; subst this; simp; exact drs_nil
  | d :: ds, _, 0, h => by
    obtain ⟨x, xs, rfl, h1, h2⟩ := h.cons_inv
    exact h2
  | d :: ds, _, n + 1, h => by
    obtain ⟨x, xs, rfl, h1, h2⟩ := h.cons_inv
    exact drs_cons h1 (Drs.erase n h2)
theorem Drs.reverse : ∀ {ds vs : List D}, Drs α ds vs → Drs α ds.reverse vs.reverse
  | [], _, h => by have := h.nil_inv; subst this; exact drs_nil
  | d :: ds, _, h => by
    obtain ⟨x, xs, rfl, h1, h2⟩ := h.cons_inv
    rw [List.reverse_cons, List.reverse_cons]
    exact (Drs.reverse h2).append (drs_cons h1 drs_nil)
theorem Drs.rep : ∀ {ds vs : List D} (k : Nat), Drs α ds vs → Drs α (List.replicate k ds).flatten (List.replicate k vs).flatten
  | _, _, 0, _ => drs_nil
  | ds, vs, k + 1, h => by
    rw [List.replicate_succ, List.replicate_succ, List.flatten_cons, List.flatten_cons]
    exact h.append (Drs.rep k h)
theorem drs_map {A : Type} {f g : A → D} {l : List A} (h : ∀ a ∈ l, Dr α (f a) (g a)) : Drs α (l.map f) (l.map g) := by
  induction l with
  | nil => exact drs_nil
  | cons a r ih => exact drs_cons (h a List.mem_cons_self) (ih fun b hb => h b (List.mem_cons_of_mem _ hb))
theorem dr_non : Dr α .non .non := by unfold Dr; rfl
theorem dr_bl {b : Bool} : Dr α (.bl b) (.bl b) := by unfold Dr; rfl
theorem dr_int {b : Int} : Dr α (.int b) (.int b) := by unfold Dr; rfl
theorem dr_str {b : Str} : Dr α (.str b) (.str b) := by unfold Dr; rfl
theorem dr_ref {n a : Nat} (h : α[n]? = some a) : Dr α (.ref n) (.ref a) := by unfold Dr; exact ⟨a, h, rfl⟩
theorem dr_tup {ds vs : List D} (h : Drs α ds vs) : Dr α (.tup ds) (.tup vs) := by unfold Dr; exact ⟨vs, rfl, h⟩
theorem dr_rol {ds vs : List D} (h : Drs α ds vs) : Dr α (.rol ds) (.rol vs) := by unfold Dr; exact ⟨vs, rfl, h⟩
theorem Dr.non {v : D} (h : Dr α .non v) : v = .non := by unfold Dr at h; exact h
theorem Dr.bl {b : Bool} {v : D} (h : Dr α (.bl b) v) : v = .bl b := by unfold Dr at h; exact h
theorem Dr.int {b : Int} {v : D} (h : Dr α (.int b) v) : v = .int b := by unfold Dr at h; exact h
theorem Dr.str {b : Str} {v : D} (h : Dr α (.str b) v) : v = .str b := by unfold Dr at h; exact h
theorem Dr.tup {ds : List D} {v : D} (h : Dr α (.tup ds) v) : ∃ vs, v = .tup vs ∧ Drs α ds vs := by unfold Dr at h; exact h
theorem Dr.rol {ds : List D} {v : D} (h : Dr α (.rol ds) v) : ∃ vs, v = .rol vs ∧ Drs α ds vs := by unfold Dr at h; exact h
theorem Dr.ref {n : Nat} {v : D} (h : Dr α (.ref n) v) : ∃ a, α[n]? = some a ∧ v = .ref a := by unfold Dr at h; exact h
end
structure MR (α : List Nat) (m M : Mem) : Prop where
  len : α.length = m.length
  nd : α.Nodup
  ob : ∀ (n : Nat) (o : MO) (a : Nat), m[n]? = some o → α[n]? = some a → ∃ O, M[a]? = some O ∧ OR α o O
def Live (α : List Nat) (m : Mem) (a : Nat) : Prop := ∃ (i : Nat) (o : MO), α[i]? = some a ∧ m[i]? = some o ∧ o ≠ hole
structure Ext (α : List Nat) (m M : Mem) (α' : List Nat) (m' M' : Mem) : Prop where
  mr : MR α' m' M'
  ex : ∃ β, α' = α ++ β ∧ ∀ b ∈ β, M.length ≤ b
  len : M.length ≤ M'.length
  fx : ∀ n : Nat, n < M.length → ¬ Live α m n → M'[n]? = M[n]?
  hl : ∀ i : Nat, m[i]? = some hole → m'[i]? = some hole
section
variable {α α' : List Nat} {m M m' M' : Mem}
theorem Ext.pre (e : Ext α m M α' m' M') : Pre α α' := let ⟨β, h, _⟩ := e.ex; ⟨β, h⟩
theorem Ext.refl (r : MR α m M) : Ext α m M α m M := ⟨r, ⟨[], by simp⟩, Nat.le_refl _, fun _ _ _ => rfl, fun _ h => h⟩
theorem MR.at (r : MR α m M) {n a : Nat} {o : MO} (h : m[n]? = some o) (ha : α[n]? = some a) : ∃ O, M[a]? = some O ∧ OR α o O := r.ob n o a h ha
theorem MR.has (r : MR α m M) {n a : Nat} (ha : α[n]? = some a) : ∃ o O, m[n]? = some o ∧ M[a]? = some O ∧ OR α o O := by
  have h1 := (List.getElem?_eq_some_iff.mp ha).1
  have h2 : n < m.length := by rw [← r.len]; exact h1
  obtain ⟨O, h3, h4⟩ := r.at (List.getElem?_eq_getElem h2) ha
  exact ⟨_, O, List.getElem?_eq_getElem h2, h3, h4⟩
theorem nd_ix2 {l : List Nat} (h : l.Nodup) {i j a : Nat} (h1 : l[i]? = some a) (h2 : l[j]? = some a) : i = j := by
  exact L2.nd_ix h h1 h2
theorem Ext.trans {α'' : List Nat} {m'' M'' : Mem} (e : Ext α m M α' m' M') (r : MR α m M) (e' : Ext α' m' M' α'' m'' M'') : Ext α m M α'' m'' M'' := by
  obtain ⟨β, hb, hb2⟩ := e.ex
  obtain ⟨γ, hc, hc2⟩ := e'.ex
  refine ⟨e'.mr, ⟨β ++ γ, by rw [hc, hb, List.append_assoc], fun b hb => ?_⟩, Nat.le_trans e.len e'.len, fun n hn hl => ?_, fun i h => e'.hl i (e.hl i h)⟩
  · rcases List.mem_append.mp hb with z | z
    · exact hb2 b z
    · exact Nat.le_trans e.len (hc2 b z)
  · rw [e'.fx n (Nat.lt_of_lt_of_le hn e.len) ?_, e.fx n hn hl]
    rintro ⟨i, o, h1, h2, h3⟩
    subst hb
    by_cases c : i < α.length
    · rw [List.getElem?_append_left c] at h1
      obtain ⟨o0, _, h4, _⟩ := r.has h1
      by_cases z : o0 = hole
      · subst z
        rw [e.hl i h4] at h2
        exact h3 (Option.some.inj h2).symm
      · exact hl ⟨i, o0, h1, h4, z⟩
    · rw [List.getElem?_append_right (by omega)] at h1
      have := hb2 n (List.mem_of_getElem? h1)
      omega
theorem Ext.alloc (e : Ext α m M α' m' M') {o O : MO} (h : OR (α' ++ [M'.length]) o O) : Ext α m M (α' ++ [M'.length]) (m' ++ [o]) (M' ++ [O]) := by
  obtain ⟨β, hb, hb2⟩ := e.ex
  have r := e.mr
  have nm : ∀ a ∈ α', a < M'.length := fun a ha => by
    obtain ⟨i, hi⟩ := List.mem_iff_getElem?.mp ha
    obtain ⟨_, O, _, h2, _⟩ := r.has hi
    exact (List.getElem?_eq_some_iff.mp h2).1
  refine ⟨⟨by simp [r.len], ?_, ?_⟩, ⟨β ++ [M'.length], by rw [hb, List.append_assoc], fun b hb => ?_⟩, by simp; have := e.len; omega, fun n hn hl => ?_, fun i hi => ?_⟩
  · rw [List.nodup_append]
    exact ⟨r.nd, by simp, fun a ha b hb z => by rw [List.mem_singleton] at hb; have := nm a ha; omega⟩
  · intro n x a h1 h2
    by_cases c : n < m'.length
    · rw [List.getElem?_append_left c] at h1
      rw [List.getElem?_append_left (by rw [r.len]; exact c)] at h2
      obtain ⟨X, h3, h4⟩ := r.at h1 h2
      exact ⟨X, by rw [List.getElem?_append_left (List.getElem?_eq_some_iff.mp h3).1]; exact h3, h4.up .snoc⟩
    · have hn : n = m'.length := by
        have := (List.getElem?_eq_some_iff.mp h1).1
        rw [List.length_append, List.length_singleton] at this
        omega
      subst hn
      rw [← r.len, List.getElem?_append_right (Nat.le_refl _)] at h2
      rw [List.getElem?_append_right (Nat.le_refl _)] at h1
      simp at h1 h2
      subst h1 h2
      exact ⟨O, by simp, h⟩
  · rcases List.mem_append.mp hb with z | z
    · exact hb2 b z
    · rw [List.mem_singleton.mp z]; exact e.len
  · rw [List.getElem?_append_left (by have := e.len; omega)]; exact e.fx n hn hl
  · have z := e.hl i hi
    rw [List.getElem?_append_left (List.getElem?_eq_some_iff.mp z).1]; exact z
theorem Ext.set (e : Ext α m M α' m' M') (r0 : MR α m M) {n a : Nat} {o o0 O : MO} (ha : α'[n]? = some a) (h0 : m'[n]? = some o0) (hh : o0 ≠ hole) (h : OR α' o O) : Ext α m M α' (m'.set n o) (M'.set a O) := by
  obtain ⟨β, hb, hb2⟩ := e.ex
  have r := e.mr
  refine ⟨⟨by rw [List.length_set]; exact r.len, r.nd, fun k x b h1 h2 => ?_⟩, ⟨β, hb, hb2⟩, by rw [List.length_set]; exact e.len, fun k hk hl => ?_, fun i hi => ?_⟩
  · by_cases c : n = k
    · subst c
      rw [ha] at h2; cases h2
      rw [List.getElem?_set_self (List.getElem?_eq_some_iff.mp h0).1] at h1
      cases h1
      obtain ⟨X, h3, _⟩ := r.at h0 ha
      exact ⟨O, by rw [List.getElem?_set_self (List.getElem?_eq_some_iff.mp h3).1], h⟩
    · rw [List.getElem?_set_ne c] at h1
      obtain ⟨X, h3, h4⟩ := r.at h1 h2
      have ne : a ≠ b := by
        rintro rfl
        exact c (nd_ix2 r.nd ha h2)
      exact ⟨X, by rw [List.getElem?_set_ne ne]; exact h3, h4⟩
  · rw [List.getElem?_set_ne ?_]
    · exact e.fx k hk hl
    · intro z
      subst z
      subst hb
      by_cases c : n < α.length
      · rw [List.getElem?_append_left c] at ha
        obtain ⟨o1, _, h4, _⟩ := r0.has ha
        by_cases z : o1 = hole
        · subst z
          have := e.hl n h4
          rw [this] at h0; cases h0
          exact hh rfl
        · exact hl ⟨n, o1, ha, h4, z⟩
      · rw [List.getElem?_append_right (by omega)] at ha
        have := hb2 a (List.mem_of_getElem? ha)
        omega
  · have z := e.hl i hi
    rw [List.getElem?_set_ne]
    · exact z
    · rintro rfl
      rw [z] at h0; cases h0; exact hh rfl
end
def RR {A B : Type} (R : List Nat → A → B → Prop) (α : List Nat) (m M : Mem) (r : Res A) (r' : Res B) : Prop := match r with
  | .ok a m' => ∃ b M' α', r' = .ok b M' ∧ Ext α m M α' m' M' ∧ R α' a b
  | .exc c f m' => ∃ F M' α', r' = .exc c F M' ∧ Ext α m M α' m' M' ∧ XR α' f F
  | .bad => True
def SlR (α : List Nat) (s S : Sl) : Prop := s.length = S.length ∧ ∀ (i : Nat) (d : D), s[i]? = some (some d) → ∃ v, S[i]? = some (some v) ∧ Dr α d v
def SRR (α : List Nat) (m M : Mem) (r r' : SR) : Prop := match r with
  | .nx s m' => ∃ S M' α', r' = .nx S M' ∧ Ext α m M α' m' M' ∧ SlR α' s S
  | .bk s m' => ∃ S M' α', r' = .bk S M' ∧ Ext α m M α' m' M' ∧ SlR α' s S
  | .ct s m' => ∃ S M' α', r' = .ct S M' ∧ Ext α m M α' m' M' ∧ SlR α' s S
  | .rt d m' => ∃ v M' α', r' = .rt v M' ∧ Ext α m M α' m' M' ∧ Dr α' d v
  | .exc c f s m' => ∃ F S M' α', r' = .exc c F S M' ∧ Ext α m M α' m' M' ∧ XR α' f F ∧ SlR α' s S
  | .bad => True
abbrev Rel0 (A : Type) : List Nat → A → A → Prop := fun _ a b => a = b
section
variable {α α' : List Nat} {m M m' M' : Mem} {s S : Sl}
theorem SlR.up (l : Pre α α') (h : SlR α s S) : SlR α' s S := ⟨h.1, fun i d e => let ⟨v, h1, h2⟩ := h.2 i d e; ⟨v, h1, h2.up l⟩⟩
theorem SlR.set (h : SlR α s S) (i : Nat) {d v : D} (r : Dr α d v) : SlR α (s.set i (some d)) (S.set i (some v)) := by
  refine ⟨by rw [List.length_set, List.length_set, h.1], fun j x e => ?_⟩
  by_cases hj : i = j
  · subst hj
    have hl : i < s.length := by
      have := (List.getElem?_eq_some_iff.mp e).1
      rwa [List.length_set] at this
    rw [List.getElem?_set_self hl] at e
    cases e
    exact ⟨v, by rw [List.getElem?_set_self (by rw [← h.1]; exact hl)], r⟩
  · rw [List.getElem?_set_ne hj] at e
    rw [List.getElem?_set_ne hj]
    exact h.2 j x e
theorem SlR.none (h : SlR α s S) (i : Nat) : SlR α (s.set i none) (S.set i none) := by
  refine ⟨by rw [List.length_set, List.length_set, h.1], fun j x e => ?_⟩
  by_cases hj : i = j
  · subst hj
    have hl : i < s.length := by
      have := (List.getElem?_eq_some_iff.mp e).1
      rwa [List.length_set] at this
    rw [List.getElem?_set_self hl] at e
    cases e
  · rw [List.getElem?_set_ne hj] at e
    rw [List.getElem?_set_ne hj]
    exact h.2 j x e
theorem SlR.wipe (h : SlR α s S) : ∀ is : List Nat, SlR α (wipeD s is) (wipeD S is)
  | [] => h
  | v :: vs => (SlR.wipe h vs).none v
theorem slr_start {n : Nat} {ds vs : List D} (h : Drs α ds vs) : SlR α (startD n ds) (startD n vs) := by
  have hl := h.length
  refine ⟨by simp [startD, hl], fun i d e => ?_⟩
  unfold startD at e ⊢
  by_cases c : i < ds.length
  · rw [List.getElem?_append_left (by simpa using c), List.getElem?_map] at e
    cases q : ds[i]? with
    | none => rw [q] at e; cases e
    | some x =>
      rw [q] at e
      cases e
      obtain ⟨v, h1, h2⟩ := h.at q
      exact ⟨v, by rw [List.getElem?_append_left (by simp; omega), List.getElem?_map, h1]; rfl, h2⟩
  · rw [List.getElem?_append_right (by simp; omega)] at e
    rw [List.getElem?_replicate] at e
    split at e <;> cases e
theorem RR.bind {A B C B' : Type} {R : List Nat → A → B → Prop} {R' : List Nat → C → B' → Prop} {r : Res A} {r' : Res B} {g : A → Mem → Res C} {g' : B → Mem → Res B'} (mr : MR α m M) (h : RR R α m M r r')
    (k : ∀ a b α1 m1 M1, Ext α m M α1 m1 M1 → R α1 a b → RR R' α1 m1 M1 (g a m1) (g' b M1)) : RR R' α m M (r.bind g) (r'.bind g') := by
  cases r with
  | ok a m1 =>
    obtain ⟨b, M1, α1, rfl, e, h⟩ := h
    have z := k a b α1 m1 M1 e h
    show RR R' α m M (g a m1) (g' b M1)
    cases q : g a m1 with
    | ok c m2 =>
      rw [q] at z
      obtain ⟨d, M2, α2, e1, e2, e3⟩ := z
      exact ⟨d, M2, α2, e1, e.trans mr e2, e3⟩
    | exc c f m2 =>
      rw [q] at z
      obtain ⟨d, M2, α2, e1, e2, e3⟩ := z
      exact ⟨d, M2, α2, e1, e.trans mr e2, e3⟩
    | bad => trivial
  | exc c f m1 =>
    obtain ⟨b, M1, α1, rfl, e, h⟩ := h
    exact ⟨b, M1, α1, rfl, e, h⟩
  | bad => trivial
theorem SRR.lift {α1 : List Nat} {m1 M1 : Mem} (mr : MR α m M) (e : Ext α m M α1 m1 M1) {r r' : SR} (h : SRR α1 m1 M1 r r') : SRR α m M r r' := by
  cases r with
  | nx s m2 => obtain ⟨a, b, c, d, f, g⟩ := h; exact ⟨a, b, c, d, e.trans mr f, g⟩
  | bk s m2 => obtain ⟨a, b, c, d, f, g⟩ := h; exact ⟨a, b, c, d, e.trans mr f, g⟩
  | ct s m2 => obtain ⟨a, b, c, d, f, g⟩ := h; exact ⟨a, b, c, d, e.trans mr f, g⟩
  | rt s m2 => obtain ⟨a, b, c, d, f, g⟩ := h; exact ⟨a, b, c, d, e.trans mr f, g⟩
  | exc x y s m2 => obtain ⟨a, b, c, d, f, g, h, i⟩ := h; exact ⟨a, b, c, d, f, e.trans mr g, h, i⟩
  | bad => trivial
theorem RR.lift {A B : Type} {R : List Nat → A → B → Prop} {α1 : List Nat} {m1 M1 : Mem} (mr : MR α m M) (e : Ext α m M α1 m1 M1) {r : Res A} {r' : Res B} (h : RR R α1 m1 M1 r r') : RR R α m M r r' := by
  cases r with
  | ok s m2 => obtain ⟨a, b, c, d, f, g⟩ := h; exact ⟨a, b, c, d, e.trans mr f, g⟩
  | exc x y m2 => obtain ⟨a, b, c, d, f, g⟩ := h; exact ⟨a, b, c, d, e.trans mr f, g⟩
  | bad => trivial
theorem RR.toS {A B : Type} {R : List Nat → A → B → Prop} {r : Res A} {r' : Res B} {g : A → Mem → SR} {g' : B → Mem → SR} (mr : MR α m M) (sl : SlR α s S) (h : RR R α m M r r')
    (k : ∀ a b α1 m1 M1, Ext α m M α1 m1 M1 → R α1 a b → SRR α1 m1 M1 (g a m1) (g' b M1)) : SRR α m M (r.toS s g) (r'.toS S g') := by
  cases r with
  | ok a m1 =>
    obtain ⟨b, M1, α1, rfl, e, h⟩ := h
    exact SRR.lift mr e (k a b α1 m1 M1 e h)
  | exc c f m1 =>
    obtain ⟨b, M1, α1, rfl, e, h⟩ := h
    exact ⟨b, S, M1, α1, rfl, e, h, sl.up e.pre⟩
  | bad => trivial
theorem SRR.seq {r r' : SR} {u : SF} (mr : MR α m M) (h : SRR α m M r r') (k : ∀ s S α1 m1 M1, Ext α m M α1 m1 M1 → SlR α1 s S → SRR α1 m1 M1 (u s m1) (u S M1)) : SRR α m M (r.seq u) (r'.seq u) := by
  cases r with
  | nx s m1 =>
    obtain ⟨b, M1, α1, rfl, e, h⟩ := h
    exact SRR.lift mr e (k _ _ _ _ _ e h)
  | bk s m2 => obtain ⟨a, b, c, rfl, f, g⟩ := h; exact ⟨a, b, c, rfl, f, g⟩
  | ct s m2 => obtain ⟨a, b, c, rfl, f, g⟩ := h; exact ⟨a, b, c, rfl, f, g⟩
  | rt s m2 => obtain ⟨a, b, c, rfl, f, g⟩ := h; exact ⟨a, b, c, rfl, f, g⟩
  | exc x y s m2 => obtain ⟨a, b, c, d, rfl, g, h, i⟩ := h; exact ⟨a, b, c, d, rfl, g, h, i⟩
  | bad => trivial
theorem SRR.fin {r r' : SR} (h : SRR α m M r r') : RR Dr α m M r.fin r'.fin := by
  cases r with
  | nx s m1 =>
    obtain ⟨b, M1, α1, rfl, e, h⟩ := h
    exact ⟨.non, M1, α1, rfl, e, dr_non⟩
  | rt d m1 =>
    obtain ⟨b, M1, α1, rfl, e, h⟩ := h
    exact ⟨b, M1, α1, rfl, e, h⟩
  | exc x y s m2 =>
    obtain ⟨a, b, c, d, rfl, g, h, i⟩ := h
    exact ⟨a, c, d, rfl, g, h⟩
  | bk s m2 => trivial
  | ct s m2 => trivial
  | bad => trivial
theorem RR.ok {A B : Type} {R : List Nat → A → B → Prop} {a : A} {b : B} (mr : MR α m M) (h : R α a b) : RR R α m M (.ok a m) (.ok b M) := ⟨b, M, α, rfl, .refl mr, h⟩
theorem RR.new {o O : MO} (mr : MR α m M) (h : OR α o O) : RR Dr α m M (.ok (.ref m.length) (m ++ [o])) (.ok (.ref M.length) (M ++ [O])) :=
  ⟨_, _, _, rfl, (Ext.refl mr).alloc (h.up .snoc), dr_ref (by rw [← mr.len]; simp)⟩
theorem RR.noX {A B : Type} {R : List Nat → A → B → Prop} {r : Res A} {r' : Res B} (h : RR R α m M r r') : RR R α m M r.noX r'.noX := by
  cases r with
  | ok a m1 => obtain ⟨b, M1, α1, rfl, e, h⟩ := h; exact ⟨b, M1, α1, rfl, e, h⟩
  | exc c f m1 => trivial
  | bad => trivial
end
end Fl
namespace Fl
open PySem PySem.Spec PyProof.Rows L2
section
variable {X : Cx}
theorem addI_ok {pn : List (Addr × Obj)} {ρ : L2.St} {H : Hp} {s : Shared} {E : Value → Shared → Prop} {D : Addr} {S : Int → Bool} {n : Nat} {y : Int} {tk0 : Tok} {Q : Value → Shared → Prop} (I : L2.Inv X pn ρ H s) (hD : H D = some (SetO X.w D S n)) (room : n + 1 < scanBound)
    (h : ∀ t', L2.Inv X pn ρ (upd H D (SetO X.w D (fun j => S j || decide (j = y)) (if S y = true then n else n + 1))) t' → Q .none t') : wpAny (model X.prog X.w) X.A (call (.builtin "set.add") [.ref D, .int y tk0]) Q E s := by
  have R := setO_get I hD
  refine setR_add R room fun h' sb new => ?_
  have he : ∃ u, h'.get? D = some u := by
    have ⟨o, _, _, _, ho, _⟩ := new
    exact ⟨o, ho⟩
  exact h _ (I.write (e := D) (t' := s.toks + 1) (by rw [hD]; trivial) (.inl rfl) (fun b u hb hu => (sb.2 b hb).trans hu) he (setO_new new))
end
def lcI (nx : ItF) (g : GF) (tt : TF) (te : EF) (s : Sl) : Nat → Nat → Mem → Res (List Int)
  | 0, _, _ => .bad
  | k + 1, i, M => match nx i M with
    | none => .bad
    | some none => .ok [] M
    | some (some d) => (g d s M).noX.bind fun s1 M1 => (tt s1 M1).noX.bind fun b M2 => match b with
      | true => (te s1 M2).noX.bind fun y M3 => (match y with
        | .int z => (lcI nx g tt te s k (i + 1) M3).bind fun ys M4 => .ok (z :: ys) M4
        | _ => .bad)
      | false => lcI nx g tt te s k (i + 1) M2
def finI (ns : List Int) (M : Mem) : Res D := match decide (ns.length < 64) with
  | true => .ok (.ref M.length) (M ++ [.lst ((sortNub ns).map .int)])
  | false => .bad
def dSortSc (fi : IF) (g : GF) (tt : TF) (te : EF) (is : List Nat) : EF := fun s M => (fi s M).bind fun nx M1 => match decide (nx.2 ≤ 1000) with
  | true => (lcI nx.1 g tt te (wipeD s is) nx.2 0 M1).bind finI
  | false => .bad
section
variable {X : Cx} {L : Lay} {W : WX}
theorem outs_lw {w : World} {α : List Addr} {H : Hp} {p : Addr} {o : HO} {S : Int → Bool} {c : Nat} (h : H p = some (SetO w p S c)) : Lw α H α (upd H p o) :=
  ⟨⟨[], by simp⟩, fun a ys e => by
    have ne : a ≠ p := fun z => by rw [z, h] at e; cases e
    rw [upd_ne ne]; exact e, fun a q ys e => by
    have ne : a ≠ p := fun z => by rw [z, h] at e; cases e
    rw [upd_ne ne]; exact e⟩
theorem outs_rel {K : PySem.W.Frag} {w : World} {α : List Addr} {M : Mem} {H : Hp} {p : Addr} {o : HO} {S : Int → Bool} {c : Nat} (r : Rel K L α M H) (h : H p = some (SetO w p S c)) (hp : p ∉ α) : Rel K L α M (upd H p o) :=
  ⟨r.len, r.nd, fun i x a h1 h2 => (r.ob i x a h1 h2).stayW (outs_lw h) (by rw [upd_ne (fun z => hp (by rw [← z]; exact List.mem_of_getElem? h2))]) (fun dd fs _ e => by
    have ne : dd ≠ p := fun z => by rw [z, h] at e; cases e
    rw [upd_ne ne]; exact e) fun _ _ z => z⟩
theorem mem_push {acc : List Int} {k : Int} {c : Nat} {w : World} {D : Addr} : SetO w D (fun j => (fun j => decide (j ∈ acc)) j || decide (j = k)) c = SetO w D (fun j => decide (j ∈ acc ++ [k])) c := by
  congr 1
  funext j
  simp
end
end Fl
namespace Fl
open PySem PySem.Spec L2
def sPar2 (i j : Nat) (a : AF) : SF := fun s M => (a s M).toS s fun ds M1 => match ds with
  | [x, y] => .nx ((s.set i (some x)).set j (some y)) M1
  | _ => .bad
def sPar3 (i j l : Nat) (a : AF) : SF := fun s M => (a s M).toS s fun ds M1 => match ds with
  | [x, y, z] => .nx (((s.set i (some x)).set j (some y)).set l (some z)) M1
  | _ => .bad
@[simp] theorem sPar2_ap {i j : Nat} {a : AF} {s : Sl} {M : Mem} : sPar2 i j a s M = (a s M).toS s fun ds M1 => match ds with
  | [x, y] => .nx ((s.set i (some x)).set j (some y)) M1
  | _ => .bad := rfl
@[simp] theorem sPar3_ap {i j l : Nat} {a : AF} {s : Sl} {M : Mem} : sPar3 i j l a s M = (a s M).toS s fun ds M1 => match ds with
  | [x, y, z] => .nx (((s.set i (some x)).set j (some y)).set l (some z)) M1
  | _ => .bad := rfl
end Fl
namespace Fl
open PySem PySem.Spec L2
end Fl
namespace Fl
open PySem
section
variable {A B : Type} {a : A} {M : Mem} {s : Sl} {c : Nat} {f : Option (Nat × D)} {d x y : D}
@[simp] theorem bind_ok (g : A → Mem → Res B) : (Res.ok a M).bind g = g a M := rfl
@[simp] theorem bind_exc (g : A → Mem → Res B) : (Res.exc c f M : Res A).bind g = .exc c f M := rfl
@[simp] theorem bind_bad (g : A → Mem → Res B) : (Res.bad : Res A).bind g = .bad := rfl
@[simp] theorem toS_ok (g : A → Mem → SR) : (Res.ok a M).toS s g = g a M := rfl
@[simp] theorem toS_exc (g : A → Mem → SR) : (Res.exc c f M : Res A).toS s g = .exc c f s M := rfl
@[simp] theorem toS_bad (g : A → Mem → SR) : (Res.bad : Res A).toS s g = .bad := rfl
@[simp] theorem seq_nx (u : SF) : (SR.nx s M).seq u = u s M := rfl
@[simp] theorem seq_rt (u : SF) : (SR.rt d M).seq u = .rt d M := rfl
@[simp] theorem seq_bk (u : SF) : (SR.bk s M).seq u = .bk s M := rfl
@[simp] theorem seq_ct (u : SF) : (SR.ct s M).seq u = .ct s M := rfl
@[simp] theorem seq_exc (u : SF) : (SR.exc c f s M).seq u = .exc c f s M := rfl
@[simp] theorem seq_bad (u : SF) : (SR.bad).seq u = .bad := rfl
@[simp] theorem fin_nx : (SR.nx s M).fin = .ok .non M := rfl
@[simp] theorem fin_rt : (SR.rt d M).fin = .ok d M := rfl
@[simp] theorem fin_exc : (SR.exc c f s M).fin = .exc c f M := rfl
@[simp] theorem noX_ok : (Res.ok a M).noX = .ok a M := rfl
variable {fa fb fc : EF} {ft fu : TF} {t u : SF} {i : Nat}
@[simp] theorem dC_ap : dC d s M = .ok d M := rfl
@[simp] theorem dVar_ap : dVar i s M = match s[i]? with
  | some (some d) => .ok d M
  | _ => .bad := rfl
@[simp] theorem dOp2_ap (g : D → D → Mem → Res D) : dOp2 g fa fb s M = (fa s M).bind fun x M1 => (fb s M1).bind fun y M2 => g x y M2 := rfl
@[simp] theorem dOp1_ap (g : D → Mem → Res D) : dOp1 g fa s M = (fa s M).bind g := rfl
@[simp] theorem dOpN_ap (g : List D → Mem → Res D) (a : AF) : dOpN g a s M = (a s M).bind g := rfl
@[simp] theorem dNil_ap : dNil s M = .ok [] M := rfl
@[simp] theorem dCons_ap (r : AF) : dCons fa r s M = (fa s M).bind fun x M1 => (r s M1).bind fun xs M2 => .ok (x :: xs) M2 := rfl
def isB : D → Mem → Res Bool
  | .bl b, M => .ok b M
  | _, _ => .bad
@[simp] theorem isB_bl {b : Bool} : isB (.bl b) M = .ok b M := rfl
@[simp] theorem tVal_ap : tVal fa s M = (fa s M).bind isB := by
  unfold tVal
  congr 1
  funext x M1
  cases x <;> rfl
@[simp] theorem tNotF_ap : tNotF ft s M = (ft s M).bind fun x M1 => .ok (!x) M1 := rfl
def ifR {A : Type} (b : Bool) (x y : A) : A := match b with
  | true => x
  | false => y
@[simp] theorem ifR_t {A : Type} (x y : A) : ifR true x y = x := rfl
@[simp] theorem ifR_f {A : Type} (x y : A) : ifR false x y = y := rfl
@[simp] theorem tAndF_ap : tAndF ft fu s M = (ft s M).bind fun x M1 => ifR x (fu s M1) (.ok false M1) := by
  unfold tAndF
  congr 1
@[simp] theorem tOrF_ap : tOrF ft fu s M = (ft s M).bind fun x M1 => ifR x (.ok true M1) (fu s M1) := by
  unfold tOrF
  congr 1
@[simp] theorem dAnd_ap : dAnd fa fb s M = (fa s M).bind fun x M1 => (isB x M1).bind fun b M2 => ifR b (fb s M2) (.ok (.bl false) M2) := by
  unfold dAnd
  congr 1
  funext x M1
  cases x <;> try rfl
  rename_i b
  cases b <;> rfl
@[simp] theorem dOr_ap : dOr fa fb s M = (fa s M).bind fun x M1 => (isB x M1).bind fun b M2 => ifR b (.ok (.bl true) M2) (fb s M2) := by
  unfold dOr
  congr 1
  funext x M1
  cases x <;> try rfl
  rename_i b
  cases b <;> rfl
@[simp] theorem dNot_ap : dNot fa s M = (fa s M).bind fun x M1 => (isB x M1).bind fun b M2 => .ok (.bl (!b)) M2 := by
  unfold dNot
  congr 1
  funext x M1
  cases x <;> rfl
@[simp] theorem dIfE_ap : dIfE ft fa fb s M = (ft s M).bind fun x M1 => ifR x (fa s M1) (fb s M1) := by
  unfold dIfE
  congr 1
@[simp] theorem sNext_ap : sNext s M = .nx s M := rfl
@[simp] theorem sSeq_ap : sSeq t u s M = (t s M).seq u := rfl
@[simp] theorem sDrop_ap : sDrop fa s M = (fa s M).toS s fun _ M1 => .nx s M1 := rfl
@[simp] theorem sRet_ap : sRet fa s M = (fa s M).toS s fun d M1 => .rt d M1 := rfl
@[simp] theorem sSet_ap : sSet i fa s M = (fa s M).toS s fun d M1 => .nx (s.set i (some d)) M1 := rfl
@[simp] theorem sIf_ap : sIf ft t u s M = (ft s M).toS s fun b M1 => ifR b (t s M1) (u s M1) := by
  unfold sIf
  congr 1
@[simp] theorem sBrk_ap : sBrk s M = .bk s M := rfl
@[simp] theorem sCont_ap : sCont s M = .ct s M := rfl
@[simp] theorem sRaise_ap : sRaise c s M = .exc c none s M := rfl
@[simp] theorem sRaise1_ap : sRaise1 c i fa s M = (fa s M).toS s fun d M1 => .exc c (some (i, d)) s M1 := rfl
@[simp] theorem sAsg_ap (g : GF) : sAsg fa g s M = (fa s M).toS s fun d M1 => (g d s M1).toS s fun s2 M2 => .nx s2 M2 := rfl
@[simp] theorem gN_ap : gN i d s M = .ok (s.set i (some d)) M := rfl
@[simp] theorem gsNil_ap : gsNil [] s = some s := rfl
@[simp] theorem gsCons_ap (r : GsF) {ds : List D} : gsCons i r (d :: ds) s = r ds (s.set i (some d)) := rfl
@[simp] theorem gT_ap (n : Nat) (r : GsF) {ds : List D} : gT n r (.tup ds) s M = match decide (ds.length = n), r ds s with
  | true, some s2 => .ok s2 M
  | _, _ => .bad := rfl
@[simp] theorem gIxSet_ap : gIxSet fa fb d s M = (fa s M).bind fun o M1 => (fb s M1).bind fun i M2 => match setIx M2 o i d with
  | some M3 => .ok s M3
  | none => .bad := rfl
@[simp] theorem sIxAug_ap (g : D → D → Mem → Res D) : sIxAug fa fb fc g s M = (fa s M).toS s fun o M1 => (fb s M1).toS s fun i M2 => match getIx M2 o i with
  | some x => (fc s M2).toS s fun y M3 => (g x y M3).toS s fun z M4 => (match setIx M4 o i z with
    | some M5 => .nx s M5
    | none => .bad)
  | none => .bad := rfl
@[simp] theorem sAug_ap (g : D → D → Mem → Res D) : sAug i fa g s M = match s[i]? with
  | some (some x) => (fa s M).toS s fun y M1 => (g x y M1).toS s fun z M2 => .nx (s.set i (some z)) M2
  | _ => .bad := rfl
@[simp] theorem lenIs_ap {n : Nat} {l : List D} {r : Res D} : lenIs n l r = match decide (l.length = n) with
  | true => r
  | false => .bad := rfl
@[simp] theorem dCall_ap {n m : Nat} {S : List D → Mem → Res D} {gD : List D → List D → List D} {a k : AF} : dCall n m S gD a k s M = (a s M).bind fun xs M1 => (k s M1).bind fun zs M2 => lenIs n xs (lenIs m zs (S (gD xs zs) M2)) := rfl
@[simp] theorem dTup_ap {a : AF} : dTup a s M = (a s M).bind fun ds M1 => match decide (ds.length ≤ sizeLine) with
  | true => .ok (.tup ds) M1
  | false => .bad := rfl
@[simp] theorem dLst_ap {a : AF} : dLst a s M = (a s M).bind fun ds M1 => match decide (ds.length ≤ sizeLine) with
  | true => .ok (.ref M1.length) (M1 ++ [.lst ds])
  | false => .bad := rfl
@[simp] theorem oNone_ap : oNone s M = .ok none M := rfl
def isI : D → Mem → Res (Option Int)
  | .int i, M => .ok (some i) M
  | _, _ => .bad
@[simp] theorem isI_int {k : Int} : isI (.int k) M = .ok (some k) M := rfl
@[simp] theorem oSome_ap : oSome fa s M = (fa s M).bind isI := by
  unfold oSome
  congr 1
  funext x M1
  cases x <;> rfl
@[simp] theorem dSl_ap (l h : OF) : dSl fa l h s M = (fa s M).bind fun x M1 => (l s M1).bind fun l M2 => (h s M2).bind fun u M3 => gSl x l u M3 := rfl
@[simp] theorem dChain_ap (g g' : D → D → Mem → Res D) : dChain g g' fa fb fc s M = (fa s M).bind fun x M1 => (fb s M1).bind fun y M2 => (g x y M2).bind fun k M3 => (isB k M3).bind fun b M4 => ifR b ((fc s M4).bind fun z M5 => g' y z M5) (.ok (.bl false) M4) := by
  unfold dChain
  congr 1
  funext x M1
  congr 1
  funext y M2
  congr 1
  funext k M3
  cases k <;> try rfl
  rename_i b
  cases b <;> rfl
@[simp] theorem dBm_ap (ty : D → Mem → Bool) (g : D → List D → Mem → Res D) (a : AF) : dBm ty g fa a s M = (fa s M).bind fun x M1 => match ty x M1 with
  | true => (a s M1).bind fun ds M2 => g x ds M2
  | false => .bad := rfl
@[simp] theorem dTupRg_ap : dTupRg fa s M = (fa s M).bind fun d M1 => match d with
  | .int n => (match decide (0 ≤ n ∧ n ≤ 16777216) with
    | true => .ok (.tup ((List.range n.toNat).map fun i => .int (i : Nat))) M1
    | false => .bad)
  | _ => .bad := rfl
@[simp] theorem dSortSet_ap : dSortSet fa s M = (fa s M).bind fun d M1 => match seqOf M1 d with
  | some ds => (match intsOf ds with
    | some ns => (match decide (ns.length < 64) with
      | true => .ok (.ref M1.length) (M1 ++ [.lst ((sortNub ns).map .int)])
      | false => .bad)
    | none => .bad)
  | none => .bad := rfl
@[simp] theorem tYesF_ap : tYesF s M = .ok true M := rfl
end
section
variable {M : Mem} {i j : Int} {xs ys : List D} {n : Nat}
@[simp] theorem gAdd_int : gAdd (.int i) (.int j) M = .ok (.int (i + j)) M := rfl
@[simp] theorem gAdd_tup : gAdd (.tup xs) (.tup ys) M = match decide (xs.length + ys.length ≤ sizeLine) with
  | true => .ok (.tup (xs ++ ys)) M
  | false => .bad := rfl
@[simp] theorem gAdd_ref {m : Nat} : gAdd (.ref m) (.ref n) M = match listAt M m, listAt M n with
  | some xs, some ys => newL M (xs ++ ys)
  | _, _ => .bad := rfl
@[simp] theorem gSub_int : gSub (.int i) (.int j) M = .ok (.int (i - j)) M := rfl
@[simp] theorem gIAdd_int : gIAdd (.int i) (.int j) M = .ok (.int (i + j)) M := rfl
@[simp] theorem gLt_int : gLt (.int i) (.int j) M = .ok (.bl (decide (i < j))) M := rfl
@[simp] theorem gLe_int : gLe (.int i) (.int j) M = .ok (.bl (decide (i ≤ j))) M := rfl
@[simp] theorem gGt_int : gGt (.int i) (.int j) M = .ok (.bl (decide (j < i))) M := rfl
@[simp] theorem gGe_int : gGe (.int i) (.int j) M = .ok (.bl (decide (j ≤ i))) M := rfl
@[simp] theorem gNeg_int : gNeg (.int i) M = .ok (.int (-i)) M := rfl
theorem gMulX_int (h : (-(2 ^ 64) < i ∧ i < 2 ^ 64) ∨ (-(2 ^ 64) < j ∧ j < 2 ^ 64)) : gMulX (.int i) (.int j) M = .ok (.int (i * j)) M := by
  show (match decide ((-(2 ^ 64) < i ∧ i < 2 ^ 64) ∨ (-(2 ^ 64) < j ∧ j < 2 ^ 64)) with | true => Res.ok (D.int (i * j)) M | false => Res.bad) = _
  rw [decide_eq_true h]
theorem gDiv_int (h : 0 < j) (h2 : j < 1073741824) : gDiv (.int i) (.int j) M = .ok (.int (i / j)) M := by
  show (match decide (0 < j ∧ j < 1073741824) with | true => Res.ok (D.int (i / j)) M | false => Res.bad) = _
  rw [decide_eq_true ⟨h, h2⟩]
theorem gMod_int (h : 0 < j) : gMod (.int i) (.int j) M = .ok (.int (i % j)) M := by
  show (match decide (0 < j) with | true => Res.ok (D.int (i % j)) M | false => Res.bad) = _
  rw [decide_eq_true h]
theorem gPow_int (h : 0 ≤ j) (h2 : j ≤ 1000000) (h3 : i.natAbs < 2 ^ 64) : gPow (.int i) (.int j) M = .ok (.int (i ^ j.toNat)) M := by
  show (match decide (0 ≤ j ∧ j ≤ 1000000 ∧ i.natAbs < 2 ^ 64) with | true => Res.ok (D.int (i ^ j.toNat)) M | false => Res.bad) = _
  rw [decide_eq_true ⟨h, h2, h3⟩]
theorem itemAt_nat {ds : List D} {k : Nat} (h : k < ds.length) : itemAt ds (k : Int) = ds[k]? := by
  unfold itemAt ixF
  rw [decide_eq_true (by omega : (0 : Int) ≤ k)]
  simp only [decide_eq_true (by omega : (k : Int) < ds.length)]
  rfl
theorem itemAt_int {ds : List D} {i : Int} (h0 : 0 ≤ i) (h : i < ds.length) : itemAt ds i = ds[i.toNat]? := by
  obtain ⟨k, rfl⟩ : ∃ k : Nat, i = k := ⟨i.toNat, by omega⟩
  rw [itemAt_nat (by omega)]; rfl
@[simp] theorem itemAt_0 {a : D} {r : List D} : itemAt (a :: r) 0 = some a := itemAt_nat (k := 0) (by simp)
@[simp] theorem itemAt_1 {a b : D} {r : List D} : itemAt (a :: b :: r) 1 = some b := itemAt_nat (k := 1) (by simp)
@[simp] theorem itemAt_2 {a b c : D} {r : List D} : itemAt (a :: b :: c :: r) 2 = some c := itemAt_nat (k := 2) (by simp)
@[simp] theorem itemAt_3 {a b c d : D} {r : List D} : itemAt (a :: b :: c :: d :: r) 3 = some d := itemAt_nat (k := 3) (by simp)
@[simp] theorem okD_some {d : D} : okD M (some d) = .ok d M := rfl
@[simp] theorem okB_some {b : Bool} : okB M (some b) = .ok (.bl b) M := rfl
@[simp] theorem gIx_tup : gIx (.tup xs) (.int i) M = okD M (itemAt xs i) := rfl
@[simp] theorem gIx_ref {y : D} : gIx (.ref n) y M = match listAt M n with
  | some ds => (match y with
    | .int i => okD M (itemAt ds i)
    | _ => .bad)
  | none => (match dictLook M n y with
    | some (some d) => .ok d M
    | _ => .bad) := rfl
@[simp] theorem gSl_tup {lo hi : Option Int} : gSl (.tup xs) lo hi M = .ok (.tup (cutD xs lo hi)) M := rfl
@[simp] theorem gSl_ref {lo hi : Option Int} : gSl (.ref n) lo hi M = match listAt M n with
  | some ds => .ok (.ref M.length) (M ++ [.lst (cutD ds lo hi)])
  | none => .bad := rfl
@[simp] theorem gIsi_ap {tab : TyK → Option Bool} {d : D} : gIsi tab d M = okB M ((tyK M d).bind tab) := rfl
@[simp] theorem gEq_ap {x y : D} : gEq x y M = okB M (pyEq M x y) := rfl
@[simp] theorem gNe_ap {x y : D} : gNe x y M = okB M ((pyEq M x y).map (!·)) := rfl
@[simp] theorem gIn_ap {x y : D} : gIn x y M = okB M (inB M x y) := rfl
@[simp] theorem gNotIn_ap {x y : D} : gNotIn x y M = okB M ((inB M x y).map (!·)) := rfl
@[simp] theorem gLen_tup : gLen [.tup xs] M = .ok (.int xs.length) M := rfl
@[simp] theorem gLen_ref : gLen [.ref n] M = match listAt M n with
  | some ds => .ok (.int ds.length) M
  | none => .bad := rfl
@[simp] theorem gList_tup : gList [.tup xs] M = .ok (.ref M.length) (M ++ [.lst xs]) := rfl
@[simp] theorem gList_ref : gList [.ref n] M = match listAt M n with
  | some ds => .ok (.ref M.length) (M ++ [.lst ds])
  | none => .bad := rfl
@[simp] theorem gTuple_tup : gTuple [.tup xs] M = .ok (.tup xs) M := rfl
@[simp] theorem gTuple_ref : gTuple [.ref n] M = match listAt M n with
  | some ds => .ok (.tup ds) M
  | none => .bad := rfl
@[simp] theorem gAll_ref : gAll [.ref n] M = match listAt M n with
  | some ds => (match blsOf ds with
    | some ns => .ok (.bl (ns.all id)) M
    | _ => .bad)
  | none => .bad := rfl
@[simp] theorem gAny_ref : gAny [.ref n] M = match listAt M n with
  | some ds => (match blsOf ds with
    | some ns => .ok (.bl (ns.any id)) M
    | _ => .bad)
  | none => .bad := rfl
@[simp] theorem gSum_ref : gSum [.ref n] M = match listAt M n with
  | some ds => (match intsOf ds with
    | some ns => .ok (.int ns.sum) M
    | none => .bad)
  | none => .bad := rfl
theorem listAt_of {ds : List D} (h : M[n]? = some (.lst ds)) : listAt M n = some ds := by
  unfold listAt
  rw [h]
@[simp] theorem listAt_new {ds : List D} : listAt (M ++ [.lst ds]) M.length = some ds := by unfold listAt; simp
end
class Enc (T : Type) where
  enc : T → PyData
  dp : Nat
  eq : ∀ a b : T, PyData.eqv (enc a) (enc b) = true ↔ a = b
  lay : ∀ a : T, PyData.canLay0 (enc a) = true
  dep : ∀ a : T, (enc a).depth ≤ dp
open Enc
theorem Enc.eqv {T : Type} [Enc T] [DecidableEq T] (a b : T) : PyData.eqv (enc a) (enc b) = decide (a = b) := by
  by_cases h : a = b
  · rw [decide_eq_true h]; exact (Enc.eq a b).mpr h
  · rw [decide_eq_false h]
    cases e : PyData.eqv (enc a) (enc b) with
    | false => rfl
    | true => exact absurd ((Enc.eq a b).mp e) h
instance : Enc Int where
  enc := .int
  dp := 0
  eq := fun a b => by simp [PyData.eqv]
  lay := fun a => by simp [PyData.canLay0]
  dep := fun a => by simp [PyData.depth]
instance : Enc Bool where
  enc := .bool
  dp := 0
  eq := fun a b => by simp [PyData.eqv]
  lay := fun a => by simp [PyData.canLay0]
  dep := fun a => by simp [PyData.depth]
section
variable {T : Type} [Enc T]
theorem encs_eq : ∀ a b : List T, PyData.eqvAll (a.map enc) (b.map enc) = true ↔ a = b
  | [], [] => by simp [PyData.eqvAll]
  | [], _ :: _ => by simp [PyData.eqvAll]
  | _ :: _, [] => by simp [PyData.eqvAll]
  | x :: xs, y :: ys => by
    rw [List.map_cons, List.map_cons, PyData.eqvAll, Bool.and_eq_true, Enc.eq, encs_eq xs ys, List.cons.injEq]
theorem encs_lay : ∀ a : List T, PyData.canLayAll0 (a.map enc) = true
  | [] => by simp [PyData.canLayAll0]
  | x :: xs => by rw [List.map_cons, PyData.canLayAll0, Enc.lay, encs_lay xs]; rfl
theorem encs_dep : ∀ a : List T, PyData.depthAll (a.map enc) ≤ Enc.dp T
  | [] => by simp [PyData.depthAll]
  | x :: xs => by
    rw [List.map_cons, PyData.depthAll]
    exact Nat.max_le.mpr ⟨Enc.dep x, encs_dep xs⟩
instance : Enc (List T) where
  enc := fun l => .list (l.map enc)
  dp := Enc.dp T + 1
  eq := fun a b => by rw [PyData.eqv]; exact encs_eq a b
  lay := fun a => by rw [PyData.canLay0]; exact encs_lay a
  dep := fun a => by rw [PyData.depth]; exact Nat.succ_le_succ (encs_dep a)
end
structure Tup (T : Type) where
  its : List T
deriving DecidableEq
instance {T : Type} [Enc T] : Enc (Tup T) where
  enc := fun l => .tuple (l.its.map enc)
  dp := Enc.dp T + 1
  eq := fun a b => by
    rw [PyData.eqv, encs_eq]
    cases a; cases b; simp
  lay := fun a => by rw [PyData.canLay0]; exact encs_lay a.its
  dep := fun a => by rw [PyData.depth]; exact Nat.succ_le_succ (encs_dep a.its)
instance {S T : Type} [Enc S] [Enc T] : Enc (S × T) where
  enc := fun p => .tuple [enc p.1, enc p.2]
  dp := max (Enc.dp S) (Enc.dp T) + 1
  eq := fun a b => by
    simp only [PyData.eqv, PyData.eqvAll, Bool.and_eq_true, Enc.eq, Bool.and_true]
    exact ⟨fun h => Prod.ext h.1 h.2, fun h => by rw [h]; exact ⟨rfl, rfl⟩⟩
  lay := fun a => by simp [PyData.canLay0, PyData.canLayAll0, Enc.lay]
  dep := fun a => by
    simp only [PyData.depth, PyData.depthAll]
    have h1 := Enc.dep a.1
    have h2 := Enc.dep a.2
    omega
theorem Enc.shaped {T : Type} [Enc T] (h : Enc.dp T ≤ 64) (a : T) : SeqAt.shaped (enc a) = true := by
  unfold SeqAt.shaped
  rw [Enc.lay a, Bool.true_and]
  exact decide_eq_true (Nat.le_trans (Enc.dep a) h)
def Vw {T : Type} [Enc T] (M : Mem) (k : Nat) (d : D) (a : T) : Prop := toPy M k d = some (enc a)
theorem pyEq_enc {T : Type} [Enc T] [DecidableEq T] {M : Mem} {x y : D} {a b : T} (hx : Vw M 9 x a) (hy : Vw M 9 y b) (h : Enc.dp T ≤ 64 := by decide) : pyEq M x y = some (decide (a = b)) := by
  unfold pyEq
  rw [hx, hy]
  simp only [Enc.shaped h, Bool.and_true, Enc.eqv]
theorem allSome_map {A B C : Type} {f : B → Option C} {g : A → B} {h : A → C} {l : List A} (e : ∀ a ∈ l, f (g a) = some (h a)) : allSome f (l.map g) = some (l.map h) := by
  induction l with
  | nil => rfl
  | cons a r ih =>
    rw [List.map_cons, allSome, e a List.mem_cons_self, ih fun b hb => e b (List.mem_cons_of_mem _ hb)]
    rfl
section
variable {M : Mem} {k : Nat}
theorem toPys_int (ns : List Int) : allSome (toPy M (k + 1)) (ns.map .int) = some (ns.map enc) := allSome_map fun a _ => rfl
theorem vw_ints {n : Nat} {ns : List Int} (h : listAt M n = some (ns.map .int)) : Vw M (k + 2) (.ref n) ns := by
  unfold Vw toPy
  rw [h]
  show (allSome (toPy M (k + 1)) (ns.map .int)).map PyData.list = _
  rw [toPys_int]; rfl
end
theorem for_ind {nx : ItF} {g : GF} {body : SF} {ds : List D} (P : Nat → Sl → Mem → Prop) (Q : SR → Prop) {s : Sl} {M : Mem} (h0 : P 0 s M)
    (hn : ∀ i s M, i ≤ ds.length → P i s M → nx i M = some ds[i]?)
    (hs : ∀ i d s M, ds[i]? = some d → P i s M → ∃ s1 M1, g d s M = .ok s1 M1 ∧ ((∃ s2 M2, (body s1 M1 = .nx s2 M2 ∨ body s1 M1 = .ct s2 M2) ∧ P (i + 1) s2 M2) ∨ (∃ s2 M2, body s1 M1 = .bk s2 M2 ∧ Q (.nx s2 M2)) ∨ (∃ d M2, body s1 M1 = .rt d M2 ∧ Q (.rt d M2)) ∨ ∃ c f s2 M2, body s1 M1 = .exc c f s2 M2 ∧ Q (.exc c f s2 M2)))
    (he : ∀ s M, P ds.length s M → Q (.nx s M)) : Q (sForL nx g body (ds.length + 1) 0 s M) := by
  have go : ∀ (k i : Nat) (s : Sl) (M : Mem), i + k = ds.length → P i s M → Q (sForL nx g body (k + 1) i s M) := by
    intro k
    induction k with
    | zero =>
      intro i s M hi hp
      unfold sForL
      have e : i = ds.length := by omega
      rw [hn i s M (by omega) hp, e, List.getElem?_eq_none (Nat.le_refl _)]
      rw [e] at hp
      exact he s M hp
    | succ k ih =>
      intro i s M hi hp
      unfold sForL
      have hlt : i < ds.length := by omega
      rw [hn i s M (by omega) hp, List.getElem?_eq_getElem hlt]
      obtain ⟨s1, M1, eg, h⟩ := hs i _ s M (List.getElem?_eq_getElem hlt) hp
      simp only [eg, toS_ok]
      rcases h with ⟨s2, M2, h1, h2⟩ | ⟨s2, M2, h1, h2⟩ | ⟨d, M2, h1, h2⟩ | ⟨c, f, s2, M2, h1, h2⟩
      · have z := ih (i + 1) s2 M2 (by omega) h2
        rcases h1 with h1 | h1 <;> (rw [h1]; exact z)
      · rw [h1]; exact h2
      · rw [h1]; exact h2
      · rw [h1]; exact h2
  exact go ds.length 0 s M (by omega) h0
theorem nxR_at {lo : Int} {n : Nat} {M : Mem} (i : Nat) (h : i ≤ n) : nxR lo n i M = some ((List.range n).map fun j => D.int (lo + (j : Nat)))[i]? := by
  unfold nxR
  by_cases c : i < n
  · rw [decide_eq_true c]; simp [c]
  · rw [decide_eq_false c]; simp [c]
@[simp] theorem ifR_ok {A : Type} {b : Bool} {x y : A} {M : Mem} : ifR b (Res.ok x M) (Res.ok y M) = .ok (ifR b x y) M := by cases b <;> rfl
def lstO : Option MO → Option (List D)
  | some (.lst ds) => some ds
  | _ => none
@[simp] theorem lstO_some {ds : List D} : lstO (some (.lst ds)) = some ds := rfl
theorem listAt_eq {M : Mem} {n : Nat} : listAt M n = lstO M[n]? := by
  unfold listAt lstO
  split <;> simp_all
@[simp] theorem listAt_k {M T : Mem} {k : Nat} : listAt (M ++ T) (M.length + k) = lstO T[k]? := by
  rw [listAt_eq, List.getElem?_append_right (by omega)]
  congr 2
  omega
@[simp] theorem listAt_k0 {M T : Mem} : listAt (M ++ T) M.length = lstO T[0]? := listAt_k (k := 0)
@[simp] theorem set_k {M T : Mem} {k : Nat} {o : MO} : (M ++ T).set (M.length + k) o = M ++ T.set k o := by
  rw [List.set_append_right _ _ (by omega)]
  congr 2
  omega
end Fl
namespace Fl
open PySem
open L2 (Key)
section
variable {α α' : List Nat} {m M m' M' : Mem} {s S : Sl}
theorem lst_ne {ds : List D} : MO.lst ds ≠ hole := fun z => nomatch z
theorem dk_ne {ds : List (Key × D)} : MO.dk ds ≠ hole := fun z => nomatch z
theorem dt_ne {ds : List (List Key × D)} : MO.dt ds ≠ hole := fun z => nomatch z
theorem fk_ne {ds : List (Key × D)} : MO.fk ds ≠ hole := fun z => nomatch z
theorem ft_ne {ds : List (List Key × D)} : MO.ft ds ≠ hole := fun z => nomatch z
theorem ins_ne {c : Nat} {ds : List (Nat × D)} : MO.ins c ds ≠ hole := fun z => nomatch z
theorem listAt_r (r : MR α m M) {n a : Nat} {ds : List D} (h : listAt m n = some ds) (ha : α[n]? = some a) : ∃ Ds, listAt M a = some Ds ∧ Drs α ds Ds ∧ m[n]? = some (.lst ds) := by
  have e := listAt_some h
  obtain ⟨O, h1, Ds, rfl, h2⟩ := r.at e ha
  exact ⟨Ds, listAt_of h1, h2, e⟩
theorem seqOf_r (r : MR α m M) {d v : D} (hd : Dr α d v) {ds : List D} (h : seqOf m d = some ds) : ∃ Ds, seqOf M v = some Ds ∧ Drs α ds Ds := by
  cases d with
  | tup xs => obtain ⟨vs, rfl, h2⟩ := hd.tup; cases h; exact ⟨vs, rfl, h2⟩
  | rol xs => obtain ⟨vs, rfl, h2⟩ := hd.rol; cases h; exact ⟨vs, rfl, h2⟩
  | ref n =>
    obtain ⟨a, ha, rfl⟩ := hd.ref
    obtain ⟨Ds, h1, h2, _⟩ := listAt_r r h ha
    exact ⟨Ds, h1, h2⟩
  | _ => cases h
theorem allSome_r {B : Type} {f g : D → Option B} (fg : ∀ d v b, Dr α d v → f d = some b → g v = some b) : ∀ {ds vs : List D} {bs : List B}, Drs α ds vs → allSome f ds = some bs → allSome g vs = some bs
  | [], _, _, h, e => by have := h.nil_inv; subst this; exact e
  | d :: ds, _, _, h, e => by
    obtain ⟨x, xs, rfl, h1, h2⟩ := h.cons_inv
    unfold allSome at e ⊢
    cases q : f d with
    | none => rw [q] at e; cases e
    | some b =>
      rw [q] at e
      rw [fg d x b h1 q]
      cases q2 : allSome f ds with
      | none => rw [q2] at e; cases e
      | some bs =>
        rw [q2] at e
        rw [allSome_r fg h2 q2]
        exact e
theorem toPy_r (r : MR α m M) : ∀ (k : Nat) (d v : D) (p : PyData), Dr α d v → toPy m k d = some p → toPy M k v = some p
  | 0, _, _, _, _, e => by unfold toPy at e; cases e
  | k + 1, d, v, p, h, e => by
    cases d with
    | non => rw [h.non]; exact e
    | bl b => rw [h.bl]; exact e
    | int b => rw [h.int]; exact e
    | str b => rw [h.str]; exact e
    | tup ds =>
      obtain ⟨vs, rfl, h2⟩ := h.tup
      unfold toPy at e ⊢
      cases q : allSome (toPy m k) ds with
      | none => rw [q] at e; cases e
      | some bs => rw [q] at e; rw [allSome_r (fun d v b => toPy_r r k d v b) h2 q]; exact e
    | rol ds =>
      obtain ⟨vs, rfl, h2⟩ := h.rol
      unfold toPy at e ⊢
      cases q : allSome (toPy m k) ds with
      | none => rw [q] at e; cases e
      | some bs => rw [q] at e; rw [allSome_r (fun d v b => toPy_r r k d v b) h2 q]; exact e
    | ref n =>
      obtain ⟨a, ha, rfl⟩ := h.ref
      unfold toPy at e ⊢
      cases q0 : listAt m n with
      | none => rw [q0] at e; cases e
      | some ds =>
        obtain ⟨Ds, h1, h2, _⟩ := listAt_r r q0 ha
        rw [q0] at e
        rw [h1]
        dsimp only at e ⊢
        cases q : allSome (toPy m k) ds with
        | none => rw [q] at e; cases e
        | some bs => rw [q] at e; rw [allSome_r (fun d v b => toPy_r r k d v b) h2 q]; exact e
theorem toPys_r (r : MR α m M) {k : Nat} {ds vs : List D} {ps : List PyData} (h : Drs α ds vs) (e : allSome (toPy m k) ds = some ps) : allSome (toPy M k) vs = some ps := allSome_r (fun d v b => toPy_r r k d v b) h e
theorem keyOf_r : ∀ (d v : D) (k : Key), Dr α d v → keyOf d = some k → keyOf v = some k := fun d v k h e => by
  cases d with
  | int b => rw [h.int]; exact e
  | str b => rw [h.str]; exact e
  | _ => cases e
theorem keysOf_r : ∀ (d v : D) (k : List Key), Dr α d v → keysOf d = some k → keysOf v = some k := fun d v k h e => by
  cases d with
  | tup ds =>
    obtain ⟨vs, rfl, h2⟩ := h.tup
    cases ds with
    | nil => cases e
    | cons d ds =>
      obtain ⟨x, xs, rfl, _, _⟩ := h2.cons_inv
      exact allSome_r (fun d v b => keyOf_r d v b) h2 e
  | _ => cases e
theorem intsOf_r {ds vs : List D} {ns : List Int} (h : Drs α ds vs) (e : intsOf ds = some ns) : intsOf vs = some ns := allSome_r (fun d v b hd e => by
  cases d with
  | int b => rw [hd.int]; exact e
  | _ => cases e) h e
theorem blsOf_r {ds vs : List D} {ns : List Bool} (h : Drs α ds vs) (e : blsOf ds = some ns) : blsOf vs = some ns := allSome_r (fun d v b hd e => by
  cases d with
  | bl b => rw [hd.bl]; exact e
  | _ => cases e) h e
def ODr (α : List Nat) : Option D → Option D → Prop
  | none, v => v = none
  | some d, v => ∃ u, v = some u ∧ Dr α d u
theorem look_r {κ : Type} [DecidableEq κ] {ks Ks : List (κ × D)} (h : KR α ks Ks) (q : κ) : ODr α (look ks q) (look Ks q) := by
  induction h with
  | nil => rfl
  | @cons a b l1 l2 p _ ih =>
    unfold look
    rw [← p.1]
    cases decide (a.1 = q) with
    | true => exact ⟨_, rfl, p.2⟩
    | false => exact ih
theorem put_r {κ : Type} [DecidableEq κ] {ks Ks : List (κ × D)} (h : KR α ks Ks) (q : κ) {d v : D} (hd : Dr α d v) : KR α (put ks q d) (put Ks q v) := by
  induction h with
  | nil => exact .cons ⟨rfl, hd⟩ .nil
  | @cons a b l1 l2 p t ih =>
    unfold put
    rw [← p.1]
    cases decide (a.1 = q) with
    | true => exact .cons ⟨rfl, hd⟩ t
    | false => exact .cons p ih
theorem KR.length {κ : Type} {ks Ks : List (κ × D)} (h : KR α ks Ks) : ks.length = Ks.length := Paired.length h
theorem KR.keys {κ : Type} {ks Ks : List (κ × D)} (h : KR α ks Ks) : Ks.map (·.1) = ks.map (·.1) := by
  induction h with
  | nil => rfl
  | cons p _ ih => rw [List.map_cons, List.map_cons, ih, p.1]
theorem dictLook_r (r : MR α m M) {n a : Nat} {k v : D} {o : Option D} (h : dictLook m n k = some o) (ha : α[n]? = some a) (hk : Dr α k v) : ∃ O, dictLook M a v = some O ∧ ODr α o O ∧ listAt M a = none := by
  unfold dictLook at h
  have key1 : ∀ (ks : List (Key × D)) (O : MO) (Ks : List (Key × D)), KR α ks Ks → (keyOf k).map (look ks) = some o → ∃ O, (keyOf v).map (look Ks) = some O ∧ ODr α o O := fun ks _ Ks hK e => by
    cases q : keyOf k with
    | none => rw [q] at e; cases e
    | some z => rw [q] at e; cases e; rw [keyOf_r _ _ _ hk q]; exact ⟨_, rfl, look_r hK z⟩
  have key2 : ∀ (ks : List (List Key × D)) (Ks : List (List Key × D)), KR α ks Ks → (keysOf k).map (look ks) = some o → ∃ O, (keysOf v).map (look Ks) = some O ∧ ODr α o O := fun ks Ks hK e => by
    cases q : keysOf k with
    | none => rw [q] at e; cases e
    | some z => rw [q] at e; cases e; rw [keysOf_r _ _ _ hk q]; exact ⟨_, rfl, look_r hK z⟩
  cases q : m[n]? with
  | none => rw [q] at h; cases h
  | some x =>
    rw [q] at h
    obtain ⟨O, h1, h2⟩ := r.at q ha
    cases x with
    | dk ks => obtain ⟨Ks, rfl, hK⟩ := h2; obtain ⟨O, e1, e2⟩ := key1 ks (MO.dk Ks) Ks hK h; exact ⟨O, by unfold dictLook; rw [h1]; exact e1, e2, by unfold listAt; rw [h1]⟩
    | fk ks => obtain ⟨Ks, rfl, hK⟩ := h2; obtain ⟨O, e1, e2⟩ := key1 ks (MO.dk Ks) Ks hK h; exact ⟨O, by unfold dictLook; rw [h1]; exact e1, e2, by unfold listAt; rw [h1]⟩
    | dt ks => obtain ⟨Ks, rfl, hK⟩ := h2; obtain ⟨O, e1, e2⟩ := key2 ks Ks hK h; exact ⟨O, by unfold dictLook; rw [h1]; exact e1, e2, by unfold listAt; rw [h1]⟩
    | ft ks => obtain ⟨Ks, rfl, hK⟩ := h2; obtain ⟨O, e1, e2⟩ := key2 ks Ks hK h; exact ⟨O, by unfold dictLook; rw [h1]; exact e1, e2, by unfold listAt; rw [h1]⟩
    | dn _ => cases h
    | fn _ => cases h
    | lst _ => cases h
    | ins _ _ => cases h
    | exc _ _ => cases h
theorem insAt_r (r : MR α m M) {d v : D} (hd : Dr α d v) {n c : Nat} {fs : List (Nat × D)} (h : insAt m d = some (n, c, fs)) : ∃ a Fs, insAt M v = some (a, c, Fs) ∧ α[n]? = some a ∧ m[n]? = some (.ins c fs) ∧ KR α fs Fs := by
  cases d with
  | ref k =>
    obtain ⟨a, ha, rfl⟩ := hd.ref
    unfold insAt at h
    dsimp only at h
    cases q : m[k]? with
    | none => rw [q] at h; cases h
    | some x =>
      rw [q] at h
      cases x with
      | ins c' fs' =>
        cases h
        obtain ⟨O, h1, Fs, rfl, hK⟩ := r.at q ha
        exact ⟨a, Fs, by unfold insAt; simp only [h1], ha, q, hK⟩
      | _ => cases h
  | _ => cases h
theorem setIx_r (r : MR α m M) {o O i I v V : D} (ho : Dr α o O) (hi : Dr α i I) (hv : Dr α v V) (h : setIx m o i v = some m') : ∃ M', setIx M O I V = some M' ∧ Ext α m M α m' M' := by
  cases o with
  | ref n =>
    obtain ⟨a, ha, rfl⟩ := ho.ref
    unfold setIx at h
    dsimp only at h
    cases q : m[n]? with
    | none => rw [q] at h; cases h
    | some x =>
      rw [q] at h
      obtain ⟨X, h1, h2⟩ := r.at q ha
      cases x with
      | lst ds =>
        obtain ⟨Ds, rfl, hD⟩ := h2
        cases i with
        | int k =>
          rw [hi.int]
          dsimp only at h
          cases q2 : ixF ds.length k with
          | none => rw [q2] at h; cases h
          | some j =>
            rw [q2] at h
            cases h
            refine ⟨M.set a (.lst (Ds.set j V)), by unfold setIx; simp only [h1, ← hD.length, q2], (Ext.refl r).set r ha q lst_ne ⟨_, rfl, hD.set j hv⟩⟩
        | _ => cases h
      | dk ks =>
        obtain ⟨Ks, rfl, hK⟩ := h2
        dsimp only at h
        cases q2 : keyOf i with
        | none => rw [q2] at h; cases h
        | some z =>
          rw [q2] at h
          cases q3 : decide (ks.length < sizeLine) with
          | false => rw [q3] at h; cases h
          | true =>
            rw [q3] at h
            cases h
            exact ⟨M.set a (.dk (put Ks z V)), by unfold setIx; simp only [h1, ← hK.length, q3, keyOf_r _ _ _ hi q2], (Ext.refl r).set r ha q dk_ne ⟨_, rfl, put_r hK z hv⟩⟩
      | dt ks =>
        obtain ⟨Ks, rfl, hK⟩ := h2
        dsimp only at h
        cases q2 : keysOf i with
        | none => rw [q2] at h; cases h
        | some z =>
          rw [q2] at h
          cases q3 : decide (ks.length < sizeLine) with
          | false => rw [q3] at h; cases h
          | true =>
            rw [q3] at h
            cases h
            exact ⟨M.set a (.dt (put Ks z V)), by unfold setIx; simp only [h1, ← hK.length, q3, keysOf_r _ _ _ hi q2], (Ext.refl r).set r ha q dt_ne ⟨_, rfl, put_r hK z hv⟩⟩
      | fk _ => cases h
      | ft _ => cases h
      | dn _ => cases h
      | fn _ => cases h
      | ins _ _ => cases h
      | exc _ _ => cases h
  | _ => cases h
theorem setFld_r (r : MR α m M) {o O v V : D} {i : Nat} (ho : Dr α o O) (hv : Dr α v V) (h : setFld m o i v = some m') : ∃ M', setFld M O i V = some M' ∧ Ext α m M α m' M' := by
  unfold setFld at h
  cases q : insAt m o with
  | none => rw [q] at h; cases h
  | some t =>
    obtain ⟨n, c, fs⟩ := t
    obtain ⟨a, Fs, h1, h2, h3, h4⟩ := insAt_r r ho q
    rw [q] at h
    dsimp only at h
    cases q3 : decide (fs.length < 1000) with
    | false => rw [q3] at h; cases h
    | true =>
      rw [q3] at h
      cases h
      exact ⟨M.set a (.ins c (put Fs i V)), by unfold setFld; simp only [h1, ← h4.length, q3], (Ext.refl r).set r h2 h3 ins_ne ⟨_, rfl, put_r h4 i hv⟩⟩
theorem itemAt_r {ds Ds : List D} (h : Drs α ds Ds) (i : Int) : ODr α (itemAt ds i) (itemAt Ds i) := by
  unfold itemAt
  rw [← h.length]
  cases ixF ds.length i with
  | none => rfl
  | some j =>
    dsimp only
    cases q : ds[j]? with
    | none => rw [h.none q]; rfl
    | some d =>
      obtain ⟨v, h1, h2⟩ := h.at q
      rw [h1]; exact ⟨v, rfl, h2⟩
theorem getIx_r (r : MR α m M) {o O i I x : D} (ho : Dr α o O) (hi : Dr α i I) (h : getIx m o i = some x) : ∃ X, getIx M O I = some X ∧ Dr α x X := by
  cases o with
  | ref n =>
    obtain ⟨a, ha, rfl⟩ := ho.ref
    unfold getIx at h ⊢
    dsimp only at h ⊢
    cases q : listAt m n with
    | some ds =>
      obtain ⟨Ds, h1, h2, _⟩ := listAt_r r q ha
      rw [q] at h
      rw [h1]
      cases i with
      | int k =>
        rw [hi.int]
        have z := itemAt_r h2 k
        dsimp only at h ⊢
        rw [h] at z
        exact z
      | _ => cases h
    | none =>
      rw [q] at h
      dsimp only at h
      cases q2 : dictLook m n i with
      | none => rw [q2] at h; cases h
      | some y =>
        obtain ⟨Y, h1, h2, h3⟩ := dictLook_r r q2 ha hi
        rw [q2] at h
        rw [h3, h1]
        cases y with
        | none => cases h
        | some y =>
          cases h
          obtain ⟨u, rfl, h4⟩ := h2
          exact ⟨u, rfl, h4⟩
  | _ => cases h
theorem inB_r (r : MR α m M) {x X y Y : D} {b : Bool} (hx : Dr α x X) (hy : Dr α y Y) (h : inB m x y = some b) : inB M X Y = some b := by
  have pin : ∀ {ds Ds : List D}, Drs α ds Ds → pyIn m x ds = some b → pyIn M X Ds = some b := fun hd e => by
    unfold pyIn at e ⊢
    cases q : toPy m 9 x with
    | none => rw [q] at e; cases e
    | some p =>
      rw [q] at e
      rw [toPy_r r _ _ _ _ hx q]
      cases q2 : allSome (toPy m 8) _ with
      | none => rw [q2] at e; cases e
      | some ps => rw [q2] at e; rw [toPys_r r hd q2]; exact e
  cases y with
  | str z =>
    rw [hy.str]
    cases x with
    | str w => rw [hx.str]; exact h
    | _ => cases h
  | tup ds => obtain ⟨Ds, rfl, hD⟩ := hy.tup; exact pin hD h
  | rol ds => obtain ⟨Ds, rfl, hD⟩ := hy.rol; exact pin hD h
  | ref n =>
    obtain ⟨a, ha, rfl⟩ := hy.ref
    unfold inB at h ⊢
    dsimp only at h ⊢
    cases q : listAt m n with
    | some ds =>
      obtain ⟨Ds, h1, h2, _⟩ := listAt_r r q ha
      rw [q] at h
      rw [h1]
      exact pin h2 h
    | none =>
      rw [q] at h
      dsimp only at h
      cases q2 : dictLook m n x with
      | none => rw [q2] at h; cases h
      | some o =>
        obtain ⟨O, h1, h2, h3⟩ := dictLook_r r q2 ha hx
        rw [q2] at h
        rw [h3, h1]
        cases h
        cases o with
        | none => cases h2; rfl
        | some d => obtain ⟨u, rfl, _⟩ := h2; rfl
  | _ => cases h
theorem pyEq_r (r : MR α m M) {x X y Y : D} {b : Bool} (hx : Dr α x X) (hy : Dr α y Y) (h : pyEq m x y = some b) : pyEq M X Y = some b := by
  unfold pyEq at h ⊢
  cases q : toPy m 9 x with
  | none => rw [q] at h; cases h
  | some p =>
    cases q2 : toPy m 9 y with
    | none => rw [q, q2] at h; cases h
    | some p2 =>
      rw [q, q2] at h
      rw [toPy_r r _ _ _ _ hx q, toPy_r r _ _ _ _ hy q2]
      exact h
theorem twoPy_r (r : MR α m M) {x X : D} {ds Ds : List D} {z : PyData × List PyData} (hx : Dr α x X) (hd : Drs α ds Ds) (h : twoPy m x ds = some z) : twoPy M X Ds = some z := by
  unfold twoPy at h ⊢
  cases q : toPy m 9 x with
  | none => rw [q] at h; cases h
  | some p =>
    rw [q] at h
    rw [toPy_r r _ _ _ _ hx q]
    cases q2 : allSome (toPy m 8) ds with
    | none => rw [q2] at h; cases h
    | some ps => rw [q2] at h; rw [toPys_r r hd q2]; exact h
theorem tyK_r (r : MR α m M) {d v : D} (hd : Dr α d v) {k : TyK} (h : tyK m d = some k) (n : k ≠ .exc 1000) : tyK M v = some k := by
  cases d with
  | non => rw [hd.non]; exact h
  | bl b => rw [hd.bl]; exact h
  | int b => rw [hd.int]; exact h
  | str b => rw [hd.str]; exact h
  | tup ds => obtain ⟨Ds, rfl, _⟩ := hd.tup; exact h
  | rol ds => obtain ⟨Ds, rfl, _⟩ := hd.rol; exact h
  | ref j =>
    obtain ⟨a, ha, rfl⟩ := hd.ref
    show tyO M a = some k
    have h : tyO m j = some k := h
    unfold tyO at h ⊢
    cases q : m[j]? with
    | none => rw [q] at h; cases h
    | some x =>
      rw [q] at h
      obtain ⟨X, h1, h2⟩ := r.at q ha
      cases x with
      | exc c f =>
        cases h
        rcases h2 with rfl | ⟨F, rfl, _⟩
        · exact absurd rfl n
        · rw [h1]
      | ft _ => cases h
      | dn _ => cases h
      | fn _ => cases h
      | lst _ => obtain ⟨_, rfl, _⟩ := h2; rw [h1]; exact h
      | dk _ => obtain ⟨_, rfl, _⟩ := h2; rw [h1]; exact h
      | dt _ => obtain ⟨_, rfl, _⟩ := h2; rw [h1]; exact h
      | fk _ => obtain ⟨_, rfl, _⟩ := h2; rw [h1]; exact h
      | ins _ _ => obtain ⟨_, rfl, _⟩ := h2; rw [h1]; exact h
theorem isDictD_r (r : MR α m M) {d v : D} (hd : Dr α d v) (h : isDictD m d = true) : isDictD M v = true := by
  cases d with
  | ref j =>
    obtain ⟨a, ha, rfl⟩ := hd.ref
    show isDict M a = true
    have h : isDict m j = true := h
    unfold isDict at h ⊢
    cases q : m[j]? with
    | none => rw [q] at h; cases h
    | some x =>
      rw [q] at h
      obtain ⟨X, h1, h2⟩ := r.at q ha
      cases x <;> first | (cases h; done) | (obtain ⟨_, rfl, _⟩ := h2; rw [h1])
  | _ => cases h
theorem lookD_r (r : MR α m M) {d v k K : D} {o : Option D} (hd : Dr α d v) (hk : Dr α k K) (h : lookD m d k = some o) : ∃ O, lookD M v K = some O ∧ ODr α o O := by
  cases d with
  | ref j =>
    obtain ⟨a, ha, rfl⟩ := hd.ref
    obtain ⟨O, h1, h2, _⟩ := dictLook_r r (show dictLook m j k = some o from h) ha hk
    exact ⟨O, h1, h2⟩
  | _ => cases h
theorem lstOf_r (r : MR α m M) {d v : D} (hd : Dr α d v) {ds : List D} (h : lstOf m d = some ds) : ∃ Ds, lstOf M v = some Ds ∧ Drs α ds Ds := by
  cases d with
  | rol xs => obtain ⟨vs, rfl, h2⟩ := hd.rol; cases h; exact ⟨vs, rfl, h2⟩
  | ref n =>
    obtain ⟨a, ha, rfl⟩ := hd.ref
    obtain ⟨Ds, h1, h2, _⟩ := listAt_r r h ha
    exact ⟨Ds, h1, h2⟩
  | _ => cases h
theorem cutD_r {ds Ds : List D} (h : Drs α ds Ds) (lo hi : Option Int) : Drs α (cutD ds lo hi) (cutD Ds lo hi) := by
  unfold cutD
  rw [← h.length]
  exact (h.drop _).take _
def ZR (α : List Nat) : List (D × PyData) → List (D × PyData) → Prop := Paired fun p q => Dr α p.1 q.1 ∧ p.2 = q.2
theorem zr_zip : ∀ {ds Ds : List D} {ps : List PyData}, Drs α ds Ds → ZR α (ds.zip ps) (Ds.zip ps)
  | [], _, _, h => by have := h.nil_inv; subst this; exact .nil
  | d :: ds, _, [], h => by
    obtain ⟨x, xs, rfl, h1, h2⟩ := h.cons_inv
    exact .nil
  | d :: ds, _, p :: ps, h => by
    obtain ⟨x, xs, rfl, h1, h2⟩ := h.cons_inv
    exact .cons ⟨h1, rfl⟩ (zr_zip h2)
theorem zr_ins {x X : D × PyData} (hx : Dr α x.1 X.1 ∧ x.2 = X.2) {l L : List (D × PyData)} (h : ZR α l L) : ZR α (insS leP x l) (insS leP X L) := by
  induction h with
  | nil => exact .cons hx .nil
  | @cons a b l1 l2 p t ih =>
    unfold insS
    have e : leP x a = leP X b := by
      show PySem.W.dataLe false (fun b : D × PyData => b.2) x a = PySem.W.dataLe false (fun b : D × PyData => b.2) X b
      unfold PySem.W.dataLe PySem.W.sortLe
      simp only [hx.2, p.2]
    rw [e]
    cases leP X b with
    | true => exact .cons hx (.cons p t)
    | false => exact .cons p ih
theorem zr_sort {l L : List (D × PyData)} (h : ZR α l L) : ZR α (isortS leP l) (isortS leP L) := by
  induction h with
  | nil => exact .nil
  | cons p t ih => exact zr_ins p ih
theorem zr_fst {l L : List (D × PyData)} (h : ZR α l L) : Drs α (l.map (·.1)) (L.map (·.1)) := by
  induction h with
  | nil => exact drs_nil
  | cons p t ih => exact drs_cons p.1 ih
theorem sortP_r {ds Ds : List D} {ps : List PyData} (h : Drs α ds Ds) : Drs α (sortP ds ps) (sortP Ds ps) := zr_fst (zr_sort (zr_zip h))
theorem drs_ints {ns : List Int} : Drs α (ns.map .int) (ns.map .int) := drs_map fun _ _ => dr_int
end
end Fl
namespace Fl
open PySem
open L2 (Key)
class EqE (e : EF) : Prop where h : ∀ {α : List Nat} {m M : Mem} {s S : Sl}, MR α m M → SlR α s S → RR Dr α m M (e s m) (e S M)
class EqT (e : TF) : Prop where h : ∀ {α : List Nat} {m M : Mem} {s S : Sl}, MR α m M → SlR α s S → RR (Rel0 Bool) α m M (e s m) (e S M)
class EqA (e : AF) : Prop where h : ∀ {α : List Nat} {m M : Mem} {s S : Sl}, MR α m M → SlR α s S → RR Drs α m M (e s m) (e S M)
class EqS (e : SF) : Prop where h : ∀ {α : List Nat} {m M : Mem} {s S : Sl}, MR α m M → SlR α s S → SRR α m M (e s m) (e S M)
class EqG (g : GF) : Prop where h : ∀ {α : List Nat} {m M : Mem} {s S : Sl} {d D : D}, MR α m M → SlR α s S → Dr α d D → RR SlR α m M (g d s m) (g D S M)
class EqGs (g : GsF) : Prop where h : ∀ {α : List Nat} {s S : Sl} {ds Ds : List D} {t : Sl}, SlR α s S → Drs α ds Ds → g ds s = some t → ∃ T, g Ds S = some T ∧ SlR α t T
def RIr (α : List Nat) (x X : ItF × Nat) : Prop := x.2 = X.2 ∧ ∀ (α' : List Nat) (m M : Mem) (i : Nat), Pre α α' → MR α' m M → match x.1 i m with
  | none => True
  | some none => X.1 i M = some none
  | some (some d) => ∃ v, X.1 i M = some (some v) ∧ Dr α' d v
class EqI (e : IF) : Prop where h : ∀ {α : List Nat} {m M : Mem} {s S : Sl}, MR α m M → SlR α s S → RR RIr α m M (e s m) (e S M)
class EqO (e : OF) : Prop where h : ∀ {α : List Nat} {m M : Mem} {s S : Sl}, MR α m M → SlR α s S → RR (Rel0 (Option Int)) α m M (e s m) (e S M)
class EqJ (e : JF) : Prop where h : ∀ {α : List Nat} {m M : Mem} {s S : Sl} (acc : Str), MR α m M → SlR α s S → RR (Rel0 Str) α m M (e acc s m) (e acc S M)
class EqD (S : List D → Mem → Res D) : Prop where h : ∀ {α : List Nat} {m M : Mem} {ds Ds : List D}, MR α m M → Drs α ds Ds → RR Dr α m M (S ds m) (S Ds M)
class Eq1 (g : D → Mem → Res D) : Prop where h : ∀ {α : List Nat} {m M : Mem} {d D : D}, MR α m M → Dr α d D → RR Dr α m M (g d m) (g D M)
class Eq2 (g : D → D → Mem → Res D) : Prop where h : ∀ {α : List Nat} {m M : Mem} {d1 D1 e1 E1 : D}, MR α m M → Dr α d1 D1 → Dr α e1 E1 → RR Dr α m M (g d1 e1 m) (g D1 E1 M)
class EqM (g : D → List D → Mem → Res D) : Prop where h : ∀ {α : List Nat} {m M : Mem} {d D : D} {ds Ds : List Fl.D}, MR α m M → Dr α d D → Drs α ds Ds → RR Dr α m M (g d ds m) (g D Ds M)
class EqTy (ty : D → Mem → Bool) : Prop where h : ∀ {α : List Nat} {m M : Mem} {d D : D}, MR α m M → Dr α d D → ty d m = true → ty D M = true
class EqGD (g : List D → List D → List D) : Prop where h : ∀ {α : List Nat} {as As bs Bs : List D}, Drs α as As → Drs α bs Bs → Drs α (g as bs) (g As Bs)
class EqCst (ds : List D) : Prop where h : ∀ {α : List Nat}, Drs α ds ds
class TabH (tab : TyK → Option Bool) : Prop where h : tab (.exc 1000) = none
class EqCl (cl : List Clause) : Prop where h : ∀ {α : List Nat} {m M : Mem} {s S : Sl} {c : Nat} {f F : Option (Nat × D)}, MR α m M → SlR α s S → XR α f F → SRR α m M (handle cl c f s m) (handle cl c F S M)
instance : EqE (dC .non) := ⟨fun r sl => .ok r dr_non⟩
instance {b : Bool} : EqE (dC (.bl b)) := ⟨fun r sl => .ok r dr_bl⟩
instance {b : Int} : EqE (dC (.int b)) := ⟨fun r sl => .ok r dr_int⟩
instance {b : Str} : EqE (dC (.str b)) := ⟨fun r sl => .ok r dr_str⟩
instance {i : Nat} : EqE (dVar i) := ⟨fun {α m M s S} r sl => by
  unfold dVar
  cases q : s[i]? with
  | none => trivial
  | some o =>
    cases o with
    | none => trivial
    | some d =>
      obtain ⟨v, h1, h2⟩ := sl.2 i d q
      rw [h1]; exact .ok r h2⟩
instance {g : D → D → Mem → Res D} {a b : EF} [Eq2 g] [EqE a] [EqE b] : EqE (dOp2 g a b) := ⟨fun r sl => (EqE.h r sl).bind r fun x X α1 m1 M1 e1 h1 => (EqE.h e1.mr (sl.up e1.pre)).bind e1.mr fun y Y α2 m2 M2 e2 h2 => Eq2.h e2.mr (h1.up e2.pre) h2⟩
instance {g : D → Mem → Res D} {a : EF} [Eq1 g] [EqE a] : EqE (dOp1 g a) := ⟨fun r sl => (EqE.h r sl).bind r fun x X α1 m1 M1 e1 h1 => Eq1.h e1.mr h1⟩
instance {g : List D → Mem → Res D} {a : AF} [EqD g] [EqA a] : EqE (dOpN g a) := ⟨fun r sl => (EqA.h r sl).bind r fun x X α1 m1 M1 e1 h1 => EqD.h e1.mr h1⟩
instance : EqA dNil := ⟨fun r sl => .ok r drs_nil⟩
instance {a : EF} {b : AF} [EqE a] [EqA b] : EqA (dCons a b) := ⟨fun r sl => (EqE.h r sl).bind r fun x X α1 m1 M1 e1 h1 => (EqA.h e1.mr (sl.up e1.pre)).bind e1.mr fun y Y α2 m2 M2 e2 h2 => .ok e2.mr (drs_cons (h1.up e2.pre) h2)⟩
section
variable {α : List Nat} {m M : Mem}
theorem isB_r (r : MR α m M) {x X : D} (h : Dr α x X) : RR (Rel0 Bool) α m M (isB x m) (isB X M) := by
  cases x with
  | bl b => rw [h.bl]; exact .ok r rfl
  | _ => trivial
theorem ifR_r {A B : Type} {R : List Nat → A → B → Prop} {b : Bool} {x y : Res A} {X Y : Res B} (h1 : RR R α m M x X) (h2 : RR R α m M y Y) : RR R α m M (ifR b x y) (ifR b X Y) := by cases b <;> assumption
theorem ifR_s {b : Bool} {x y X Y : SR} (h1 : SRR α m M x X) (h2 : SRR α m M y Y) : SRR α m M (ifR b x y) (ifR b X Y) := by cases b <;> assumption
end
instance {a : EF} [EqE a] : EqT (tVal a) := ⟨fun r sl => by
  rw [tVal_ap, tVal_ap]
  exact (EqE.h r sl).bind r fun x X α1 m1 M1 e1 h1 => isB_r e1.mr h1⟩
instance {a : TF} [EqT a] : EqT (tNotF a) := ⟨fun r sl => (EqT.h r sl).bind r fun x X α1 m1 M1 e1 h1 => by cases h1; exact .ok e1.mr rfl⟩
instance {a b : TF} [EqT a] [EqT b] : EqT (tAndF a b) := ⟨fun r sl => by
  rw [tAndF_ap, tAndF_ap]
  exact (EqT.h r sl).bind r fun x X α1 m1 M1 e1 h1 => by cases h1; exact ifR_r (EqT.h e1.mr (sl.up e1.pre)) (.ok e1.mr rfl)⟩
instance {a b : TF} [EqT a] [EqT b] : EqT (tOrF a b) := ⟨fun r sl => by
  rw [tOrF_ap, tOrF_ap]
  exact (EqT.h r sl).bind r fun x X α1 m1 M1 e1 h1 => by cases h1; exact ifR_r (.ok e1.mr rfl) (EqT.h e1.mr (sl.up e1.pre))⟩
instance {a b : EF} [EqE a] [EqE b] : EqE (dAnd a b) := ⟨fun r sl => by
  rw [dAnd_ap, dAnd_ap]
  exact (EqE.h r sl).bind r fun x X α1 m1 M1 e1 h1 => (isB_r e1.mr h1).bind e1.mr fun y Y α2 m2 M2 e2 h2 => by cases h2; exact ifR_r (EqE.h e2.mr (sl.up (e1.pre.trans e2.pre))) (.ok e2.mr dr_bl)⟩
instance {a b : EF} [EqE a] [EqE b] : EqE (dOr a b) := ⟨fun r sl => by
  rw [dOr_ap, dOr_ap]
  exact (EqE.h r sl).bind r fun x X α1 m1 M1 e1 h1 => (isB_r e1.mr h1).bind e1.mr fun y Y α2 m2 M2 e2 h2 => by cases h2; exact ifR_r (.ok e2.mr dr_bl) (EqE.h e2.mr (sl.up (e1.pre.trans e2.pre)))⟩
instance {a : EF} [EqE a] : EqE (dNot a) := ⟨fun r sl => by
  rw [dNot_ap, dNot_ap]
  exact (EqE.h r sl).bind r fun x X α1 m1 M1 e1 h1 => (isB_r e1.mr h1).bind e1.mr fun y Y α2 m2 M2 e2 h2 => by cases h2; exact .ok e2.mr dr_bl⟩
instance {c : TF} {a b : EF} [EqT c] [EqE a] [EqE b] : EqE (dIfE c a b) := ⟨fun r sl => by
  rw [dIfE_ap, dIfE_ap]
  exact (EqT.h r sl).bind r fun x X α1 m1 M1 e1 h1 => by cases h1; exact ifR_r (EqE.h e1.mr (sl.up e1.pre)) (EqE.h e1.mr (sl.up e1.pre))⟩
instance : EqS sNext := ⟨fun r sl => ⟨_, _, _, rfl, .refl r, sl⟩⟩
instance : EqS sBrk := ⟨fun r sl => ⟨_, _, _, rfl, .refl r, sl⟩⟩
instance : EqS sCont := ⟨fun r sl => ⟨_, _, _, rfl, .refl r, sl⟩⟩
instance {t u : SF} [EqS t] [EqS u] : EqS (sSeq t u) := ⟨fun r sl => (EqS.h r sl).seq r fun s S α1 m1 M1 e1 h1 => EqS.h e1.mr h1⟩
instance {a : EF} [EqE a] : EqS (sDrop a) := ⟨fun r sl => (EqE.h r sl).toS r sl fun x X α1 m1 M1 e1 h1 => ⟨_, _, _, rfl, .refl e1.mr, sl.up e1.pre⟩⟩
instance {a : EF} [EqE a] : EqS (sRet a) := ⟨fun r sl => (EqE.h r sl).toS r sl fun x X α1 m1 M1 e1 h1 => ⟨_, _, _, rfl, .refl e1.mr, h1⟩⟩
instance {i : Nat} {a : EF} [EqE a] : EqS (sSet i a) := ⟨fun r sl => (EqE.h r sl).toS r sl fun x X α1 m1 M1 e1 h1 => ⟨_, _, _, rfl, .refl e1.mr, (sl.up e1.pre).set i h1⟩⟩
instance {c : TF} {t u : SF} [EqT c] [EqS t] [EqS u] : EqS (sIf c t u) := ⟨fun r sl => by
  rw [sIf_ap, sIf_ap]
  exact (EqT.h r sl).toS r sl fun x X α1 m1 M1 e1 h1 => by cases h1; exact ifR_s (EqS.h e1.mr (sl.up e1.pre)) (EqS.h e1.mr (sl.up e1.pre))⟩
instance {c : Nat} : EqS (sRaise c) := ⟨fun r sl => ⟨_, _, _, _, rfl, .refl r, rfl, sl⟩⟩
instance {c i : Nat} {a : EF} [EqE a] : EqS (sRaise1 c i a) := ⟨fun r sl => (EqE.h r sl).toS r sl fun x X α1 m1 M1 e1 h1 => ⟨_, _, _, _, rfl, .refl e1.mr, ⟨_, rfl, h1⟩, sl.up e1.pre⟩⟩
instance {a : EF} {g : GF} [EqE a] [EqG g] : EqS (sAsg a g) := ⟨fun r sl => (EqE.h r sl).toS r sl fun x X α1 m1 M1 e1 h1 => (EqG.h e1.mr (sl.up e1.pre) h1).toS e1.mr (sl.up e1.pre) fun y Y α2 m2 M2 e2 h2 => ⟨_, _, _, rfl, .refl e2.mr, h2⟩⟩
instance {i : Nat} : EqG (gN i) := ⟨fun r sl h => .ok r (sl.set i h)⟩
instance : EqGs gsNil := ⟨fun {α s S ds Ds t} sl h e => by
  cases ds with
  | nil => have := h.nil_inv; subst this; cases e; exact ⟨S, rfl, sl⟩
  | cons _ _ => cases e⟩
instance {i : Nat} {g : GsF} [EqGs g] : EqGs (gsCons i g) := ⟨fun {α s S ds Ds t} sl h e => by
  cases ds with
  | nil => cases e
  | cons d ds =>
    obtain ⟨x, xs, rfl, h1, h2⟩ := h.cons_inv
    exact EqGs.h (g := g) (sl.set i h1) h2 e⟩
instance {n : Nat} {g : GsF} [EqGs g] : EqG (gT n g) := ⟨fun {α m M s S d D} r sl h => by
  cases d with
  | tup ds =>
    obtain ⟨Ds, rfl, h2⟩ := h.tup
    rw [gT_ap, gT_ap, ← h2.length]
    cases q : decide (ds.length = n) with
    | false => trivial
    | true =>
      cases q2 : g ds s with
      | none => trivial
      | some t =>
        obtain ⟨T, e1, e2⟩ := EqGs.h sl h2 q2
        rw [e1]
        exact .ok r e2
  | _ => trivial⟩
instance {a b : EF} [EqE a] [EqE b] : EqG (gIxSet a b) := ⟨fun {α m M s S d D} r sl h => by
  rw [gIxSet_ap, gIxSet_ap]
  refine (EqE.h r sl).bind r fun x X α1 m1 M1 e1 h1 => (EqE.h e1.mr (sl.up e1.pre)).bind e1.mr fun y Y α2 m2 M2 e2 h2 => ?_
  cases q : setIx m2 x y d with
  | none => trivial
  | some m3 =>
    obtain ⟨M3, e3, e4⟩ := setIx_r e2.mr (h1.up e2.pre) h2 (h.up (e1.pre.trans e2.pre)) q
    rw [e3]
    exact ⟨_, _, _, rfl, e4, sl.up (e1.pre.trans e2.pre)⟩⟩
instance {a b c : EF} {g : D → D → Mem → Res D} [EqE a] [EqE b] [EqE c] [Eq2 g] : EqS (sIxAug a b c g) := ⟨fun {α m M s S} r sl => by
  rw [sIxAug_ap, sIxAug_ap]
  refine (EqE.h r sl).toS r sl fun x X α1 m1 M1 e1 h1 => (EqE.h e1.mr (sl.up e1.pre)).toS e1.mr (sl.up e1.pre) fun y Y α2 m2 M2 e2 h2 => ?_
  have sl2 := sl.up (e1.pre.trans e2.pre)
  cases q : getIx m2 x y with
  | none => trivial
  | some z =>
    obtain ⟨Z, e3, e4⟩ := getIx_r e2.mr (h1.up e2.pre) h2 q
    rw [e3]
    refine (EqE.h e2.mr sl2).toS e2.mr sl2 fun w W α3 m3 M3 e5 h3 => (Eq2.h e5.mr (e4.up e5.pre) h3).toS e5.mr (sl2.up e5.pre) fun u U α4 m4 M4 e6 h4 => ?_
    cases q2 : setIx m4 x y u with
    | none => trivial
    | some m5 =>
      obtain ⟨M5, e7, e8⟩ := setIx_r e6.mr (h1.up ((e2.pre.trans e5.pre).trans e6.pre)) (h2.up (e5.pre.trans e6.pre)) h4 q2
      rw [e7]
      exact ⟨_, _, _, rfl, e8, sl2.up (e5.pre.trans e6.pre)⟩⟩
instance {i : Nat} {a : EF} {g : D → D → Mem → Res D} [EqE a] [Eq2 g] : EqS (sAug i a g) := ⟨fun {α m M s S} r sl => by
  rw [sAug_ap, sAug_ap]
  cases q : s[i]? with
  | none => trivial
  | some o =>
    cases o with
    | none => trivial
    | some d =>
      obtain ⟨v, h1, h2⟩ := sl.2 i d q
      rw [h1]
      exact (EqE.h r sl).toS r sl fun x X α1 m1 M1 e1 h3 => (Eq2.h e1.mr (h2.up e1.pre) h3).toS e1.mr (sl.up e1.pre) fun y Y α2 m2 M2 e2 h4 => ⟨_, _, _, rfl, .refl e2.mr, (sl.up (e1.pre.trans e2.pre)).set i h4⟩⟩
instance {i : Nat} {a b : EF} [EqE a] [EqE b] : EqS (sFldF i a b) := ⟨fun {α m M s S} r sl => by
  unfold sFldF
  refine (EqE.h r sl).toS r sl fun x X α1 m1 M1 e1 h1 => (EqE.h e1.mr (sl.up e1.pre)).toS e1.mr (sl.up e1.pre) fun y Y α2 m2 M2 e2 h2 => ?_
  cases q : setFld m2 y i x with
  | none => trivial
  | some m3 =>
    obtain ⟨M3, e3, e4⟩ := setFld_r e2.mr h2 (h1.up e2.pre) q
    simp only [e3]
    exact ⟨_, _, _, rfl, e4, sl.up (e1.pre.trans e2.pre)⟩⟩
instance {i j : Nat} {a : AF} [EqA a] : EqS (sPar2 i j a) := ⟨fun {α m M s S} r sl => by
  unfold sPar2
  refine (EqA.h r sl).toS r sl fun x X α1 m1 M1 e1 h1 => ?_
  match x, h1 with
  | [a, b], h1 =>
    obtain ⟨A, _, rfl, ha, h2⟩ := h1.cons_inv
    obtain ⟨B, _, rfl, hb, h3⟩ := h2.cons_inv
    have := h3.nil_inv
    subst this
    exact ⟨_, _, _, rfl, .refl e1.mr, ((sl.up e1.pre).set i ha).set j hb⟩
  | [], _ => trivial
  | [_], _ => trivial
  | _ :: _ :: _ :: _, _ => trivial⟩
instance {i j l : Nat} {a : AF} [EqA a] : EqS (sPar3 i j l a) := ⟨fun {α m M s S} r sl => by
  unfold sPar3
  refine (EqA.h r sl).toS r sl fun x X α1 m1 M1 e1 h1 => ?_
  match x, h1 with
  | [a, b, c], h1 =>
    obtain ⟨A, _, rfl, ha, h2⟩ := h1.cons_inv
    obtain ⟨B, _, rfl, hb, h3⟩ := h2.cons_inv
    obtain ⟨C, _, rfl, hc, h4⟩ := h3.cons_inv
    have := h4.nil_inv
    subst this
    exact ⟨_, _, _, rfl, .refl e1.mr, (((sl.up e1.pre).set i ha).set j hb).set l hc⟩
  | [], _ => trivial
  | [_], _ => trivial
  | [_, _], _ => trivial
  | _ :: _ :: _ :: _ :: _, _ => trivial⟩
instance : EqCst [] := ⟨drs_nil⟩
instance {i : Int} {ds : List D} [EqCst ds] : EqCst (.int i :: ds) := ⟨drs_cons dr_int EqCst.h⟩
instance {ds : List D} [EqCst ds] : EqCst (.tup [] :: ds) := ⟨drs_cons (dr_tup drs_nil) EqCst.h⟩
instance : EqGD (fun xs _ => xs) := ⟨fun a b => a⟩
instance : EqGD (fun xs zs => xs ++ zs) := ⟨fun a b => a.append b⟩
instance {ds : List D} [EqCst ds] : EqGD (fun xs _ => xs ++ ds) := ⟨fun a b => a.append EqCst.h⟩
instance {ds : List D} [EqCst ds] : EqGD (fun xs zs => xs ++ (zs ++ ds)) := ⟨fun a b => a.append (b.append EqCst.h)⟩
instance {ds : List D} {t : Nat} [EqCst ds] : EqGD (fun xs zs => xs ++ (zs.take t ++ (ds ++ zs.drop t))) := ⟨fun a b => a.append ((b.take t).append (EqCst.h.append (b.drop t)))⟩
theorem lenIs_r {α : List Nat} {m M : Mem} {n : Nat} {l L : List D} {r R : Res D} (hl : l.length = L.length) (h : RR Dr α m M r R) : RR Dr α m M (lenIs n l r) (lenIs n L R) := by
  unfold lenIs
  rw [hl]
  cases decide (L.length = n) with
  | true => exact h
  | false => trivial
instance {n k : Nat} {S : List D → Mem → Res D} {gD : List D → List D → List D} {a b : AF} [EqD S] [EqGD gD] [EqA a] [EqA b] : EqE (dCall n k S gD a b) := ⟨fun r sl => (EqA.h r sl).bind r fun x X α1 m1 M1 e1 h1 => (EqA.h e1.mr (sl.up e1.pre)).bind e1.mr fun y Y α2 m2 M2 e2 h2 =>
  lenIs_r h1.length (lenIs_r h2.length (EqD.h e2.mr (EqGD.h (h1.up e2.pre) h2)))⟩
instance {c j n : Nat} {S : List D → Mem → Res D} {gD : List D → List D → List D} {o : EF} {a : AF} [EqD S] [EqGD gD] [EqE o] [EqA a] : EqE (dMeth c j n S gD o a) := ⟨fun r sl => (EqE.h r sl).bind r fun x X α1 m1 M1 e1 h1 => by
  unfold gMeth
  cases q : insAt m1 x with
  | none => trivial
  | some t =>
    obtain ⟨k, c', fs⟩ := t
    obtain ⟨A, Fs, e2, h2, h3, h4⟩ := insAt_r e1.mr h1 q
    rw [e2]
    dsimp only
    have z := look_r h4 j
    cases q2 : decide (c' = c) with
    | false => trivial
    | true =>
      cases q3 : look fs j with
      | some _ => trivial
      | none =>
        rw [q3] at z
        have z : look Fs j = none := z
        rw [z]
        exact (EqA.h e1.mr (sl.up e1.pre)).bind e1.mr fun y Y α2 m2 M2 e2 h5 => lenIs_r h5.length (EqD.h e2.mr (EqGD.h (drs_cons (h1.up e2.pre) h5) drs_nil))⟩
instance {c n k : Nat} {S : List D → Mem → Res D} {gD : List D → List D → List D} {a b : AF} [EqD S] [EqGD gD] [EqA a] [EqA b] : EqE (dMake c n k S gD a b) := ⟨fun r sl => (EqA.h r sl).bind r fun x X α1 m1 M1 e1 h1 => (EqA.h e1.mr (sl.up e1.pre)).bind e1.mr fun y Y α2 m2 M2 e2 h2 =>
  lenIs_r h1.length (lenIs_r h2.length (by
    unfold gMake
    have r2 := e2.mr
    have e3 : Ext α2 m2 M2 (α2 ++ [M2.length]) (m2 ++ [.ins c []]) (M2 ++ [.ins c []]) := (Ext.refl r2).alloc ⟨[], rfl, .nil⟩
    have hr : Dr (α2 ++ [M2.length]) (.ref m2.length) (.ref M2.length) := dr_ref (by rw [← r2.len]; simp)
    refine RR.lift r2 e3 ((EqD.h (S := S) e3.mr (EqGD.h (g := gD) (drs_cons hr (h1.up (e2.pre.trans e3.pre))) (h2.up e3.pre))).bind e3.mr fun v V α4 m4 M4 e4 h4 => ?_)
    cases v with
    | non => rw [h4.non]; exact .ok e4.mr (hr.up e4.pre)
    | _ => trivial))⟩
theorem eqD_of {n k : Nat} {f : SF} {S : List D → Mem → Res D} [EqS f] (h : S = fun ds M => match decide (ds.length = k) with
  | true => (f (startD n ds) M).fin
  | false => .bad) : EqD S := ⟨fun {α m M ds Ds} r hd => by
  subst h
  dsimp only
  rw [← hd.length]
  cases decide (ds.length = k) with
  | false => trivial
  | true => exact (EqS.h r (slr_start hd)).fin⟩
instance {a : AF} [EqA a] : EqE (dTup a) := ⟨fun r sl => (EqA.h r sl).bind r fun x X α1 m1 M1 e1 h1 => by
  rw [← h1.length]
  cases decide (x.length ≤ sizeLine) with
  | true => exact .ok e1.mr (dr_tup h1)
  | false => trivial⟩
instance {a : AF} [EqA a] : EqE (dLst a) := ⟨fun r sl => (EqA.h r sl).bind r fun x X α1 m1 M1 e1 h1 => by
  rw [← h1.length]
  cases decide (x.length ≤ sizeLine) with
  | true => exact .new e1.mr ⟨_, rfl, h1⟩
  | false => trivial⟩
instance : EqE dNewK := ⟨fun r sl => .new r ⟨_, rfl, .nil⟩⟩
instance : EqE dNewT := ⟨fun r sl => .new r ⟨_, rfl, .nil⟩⟩
instance : EqO oNone := ⟨fun r sl => .ok r rfl⟩
instance {a : EF} [EqE a] : EqO (oSome a) := ⟨fun r sl => (EqE.h r sl).bind r fun x X α1 m1 M1 e1 h1 => by
  cases x with
  | int i => rw [h1.int]; exact .ok e1.mr rfl
  | _ => trivial⟩
instance {a : EF} {l h : OF} [EqE a] [EqO l] [EqO h] : EqE (dSl a l h) := ⟨fun r sl => (EqE.h r sl).bind r fun x X α1 m1 M1 e1 h1 => (EqO.h e1.mr (sl.up e1.pre)).bind e1.mr fun y Y α2 m2 M2 e2 h2 => (EqO.h e2.mr (sl.up (e1.pre.trans e2.pre))).bind e2.mr fun z Z α3 m3 M3 e3 h3 => by
  cases h2; cases h3
  have hx := h1.up (e2.pre.trans e3.pre)
  cases x with
  | tup ds => obtain ⟨Ds, rfl, hd⟩ := hx.tup; exact .ok e3.mr (dr_tup (cutD_r hd y z))
  | rol ds => obtain ⟨Ds, rfl, hd⟩ := hx.rol; exact .new e3.mr ⟨_, rfl, cutD_r hd y z⟩
  | ref n =>
    obtain ⟨a, ha, rfl⟩ := hx.ref
    unfold gSl
    dsimp only
    cases q : listAt m3 n with
    | none => trivial
    | some ds =>
      obtain ⟨Ds, h4, hd, _⟩ := listAt_r e3.mr q ha
      rw [h4]
      exact .new e3.mr ⟨_, rfl, cutD_r hd y z⟩
  | str w =>
    rw [hx.str]
    unfold gSl
    dsimp only
    cases decide (w.length ≤ sizeLine) with
    | true => exact .ok e3.mr dr_str
    | false => trivial
  | _ => trivial⟩
instance {g g' : D → D → Mem → Res D} {a b c : EF} [Eq2 g] [Eq2 g'] [EqE a] [EqE b] [EqE c] : EqE (dChain g g' a b c) := ⟨fun r sl => by
  rw [dChain_ap, dChain_ap]
  exact (EqE.h r sl).bind r fun x X α1 m1 M1 e1 h1 => (EqE.h e1.mr (sl.up e1.pre)).bind e1.mr fun y Y α2 m2 M2 e2 h2 => (Eq2.h e2.mr (h1.up e2.pre) h2).bind e2.mr fun k K α3 m3 M3 e3 h3 => (isB_r e3.mr h3).bind e3.mr fun u U α4 m4 M4 e4 h4 => by
    cases h4
    have p4 := e3.pre.trans e4.pre
    exact ifR_r ((EqE.h e4.mr (sl.up ((e1.pre.trans e2.pre).trans p4))).bind e4.mr fun z Z α5 m5 M5 e5 h5 => Eq2.h e5.mr (h2.up (p4.trans e5.pre)) h5) (.ok e4.mr dr_bl)⟩
instance {a : EF} [EqE a] : EqE (dFmt a) := ⟨fun r sl => (EqE.h r sl).bind r fun x X α1 m1 M1 e1 h1 => by
  cases x with
  | int i =>
    rw [h1.int]
    dsimp only
    cases decide (i.natAbs.log2 < 1920) with
    | true => exact .ok e1.mr dr_str
    | false => trivial
  | str w =>
    rw [h1.str]
    dsimp only
    cases decide (w.length ≤ sizeLine) with
    | true => exact .ok e1.mr dr_str
    | false => trivial
  | _ => trivial⟩
instance : EqJ jNil := ⟨fun acc r sl => .ok r rfl⟩
instance {a : EF} {j : JF} [EqE a] [EqJ j] : EqJ (jCons a j) := ⟨fun acc r sl => (EqE.h r sl).bind r fun x X α1 m1 M1 e1 h1 => by
  cases x with
  | str w =>
    rw [h1.str]
    dsimp only
    cases decide ((acc ++ w).length ≤ sizeLine) with
    | true => exact EqJ.h _ e1.mr (sl.up e1.pre)
    | false => trivial
  | _ => trivial⟩
instance {j : JF} [EqJ j] : EqE (dJoin j) := ⟨fun r sl => (EqJ.h _ r sl).bind r fun x X α1 m1 M1 e1 h1 => by cases h1; exact .ok e1.mr dr_str⟩
end Fl
namespace Fl
open PySem
structure Fr (A : List Nat) (M M' : Mem) : Prop where
  len : M.length ≤ M'.length
  old : ∀ n, n < M.length → n ∉ A → M'[n]? = M[n]?
theorem Fr.refl {A : List Nat} {M : Mem} : Fr A M M := ⟨Nat.le_refl _, fun _ _ _ => rfl⟩
theorem Fr.trans {A : List Nat} {M M' M'' : Mem} (h : Fr A M M') (h' : Fr A M' M'') : Fr A M M'' := ⟨Nat.le_trans h.len h'.len, fun n hn ha => (h'.old n (Nat.lt_of_lt_of_le hn h.len) ha).trans (h.old n hn ha)⟩
theorem Fr.mono {A B : List Nat} {M M' : Mem} (h : Fr A M M') (s : ∀ n ∈ A, n ∈ B) : Fr B M M' := ⟨h.len, fun n hn ha => h.old n hn fun z => ha (s n z)⟩
theorem Fr.app {A : List Nat} {M T : Mem} : Fr A M (M ++ T) := ⟨by simp, fun n hn _ => List.getElem?_append_left hn⟩
theorem Fr.get {A : List Nat} {M M' : Mem} (h : Fr A M M') {n : Nat} {o : MO} (e : M[n]? = some o) (ha : n ∉ A) : M'[n]? = some o := by
  rw [h.old n (List.getElem?_eq_some_iff.mp e).1 ha]; exact e
theorem Fr.list {A : List Nat} {M M' : Mem} (h : Fr A M M') {n : Nat} {ds : List D} (e : listAt M n = some ds) (ha : n ∉ A) : listAt M' n = some ds := listAt_of (h.get (listAt_some e) ha)
theorem Fr.set {A : List Nat} {M : Mem} {n : Nat} {o : MO} (h : n ∈ A) : Fr A M (M.set n o) := ⟨by simp, fun m _ hm => by rw [List.getElem?_set_ne (fun z => hm (by rw [← z]; exact h))]⟩
structure Town (M : Mem) : Prop where
  ex : ∃ (k : Int) (cells : List Int), M[2]? = some (.lst [.ref 1, .int k]) ∧ M[1]? = some (.lst (cells.map .int)) ∧ cells ≠ [] ∧ 0 ≤ k
theorem Town.fr {A : List Nat} {M M' : Mem} (t : Town M) (h : Fr A M M') (h1 : 1 ∉ A) (h2 : 2 ∉ A) : Town M' := by
  obtain ⟨k, cells, e1, e2, e3⟩ := t.ex
  exact ⟨k, cells, h.get e1 h2, h.get e2 h1, e3⟩
theorem Town.lt {M : Mem} (t : Town M) : 2 < M.length := by
  obtain ⟨k, cells, e1, _⟩ := t.ex
  exact (List.getElem?_eq_some_iff.mp e1).1
theorem sp_town (ns : List Int) (h : ns.length ≤ 63) : ∃ M, S__law_town [.rol (ns.map .int)] [] = .ok (.ref 2) M ∧ Town M ∧ M.length = 3 := by
  unfold S__law_town f__law_town
  have e : pyEq [.lst []] (.rol (ns.map .int)) (.ref 0) = some (decide (ns = [])) := by
    refine pyEq_enc (T := List Int) ?_ (vw_ints (ns := []) rfl)
    unfold Vw toPy
    rw [toPys_int]; rfl
  by_cases hn : ns = []
  · subst hn
    have e' : pyEq [.lst []] (.rol []) (.ref 0) = some true := by simpa using e
    exact ⟨[.lst [], .lst [.int 0], .lst [.ref 1, .int 0]], by simp [startD, e', sizeLine], ⟨0, [0], by simp⟩, rfl⟩
  · exact ⟨[.lst [], .lst (ns.map .int), .lst [.ref 1, .int 0]], by simp [startD, e, sizeLine, hn, gList, seqOf], ⟨0, ns, by simp [hn]⟩, rfl⟩
theorem sp_draw {M : Mem} {m : Int} (t : Town M) (h0 : 0 < m) (h1 : m < 1073741824) : ∃ v M', S__law_draw [.ref 2, .int m] M = .ok (.int v) M' ∧ 0 ≤ v ∧ v < m ∧ Town M' ∧ Fr [1, 2] M M' ∧ M'.length = M.length := by
  obtain ⟨k, cells, e1, e2, hne, hk⟩ := t.ex
  have l2 := t.lt
  have a1 := listAt_of e1
  have a2 := listAt_of e2
  have hl : 0 < cells.length := List.length_pos_iff.mpr hne
  have hlz : (0 : Int) < (cells.length : Int) := by omega
  unfold S__law_draw f__law_draw
  generalize hat : ((k + 1) % (cells.length : Int)) = at_
  have r1 : 0 ≤ at_ := by rw [← hat]; exact Int.emod_nonneg _ (by omega)
  have r2 : at_ < cells.length := by rw [← hat]; exact Int.emod_lt_of_pos _ hlz
  have hcell : itemAt (cells.map D.int) at_ = some (.int cells[at_.toNat]!) := by
    rw [itemAt_int r1 (by rw [List.length_map]; exact r2), List.getElem?_map, List.getElem?_eq_getElem (by omega)]
    simp [getElem!_pos, show at_.toNat < cells.length by omega]
  generalize cells[at_.toNat]! = cell at hcell
  have s1 : setIx M (.ref 2) (.int 1) (.int (k + 1)) = some (M.set 2 (.lst [.ref 1, .int (k + 1)])) := by
    simp [setIx, e1, ixF]
  have b1 : listAt (M.set 2 (.lst [.ref 1, .int (k + 1)])) 2 = some [.ref 1, .int (k + 1)] := listAt_of (by rw [List.getElem?_set_self l2])
  have b2 : listAt (M.set 2 (.lst [.ref 1, .int (k + 1)])) 1 = some (cells.map .int) := listAt_of (by rw [List.getElem?_set_ne (by decide)]; exact e2)
  generalize hB : M.set 2 (.lst [.ref 1, .int (k + 1)]) = B at b1 b2 s1
  have hBl : B.length = M.length := by rw [← hB]; simp
  have B1 : B[1]? = some (.lst (cells.map .int)) := by rw [← hB, List.getElem?_set_ne (by decide)]; exact e2
  have B2 : B[2]? = some (.lst [.ref 1, .int (k + 1)]) := by rw [← hB, List.getElem?_set_self l2]
  have fB : Fr [1, 2] M B := by rw [← hB]; exact Fr.set (by simp)
  have tB : Town B := ⟨k + 1, cells, B2, B1, hne, by omega⟩
  have m1 : gMod (.int (k + 1)) (.int cells.length) B = .ok (.int at_) B := by rw [gMod_int hlz, hat]
  by_cases hc : 1000000000000000000 ≤ cell
  · have s2 : setIx B (.ref 1) (.int at_) (.int (cell / m)) = some (B.set 1 (.lst ((cells.set at_.toNat (cell / m)).map .int))) := by
      have hix : ixF cells.length at_ = some at_.toNat := by
        unfold ixF
        rw [decide_eq_true r1]
        simp only [decide_eq_true r2]
      simp [setIx, B1, hix, List.map_set]
    refine ⟨cell % m, B.set 1 (.lst ((cells.set at_.toNat (cell / m)).map .int)), ?_, Int.emod_nonneg _ (by omega), Int.emod_lt_of_pos _ h0, ⟨k + 1, cells.set at_.toNat (cell / m), ?_, ?_, ?_, by omega⟩, fB.trans (Fr.set (by simp)), by simp [hBl]⟩
    · simp [startD, a1, s1, b1, m1, b2, hcell, hc, gDiv_int h0 h1, s2, gMod_int h0]
    · rw [List.getElem?_set_ne (by decide)]; exact B2
    · rw [List.getElem?_set_self (by omega)]
    · intro z; rw [List.set_eq_nil_iff] at z; exact hne z
  · have q1 : gMulX (.int 104729) (.int (k + 1)) B = .ok (.int (104729 * (k + 1))) B := gMulX_int (.inl (by omega))
    have q2 : gMod (.int (cell + 104729 * (k + 1))) (.int 4294967291) B = .ok (.int ((cell + 104729 * (k + 1)) % 4294967291)) B := gMod_int (by omega)
    generalize hx : (cell + 104729 * (k + 1)) % 4294967291 = x at q2
    have hx0 : 0 ≤ x := by omega
    have hx1 : x < 4294967291 := by omega
    have q3 : gPow (.int x) (.int 5) B = .ok (.int (x ^ 5)) B := gPow_int (by omega) (by omega) (by omega)
    have q4 : gMod (.int (x ^ 5)) (.int 4294967279) B = .ok (.int (x ^ 5 % 4294967279)) B := gMod_int (by omega)
    generalize hy : x ^ 5 % 4294967279 = y at q4
    have q5 : gDiv (.int y) (.int 64) B = .ok (.int (y / 64)) B := gDiv_int (by omega) (by omega)
    have q6 : gMulX (.int (y / 64)) (.int 69621) B = .ok (.int (y / 64 * 69621)) B := gMulX_int (.inr (by omega))
    have q7 : gMod (.int (y / 64 * 69621 + y)) (.int 4294967231) B = .ok (.int ((y / 64 * 69621 + y) % 4294967231)) B := gMod_int (by omega)
    generalize hz : (y / 64 * 69621 + y) % 4294967231 = z at q7
    have q8 : gDiv (.int z) (.int 8) B = .ok (.int (z / 8)) B := gDiv_int (by omega) (by omega)
    have q9 : gMod (.int (z / 8)) (.int m) B = .ok (.int (z / 8 % m)) B := gMod_int h0
    refine ⟨z / 8 % m, B, ?_, Int.emod_nonneg _ (by omega), Int.emod_lt_of_pos _ h0, tB, fB, hBl⟩
    simp [startD, a1, s1, b1, m1, b2, hcell, hc, q1, q2, q3, q4, q5, q6, q7, q8, q9]
end Fl
namespace Fl
open PySem
def tyOk : Option TyK → Bool
  | none => false
  | some (.ins _) => false
  | some (.exc _) => false
  | _ => true
def okTy (M : Mem) (d : D) : Bool := tyOk (tyK M d)
def isOrd (d : D) (p : Int) : Bool := match d with
  | .tup [.int a, .int b, .int c, .int e] => decide (0 ≤ a ∧ a ≤ p - 1 ∧ 0 ≤ c ∧ c ≤ p - 1 ∧ a ≠ c ∧ 0 ≤ b ∧ b ≤ 99 ∧ 1 ≤ e ∧ e ≤ 1000)
  | _ => false
end Fl
namespace Fl
open PySem
end Fl
namespace Fl
open PySem
structure Od where
  p : Int
  n : Int
  g : Int
  m : Int
deriving DecidableEq
def Od.d (o : Od) : D := .tup [.int o.p, .int o.n, .int o.g, .int o.m]
def Od.row (o : Od) : List Int := [o.p, o.n, o.g, o.m]
def Od.ok (o : Od) (k : Int) : Prop := 0 ≤ o.p ∧ o.p ≤ k - 1 ∧ 0 ≤ o.g ∧ o.g ≤ k - 1 ∧ o.p ≠ o.g ∧ 0 ≤ o.n ∧ o.n ≤ 99 ∧ 1 ≤ o.m ∧ o.m ≤ 1000
instance {o : Od} {k : Int} : Decidable (o.ok k) := by unfold Od.ok; infer_instance
theorem Od.of {d : D} {k : Int} (h : isOrd d k = true) : ∃ o : Od, d = o.d ∧ o.ok k := by
  unfold isOrd at h
  split at h
  · rename_i a b c e
    exact ⟨⟨a, b, c, e⟩, rfl, of_decide_eq_true h⟩
  · cases h
theorem Od.ty {M : Mem} (o : Od) : okTy M o.d = true := rfl
theorem sp_pick {M : Mem} {n : Nat} {ds : List D} (t : Town M) (hn : listAt M n = some ds) (hne : n ≠ 1 ∧ n ≠ 2) (h0 : 0 < ds.length) (h1 : ds.length < 1000000) : ∃ d ∈ ds, ∃ M', S__law_pick [.ref 2, .ref n] M = .ok d M' ∧ Town M' ∧ Fr [1, 2] M M' ∧ M'.length = M.length := by
  obtain ⟨v, M', e, v0, v1, t', f, l⟩ := sp_draw (m := ds.length) t (by omega) (by omega)
  have h := f.list hn (by simp [hne])
  have z : itemAt ds v = some (ds.getD v.toNat .non) := by
    rw [itemAt_int v0 v1, List.getD_eq_getElem?_getD, List.getElem?_eq_getElem (by omega)]; rfl
  refine ⟨ds.getD v.toNat .non, ?_, M', ?_, t', f, l⟩
  · rw [List.getD_eq_getElem?_getD, List.getElem?_eq_getElem (by omega)]
    exact List.getElem_mem _
  · unfold S__law_pick f__law_pick
    simp [startD, hn, e, h, z]
def sAt (xs : List Int) (i : Int) : Int := xs.getD i.toNat 0
def mv (xs : List Int) (o : Od) : List Int := (xs.set o.p.toNat (sAt xs o.p - o.m)).set o.g.toNat (sAt (xs.set o.p.toNat (sAt xs o.p - o.m)) o.g + o.m)
end Fl
namespace Fl
open PySem
structure Po where
  n : Sl → Mem → Prop
  b : Sl → Mem → Prop := fun _ _ => False
  c : Sl → Mem → Prop := fun _ _ => False
  r : D → Mem → Prop := fun _ _ => False
  x : Nat → Option (Nat × D) → Sl → Mem → Prop := fun _ _ _ _ => False
def Po.of (q : Po) : SR → Prop
  | .nx s M => q.n s M
  | .bk s M => q.b s M
  | .ct s M => q.c s M
  | .rt d M => q.r d M
  | .exc c f s M => q.x c f s M
  | .bad => False
theorem Po.imp {q q' : Po} {r : SR} (h : q.of r) (hn : ∀ s M, q.n s M → q'.n s M) (hb : ∀ s M, q.b s M → q'.b s M) (hc : ∀ s M, q.c s M → q'.c s M) (hr : ∀ s M, q.r s M → q'.r s M) (hx : ∀ c f s M, q.x c f s M → q'.x c f s M) : q'.of r := by
  cases r
  · exact hn _ _ h
  · exact hr _ _ h
  · exact hb _ _ h
  · exact hc _ _ h
  · exact hx _ _ _ _ h
  · exact h.elim
theorem for_po {nx : ItF} {g : GF} {body : SF} {ds : List D} {q : Po} (P : Nat → Sl → Mem → Prop) {s : Sl} {M : Mem} (h0 : P 0 s M) (hn : ∀ i s M, i ≤ ds.length → P i s M → nx i M = some ds[i]?)
    (hs : ∀ i d s M, ds[i]? = some d → P i s M → ∃ s1 M1, g d s M = .ok s1 M1 ∧ Po.of { n := P (i + 1), c := P (i + 1), b := q.n, r := q.r, x := q.x } (body s1 M1))
    (he : ∀ s M, P ds.length s M → q.n s M) : q.of (sForL nx g body (ds.length + 1) 0 s M) := by
  refine for_ind (ds := ds) P q.of h0 hn (fun i d s M hd hp => ?_) he
  obtain ⟨s1, M1, e1, h⟩ := hs i d s M hd hp
  refine ⟨s1, M1, e1, ?_⟩
  cases e : body s1 M1 with
  | nx s2 M2 => rw [e] at h; exact .inl ⟨_, _, .inl rfl, h⟩
  | ct s2 M2 => rw [e] at h; exact .inl ⟨_, _, .inr rfl, h⟩
  | bk s2 M2 => rw [e] at h; exact .inr (.inl ⟨_, _, rfl, h⟩)
  | rt s2 M2 => rw [e] at h; exact .inr (.inr (.inl ⟨_, _, rfl, h⟩))
  | exc c f s2 M2 => rw [e] at h; exact .inr (.inr (.inr ⟨_, _, _, _, rfl, h⟩))
  | bad => rw [e] at h; exact h.elim
section
variable {e : EF} {a : AF} {g : GF} {body u : SF} {s : Sl} {M M0 : Mem} {n : Nat} {ds : List D} {q : Po} {j : Int}
theorem iRng1_R (he : a s M = .ok [.int j] M0) (h0 : 0 ≤ j) (h1 : j < 2 ^ 62) : iRng1 a s M = .ok (nxR 0 j.toNat, j.toNat + 1) M0 := by
  unfold iRng1
  rw [he]
  simp only [bind_ok]
  rw [decide_eq_true (by omega)]
theorem end_forR (P : Nat → Sl → Mem → Prop) (he : a s M = .ok [.int j] M0) (j0 : 0 ≤ j) (j1 : j < 2 ^ 62) (h0 : P 0 s M0)
    (hs : ∀ (i : Nat) s M, (i : Int) < j → P i s M → ∃ s1 M1, g (.int i) s M = .ok s1 M1 ∧ Po.of { n := P (i + 1), c := P (i + 1), b := q.n, r := q.r, x := q.x } (body s1 M1))
    (hk : ∀ s M, P j.toNat s M → q.n s M) : q.of (sFor (iRng1 a) g body s M) := by
  unfold sFor
  rw [iRng1_R he j0 j1]
  have z := for_po (nx := nxR 0 j.toNat) (g := g) (body := body) (ds := (List.range j.toNat).map fun i => D.int (0 + (i : Nat))) (q := q) (s := s) (M := M0) P h0 (fun i s M hi _ => nxR_at i (by simpa using hi)) (fun i d s M hd hp => by
    rw [List.getElem?_map] at hd
    cases e : (List.range j.toNat)[i]? with
    | none => rw [e] at hd; cases hd
    | some w =>
      have e2 := List.getElem?_eq_some_iff.mp e
      obtain ⟨e3, e4⟩ := e2
      rw [List.getElem_range] at e4
      subst e4
      rw [e] at hd
      simp only [Option.map_some, Int.zero_add, Option.some.injEq] at hd
      subst hd
      rw [List.length_range] at e3
      exact hs i s M (by omega) hp) (by rw [List.length_map, List.length_range]; exact hk)
  rw [List.length_map, List.length_range] at z
  exact z
end
end Fl
namespace Fl
open PySem PySem.W
class Ordd (T : Type) [Enc T] : Prop where
  alk : ∀ a b : T, alike (Enc.enc a) (Enc.enc b) = true
  tok : ∀ a : T, ∀ t ∈ keyToks (Enc.enc a), ∃ i, t = .inl i
theorem alks {T : Type} [Enc T] [Ordd T] : ∀ a b : List T, alikeAll (a.map Enc.enc) (b.map Enc.enc) = true
  | [], _ => by simp [alikeAll]
  | _ :: _, [] => by simp [alikeAll]
  | x :: xs, y :: ys => by
    rw [List.map_cons, List.map_cons, alikeAll, Ordd.alk x y, alks xs ys]; rfl
theorem toks {T : Type} [Enc T] [Ordd T] : ∀ a : List T, ∀ t ∈ keyToksAll (a.map Enc.enc), ∃ i, t = .inl i
  | [], t, h => by
    simp only [List.map_nil, keyToksAll, List.mem_singleton] at h
    exact ⟨0, h⟩
  | x :: xs, t, h => by
    rw [List.map_cons, keyToksAll] at h
    rcases List.mem_cons.mp h with h | h
    · exact ⟨1, h⟩
    · rcases List.mem_append.mp h with h | h
      · exact Ordd.tok x t h
      · exact toks xs t h
instance : Ordd Int where
  alk := fun a b => by simp [Enc.enc, alike]
  tok := fun a t h => by
    simp only [Enc.enc, keyToks, List.mem_singleton] at h
    exact ⟨a, h⟩
instance {T : Type} [Enc T] [Ordd T] : Ordd (List T) where
  alk := fun a b => by
    show alike (.list _) (.list _) = true
    rw [alike]; exact alks a b
  tok := fun a t h => by
    change t ∈ keyToks (.list _) at h
    rw [keyToks] at h
    exact toks a t h
instance {T : Type} [Enc T] [Ordd T] : Ordd (Tup T) where
  alk := fun a b => by
    show alike (.tuple _) (.tuple _) = true
    rw [alike]; exact alks a.its b.its
  tok := fun a t h => by
    change t ∈ keyToks (.tuple _) at h
    rw [keyToks] at h
    exact toks a.its t h
instance {S T : Type} [Enc S] [Enc T] [Ordd S] [Ordd T] : Ordd (S × T) where
  alk := fun a b => by
    show alike (.tuple [_, _]) (.tuple [_, _]) = true
    simp [alike, alikeAll, Ordd.alk]
  tok := fun a t h => by
    change t ∈ keyToks (.tuple [_, _]) at h
    simp only [keyToks, keyToksAll, List.mem_cons, List.mem_append, List.not_mem_nil, or_false] at h
    rcases h with h | h | h | h | h
    · exact ⟨1, h⟩
    · exact Ordd.tok a.1 t h
    · exact ⟨1, h⟩
    · exact Ordd.tok a.2 t h
    · exact ⟨0, h⟩
instance : Enc Od where
  enc := fun o => .tuple [.int o.p, .int o.n, .int o.g, .int o.m]
  dp := 1
  eq := fun a b => by
    cases a; cases b
    simp [PyData.eqv, PyData.eqvAll]
  lay := fun a => by simp [PyData.canLay0, PyData.canLayAll0]
  dep := fun a => by simp [PyData.depth, PyData.depthAll]
instance : Ordd Od where
  alk := fun a b => by
    show alike (.tuple _) (.tuple _) = true
    simp [alike, alikeAll]
  tok := fun a t h => by
    change t ∈ keyToks (.tuple [.int _, .int _, .int _, .int _]) at h
    simp only [keyToks, keyToksAll, List.mem_cons, List.mem_append, List.not_mem_nil, or_false] at h
    rcases h with h | h | h | h | h | h | h | h | h <;> exact ⟨_, h⟩
end Fl
namespace Fl
open PySem
open L2 (Key nd_ix)
abbrev Cell := Nat × MO
abbrev adr (C : List Cell) : List Nat := C.map (·.1)
structure Ow (M : Mem) (C : List Cell) : Prop where
  nd : (adr C).Nodup
  all : ∀ p ∈ C, M[p.1]? = some p.2
section
variable {M M' : Mem} {A B C F : List Cell} {n k r : Nat} {x y : MO}
theorem Ow.perm (o : Ow M C) (p : C.Perm B) : Ow M B := ⟨(p.map (·.1)).nodup_iff.mp o.nd, fun q hq => o.all q (p.mem_iff.mpr hq)⟩
theorem Ow.mem (o : Ow M C) (h : (n, x) ∈ C) : M[n]? = some x := o.all _ h
theorem Ow.get (o : Ow M C) (k : Nat) (h : C[k]? = some (n, x) := by rfl) : M[n]? = some x := o.all _ (List.mem_of_getElem? h)
theorem Ow.lt (o : Ow M C) {p : Cell} (h : p ∈ C) : p.1 < M.length := (List.getElem?_eq_some_iff.mp (o.all p h)).1
theorem Ow.ltn (o : Ow M C) (h : n ∈ adr C) : n < M.length := by
  obtain ⟨p, hp, rfl⟩ := List.mem_map.mp h
  exact o.lt hp
theorem Ow.uniq (o : Ow M C) (h : (n, x) ∈ C) (h' : (n, y) ∈ C) : x = y := by
  have a := o.all _ h
  have b := o.all _ h'
  simp only at a b
  rw [a] at b
  exact Option.some.inj b
theorem adr_set : ∀ {C : List Cell} {k : Nat}, C[k]? = some (n, x) → adr (C.set k (n, y)) = adr C
  | [], _, h => by simp at h
  | p :: C, 0, h => by
    have e : p = (n, x) := by simpa using h
    subst e; rfl
  | p :: C, k + 1, h => by
    rw [List.set_cons_succ]; show p.1 :: adr (C.set k (n, y)) = _; rw [adr_set (C := C) (k := k) (by simpa using h)]; rfl
theorem Ow.set (o : Ow M C) (k : Nat) (y : MO) (h : C[k]? = some (n, x) := by rfl) : Ow (M.set n y) (C.set k (n, y)) := by
  refine ⟨by rw [adr_set h]; exact o.nd, fun p hp => ?_⟩
  have hn := (List.getElem?_eq_some_iff.mp (o.get k h)).1
  obtain ⟨j, hj⟩ := List.mem_iff_getElem?.mp hp
  by_cases e : k = j
  · subst e
    rw [List.getElem?_set_self (List.getElem?_eq_some_iff.mp h).1] at hj
    cases hj
    rw [List.getElem?_set_self hn]
  · rw [List.getElem?_set_ne e] at hj
    have a := o.all p (List.mem_of_getElem? hj)
    by_cases q : n = p.1
    · exfalso
      exact e (nd_ix o.nd (x := n) (by rw [adr, List.getElem?_map, h]; rfl) (by rw [adr, List.getElem?_map, hj, q]; rfl))
    · rw [List.getElem?_set_ne q]; exact a
theorem Ow.ext (o : Ow M C) (f : Fr [] M M') : Ow M' C := ⟨o.nd, fun p hp => f.get (o.all p hp) (by simp)⟩
theorem Ow.fr {S : List Nat} (o : Ow M C) (f : Fr S M M') (h : ∀ n ∈ S, n ∉ adr C) : Ow M' C := ⟨o.nd, fun p hp => f.get (o.all p hp) fun z => h _ z (List.mem_map.mpr ⟨p, hp, rfl⟩)⟩
theorem Ow.ext1 (o : Ow M C) (f : Fr [] M M') (hr : M.length ≤ r) (h : M'[r]? = some x) : Ow M' ((r, x) :: C) := by
  refine ⟨?_, fun p hp => ?_⟩
  · rw [adr, List.map_cons, List.nodup_cons]
    refine ⟨fun z => ?_, o.nd⟩
    have := o.ltn z
    omega
  · rcases List.mem_cons.mp hp with z | z
    · subst z; exact h
    · exact (o.ext f).all p z
theorem Ow.new (o : Ow M C) (x : MO) : Ow (M ++ [x]) ((M.length, x) :: C) := o.ext1 Fr.app (Nat.le_refl _) (by simp)
theorem Ow.rr (o : Ow M (A ++ B)) : Ow M B := ⟨by have := o.nd; rw [adr, List.map_append, List.nodup_append] at this; exact this.2.1, fun p hp => o.all p (List.mem_append_right _ hp)⟩
theorem Ow.t {c : Cell} (o : Ow M (c :: B)) : Ow M B := Ow.rr (A := [c]) o
theorem Ow.swap (o : Ow M (A ++ B)) : Ow M (B ++ A) := o.perm List.perm_append_comm
theorem Ow.mid (o : Ow M (A ++ (B ++ C))) : Ow M (B ++ (A ++ C)) := o.perm (by rw [← List.append_assoc, ← List.append_assoc]; exact List.perm_append_comm.append_right C)
theorem Ow.push {c : Cell} (o : Ow M (c :: (A ++ B))) : Ow M (A ++ c :: B) := o.perm List.perm_middle.symm
theorem Ow.out {c : Cell} (o : Ow M (A ++ c :: B)) : Ow M (c :: (A ++ B)) := o.perm List.perm_middle
theorem Ow.nil : Ow M [] := ⟨by simp, by simp⟩
theorem Ow.dis (o : Ow M (A ++ B)) : ∀ n ∈ adr A, n ∉ adr B := fun n h h' => by
  have z := o.nd
  rw [adr, List.map_append, List.nodup_append] at z
  exact z.2.2 n h n h' rfl
theorem Ow.app_of (a : Ow M A) (b : Ow M B) (h : ∀ n ∈ adr A, n ∉ adr B) : Ow M (A ++ B) := by
  refine ⟨?_, fun p hp => ?_⟩
  · rw [adr, List.map_append, List.nodup_append]
    exact ⟨a.nd, b.nd, fun n h1 m h2 e => h n h1 (e ▸ h2)⟩
  · rcases List.mem_append.mp hp with z | z
    · exact a.all p z
    · exact b.all p z
end
structure Tn (M : Mem) (F : List Cell) : Prop where
  t : Town M
  o : Ow M F
  n1 : 1 ∉ adr F
  n2 : 2 ∉ adr F
section
variable {M M' : Mem} {A B C F : List Cell} {n k r : Nat} {x y : MO}
theorem Tn.len (t : Tn M F) : 2 < M.length := t.t.lt
theorem Tn.perm (o : Tn M C) (p : C.Perm B) : Tn M B := ⟨o.t, o.o.perm p, fun z => o.n1 ((p.map (·.1)).mem_iff.mpr z), fun z => o.n2 ((p.map (·.1)).mem_iff.mpr z)⟩
theorem Tn.start (t : Town M) : Tn M [] := ⟨t, Ow.nil, by simp, by simp⟩
theorem Tn.step (t : Tn M F) (h : Town M') (f : Fr [1, 2] M M') : Tn M' F := ⟨h, t.o.fr f fun n hn => by
  simp only [List.mem_cons, List.not_mem_nil, or_false] at hn
  rcases hn with rfl | rfl
  · exact t.n1
  · exact t.n2, t.n1, t.n2⟩
theorem Tn.get (o : Tn M C) (k : Nat) (h : C[k]? = some (n, x) := by rfl) : M[n]? = some x := o.o.get k h
theorem Tn.ne (o : Tn M C) (k : Nat) (h : C[k]? = some (n, x) := by rfl) : n ≠ 1 ∧ n ≠ 2 := by
  have z : n ∈ adr C := List.mem_map.mpr ⟨_, List.mem_of_getElem? h, rfl⟩
  exact ⟨fun e => o.n1 (e ▸ z), fun e => o.n2 (e ▸ z)⟩
theorem Tn.set (o : Tn M C) (k : Nat) (y : MO) (h : C[k]? = some (n, x) := by rfl) : Tn (M.set n y) (C.set k (n, y)) := by
  have ne := o.ne k h
  refine ⟨o.t.fr (A := [n]) (Fr.set (by simp)) (by simp; exact fun z => ne.1 z.symm) (by simp; exact fun z => ne.2 z.symm), o.o.set k y h, ?_, ?_⟩
  · rw [adr_set h]; exact o.n1
  · rw [adr_set h]; exact o.n2
theorem Tn.ext (o : Tn M C) (f : Fr [] M M') : Tn M' C := ⟨o.t.fr f (by simp) (by simp), o.o.ext f, o.n1, o.n2⟩
theorem Tn.ext1 (o : Tn M C) (f : Fr [] M M') (hr : M.length ≤ r) (h : M'[r]? = some x) : Tn M' ((r, x) :: C) := by
  have l := o.len
  refine ⟨o.t.fr f (by simp) (by simp), o.o.ext1 f hr h, ?_, ?_⟩
  · rw [adr, List.map_cons, List.mem_cons]; rintro (z | z); simp only at z; omega; exact o.n1 z
  · rw [adr, List.map_cons, List.mem_cons]; rintro (z | z); simp only at z; omega; exact o.n2 z
theorem Tn.new (o : Tn M C) (x : MO) : Tn (M ++ [x]) ((M.length, x) :: C) := o.ext1 Fr.app (Nat.le_refl _) (by simp)
theorem Tn.sub (o : Tn M C) {B : List Cell} (h : B.Sublist C) : Tn M B := ⟨o.t, ⟨(h.map _).nodup o.o.nd, fun p hp => o.o.all p (h.subset hp)⟩, fun z => o.n1 ((h.map _).subset z), fun z => o.n2 ((h.map _).subset z)⟩
theorem Tn.swap (o : Tn M (A ++ B)) : Tn M (B ++ A) := o.perm List.perm_append_comm
theorem Tn.own (o : Tn M (A ++ F)) (h : ∀ G, Ow M (A ++ G) → Ow M' (B ++ G)) : Tn M' (B ++ F) := by
  obtain ⟨k, cells, e1, e2, e3, e4⟩ := o.t.ex
  have z : Ow M (A ++ ([(2, .lst [.ref 1, .int k]), (1, .lst (cells.map .int))] ++ F)) := by
    refine Ow.mid (Ow.app_of ⟨by simp, ?_⟩ o.o ?_)
    · intro p hp
      simp only [List.mem_cons, List.not_mem_nil, or_false] at hp
      rcases hp with rfl | rfl
      · exact e1
      · exact e2
    · intro n hn
      simp only [adr, List.map_cons, List.map_nil, List.mem_cons, List.not_mem_nil, or_false] at hn
      rcases hn with rfl | rfl
      · exact o.n2
      · exact o.n1
  have y := (h _ z).mid
  have d := y.dis
  exact ⟨⟨k, cells, y.get 0, y.get 1, e3, e4⟩, y.rr, d 1 (by simp), d 2 (by simp)⟩
end
section
variable {M : Mem} {n c i j : Nat} {fs : List (Nat × D)} {d v : D} {s : Sl}
@[simp] theorem sFldF_ap {fo fv : EF} : sFldF i fo fv s M = (fv s M).toS s fun v M1 => (fo s M1).toS s fun o M2 => match setFld M2 o i v with
  | some M3 => .nx s M3
  | none => .bad := rfl
@[simp] theorem dMeth_ap {S : List D → Mem → Res D} {gD : List D → List D → List D} {fo : EF} {fa : AF} {k : Nat} : dMeth c j k S gD fo fa s M = (fo s M).bind fun o M1 => gMeth c j k S gD o fa s M1 := rfl
@[simp] theorem dMake_ap {S : List D → Mem → Res D} {gD : List D → List D → List D} {fa fk : AF} {k m : Nat} : dMake c k m S gD fa fk s M = (fa s M).bind fun xs M1 => (fk s M1).bind fun zs M2 => lenIs k xs (lenIs m zs (gMake c S gD xs zs M2)) := rfl
@[simp] theorem dNewK_ap : dNewK s M = .ok (.ref M.length) (M ++ [.dk []]) := rfl
@[simp] theorem dNewT_ap : dNewT s M = .ok (.ref M.length) (M ++ [.dt []]) := rfl
end
section
variable {M : Mem} {n : Nat} {s : Sl} {d k : D} {fo fk fx : EF}
@[simp] theorem dGet1_ap : dGet1 fo fk s M = (fo s M).bind fun o M1 => match isDictD M1 o with
  | true => (fk s M1).bind fun k M2 => (match lookD M2 o k with
    | some (some d) => .ok d M2
    | some none => .ok .non M2
    | none => .bad)
  | false => .bad := rfl
@[simp] theorem dGet2_ap : dGet2 fo fk fx s M = (fo s M).bind fun o M1 => match isDictD M1 o with
  | true => (fk s M1).bind fun k M2 => (fx s M2).bind fun x M3 => (match lookD M3 o k with
    | some (some d) => .ok d M3
    | some none => .ok x M3
    | none => .bad)
  | false => .bad := rfl
@[simp] theorem dSetd_ap : dSetd fo fk fx s M = (fo s M).bind fun o M1 => match isDictD M1 o with
  | true => (fk s M1).bind fun k M2 => (fx s M2).bind fun x M3 => (match lookD M3 o k with
    | some (some d) => .ok d M3
    | some none => (match setIx M3 o k x with
      | some M4 => .ok x M4
      | none => .bad)
    | none => .bad)
  | false => .bad := rfl
end
theorem gMul_eq (M : Mem) (m : Nat) (k : Int) : gMul (.ref m) (.int k) M = (match listAt M m with
    | some xs => match decide (-(2 ^ 63) ≤ k ∧ k < 2 ^ 63 ∧ xs.length * k.toNat ≤ sizeLine) with
      | true => .ok (.ref M.length) (M ++ [.lst (List.replicate k.toNat xs).flatten])
      | false => .bad
    | none => .bad) := rfl
end Fl
namespace Fl
open PySem
open L2 (Key)
section
variable {α : List Nat} {m M : Mem}
theorem okB_r (r : MR α m M) {o O : Option Bool} (h : ∀ b, o = some b → O = some b) : RR Dr α m M (okB m o) (okB M O) := by
  cases o with
  | none => trivial
  | some b => rw [h b rfl]; exact .ok r dr_bl
theorem okD_r (r : MR α m M) {o O : Option D} (h : ODr α o O) : RR Dr α m M (okD m o) (okD M O) := by
  cases o with
  | none => trivial
  | some b => obtain ⟨v, rfl, h2⟩ := h; exact .ok r h2
theorem newL_r (r : MR α m M) {ds Ds : List D} (h : Drs α ds Ds) : RR Dr α m M (newL m ds) (newL M Ds) := by
  unfold newL
  rw [← h.length]
  cases decide (ds.length ≤ sizeLine) with
  | true => exact .new r ⟨_, rfl, h⟩
  | false => trivial
end
instance : Eq2 gAdd := ⟨fun {α m M x X y Y} r hx hy => by
  cases x with
  | int i =>
    rw [hx.int]
    cases y with
    | int j => rw [hy.int]; exact .ok r dr_int
    | _ => trivial
  | str i =>
    rw [hx.str]
    cases y with
    | str j =>
      rw [hy.str]
      show RR Dr α m M (match decide (i.length + j.length ≤ sizeLine) with | true => .ok (.str (i ++ j)) m | false => .bad) (match decide (i.length + j.length ≤ sizeLine) with | true => .ok (.str (i ++ j)) M | false => .bad)
      cases decide (i.length + j.length ≤ sizeLine) with
      | true => exact .ok r dr_str
      | false => trivial
    | _ => trivial
  | tup xs =>
    obtain ⟨Xs, rfl, h1⟩ := hx.tup
    cases y with
    | tup ys =>
      obtain ⟨Ys, rfl, h2⟩ := hy.tup
      rw [gAdd_tup, gAdd_tup, ← h1.length, ← h2.length]
      cases decide (xs.length + ys.length ≤ sizeLine) with
      | true => exact .ok r (dr_tup (h1.append h2))
      | false => trivial
    | _ => trivial
  | ref a =>
    obtain ⟨A, ha, rfl⟩ := hx.ref
    cases y with
    | ref b =>
      obtain ⟨B, hb, rfl⟩ := hy.ref
      rw [gAdd_ref, gAdd_ref]
      cases q : listAt m a with
      | none => trivial
      | some xs =>
        obtain ⟨Xs, e1, h1, _⟩ := listAt_r r q ha
        rw [e1]
        cases q2 : listAt m b with
        | none => trivial
        | some ys =>
          obtain ⟨Ys, e2, h2, _⟩ := listAt_r r q2 hb
          rw [e2]
          exact newL_r r (h1.append h2)
    | _ => trivial
  | _ => trivial⟩
instance : Eq2 gIAdd := ⟨fun {α m M x X y Y} r hx hy => by
  cases x with
  | int i =>
    rw [hx.int]
    cases y with
    | int j => rw [hy.int]; exact .ok r dr_int
    | _ => trivial
  | _ => trivial⟩
instance : Eq2 gSub := ⟨fun {α m M x X y Y} r hx hy => by
  cases x with
  | int i =>
    rw [hx.int]
    cases y with
    | int j => rw [hy.int]; exact .ok r dr_int
    | _ => trivial
  | _ => trivial⟩
instance : Eq2 gMul := ⟨fun {α m M x X y Y} r hx hy => by
  cases x with
  | int i =>
    rw [hx.int]
    cases y with
    | int j =>
      rw [hy.int]
      unfold gMul
      dsimp only
      cases decide ((-(2 ^ 64) < i ∧ i < 2 ^ 64) ∨ (-(2 ^ 64) < j ∧ j < 2 ^ 64)) with
      | true => exact .ok r dr_int
      | false => trivial
    | _ => trivial
  | ref a =>
    obtain ⟨A, ha, rfl⟩ := hx.ref
    cases y with
    | int k =>
      rw [hy.int, gMul_eq, gMul_eq]
      cases q : listAt m a with
      | none => trivial
      | some xs =>
        obtain ⟨Xs, e1, h1, _⟩ := listAt_r r q ha
        rw [e1]
        dsimp only
        rw [← h1.length]
        cases decide (-(2 ^ 63) ≤ k ∧ k < 2 ^ 63 ∧ xs.length * k.toNat ≤ sizeLine) with
        | true => exact .new r ⟨_, rfl, h1.rep _⟩
        | false => trivial
    | _ => trivial
  | tup xs =>
    obtain ⟨Xs, rfl, h1⟩ := hx.tup
    cases y with
    | int k =>
      rw [hy.int]
      have hn : (xs ≠ []) ↔ (Xs ≠ []) := by rw [← List.length_pos_iff, ← List.length_pos_iff, h1.length]
      show RR Dr α m M (match decide (xs ≠ [] ∧ 2 ≤ k ∧ k ≤ 1000 ∧ xs.length ≤ 1000) with | true => .ok (.tup (List.replicate k.toNat xs).flatten) m | false => .bad) (match decide (Xs ≠ [] ∧ 2 ≤ k ∧ k ≤ 1000 ∧ Xs.length ≤ 1000) with | true => .ok (.tup (List.replicate k.toNat Xs).flatten) M | false => .bad)
      have e : decide (Xs ≠ [] ∧ 2 ≤ k ∧ k ≤ 1000 ∧ Xs.length ≤ 1000) = decide (xs ≠ [] ∧ 2 ≤ k ∧ k ≤ 1000 ∧ xs.length ≤ 1000) := by rw [decide_eq_decide, hn, h1.length]
      rw [e]
      cases decide (xs ≠ [] ∧ 2 ≤ k ∧ k ≤ 1000 ∧ xs.length ≤ 1000) with
      | true => exact .ok r (dr_tup (h1.rep _))
      | false => trivial
    | _ => trivial
  | _ => trivial⟩
instance : Eq2 gMulX := ⟨fun {α m M x X y Y} r hx hy => by
  cases x with
  | tup xs =>
    obtain ⟨Xs, rfl, h1⟩ := hx.tup
    cases y with
    | int k =>
      have z := Eq2.h (g := gMul) r (dr_tup h1) hy
      rw [hy.int] at z ⊢
      unfold gMulX
      dsimp only
      cases decide (k = 1) with
      | true => exact .ok r (dr_tup h1)
      | false => exact z
    | _ => trivial
  | int i => have z := Eq2.h (g := gMul) r hx hy; rw [hx.int] at z ⊢; exact z
  | ref a => have z := Eq2.h (g := gMul) r hx hy; obtain ⟨A, ha, rfl⟩ := hx.ref; exact z
  | _ => trivial⟩
instance : Eq2 gDiv := ⟨fun {α m M x X y Y} r hx hy => by
  cases x with
  | int i =>
    rw [hx.int]
    cases y with
    | int j =>
      rw [hy.int]
      unfold gDiv
      dsimp only
      cases decide (0 < j ∧ j < 1073741824) with
      | true => exact .ok r dr_int
      | false => trivial
    | _ => trivial
  | _ => trivial⟩
instance : Eq2 gMod := ⟨fun {α m M x X y Y} r hx hy => by
  cases x with
  | int i =>
    rw [hx.int]
    cases y with
    | int j =>
      rw [hy.int]
      unfold gMod
      dsimp only
      cases decide (0 < j) with
      | true => exact .ok r dr_int
      | false => trivial
    | _ => trivial
  | _ => trivial⟩
instance : Eq2 gPow := ⟨fun {α m M x X y Y} r hx hy => by
  cases x with
  | int i =>
    rw [hx.int]
    cases y with
    | int j =>
      rw [hy.int]
      unfold gPow
      dsimp only
      cases decide (0 ≤ j ∧ j ≤ 1000000 ∧ i.natAbs < 2 ^ 64) with
      | true => exact .ok r dr_int
      | false => trivial
    | _ => trivial
  | _ => trivial⟩
instance : Eq2 gLt := ⟨fun {α m M x X y Y} r hx hy => by
  cases x with
  | int i =>
    rw [hx.int]
    cases y with
    | int j => rw [hy.int]; exact .ok r dr_bl
    | _ => trivial
  | _ => trivial⟩
instance : Eq2 gLe := ⟨fun {α m M x X y Y} r hx hy => by
  cases x with
  | int i =>
    rw [hx.int]
    cases y with
    | int j => rw [hy.int]; exact .ok r dr_bl
    | _ => trivial
  | _ => trivial⟩
instance : Eq2 gGt := ⟨fun {α m M x X y Y} r hx hy => by
  cases x with
  | int i =>
    rw [hx.int]
    cases y with
    | int j => rw [hy.int]; exact .ok r dr_bl
    | _ => trivial
  | _ => trivial⟩
instance : Eq2 gGe := ⟨fun {α m M x X y Y} r hx hy => by
  cases x with
  | int i =>
    rw [hx.int]
    cases y with
    | int j => rw [hy.int]; exact .ok r dr_bl
    | _ => trivial
  | _ => trivial⟩
instance : Eq2 gEq := ⟨fun {α m M x X y Y} r hx hy => okB_r r fun b e => pyEq_r r hx hy e⟩
instance : Eq2 gNe := ⟨fun {α m M x X y Y} r hx hy => okB_r r fun b e => by
  cases q : pyEq m x y with
  | none => rw [q] at e; cases e
  | some c => rw [q] at e; rw [pyEq_r r hx hy q]; exact e⟩
instance : Eq2 gIn := ⟨fun {α m M x X y Y} r hx hy => okB_r r fun b e => inB_r r hx hy e⟩
instance : Eq2 gNotIn := ⟨fun {α m M x X y Y} r hx hy => okB_r r fun b e => by
  cases q : inB m x y with
  | none => rw [q] at e; cases e
  | some c => rw [q] at e; rw [inB_r r hx hy q]; exact e⟩
theorem dr_nonness {α : List Nat} {x X : D} (h : Dr α x X) : isNonD X = isNonD x := by
  cases x with
  | non => rw [h.non]
  | bl b => rw [h.bl]
  | int b => rw [h.int]
  | str b => rw [h.str]
  | tup _ => obtain ⟨_, rfl, _⟩ := h.tup; rfl
  | rol _ => obtain ⟨_, rfl, _⟩ := h.rol; rfl
  | ref _ => obtain ⟨_, _, rfl⟩ := h.ref; rfl
instance : Eq2 gIs := ⟨fun {α m M x X y Y} r hx hy => by
  cases y with
  | non =>
    rw [hy.non]
    have z := dr_nonness hx
    cases x <;> cases X <;> first | (cases z; done) | exact .ok r dr_bl
  | bl b =>
    rw [hy.bl]
    cases x with
    | bl a => rw [hx.bl]; exact .ok r dr_bl
    | _ => trivial
  | _ => cases x <;> trivial⟩
instance : Eq2 gIsNot := ⟨fun {α m M x X y Y} r hx hy => by
  cases y with
  | non =>
    rw [hy.non]
    have z := dr_nonness hx
    cases x <;> cases X <;> first | (cases z; done) | exact .ok r dr_bl
  | bl b =>
    rw [hy.bl]
    cases x with
    | bl a => rw [hx.bl]; exact .ok r dr_bl
    | _ => trivial
  | _ => cases x <;> trivial⟩
instance : Eq2 gIx := ⟨fun {α m M x X y Y} r hx hy => by
  unfold gIx
  cases x with
  | tup ds =>
    obtain ⟨Ds, rfl, hd⟩ := hx.tup
    cases y with
    | int i => rw [hy.int]; exact okD_r r (itemAt_r hd i)
    | _ => trivial
  | rol ds =>
    obtain ⟨Ds, rfl, hd⟩ := hx.rol
    cases y with
    | int i => rw [hy.int]; exact okD_r r (itemAt_r hd i)
    | _ => trivial
  | str z =>
    rw [hx.str]
    cases y with
    | int i =>
      rw [hy.int]
      dsimp only
      cases decide (z.length ≤ sizeLine) with
      | false => trivial
      | true =>
        cases L2.atI z.cps.toList i with
        | none => trivial
        | some c => exact .ok r dr_str
    | _ => trivial
  | ref n =>
    obtain ⟨a, ha, rfl⟩ := hx.ref
    dsimp only
    cases q : listAt m n with
    | some ds =>
      obtain ⟨Ds, h1, h2, _⟩ := listAt_r r q ha
      rw [h1]
      cases y with
      | int i => rw [hy.int]; exact okD_r r (itemAt_r h2 i)
      | _ => trivial
    | none =>
      cases q2 : dictLook m n y with
      | none => trivial
      | some o =>
        obtain ⟨O, h1, h2, h3⟩ := dictLook_r r q2 ha hy
        rw [h3, h1]
        cases o with
        | none => trivial
        | some d => obtain ⟨u, rfl, h4⟩ := h2; exact .ok r h4
  | _ => trivial⟩
instance : Eq1 gNeg := ⟨fun {α m M x X} r hx => by
  cases x with
  | int i => rw [hx.int]; exact .ok r dr_int
  | _ => trivial⟩
instance {i : Nat} : Eq1 (gFld i) := ⟨fun {α m M x X} r hx => by
  unfold gFld
  cases q : insAt m x with
  | none => trivial
  | some t =>
    obtain ⟨n, c, fs⟩ := t
    obtain ⟨a, Fs, h1, h2, h3, h4⟩ := insAt_r r hx q
    rw [h1]
    exact okD_r r (look_r h4 i)⟩
instance {tab : TyK → Option Bool} [TabH tab] : Eq1 (gIsi tab) := ⟨fun {α m M x X} r hx => okB_r r fun b e => by
  cases q : tyK m x with
  | none => rw [q] at e; cases e
  | some k =>
    rw [q] at e
    have e : tab k = some b := e
    have n : k ≠ .exc 1000 := fun z => by rw [z, TabH.h (tab := tab)] at e; cases e
    rw [tyK_r r hx q n]
    exact e⟩
instance : TabH tabInt := ⟨rfl⟩
instance : TabH tabBool := ⟨rfl⟩
instance : TabH tabStr := ⟨rfl⟩
instance : TabH tabTup := ⟨rfl⟩
instance : TabH tabLst := ⟨rfl⟩
instance : TabH tabLT := ⟨rfl⟩
instance : TabH tabVE := ⟨rfl⟩
instance {d : Nat} : TabH (tabX d) := ⟨rfl⟩
instance {d : Nat} : TabH (tabW d) := ⟨rfl⟩
instance : Eq1 gRev := ⟨fun {α m M x X} r hx => by
  unfold gRev
  cases q : tyLst x m with
  | false => trivial
  | true =>
    cases q2 : seqOf m x with
    | none => trivial
    | some ds =>
      obtain ⟨Ds, h1, h2⟩ := seqOf_r r hx q2
      have q3 : tyLst X M = true := by
        cases x with
        | ref n =>
          obtain ⟨a, ha, rfl⟩ := hx.ref
          have h1 : listAt M a = some Ds := h1
          show (listAt M a).isSome = true
          rw [h1]; rfl
        | rol ds => obtain ⟨Ds, rfl, _⟩ := hx.rol; rfl
        | _ => cases q
      rw [h1, q3]
      exact .new r ⟨_, rfl, h2.reverse⟩⟩
instance : Eq1 gRevT := ⟨fun {α m M x X} r hx => by
  cases x with
  | tup ds =>
    obtain ⟨Ds, rfl, hd⟩ := hx.tup
    cases ds with
    | nil => trivial
    | cons d ds =>
      obtain ⟨v, vs, rfl, _, _⟩ := hd.cons_inv
      exact .ok r (dr_tup hd.reverse)
  | _ => trivial⟩
instance : EqD gLen := ⟨fun {α m M x X} r hx => by
  cases x with
  | nil => trivial
  | cons d ds =>
    obtain ⟨v, vs, rfl, h1, h2⟩ := hx.cons_inv
    cases ds with
    | cons _ _ => cases d <;> trivial
    | nil =>
      have := h2.nil_inv
      subst this
      have key : (∀ z, d ≠ .str z) → (∀ z, v ≠ .str z) → RR Dr α m M (gLen [d] m) (gLen [v] M) := fun n1 n2 => by
        have e : ∀ (d : D) (m : Mem), (∀ z, d ≠ .str z) → gLen [d] m = (match seqOf m d with | some ds => .ok (.int ds.length) m | none => .bad) := fun d m n => by
          cases d <;> first | exact absurd rfl (n _) | rfl
        rw [e d m n1, e v M n2]
        cases q : seqOf m d with
        | none => trivial
        | some ds =>
          obtain ⟨Ds, h3, h4⟩ := seqOf_r r h1 q
          rw [h3]
          dsimp only
          rw [h4.length]
          exact .ok r dr_int
      cases d with
      | str z =>
        rw [h1.str]
        unfold gLen
        dsimp only
        cases decide (z.length ≤ sizeLine) with
        | true => exact .ok r dr_int
        | false => trivial
      | ref n => obtain ⟨a, ha, rfl⟩ := h1.ref; exact key (fun _ z => nomatch z) (fun _ z => nomatch z)
      | tup n => obtain ⟨a, rfl, _⟩ := h1.tup; exact key (fun _ z => nomatch z) (fun _ z => nomatch z)
      | rol n => obtain ⟨a, rfl, _⟩ := h1.rol; exact key (fun _ z => nomatch z) (fun _ z => nomatch z)
      | _ => trivial⟩
theorem one_r {α : List Nat} {m M : Mem} {g : List D → Mem → Res D} (h0 : ∀ m, g [] m = .bad) (h2 : ∀ d e r m, g (d :: e :: r) m = .bad) (h1 : ∀ d v, Dr α d v → RR Dr α m M (g [d] m) (g [v] M)) {ds Ds : List D} (h : Drs α ds Ds) : RR Dr α m M (g ds m) (g Ds M) := by
  match ds, h with
  | [], _ => rw [h0]; trivial
  | [d], h =>
    obtain ⟨v, vs, rfl, h3, h4⟩ := h.cons_inv
    have := h4.nil_inv
    subst this
    exact h1 _ _ h3
  | d :: e :: r, _ => rw [h2]; trivial
instance : EqD gList := ⟨fun {α m M x X} r hx => one_r (g := gList) (fun _ => rfl) (fun _ _ _ _ => rfl) (fun d v h1 => by
  show RR Dr α m M (match seqOf m d with | some ds => .ok (.ref m.length) (m ++ [.lst ds]) | none => .bad) (match seqOf M v with | some ds => .ok (.ref M.length) (M ++ [.lst ds]) | none => .bad)
  cases q : seqOf m d with
  | none => trivial
  | some ds =>
    obtain ⟨Ds, h3, h4⟩ := seqOf_r r h1 q
    rw [h3]
    exact .new r ⟨_, rfl, h4⟩) hx⟩
instance : EqD gTuple := ⟨fun {α m M x X} r hx => one_r (g := gTuple) (fun _ => rfl) (fun d _ _ _ => by cases d <;> rfl) (fun d v h1 => by
  cases d with
  | tup ds => obtain ⟨Ds, rfl, hd⟩ := h1.tup; exact .ok r (dr_tup hd)
  | ref n =>
    obtain ⟨a, ha, rfl⟩ := h1.ref
    rw [gTuple_ref, gTuple_ref]
    cases q : listAt m n with
    | none => trivial
    | some ds =>
      obtain ⟨Ds, h3, h4, _⟩ := listAt_r r q ha
      rw [h3]
      exact .ok r (dr_tup h4)
  | _ => trivial) hx⟩
instance : EqD gSum := ⟨fun {α m M x X} r hx => one_r (g := gSum) (fun _ => rfl) (fun d _ _ _ => by cases d <;> rfl) (fun d v h1 => by
  cases d with
  | ref n =>
    obtain ⟨a, ha, rfl⟩ := h1.ref
    rw [gSum_ref, gSum_ref]
    cases q : listAt m n with
    | none => trivial
    | some ds =>
      obtain ⟨Ds, h3, h4, _⟩ := listAt_r r q ha
      rw [h3]
      dsimp only
      cases q2 : intsOf ds with
      | none => trivial
      | some ns => rw [intsOf_r h4 q2]; exact .ok r dr_int
  | _ => trivial) hx⟩
instance : EqD gAll := ⟨fun {α m M x X} r hx => one_r (g := gAll) (fun _ => rfl) (fun d _ _ _ => by cases d <;> rfl) (fun d v h1 => by
  cases d with
  | ref n =>
    obtain ⟨a, ha, rfl⟩ := h1.ref
    rw [gAll_ref, gAll_ref]
    cases q : listAt m n with
    | none => trivial
    | some ds =>
      obtain ⟨Ds, h3, h4, _⟩ := listAt_r r q ha
      rw [h3]
      dsimp only
      cases q2 : blsOf ds with
      | none => trivial
      | some ns => rw [blsOf_r h4 q2]; exact .ok r dr_bl
  | _ => trivial) hx⟩
instance : EqD gAny := ⟨fun {α m M x X} r hx => one_r (g := gAny) (fun _ => rfl) (fun d _ _ _ => by cases d <;> rfl) (fun d v h1 => by
  cases d with
  | ref n =>
    obtain ⟨a, ha, rfl⟩ := h1.ref
    rw [gAny_ref, gAny_ref]
    cases q : listAt m n with
    | none => trivial
    | some ds =>
      obtain ⟨Ds, h3, h4, _⟩ := listAt_r r q ha
      rw [h3]
      dsimp only
      cases q2 : blsOf ds with
      | none => trivial
      | some ns => rw [blsOf_r h4 q2]; exact .ok r dr_bl
  | _ => trivial) hx⟩
theorem two_r {α : List Nat} {m M : Mem} {g : List D → Mem → Res D} (h0 : ∀ m, g [] m = .bad) (h3 : ∀ d e f r m, g (d :: e :: f :: r) m = .bad) (h1 : ∀ d v, Dr α d v → RR Dr α m M (g [d] m) (g [v] M)) (h2 : ∀ d v e w, Dr α d v → Dr α e w → RR Dr α m M (g [d, e] m) (g [v, w] M)) {ds Ds : List D} (h : Drs α ds Ds) : RR Dr α m M (g ds m) (g Ds M) := by
  match ds, h with
  | [], _ => rw [h0]; trivial
  | [d], h =>
    obtain ⟨v, vs, rfl, h3, h4⟩ := h.cons_inv
    have := h4.nil_inv
    subst this
    exact h1 _ _ h3
  | [d, e], h =>
    obtain ⟨v, vs, rfl, h3, h4⟩ := h.cons_inv
    obtain ⟨w, ws, rfl, h5, h6⟩ := h4.cons_inv
    have := h6.nil_inv
    subst this
    exact h2 _ _ _ _ h3 h5
  | d :: e :: f :: r, _ => rw [h3]; trivial
theorem gMax_ref {n : Nat} {M : Mem} : gMax [.ref n] M = (match listAt M n with
    | some ds => (match intsOf ds with
      | some (m :: ns) => .ok (.int (maxI m ns)) M
      | _ => .bad)
    | none => .bad) := rfl
theorem gMin_ref {n : Nat} {M : Mem} : gMin [.ref n] M = (match listAt M n with
    | some ds => (match intsOf ds with
      | some (m :: ns) => .ok (.int (minI m ns)) M
      | _ => .bad)
    | none => .bad) := rfl
instance : EqD gMax := ⟨fun {α m M x X} r hx => two_r (g := gMax) (fun _ => rfl) (fun d e _ _ _ => by cases d <;> first | rfl | (cases e <;> rfl)) (fun d v h1 => by
  cases d with
  | ref n =>
    obtain ⟨a, ha, rfl⟩ := h1.ref
    rw [gMax_ref, gMax_ref]
    cases q : listAt m n with
    | none => trivial
    | some ds =>
      obtain ⟨Ds, h3, h4, _⟩ := listAt_r r q ha
      rw [h3]
      dsimp only
      cases q2 : intsOf ds with
      | none => trivial
      | some ns =>
        rw [intsOf_r h4 q2]
        cases ns with
        | nil => trivial
        | cons _ _ => exact .ok r dr_int
  | _ => trivial) (fun d v e w h1 h2 => by
  cases d with
  | int i =>
    rw [h1.int]
    cases e with
    | int j => rw [h2.int]; exact .ok r dr_int
    | _ => trivial
  | _ => trivial) hx⟩
instance : EqD gMin := ⟨fun {α m M x X} r hx => two_r (g := gMin) (fun _ => rfl) (fun d e _ _ _ => by cases d <;> first | rfl | (cases e <;> rfl)) (fun d v h1 => by
  cases d with
  | ref n =>
    obtain ⟨a, ha, rfl⟩ := h1.ref
    rw [gMin_ref, gMin_ref]
    cases q : listAt m n with
    | none => trivial
    | some ds =>
      obtain ⟨Ds, h3, h4, _⟩ := listAt_r r q ha
      rw [h3]
      dsimp only
      cases q2 : intsOf ds with
      | none => trivial
      | some ns =>
        rw [intsOf_r h4 q2]
        cases ns with
        | nil => trivial
        | cons _ _ => exact .ok r dr_int
  | _ => trivial) (fun d v e w h1 h2 => by
  cases d with
  | int i =>
    rw [h1.int]
    cases e with
    | int j => rw [h2.int]; exact .ok r dr_int
    | _ => trivial
  | _ => trivial) hx⟩
instance : EqD gSorted := ⟨fun {α m M x X} r hx => one_r (g := gSorted) (fun _ => rfl) (fun d _ _ _ => by cases d <;> rfl) (fun d v h1 => by
  unfold gSorted
  dsimp only
  cases q : lstOf m d with
  | some ds =>
    obtain ⟨Ds, h3, h4⟩ := lstOf_r r h1 q
    rw [h3]
    dsimp only
    cases q2 : allSome (toPy m 8) ds with
    | none => trivial
    | some ps =>
      rw [toPys_r r h4 q2]
      dsimp only
      rw [← h4.length]
      cases sortOkB ps <;> cases decide (ds.length ≤ sizeLine) <;> first | trivial | exact .new r ⟨_, rfl, sortP_r h4⟩
  | none =>
    cases d with
    | ref n =>
      obtain ⟨a, ha, rfl⟩ := h1.ref
      dsimp only
      cases q2 : m[n]? with
      | none => trivial
      | some o =>
        obtain ⟨O, h3, h4⟩ := r.at q2 ha
        cases o with
        | dk ks =>
          obtain ⟨Ks, rfl, hK⟩ := h4
          have e : lstOf M (.ref a) = none := by show listAt M a = none; unfold listAt; rw [h3]
          have e2 : (Ks.map fun kv => kD kv.1) = ks.map fun kv => kD kv.1 := by
            have z := congrArg (fun l => l.map kD) hK.keys
            rw [List.map_map, List.map_map] at z
            exact z
          rw [e, h3]
          dsimp only
          rw [e2]
          cases intsOf (ks.map fun kv => kD kv.1) with
          | none => trivial
          | some ns =>
            dsimp only
            cases decide (ns.length < 64) with
            | true => exact .new r ⟨_, rfl, drs_ints⟩
            | false => trivial
        | fk ks =>
          obtain ⟨Ks, rfl, hK⟩ := h4
          have e : lstOf M (.ref a) = none := by show listAt M a = none; unfold listAt; rw [h3]
          have e2 : (Ks.map fun kv => kD kv.1) = ks.map fun kv => kD kv.1 := by
            have z := congrArg (fun l => l.map kD) hK.keys
            rw [List.map_map, List.map_map] at z
            exact z
          rw [e, h3]
          dsimp only
          rw [e2]
          cases intsOf (ks.map fun kv => kD kv.1) with
          | none => trivial
          | some ns =>
            dsimp only
            cases decide (ns.length < 64) with
            | true => exact .new r ⟨_, rfl, drs_ints⟩
            | false => trivial
        | _ => trivial
    | _ => trivial) hx⟩
instance : EqTy tyLst := ⟨fun {α m M x X} r hx h => by
  cases x with
  | ref n =>
    obtain ⟨a, ha, rfl⟩ := hx.ref
    unfold tyLst at h ⊢
    dsimp only at h ⊢
    cases q : listAt m n with
    | none => rw [q] at h; cases h
    | some ds => obtain ⟨Ds, h3, h4, _⟩ := listAt_r r q ha; rw [h3]; rfl
  | rol ds => obtain ⟨Ds, rfl, _⟩ := hx.rol; rfl
  | _ => cases h⟩
instance {ty : D → Mem → Bool} {g : D → List D → Mem → Res D} {o : EF} {a : AF} [EqTy ty] [EqM g] [EqE o] [EqA a] : EqE (dBm ty g o a) := ⟨fun r sl => (EqE.h r sl).bind r fun x X α1 m1 M1 e1 h1 => by
  cases q : ty x m1 with
  | false => trivial
  | true =>
    rw [EqTy.h e1.mr h1 q]
    exact (EqA.h e1.mr (sl.up e1.pre)).bind e1.mr fun y Y α2 m2 M2 e2 h2 => EqM.h e2.mr (h1.up e2.pre) h2⟩
instance : EqM gAppend := ⟨fun {α m M d D ds Ds} r hx hy => by
  cases d with
  | ref n =>
    obtain ⟨a, ha, rfl⟩ := hx.ref
    match ds, hy with
    | [], _ => trivial
    | [y], hy =>
      obtain ⟨Y, _, rfl, h1, h2⟩ := hy.cons_inv
      have := h2.nil_inv
      subst this
      unfold gAppend
      dsimp only
      cases q : listAt m n with
      | none => trivial
      | some xs =>
        obtain ⟨Xs, h3, h4, h5⟩ := listAt_r r q ha
        rw [h3]
        dsimp only
        rw [← h4.length]
        cases decide (xs.length < sizeLine) with
        | true => exact ⟨_, _, _, rfl, (Ext.refl r).set r ha h5 lst_ne ⟨_, rfl, h4.append (drs_cons h1 drs_nil)⟩, dr_non⟩
        | false => trivial
    | x :: y :: r, hy => first | trivial | (cases x <;> trivial)
  | _ => cases ds <;> trivial⟩
instance : EqM gPopAt := ⟨fun {α m M d D ds Ds} r hx hy => by
  cases d with
  | ref n =>
    obtain ⟨a, ha, rfl⟩ := hx.ref
    match ds, hy with
    | [], _ => trivial
    | [y], hy =>
      obtain ⟨Y, _, rfl, h1, h2⟩ := hy.cons_inv
      have := h2.nil_inv
      subst this
      cases y with
      | int i =>
        rw [h1.int]
        unfold gPopAt
        dsimp only
        cases q : listAt m n with
        | none => trivial
        | some xs =>
          obtain ⟨Xs, h3, h4, h5⟩ := listAt_r r q ha
          rw [h3]
          dsimp only
          rw [← h4.length]
          cases ixF xs.length i with
          | none => trivial
          | some j =>
            dsimp only
            cases q2 : xs[j]? with
            | none => trivial
            | some z =>
              obtain ⟨Z, h6, h7⟩ := h4.at q2
              rw [h6]
              exact ⟨_, _, _, rfl, (Ext.refl r).set r ha h5 lst_ne ⟨_, rfl, h4.erase j⟩, h7⟩
      | _ => trivial
    | x :: y :: r, hy => first | trivial | (cases x <;> trivial)
  | _ => cases ds <;> trivial⟩
instance : EqM gInsert := ⟨fun {α m M d D ds Ds} r hx hy => by
  cases d with
  | ref n =>
    obtain ⟨a, ha, rfl⟩ := hx.ref
    match ds, hy with
    | [], _ => trivial
    | [x], _ => cases x <;> trivial
    | [x, y], hy =>
      obtain ⟨X, _, rfl, h0, h2⟩ := hy.cons_inv
      obtain ⟨Y, _, rfl, h1, h2⟩ := h2.cons_inv
      have := h2.nil_inv
      subst this
      cases x with
      | int i =>
        rw [h0.int]
        unfold gInsert
        dsimp only
        cases q : listAt m n with
        | none => trivial
        | some xs =>
          obtain ⟨Xs, h3, h4, h5⟩ := listAt_r r q ha
          rw [h3]
          dsimp only
          rw [← h4.length]
          cases decide (xs.length < sizeLine ∧ 0 ≤ i ∧ i < 1073741824) with
          | true => exact ⟨_, _, _, rfl, (Ext.refl r).set r ha h5 lst_ne ⟨_, rfl, ((h4.take _).append (drs_cons h1 drs_nil)).append (h4.drop _)⟩, dr_non⟩
          | false => trivial
      | _ => trivial
    | x :: _ :: _ :: _, _ => cases x <;> trivial
  | _ => cases ds <;> trivial⟩
instance : EqM gRemove := ⟨fun {α m M d D ds Ds} r hx hy => by
  cases d with
  | ref n =>
    obtain ⟨a, ha, rfl⟩ := hx.ref
    match ds, hy with
    | [], _ => trivial
    | [y], hy =>
      obtain ⟨Y, _, rfl, h1, h2⟩ := hy.cons_inv
      have := h2.nil_inv
      subst this
      unfold gRemove
      dsimp only
      cases q : listAt m n with
      | none => trivial
      | some xs =>
        obtain ⟨Xs, h3, h4, h5⟩ := listAt_r r q ha
        rw [h3]
        dsimp only
        cases q2 : twoPy m y xs with
        | none => trivial
        | some z =>
          obtain ⟨p, ps⟩ := z
          rw [twoPy_r r h1 h4 q2]
          dsimp only
          cases findAt ps p with
          | none => trivial
          | some j => exact ⟨_, _, _, rfl, (Ext.refl r).set r ha h5 lst_ne ⟨_, rfl, h4.erase j⟩, dr_non⟩
    | x :: y :: r, hy => first | trivial | (cases x <;> trivial)
  | _ => cases ds <;> trivial⟩
instance : EqM gIndex := ⟨fun {α m M d D ds Ds} r hx hy => by
  unfold gIndex
  cases q : seqOf m d with
  | none => trivial
  | some xs =>
    obtain ⟨Xs, h3, h4⟩ := seqOf_r r hx q
    rw [h3]
    match ds, hy with
    | [], _ => trivial
    | [y], hy =>
      obtain ⟨Y, _, rfl, h1, h2⟩ := hy.cons_inv
      have := h2.nil_inv
      subst this
      dsimp only
      cases q2 : twoPy m y xs with
      | none => trivial
      | some z =>
        obtain ⟨p, ps⟩ := z
        rw [twoPy_r r h1 h4 q2]
        dsimp only
        cases findAt ps p with
        | none => trivial
        | some j => exact .ok r dr_int
    | _ :: _ :: _, _ => trivial⟩
instance : EqM gCount := ⟨fun {α m M d D ds Ds} r hx hy => by
  unfold gCount
  cases q : seqOf m d with
  | none => trivial
  | some xs =>
    obtain ⟨Xs, h3, h4⟩ := seqOf_r r hx q
    rw [h3]
    match ds, hy with
    | [], _ => trivial
    | [y], hy =>
      obtain ⟨Y, _, rfl, h1, h2⟩ := hy.cons_inv
      have := h2.nil_inv
      subst this
      dsimp only
      cases q2 : twoPy m y xs with
      | none => trivial
      | some z =>
        obtain ⟨p, ps⟩ := z
        rw [twoPy_r r h1 h4 q2]
        exact .ok r dr_int
    | _ :: _ :: _, _ => trivial⟩
instance {g : D → List D → Mem → Res D} [EqM g] : EqM (onLst g) := ⟨fun {α m M d D ds Ds} r hx hy => by
  unfold onLst
  cases q : tyLst d m with
  | false => trivial
  | true =>
    rw [EqTy.h (ty := tyLst) r hx q]
    exact EqM.h r hx hy⟩
instance {o k : EF} [EqE o] [EqE k] : EqE (dGet1 o k) := ⟨fun r sl => (EqE.h r sl).bind r fun x X α1 m1 M1 e1 h1 => by
  cases q : isDictD m1 x with
  | false => trivial
  | true =>
    rw [isDictD_r e1.mr h1 q]
    refine (EqE.h e1.mr (sl.up e1.pre)).bind e1.mr fun y Y α2 m2 M2 e2 h2 => ?_
    cases q2 : lookD m2 x y with
    | none => trivial
    | some o =>
      obtain ⟨O, h3, h4⟩ := lookD_r e2.mr (h1.up e2.pre) h2 q2
      rw [h3]
      cases o with
      | none => have h4 : O = none := h4; subst h4; exact .ok e2.mr dr_non
      | some d => obtain ⟨u, rfl, h5⟩ := h4; exact .ok e2.mr h5⟩
instance {o k x : EF} [EqE o] [EqE k] [EqE x] : EqE (dGet2 o k x) := ⟨fun r sl => (EqE.h r sl).bind r fun x X α1 m1 M1 e1 h1 => by
  cases q : isDictD m1 x with
  | false => trivial
  | true =>
    rw [isDictD_r e1.mr h1 q]
    refine (EqE.h e1.mr (sl.up e1.pre)).bind e1.mr fun y Y α2 m2 M2 e2 h2 => (EqE.h e2.mr (sl.up (e1.pre.trans e2.pre))).bind e2.mr fun z Z α3 m3 M3 e3 h3 => ?_
    cases q2 : lookD m3 x y with
    | none => trivial
    | some o =>
      obtain ⟨O, h6, h4⟩ := lookD_r e3.mr (h1.up (e2.pre.trans e3.pre)) (h2.up e3.pre) q2
      rw [h6]
      cases o with
      | none => have h4 : O = none := h4; subst h4; exact .ok e3.mr h3
      | some d => obtain ⟨u, rfl, h5⟩ := h4; exact .ok e3.mr h5⟩
instance {o k x : EF} [EqE o] [EqE k] [EqE x] : EqE (dSetd o k x) := ⟨fun r sl => (EqE.h r sl).bind r fun x X α1 m1 M1 e1 h1 => by
  cases q : isDictD m1 x with
  | false => trivial
  | true =>
    rw [isDictD_r e1.mr h1 q]
    refine (EqE.h e1.mr (sl.up e1.pre)).bind e1.mr fun y Y α2 m2 M2 e2 h2 => (EqE.h e2.mr (sl.up (e1.pre.trans e2.pre))).bind e2.mr fun z Z α3 m3 M3 e3 h3 => ?_
    have hx := h1.up (e2.pre.trans e3.pre)
    have hy := h2.up e3.pre
    cases q2 : lookD m3 x y with
    | none => trivial
    | some o =>
      obtain ⟨O, h6, h4⟩ := lookD_r e3.mr hx hy q2
      rw [h6]
      cases o with
      | none =>
        have h4 : O = none := h4
        subst h4
        dsimp only
        cases q3 : setIx m3 x y z with
        | none => trivial
        | some m4 =>
          obtain ⟨M4, e4, e5⟩ := setIx_r e3.mr hx hy h3 q3
          rw [e4]
          exact ⟨_, _, _, rfl, e5, h3⟩
      | some d => obtain ⟨u, rfl, h5⟩ := h4; exact .ok e3.mr h5⟩
instance {a : EF} [EqE a] : EqE (dSortSet a) := ⟨fun r sl => (EqE.h r sl).bind r fun x X α1 m1 M1 e1 h1 => by
  cases q : seqOf m1 x with
  | none => trivial
  | some ds =>
    obtain ⟨Ds, h3, h4⟩ := seqOf_r e1.mr h1 q
    rw [h3]
    dsimp only
    cases q2 : intsOf ds with
    | none => trivial
    | some ns =>
      rw [intsOf_r h4 q2]
      dsimp only
      cases decide (ns.length < 64) with
      | true => exact .new e1.mr ⟨_, rfl, drs_ints⟩
      | false => trivial⟩
instance {a : EF} [EqE a] : EqE (dLenSet a) := ⟨fun r sl => (EqE.h r sl).bind r fun x X α1 m1 M1 e1 h1 => by
  cases x with
  | ref n =>
    obtain ⟨a, ha, rfl⟩ := h1.ref
    dsimp only
    cases q : listAt m1 n with
    | none => trivial
    | some ds =>
      obtain ⟨Ds, h3, h4, _⟩ := listAt_r e1.mr q ha
      rw [h3]
      dsimp only
      cases q2 : intsOf ds with
      | none => trivial
      | some ns =>
        rw [intsOf_r h4 q2]
        dsimp only
        cases decide (ns.length < 64) with
        | true => exact .ok e1.mr dr_int
        | false => trivial
  | _ => trivial⟩
instance {a : EF} [EqE a] : EqE (dTupRg a) := ⟨fun r sl => (EqE.h r sl).bind r fun x X α1 m1 M1 e1 h1 => by
  cases x with
  | int n =>
    rw [h1.int]
    dsimp only
    cases decide (0 ≤ n ∧ n ≤ 16777216) with
    | true => exact .ok e1.mr (dr_tup (drs_map fun _ _ => dr_int))
    | false => trivial
  | _ => trivial⟩
theorem foldput_r {α : List Nat} {ls Ls : List (Key × D)} (h : KR α ls Ls) : ∀ {ks Ks : List (Key × D)}, KR α ks Ks → KR α (ls.foldl (fun a p => put a p.1 p.2) ks) (Ls.foldl (fun a p => put a p.1 p.2) Ks) := by
  induction h with
  | nil => exact fun h => h
  | @cons a b l1 l2 p t ih =>
    intro ks Ks h
    rw [List.foldl_cons, List.foldl_cons, ← p.1]
    exact ih (put_r h _ p.2)
instance : Eq2 gIOr := ⟨fun {α m M x X y Y} r hx hy => by
  cases x with
  | ref a =>
    obtain ⟨A, ha, rfl⟩ := hx.ref
    cases y with
    | ref b =>
      obtain ⟨B, hb, rfl⟩ := hy.ref
      unfold gIOr
      dsimp only
      have hAB : (a ≠ b) ↔ (A ≠ B) := ⟨fun n z => n (nd_ix2 r.nd ha (z ▸ hb)), fun n z => n (by subst z; rw [ha] at hb; exact Option.some.inj hb)⟩
      cases q : m[a]? with
      | none => trivial
      | some o1 =>
        cases o1 with
        | dk ks =>
          obtain ⟨_, h1, Ks, rfl, hK⟩ := r.at q ha
          rw [h1]
          cases q2 : m[b]? with
          | none => trivial
          | some o2 =>
            cases o2 with
            | dk ls =>
              obtain ⟨_, h2, Ls, rfl, hL⟩ := r.at q2 hb
              rw [h2]
              dsimp only
              have e : decide (A ≠ B ∧ Ks.length + Ls.length ≤ 100000) = decide (a ≠ b ∧ ks.length + ls.length ≤ 100000) := by rw [decide_eq_decide, hAB, hK.length, hL.length]
              rw [e]
              cases decide (a ≠ b ∧ ks.length + ls.length ≤ 100000) with
              | true => exact ⟨_, _, _, rfl, (Ext.refl r).set r ha q dk_ne ⟨_, rfl, foldput_r hL hK⟩, dr_ref ha⟩
              | false => trivial
            | _ => trivial
        | _ => trivial
    | _ => trivial
  | _ => trivial⟩
end Fl
namespace Fl
open PySem
open L2 (Key)
section
variable {α : List Nat} {m M : Mem}
theorem RIr.up {α' : List Nat} (l : Pre α α') {x X : ItF × Nat} (h : RIr α x X) : RIr α' x X := ⟨h.1, fun α2 m M i p r => h.2 α2 m M i (l.trans p) r⟩
theorem nxT_r {ds Ds : List D} (h : Drs α ds Ds) : RIr α (nxT ds, ds.length + 1) (nxT Ds, Ds.length + 1) := ⟨by rw [h.length], fun α' m M i p r => by
  show match (some ds[i]? : Option (Option D)) with | none => True | some none => some Ds[i]? = some none | some (some d) => ∃ v, some Ds[i]? = some (some v) ∧ Dr α' d v
  cases q : ds[i]? with
  | none => rw [h.none q]
  | some d => obtain ⟨v, h1, h2⟩ := h.at q; exact ⟨v, by rw [h1], h2.up p⟩⟩
theorem nxL_r {n a k : Nat} (ha : α[n]? = some a) : RIr α (nxL n, k) (nxL a, k) := ⟨rfl, fun α' m M i p r => by
  unfold nxL
  dsimp only
  cases q : listAt m n with
  | none => trivial
  | some ds =>
    obtain ⟨Ds, h1, h2, _⟩ := listAt_r r q (p.get ha)
    rw [h1]
    dsimp only
    cases q : ds[i]? with
    | none => rw [h2.none q]
    | some d => obtain ⟨v, h3, h4⟩ := h2.at q; exact ⟨v, by rw [h3], h4⟩⟩
theorem nxR_r {lo : Int} {n k : Nat} : RIr α (nxR lo n, k) (nxR lo n, k) := ⟨rfl, fun α' m M i p r => by
  unfold nxR
  dsimp only
  cases decide (i < n) with
  | true => exact ⟨_, rfl, dr_int⟩
  | false => rfl⟩
theorem kD_r {k : Key} : Dr α (kD k) (kD k) := by
  cases k
  · exact dr_int
  · exact dr_str
theorem KR.at {κ : Type} {ks Ks : List (κ × D)} (h : KR α ks Ks) (i : Nat) : match ks[i]? with
  | none => Ks[i]? = none
  | some p => ∃ P, Ks[i]? = some P ∧ p.1 = P.1 ∧ Dr α p.2 P.2 := by
  induction h generalizing i with
  | nil => simp
  | @cons a b l1 l2 p t ih =>
    cases i with
    | zero => exact ⟨b, rfl, p⟩
    | succ i => simpa using ih i
theorem nxK_r {n a k : Nat} (ha : α[n]? = some a) : RIr α (nxK n, k) (nxK a, k) := ⟨rfl, fun α' m M i p r => by
  unfold nxK
  dsimp only
  cases q : m[n]? with
  | none => trivial
  | some o =>
    obtain ⟨O, h1, h2⟩ := r.at q (p.get ha)
    rw [h1]
    cases o with
    | fk ks =>
      obtain ⟨Ks, rfl, hK⟩ := h2
      have z := hK.at i
      dsimp only
      cases q2 : ks[i]? with
      | none => rw [q2] at z; rw [z]; rfl
      | some x => rw [q2] at z; obtain ⟨X, h3, h4, h5⟩ := z; rw [h3]; exact ⟨_, rfl, by dsimp only; rw [h4]; exact kD_r⟩
    | ft ks =>
      obtain ⟨Ks, rfl, hK⟩ := h2
      have z := hK.at i
      dsimp only
      cases q2 : ks[i]? with
      | none => rw [q2] at z; rw [z]; rfl
      | some x => rw [q2] at z; obtain ⟨X, h3, h4, h5⟩ := z; rw [h3]; exact ⟨_, rfl, by dsimp only; rw [h4]; exact dr_tup (drs_map fun _ _ => kD_r)⟩
    | _ => trivial⟩
end
instance {e : EF} [EqE e] : EqI (iSeq e) := ⟨fun r sl => (EqE.h r sl).bind r fun x X α1 m1 M1 e1 h1 => by
  cases x with
  | tup ds => obtain ⟨Ds, rfl, hd⟩ := h1.tup; exact .ok e1.mr (nxT_r hd)
  | ref n =>
    obtain ⟨a, ha, rfl⟩ := h1.ref
    dsimp only
    cases q : listAt m1 n with
    | none => trivial
    | some ds =>
      obtain ⟨Ds, h3, h4, _⟩ := listAt_r e1.mr q ha
      rw [h3]
      dsimp only
      rw [← h4.length]
      exact .ok e1.mr (nxL_r ha)
  | _ => trivial⟩
instance {e : EF} [EqE e] : EqI (iKeysF e) := ⟨fun r sl => (EqE.h r sl).bind r fun x X α1 m1 M1 e1 h1 => by
  cases x with
  | ref n =>
    obtain ⟨a, ha, rfl⟩ := h1.ref
    dsimp only
    cases q : m1[n]? with
    | none => trivial
    | some o =>
      obtain ⟨O, h3, h4⟩ := e1.mr.at q ha
      rw [h3]
      cases o with
      | fk ks =>
        obtain ⟨Ks, rfl, hK⟩ := h4
        dsimp only
        rw [← hK.length]
        exact .ok e1.mr (nxK_r ha)
      | ft ks =>
        obtain ⟨Ks, rfl, hK⟩ := h4
        dsimp only
        rw [← hK.length]
        exact .ok e1.mr (nxK_r ha)
      | _ => trivial
  | _ => trivial⟩
instance {a : AF} [EqA a] : EqI (iRng1 a) := ⟨fun r sl => (EqA.h r sl).bind r fun x X α1 m1 M1 e1 h1 => by
  match x, h1 with
  | [], _ => trivial
  | [d], h1 =>
    obtain ⟨v, vs, rfl, h3, h4⟩ := h1.cons_inv
    have := h4.nil_inv
    subst this
    cases d with
    | int j =>
      rw [h3.int]
      dsimp only
      cases decide (-(2 ^ 62) ≤ j ∧ j < 2 ^ 62) with
      | true => exact .ok e1.mr nxR_r
      | false => trivial
    | _ => trivial
  | d :: _ :: _, _ => cases d <;> trivial⟩
instance {a : AF} [EqA a] : EqI (iRng2 a) := ⟨fun r sl => (EqA.h r sl).bind r fun x X α1 m1 M1 e1 h1 => by
  match x, h1 with
  | [], _ => trivial
  | [d], _ => cases d <;> trivial
  | [d, e], h1 =>
    obtain ⟨v, vs, rfl, h3, h4⟩ := h1.cons_inv
    obtain ⟨w, ws, rfl, h5, h6⟩ := h4.cons_inv
    have := h6.nil_inv
    subst this
    cases d with
    | int i =>
      rw [h3.int]
      cases e with
      | int j =>
        rw [h5.int]
        dsimp only
        cases decide (-(2 ^ 62) ≤ i ∧ i < 2 ^ 62 ∧ -(2 ^ 62) ≤ j ∧ j < 2 ^ 62) with
        | true => exact .ok e1.mr nxR_r
        | false => trivial
      | _ => trivial
    | _ => trivial
  | d :: e :: _ :: _, _ => cases d <;> first | trivial | (cases e <;> trivial)⟩
theorem sForL_r {x X : ItF} {g : GF} {body : SF} [EqG g] [EqS body] : ∀ (k i : Nat) {α : List Nat} {m M : Mem} {s S : Sl}, RIr α (x, k) (X, k) → MR α m M → SlR α s S → SRR α m M (sForL x g body k i s m) (sForL X g body k i S M)
  | 0, _, _, _, _, _, _, _, _, _ => trivial
  | k + 1, i, α, m, M, s, S, hi, r, sl => by
    have hk : RIr α (x, k) (X, k) := ⟨rfl, hi.2⟩
    unfold sForL
    have z := hi.2 α m M i .refl r
    dsimp only at z
    cases q : x i m with
    | none => trivial
    | some o =>
      rw [q] at z
      cases o with
      | none =>
        rw [show X i M = some none from z]
        exact ⟨_, _, _, rfl, .refl r, sl⟩
      | some d =>
        obtain ⟨v, h1, h2⟩ := z
        rw [h1]
        refine (EqG.h r sl h2).toS r sl fun t T α1 m1 M1 e1 h3 => ?_
        have zb := EqS.h (e := body) e1.mr h3
        cases q2 : body t m1 with
        | nx s2 m2 =>
          rw [q2] at zb
          obtain ⟨S2, M2, α2, eb, e2, h4⟩ := zb
          rw [eb]
          exact SRR.lift e1.mr e2 (sForL_r k (i + 1) (hk.up (e1.pre.trans e2.pre)) e2.mr h4)
        | ct s2 m2 =>
          rw [q2] at zb
          obtain ⟨S2, M2, α2, eb, e2, h4⟩ := zb
          rw [eb]
          exact SRR.lift e1.mr e2 (sForL_r k (i + 1) (hk.up (e1.pre.trans e2.pre)) e2.mr h4)
        | bk s2 m2 =>
          rw [q2] at zb
          obtain ⟨S2, M2, α2, eb, e2, h4⟩ := zb
          rw [eb]
          exact ⟨_, _, _, rfl, e2, h4⟩
        | rt d2 m2 =>
          rw [q2] at zb
          obtain ⟨S2, M2, α2, eb, e2, h4⟩ := zb
          rw [eb]
          exact ⟨_, _, _, rfl, e2, h4⟩
        | exc c f s2 m2 =>
          rw [q2] at zb
          obtain ⟨F, S2, M2, α2, eb, e2, h4, h5⟩ := zb
          rw [eb]
          exact ⟨_, _, _, _, rfl, e2, h4, h5⟩
        | bad => trivial
instance {fi : IF} {g : GF} {body : SF} [EqI fi] [EqG g] [EqS body] : EqS (sFor fi g body) := ⟨fun r sl => (EqI.h r sl).toS r sl fun x X α1 m1 M1 e1 h1 => by
  obtain ⟨x, k⟩ := x
  obtain ⟨X, K⟩ := X
  have e : k = K := h1.1
  subst e
  exact sForL_r k 0 h1 e1.mr (sl.up e1.pre)⟩
theorem sWhileL_r {c : TF} {body : SF} [EqT c] [EqS body] : ∀ (k : Nat) {α : List Nat} {m M : Mem} {s S : Sl}, MR α m M → SlR α s S → SRR α m M (sWhileL c body k s m) (sWhileL c body k S M)
  | 0, _, _, _, _, _, _, _ => trivial
  | k + 1, α, m, M, s, S, r, sl => by
    unfold sWhileL
    refine (EqT.h r sl).toS r sl fun t T α1 m1 M1 e1 h3 => ?_
    cases h3
    cases t with
    | false => exact ⟨_, _, _, rfl, .refl e1.mr, sl.up e1.pre⟩
    | true =>
      have zb := EqS.h (e := body) e1.mr (sl.up e1.pre)
      dsimp only
      cases q2 : body s m1 with
      | nx s2 m2 =>
        rw [q2] at zb
        obtain ⟨S2, M2, α2, eb, e2, h4⟩ := zb
        rw [eb]
        exact SRR.lift e1.mr e2 (sWhileL_r k e2.mr h4)
      | ct s2 m2 =>
        rw [q2] at zb
        obtain ⟨S2, M2, α2, eb, e2, h4⟩ := zb
        rw [eb]
        exact SRR.lift e1.mr e2 (sWhileL_r k e2.mr h4)
      | bk s2 m2 =>
        rw [q2] at zb
        obtain ⟨S2, M2, α2, eb, e2, h4⟩ := zb
        rw [eb]
        exact ⟨_, _, _, rfl, e2, h4⟩
      | rt d2 m2 =>
        rw [q2] at zb
        obtain ⟨S2, M2, α2, eb, e2, h4⟩ := zb
        rw [eb]
        exact ⟨_, _, _, rfl, e2, h4⟩
      | exc c f s2 m2 =>
        rw [q2] at zb
        obtain ⟨F, S2, M2, α2, eb, e2, h4, h5⟩ := zb
        rw [eb]
        exact ⟨_, _, _, _, rfl, e2, h4, h5⟩
      | bad => trivial
instance {c : TF} {body : SF} {k : Nat} [EqT c] [EqS body] : EqS (sWhileL c body k) := ⟨fun r sl => sWhileL_r k r sl⟩
instance : EqT tYesF := ⟨fun r sl => .ok r rfl⟩
theorem lcL_r {x X : ItF} {g : GF} {tt : TF} {te : EF} [EqG g] [EqT tt] [EqE te] : ∀ (k i : Nat) {α : List Nat} {m M : Mem} {s S : Sl}, RIr α (x, k) (X, k) → MR α m M → SlR α s S → RR Drs α m M (lcL x g tt te s k i m) (lcL X g tt te S k i M)
  | 0, _, _, _, _, _, _, _, _, _ => trivial
  | k + 1, i, α, m, M, s, S, hi, r, sl => by
    have hk : RIr α (x, k) (X, k) := ⟨rfl, hi.2⟩
    unfold lcL
    have z := hi.2 α m M i .refl r
    dsimp only at z
    cases q : x i m with
    | none => trivial
    | some o =>
      rw [q] at z
      cases o with
      | none =>
        rw [show X i M = some none from z]
        exact .ok r drs_nil
      | some d =>
        obtain ⟨v, h1, h2⟩ := z
        rw [h1]
        refine (EqG.h r sl h2).noX.bind r fun t T α1 m1 M1 e1 h3 => (EqT.h e1.mr h3).noX.bind e1.mr fun b B α2 m2 M2 e2 h4 => ?_
        cases h4
        cases b with
        | true =>
          refine (EqE.h e2.mr (h3.up e2.pre)).noX.bind e2.mr fun y Y α3 m3 M3 e3 h5 => ?_
          have p := (e1.pre.trans e2.pre).trans e3.pre
          exact (lcL_r k (i + 1) (hk.up p) e3.mr (sl.up p)).bind e3.mr fun ys Ys α4 m4 M4 e4 h6 => .ok e4.mr (drs_cons (h5.up e4.pre) h6)
        | false =>
          have p := e1.pre.trans e2.pre
          exact lcL_r k (i + 1) (hk.up p) e2.mr (sl.up p)
instance {fi : IF} {g : GF} {tt : TF} {te : EF} {is : List Nat} [EqI fi] [EqG g] [EqT tt] [EqE te] : EqE (dLc fi g tt te is) := ⟨fun r sl => (EqI.h r sl).bind r fun x X α1 m1 M1 e1 h1 => by
  obtain ⟨x, k⟩ := x
  obtain ⟨X, K⟩ := X
  have e : k = K := h1.1
  subst e
  dsimp only
  cases decide (k ≤ sizeLine) with
  | true => exact (lcL_r k 0 h1 e1.mr ((sl.up e1.pre).wipe is)).bind e1.mr fun y Y α2 m2 M2 e2 h2 => .new e2.mr ⟨_, rfl, h2⟩
  | false => trivial⟩
theorem lcI_r {x X : ItF} {g : GF} {tt : TF} {te : EF} [EqG g] [EqT tt] [EqE te] : ∀ (k i : Nat) {α : List Nat} {m M : Mem} {s S : Sl}, RIr α (x, k) (X, k) → MR α m M → SlR α s S → RR (Rel0 (List Int)) α m M (lcI x g tt te s k i m) (lcI X g tt te S k i M)
  | 0, _, _, _, _, _, _, _, _, _ => trivial
  | k + 1, i, α, m, M, s, S, hi, r, sl => by
    have hk : RIr α (x, k) (X, k) := ⟨rfl, hi.2⟩
    unfold lcI
    have z := hi.2 α m M i .refl r
    dsimp only at z
    cases q : x i m with
    | none => trivial
    | some o =>
      rw [q] at z
      cases o with
      | none =>
        rw [show X i M = some none from z]
        exact .ok r rfl
      | some d =>
        obtain ⟨v, h1, h2⟩ := z
        rw [h1]
        refine (EqG.h r sl h2).noX.bind r fun t T α1 m1 M1 e1 h3 => (EqT.h e1.mr h3).noX.bind e1.mr fun b B α2 m2 M2 e2 h4 => ?_
        cases h4
        cases b with
        | true =>
          refine (EqE.h e2.mr (h3.up e2.pre)).noX.bind e2.mr fun y Y α3 m3 M3 e3 h5 => ?_
          have p := (e1.pre.trans e2.pre).trans e3.pre
          cases y with
          | int w =>
            rw [h5.int]
            exact (lcI_r k (i + 1) (hk.up p) e3.mr (sl.up p)).bind e3.mr fun ys Ys α4 m4 M4 e4 h6 => by cases h6; exact .ok e4.mr rfl
          | _ => trivial
        | false =>
          have p := e1.pre.trans e2.pre
          exact lcI_r k (i + 1) (hk.up p) e2.mr (sl.up p)
instance {fi : IF} {g : GF} {tt : TF} {te : EF} {is : List Nat} [EqI fi] [EqG g] [EqT tt] [EqE te] : EqE (dSortSc fi g tt te is) := ⟨fun r sl => (EqI.h r sl).bind r fun x X α1 m1 M1 e1 h1 => by
  obtain ⟨x, k⟩ := x
  obtain ⟨X, K⟩ := X
  have e : k = K := h1.1
  subst e
  dsimp only
  cases decide (k ≤ 1000) with
  | true =>
    refine (lcI_r k 0 h1 e1.mr ((sl.up e1.pre).wipe is)).bind e1.mr fun y Y α2 m2 M2 e2 h2 => ?_
    cases h2
    unfold finI
    cases decide (y.length < 64) with
    | true => exact .new e2.mr ⟨_, rfl, drs_ints⟩
    | false => trivial
  | false => trivial⟩
theorem dcL_r {x X : ItF} {g : GF} {tt : TF} {tk tv : EF} [EqG g] [EqT tt] [EqE tk] [EqE tv] : ∀ (k i : Nat) {α : List Nat} {m M : Mem} {s S : Sl} {acc Acc : List (Key × D)}, RIr α (x, k) (X, k) → MR α m M → SlR α s S → KR α acc Acc → RR KR α m M (dcL x g tt tk tv s k i acc m) (dcL X g tt tk tv S k i Acc M)
  | 0, _, _, _, _, _, _, _, _, _, _, _, _ => trivial
  | k + 1, i, α, m, M, s, S, acc, Acc, hi, r, sl, ha => by
    have hk : RIr α (x, k) (X, k) := ⟨rfl, hi.2⟩
    unfold dcL
    have z := hi.2 α m M i .refl r
    dsimp only at z
    cases q : x i m with
    | none => trivial
    | some o =>
      rw [q] at z
      cases o with
      | none =>
        rw [show X i M = some none from z]
        exact .ok r ha
      | some d =>
        obtain ⟨v, h1, h2⟩ := z
        rw [h1]
        refine (EqG.h r sl h2).noX.bind r fun t T α1 m1 M1 e1 h3 => (EqT.h e1.mr h3).noX.bind e1.mr fun b B α2 m2 M2 e2 h4 => ?_
        cases h4
        cases b with
        | true =>
          refine (EqE.h e2.mr (h3.up e2.pre)).noX.bind e2.mr fun y Y α3 m3 M3 e3 h5 => (EqE.h e3.mr (h3.up (e2.pre.trans e3.pre))).noX.bind e3.mr fun z Z α4 m4 M4 e4 h6 => ?_
          have p := ((e1.pre.trans e2.pre).trans e3.pre).trans e4.pre
          cases q2 : keyOf y with
          | none => trivial
          | some w =>
            rw [keyOf_r _ _ _ h5 q2]
            rw [← ha.length]
            cases decide (acc.length < sizeLine) with
            | true => exact dcL_r k (i + 1) (hk.up p) e4.mr (sl.up p) (put_r (ha.up p) w h6)
            | false => trivial
        | false =>
          have p := e1.pre.trans e2.pre
          exact dcL_r k (i + 1) (hk.up p) e2.mr (sl.up p) (ha.up p)
instance {fi : IF} {g : GF} {tt : TF} {tk tv : EF} {is : List Nat} [EqI fi] [EqG g] [EqT tt] [EqE tk] [EqE tv] : EqE (dDc fi g tt tk tv is) := ⟨fun r sl => (EqI.h r sl).bind r fun x X α1 m1 M1 e1 h1 => by
  obtain ⟨x, k⟩ := x
  obtain ⟨X, K⟩ := X
  have e : k = K := h1.1
  subst e
  dsimp only
  exact (dcL_r k 0 h1 e1.mr ((sl.up e1.pre).wipe is) .nil).bind e1.mr fun y Y α2 m2 M2 e2 h2 => .new e2.mr ⟨_, rfl, h2⟩⟩
theorem dn_ne {ks : List (NK × D)} : MO.dn ks ≠ hole := fun z => nomatch z
theorem fn_ne {ks : List (NK × D)} : MO.fn ks ≠ hole := fun z => nomatch z
theorem lockM_r {α : List Nat} {m M m1 : Mem} {n a : Nat} {o : MO} (r : MR α m M) (h : lockM m n = some (m1, o)) (ha : α[n]? = some a) : ∃ M1 O, lockM M a = some (M1, O) ∧ Ext α m M α m1 M1 ∧ OR α o O ∧ m[n]? = some o ∧ o ≠ hole ∧ ∃ u, m1[n]? = some u ∧ u ≠ hole := by
  unfold lockM at h
  cases q : m[n]? with
  | none => rw [q] at h; cases h
  | some x =>
    rw [q] at h
    obtain ⟨X, h1, h2⟩ := r.at q ha
    have hl := (List.getElem?_eq_some_iff.mp q).1
    cases x with
    | dk ks =>
      obtain ⟨Ks, rfl, hK⟩ := h2
      cases h
      exact ⟨_, _, by unfold lockM; rw [h1], (Ext.refl r).set r ha q dk_ne ⟨_, rfl, hK⟩, ⟨_, rfl, hK⟩, rfl, dk_ne, _, List.getElem?_set_self hl, fk_ne⟩
    | dt ks =>
      obtain ⟨Ks, rfl, hK⟩ := h2
      cases h
      exact ⟨_, _, by unfold lockM; rw [h1], (Ext.refl r).set r ha q dt_ne ⟨_, rfl, hK⟩, ⟨_, rfl, hK⟩, rfl, dt_ne, _, List.getElem?_set_self hl, ft_ne⟩
    | dn ks =>
      obtain ⟨Ks, rfl, hK⟩ := h2
      cases h
      exact ⟨_, _, by unfold lockM; rw [h1], (Ext.refl r).set r ha q dn_ne ⟨_, rfl, hK⟩, ⟨_, rfl, hK⟩, rfl, dn_ne, _, List.getElem?_set_self hl, fn_ne⟩
    | _ => cases h
theorem lockAt_r {α : List Nat} {m M m1 : Mem} {s S : Sl} {e : EF} [EqE e] {n : Nat} {o : MO} (r : MR α m M) (sl : SlR α s S) (h : lockAt e s m = some (n, m1, o)) : ∃ a M1 O, lockAt e S M = some (a, M1, O) ∧ α[n]? = some a ∧ Ext α m M α m1 M1 ∧ OR α o O ∧ o ≠ hole ∧ m[n]? = some o := by
  unfold lockAt at h
  have z := EqE.h (e := e) r sl
  cases q : e s m with
  | ok d m2 =>
    rw [q] at h z
    obtain ⟨v, M2, α2, h1, e2, h2⟩ := z
    cases d with
    | ref j =>
      obtain ⟨b, hb, rfl⟩ := h2.ref
      dsimp only at h
      cases q2 : lockM m j with
      | none => rw [q2] at h; cases h
      | some t =>
        obtain ⟨m3, o3⟩ := t
        rw [q2] at h
        cases h
        have hj : n < α.length := by
          rw [r.len]
          unfold lockM at q2
          cases q3 : m[n]? with
          | none => rw [q3] at q2; cases q2
          | some _ => exact (List.getElem?_eq_some_iff.mp q3).1
        have hb' : α[n]? = some b := by
          obtain ⟨γ, rfl⟩ := e2.pre
          rw [List.getElem?_append_left hj] at hb
          exact hb
        obtain ⟨M1, O, h5, h6, h7, h8, h9, _⟩ := lockM_r r q2 hb'
        exact ⟨b, M1, O, by unfold lockAt; rw [h1]; dsimp only; rw [h5]; rfl, hb', h6, h7, h9, h8⟩
    | _ => cases h
  | exc c f m2 => rw [q] at h; cases h
  | bad => rw [q] at h; cases h
theorem Ext.back {α α' : List Nat} {m M m1 M1 m' M' : Mem} {n a : Nat} {o O : MO} (r : MR α m M) (e : Ext α m M α m1 M1) (e' : Ext α m1 M1 α' m' M') (ha : α[n]? = some a) (h : OR α o O) (hm : m[n]? = some o) (hh : o ≠ hole) : Ext α m M α' (m'.set n o) (M'.set a O) := by
  have E := e.trans r e'
  have ha' := e'.pre.get ha
  obtain ⟨x, X, h1, h2, h3⟩ := e'.mr.has ha'
  by_cases c : x = hole
  · -- the object there: the first store's is none that is unknown
    subst c
    refine ⟨⟨by rw [List.length_set]; exact E.mr.len, E.mr.nd, fun k y b g1 g2 => ?_⟩, E.ex, by rw [List.length_set]; exact E.len, fun k hk hl => ?_, fun i hi => ?_⟩
    · by_cases c : n = k
      · subst c
        rw [ha'] at g2; cases g2
        rw [List.getElem?_set_self (List.getElem?_eq_some_iff.mp h1).1] at g1
        cases g1
        exact ⟨O, by rw [List.getElem?_set_self (List.getElem?_eq_some_iff.mp h2).1], h.up e'.pre⟩
      · rw [List.getElem?_set_ne c] at g1
        obtain ⟨Y, h4, h5⟩ := E.mr.at g1 g2
        have ne : a ≠ b := by
          rintro rfl
          exact c (nd_ix2 E.mr.nd ha' g2)
        exact ⟨Y, by rw [List.getElem?_set_ne ne]; exact h4, h5⟩
    · rw [List.getElem?_set_ne]
      · exact E.fx k hk hl
      · rintro rfl
        exact hl ⟨n, o, ha, hm, hh⟩
    · rw [List.getElem?_set_ne]
      · exact E.hl i hi
      · rintro rfl
        rw [hm] at hi; cases hi; exact hh rfl
  · exact E.set r ha' h1 c (h.up e'.pre)
instance {e : EF} {t : SF} [EqE e] [EqS t] : EqS (sLock e t) := ⟨fun {α m M s S} r sl => by
  unfold sLock
  cases q : lockAt e s m with
  | none => trivial
  | some z =>
    obtain ⟨n, m1, o⟩ := z
    obtain ⟨a, M1, O, h1, h2, h3, h4, h5, h6⟩ := lockAt_r r sl q
    rw [h1]
    have z := EqS.h (e := t) h3.mr sl
    dsimp only
    cases q2 : t s m1 with
    | nx s2 m2 => rw [q2] at z; obtain ⟨S2, M2, α2, eb, e2, h7⟩ := z; rw [eb]; exact ⟨_, _, _, rfl, Ext.back r h3 e2 h2 h4 h6 h5, h7⟩
    | bk s2 m2 => rw [q2] at z; obtain ⟨S2, M2, α2, eb, e2, h7⟩ := z; rw [eb]; exact ⟨_, _, _, rfl, Ext.back r h3 e2 h2 h4 h6 h5, h7⟩
    | ct s2 m2 => rw [q2] at z; obtain ⟨S2, M2, α2, eb, e2, h7⟩ := z; rw [eb]; exact ⟨_, _, _, rfl, Ext.back r h3 e2 h2 h4 h6 h5, h7⟩
    | rt s2 m2 => rw [q2] at z; obtain ⟨S2, M2, α2, eb, e2, h7⟩ := z; rw [eb]; exact ⟨_, _, _, rfl, Ext.back r h3 e2 h2 h4 h6 h5, h7⟩
    | exc _ _ _ _ => trivial
    | bad => trivial⟩
instance {e : EF} {t : EF} [EqE e] [EqE t] : EqE (dLock e t) := ⟨fun {α m M s S} r sl => by
  unfold dLock
  cases q : lockAt e s m with
  | none => trivial
  | some z =>
    obtain ⟨n, m1, o⟩ := z
    obtain ⟨a, M1, O, h1, h2, h3, h4, h5, h6⟩ := lockAt_r r sl q
    rw [h1]
    have z := EqE.h (e := t) h3.mr sl
    dsimp only
    cases q2 : t s m1 with
    | ok s2 m2 => rw [q2] at z; obtain ⟨S2, M2, α2, eb, e2, h7⟩ := z; rw [eb]; exact ⟨_, _, _, rfl, Ext.back r h3 e2 h2 h4 h6 h5, h7⟩
    | exc _ _ _ => trivial
    | bad => trivial⟩
instance : EqCl [] := ⟨fun {α m M s S c f F} r sl h => ⟨_, _, _, _, rfl, .refl r, h, sl⟩⟩
theorem unname_r {α : List Nat} {m M : Mem} {i : Nat} {r r' : SR} (h : SRR α m M r r') : SRR α m M (unname i r) (unname i r') := by
  cases r with
  | nx s m1 => obtain ⟨S, M1, α1, rfl, e, h⟩ := h; exact ⟨_, _, _, rfl, e, h.none i⟩
  | bk s m1 => obtain ⟨S, M1, α1, rfl, e, h⟩ := h; exact ⟨_, _, _, rfl, e, h.none i⟩
  | ct s m1 => obtain ⟨S, M1, α1, rfl, e, h⟩ := h; exact ⟨_, _, _, rfl, e, h.none i⟩
  | rt s m1 => obtain ⟨S, M1, α1, rfl, e, h⟩ := h; exact ⟨_, _, _, rfl, e, h⟩
  | exc _ _ _ _ => trivial
  | bad => trivial
instance {d i : Nat} {su : SF} {cl : List Clause} [EqS su] [EqCl cl] : EqCl ((tabC d, i, su) :: cl) := ⟨fun {α m M s S c f F} r sl h => by
  unfold handle
  cases q : tabC d c with
  | none => trivial
  | some b =>
    cases b with
    | false => exact EqCl.h r sl h
    | true =>
      have n : c ≠ 1000 := by rintro rfl; cases q
      have e3 : Ext α m M (α ++ [M.length]) (m ++ [.exc c f]) (M ++ [.exc c F]) := (Ext.refl r).alloc (.inr ⟨F, rfl, h.up .snoc⟩)
      exact SRR.lift r e3 (unname_r (EqS.h e3.mr ((sl.up e3.pre).set i (dr_ref (by rw [← r.len]; simp)))))⟩
instance {t : SF} {cl : List Clause} [EqS t] [EqCl cl] : EqS (sTry t cl) := ⟨fun {α m M s S} r sl => by
  have z := EqS.h (e := t) r sl
  unfold sTry
  cases q : t s m with
  | exc c f s1 m1 =>
    rw [q] at z
    obtain ⟨F, S1, M1, α1, eb, e1, h1, h2⟩ := z
    rw [eb]
    exact SRR.lift r e1 (EqCl.h e1.mr h2 h1)
  | nx s1 m1 => rw [q] at z; obtain ⟨S1, M1, α1, eb, e1, h1⟩ := z; rw [eb]; exact ⟨_, _, _, rfl, e1, h1⟩
  | bk s1 m1 => rw [q] at z; obtain ⟨S1, M1, α1, eb, e1, h1⟩ := z; rw [eb]; exact ⟨_, _, _, rfl, e1, h1⟩
  | ct s1 m1 => rw [q] at z; obtain ⟨S1, M1, α1, eb, e1, h1⟩ := z; rw [eb]; exact ⟨_, _, _, rfl, e1, h1⟩
  | rt s1 m1 => rw [q] at z; obtain ⟨S1, M1, α1, eb, e1, h1⟩ := z; rw [eb]; exact ⟨_, _, _, rfl, e1, h1⟩
  | bad => trivial⟩
end Fl
namespace Fl
open PySem
class Fact1 (p : Prop) : Prop where h : p
instance : Fact1 (10 ≠ 1000) := ⟨by decide⟩
instance : Fact1 (11 ≠ 1000) := ⟨by decide⟩
instance {c i : Nat} [h : Fact1 (c ≠ 1000)] : Eq1 (gXFld c i) := ⟨fun {α m M x X} r hx => by
  cases x with
  | ref n =>
    obtain ⟨a, ha, rfl⟩ := hx.ref
    unfold gXFld
    dsimp only
    cases q : m[n]? with
    | none => trivial
    | some o =>
      obtain ⟨O, h1, h2⟩ := r.at q ha
      cases o with
      | exc c' f =>
        cases f with
        | none => trivial
        | some p =>
          obtain ⟨i', v⟩ := p
          dsimp only
          by_cases hc : c' = c
          · rcases h2 with h2 | ⟨F, rfl, V, rfl, h3⟩
            · exact absurd (hc.symm.trans h2) h.h
            · rw [h1]
              dsimp only
              rw [decide_eq_true hc]
              cases decide (i' = i) with
              | true => exact .ok r h3
              | false => trivial
          · rw [decide_eq_false hc]; trivial
      | _ => trivial
  | _ => trivial⟩
end Fl
namespace Fl
open PySem
def f_look_liars : SF := (sSeq (sSet 3 (dAnd (dOp1 (gIsi tabLT) (dVar 0)) (dOp2 gLe (dOpN gLen (dCons (dVar 0) dNil)) (dVar 2)))) (sIf (tOrF (tNotF (tVal (dVar 3))) (tOrF (tNotF (tVal (dOpN gAll (dCons (dLc (iSeq (dVar 0)) (gN 4) tYesF (dCall 3 0 S_is_whole (fun xs _ => xs) (dCons (dVar 4) (dCons (dC (.int 0)) (dCons (dOp2 gSub (dVar 1) (dC (.int 1))) dNil))) dNil) [4]) dNil)))) (tVal (dOp2 gNe (dSortSet (dVar 0)) (dOpN gList (dCons (dVar 0) dNil)))))) (sRaise 9) sNext))
def S_look_liars : List D → Mem → Res D := fun ds M => match decide (ds.length = 3) with
  | true => (f_look_liars (startD 5 ds) M).fin
  | false => .bad
def f_Board___init__ : SF := (sSeq (sFldF 6 (dVar 0) (dVar 1)) (sSeq (sFldF 7 (dVar 0) (dVar 2)) (sFldF 8 (dVar 0) dNewT)))
def S_Board___init__ : List D → Mem → Res D := fun ds M => match decide (ds.length = 3) with
  | true => (f_Board___init__ (startD 3 ds) M).fin
  | false => .bad
def f_House___init__ : SF := (sSeq (sFldF 0 (dVar 0) (dOpN gList (dCons (dVar 1) dNil))) (sSeq (sFldF 1 (dVar 0) (dLc (iSeq (dVar 1)) (gN 2) tYesF (dC (.int 0)) [2])) (sSeq (sFldF 2 (dVar 0) dNewT) (sSeq (sFldF 3 (dVar 0) (dLst dNil)) (sSeq (sFldF 4 (dVar 0) (dLst dNil)) (sFldF 5 (dVar 0) (dLst dNil)))))))
def S_House___init__ : List D → Mem → Res D := fun ds M => match decide (ds.length = 2) with
  | true => (f_House___init__ (startD 3 ds) M).fin
  | false => .bad
def f_World___init__ : SF := (sSeq (sDrop (dCall 3 0 S_look_number (fun xs _ => xs) (dCons (dVar 1) (dCons (dC (.int 1)) (dCons (dC (.int 16)) dNil))) dNil)) (sSeq (sDrop (dCall 3 0 S_look_number (fun xs _ => xs) (dCons (dVar 2) (dCons (dC (.int 0)) (dCons (dC (.int 5)) dNil))) dNil)) (sSeq (sIf (tVal (dOp2 gLe (dVar 1) (dOp2 gMulX (dC (.int 3)) (dVar 2)))) (sRaise 9) sNext) (sSeq (sDrop (dCall 3 0 S_look_liars (fun xs _ => xs) (dCons (dVar 4) (dCons (dVar 1) (dCons (dVar 2) dNil))) dNil)) (sSeq (sSet 6 (dAnd (dOp1 (gIsi tabLst) (dVar 3)) (dChain gLe gLe (dC (.int 2)) (dOpN gLen (dCons (dVar 3) dNil)) (dC (.int 8))))) (sSeq (sIf (tOrF (tNotF (tVal (dVar 6))) (tNotF (tVal (dOpN gAll (dCons (dLc (iSeq (dVar 3)) (gN 8) tYesF (dCall 3 0 S_is_whole (fun xs _ => xs) (dCons (dVar 8) (dCons (dC (.int 0)) (dCons (dC (.int 1000)) dNil))) dNil) [8]) dNil))))) (sRaise 9) sNext) (sSeq (sDrop (dCall 3 0 S_look_liars (fun xs _ => xs) (dCons (dVar 5) (dCons (dOpN gLen (dCons (dVar 3) dNil)) (dCons (dOpN gLen (dCons (dVar 3) dNil)) dNil))) dNil)) (sSeq (sFldF 9 (dVar 0) (dOpN gList (dCons (dVar 3) dNil))) (sSeq (sFldF 10 (dVar 0) (dOpN gList (dCons (dVar 4) dNil))) (sSeq (sFldF 11 (dVar 0) (dOpN gList (dCons (dVar 5) dNil))) (sSeq (sFldF 12 (dVar 0) (dMake 2 1 1 S_Board___init__ (fun xs zs => xs ++ zs) (dCons (dVar 1) dNil) (dCons (dVar 2) dNil))) (sSeq (sFldF 13 (dVar 0) (dDc (iRng1 (dCons (dVar 1) dNil)) (gN 7) (tVal (dOp2 gNotIn (dVar 7) (dVar 4))) (dVar 7) (dMake 1 1 0 S_House___init__ (fun xs _ => xs) (dCons (dVar 3) dNil) dNil) [7])) (sSeq (sFldF 14 (dVar 0) (dLst dNil)) (sFldF 15 (dVar 0) dNewT))))))))))))))
def S_World___init__ : List D → Mem → Res D := fun ds M => match decide (ds.length = 6) with
  | true => (f_World___init__ (startD 9 ds) M).fin
  | false => .bad
def f_World_letters : SF := (sRet (dOpN gList (dCons (dOp1 (gFld 14) (dVar 0)) dNil)))
def S_World_letters : List D → Mem → Res D := fun ds M => match decide (ds.length = 1) with
  | true => (f_World_letters (startD 1 ds) M).fin
  | false => .bad
def f_House_may_vote : SF := (sSeq (sAsg (dVar 1) (gT 4 (gsCons 2 (gsCons 3 (gsCons 4 (gsCons 5 gsNil)))))) (sSeq (sIf (tVal (dOp2 gNe (dGet2 (dOp1 (gFld 2) (dVar 0)) (dTup (dCons (dVar 2) (dCons (dVar 3) dNil))) (dVar 1)) (dVar 1))) (sRet (dC (.bl false))) sNext) (sRet (dAnd (dOp2 gEq (dVar 3) (dOp2 gIx (dOp1 (gFld 1) (dVar 0)) (dVar 2))) (dOp2 gLe (dVar 5) (dOp2 gIx (dOp1 (gFld 0) (dVar 0)) (dVar 2)))))))
def S_House_may_vote : List D → Mem → Res D := fun ds M => match decide (ds.length = 2) with
  | true => (f_House_may_vote (startD 6 ds) M).fin
  | false => .bad
def f_House_new_votes : SF := (sSeq (sSet 1 (dLst dNil)) (sSeq (sFor (iSeq (dOpN gList (dCons (dOp1 (gFld 3) (dVar 0)) dNil))) (gN 2) (sIf (tAndF (tVal (dOp2 gNotIn (dSl (dVar 2) oNone (oSome (dC (.int 2)))) (dOp1 (gFld 2) (dVar 0)))) (tVal (dMeth 1 25 1 S_House_may_vote (fun xs _ => xs) (dVar 0) (dCons (dVar 2) dNil)))) (sSeq (sAsg (dVar 2) (gIxSet (dOp1 (gFld 2) (dVar 0)) (dSl (dVar 2) oNone (oSome (dC (.int 2)))))) (sDrop (dBm tyLst gAppend (dVar 1) (dCons (dVar 2) dNil)))) sNext)) (sRet (dVar 1))))
def S_House_new_votes : List D → Mem → Res D := fun ds M => match decide (ds.length = 1) with
  | true => (f_House_new_votes (startD 3 ds) M).fin
  | false => .bad
def f_House_hear : SF := (sSeq (sDrop (dCall 1 1 S_look_order (fun xs zs => xs ++ zs) (dCons (dVar 1) dNil) (dCons (dOpN gLen (dCons (dOp1 (gFld 0) (dVar 0)) dNil)) dNil))) (sSeq (sIf (tVal (dOp2 gNotIn (dVar 1) (dOp1 (gFld 3) (dVar 0)))) (sDrop (dBm tyLst gAppend (dOp1 (gFld 3) (dVar 0)) (dCons (dVar 1) dNil))) sNext) (sRet (dMeth 1 27 0 S_House_new_votes (fun xs _ => xs) (dVar 0) dNil))))
def S_House_hear : List D → Mem → Res D := fun ds M => match decide (ds.length = 2) with
  | true => (f_House_hear (startD 2 ds) M).fin
  | false => .bad
def f_Board_sign : SF := (sSeq (sDrop (dCall 1 0 S_look_order (fun xs _ => xs ++ [(.int 8)]) (dCons (dVar 2) dNil) dNil)) (sSeq (sSet 3 (dSetd (dOp1 (gFld 8) (dVar 0)) (dVar 2) (dLst dNil))) (sSeq (sIf (tVal (dOp2 gIn (dVar 1) (dVar 3))) (sRet (dC (.bl false))) sNext) (sSeq (sDrop (dBm tyLst gAppend (dVar 3) (dCons (dVar 1) dNil))) (sRet (dOp2 gEq (dOpN gLen (dCons (dVar 3) dNil)) (dCall 2 0 S_enough (fun xs _ => xs) (dCons (dOp1 (gFld 6) (dVar 0)) (dCons (dOp1 (gFld 7) (dVar 0)) dNil)) dNil)))))))
def S_Board_sign : List D → Mem → Res D := fun ds M => match decide (ds.length = 3) with
  | true => (f_Board_sign (startD 4 ds) M).fin
  | false => .bad
def f_World_honest : SF := (sRet (dOpN gSorted (dCons (dOp1 (gFld 13) (dVar 0)) dNil)))
def S_World_honest : List D → Mem → Res D := fun ds M => match decide (ds.length = 1) with
  | true => (f_World_honest (startD 1 ds) M).fin
  | false => .bad
def f_World_paper_to_all : SF := (sFor (iSeq (dMeth 0 39 0 S_World_honest (fun xs _ => xs) (dVar 0) dNil)) (gN 2) (sDrop (dBm tyLst gAppend (dOp1 (gFld 14) (dVar 0)) (dCons (dTup (dCons (dC (.str "paper")) (dCons (dVar 2) (dCons (dVar 1) dNil)))) dNil))))
def S_World_paper_to_all : List D → Mem → Res D := fun ds M => match decide (ds.length = 2) with
  | true => (f_World_paper_to_all (startD 3 ds) M).fin
  | false => .bad
def f_World_signed : SF := (sIf (tVal (dMeth 2 34 2 S_Board_sign (fun xs _ => xs) (dOp1 (gFld 12) (dVar 0)) (dCons (dVar 1) (dCons (dVar 2) dNil)))) (sDrop (dMeth 0 44 1 S_World_paper_to_all (fun xs _ => xs) (dVar 0) (dCons (dVar 2) dNil))) sNext)
def S_World_signed : List D → Mem → Res D := fun ds M => match decide (ds.length = 3) with
  | true => (f_World_signed (startD 3 ds) M).fin
  | false => .bad
def f_House_settle : SF := (sSeq (sAsg (dVar 1) (gT 4 (gsCons 2 (gsCons 3 (gsCons 4 (gsCons 5 gsNil)))))) (sSeq (sIxAug (dOp1 (gFld 0) (dVar 0)) (dVar 2) (dVar 5) gSub) (sSeq (sIxAug (dOp1 (gFld 0) (dVar 0)) (dVar 4) (dVar 5) gIAdd) (sSeq (sIxAug (dOp1 (gFld 1) (dVar 0)) (dVar 2) (dC (.int 1)) gIAdd) (sDrop (dBm tyLst gAppend (dOp1 (gFld 5) (dVar 0)) (dCons (dVar 1) dNil)))))))
def S_House_settle : List D → Mem → Res D := fun ds M => match decide (ds.length = 2) with
  | true => (f_House_settle (startD 6 ds) M).fin
  | false => .bad
def f_House_can_settle : SF := (sSeq (sAsg (dVar 1) (gT 4 (gsCons 2 (gsCons 3 (gsCons 4 (gsCons 5 gsNil)))))) (sRet (dAnd (dOp2 gEq (dVar 3) (dOp2 gIx (dOp1 (gFld 1) (dVar 0)) (dVar 2))) (dOp2 gLe (dVar 5) (dOp2 gIx (dOp1 (gFld 0) (dVar 0)) (dVar 2))))))
def S_House_can_settle : List D → Mem → Res D := fun ds M => match decide (ds.length = 2) with
  | true => (f_House_can_settle (startD 6 ds) M).fin
  | false => .bad
def f_House_go_on : SF := (sSeq (sSet 1 (dLst dNil)) (sSeq (sWhileL (tVal (dOpN gAny (dCons (dLc (iSeq (dOp1 (gFld 4) (dVar 0))) (gN 3) tYesF (dMeth 1 28 1 S_House_can_settle (fun xs _ => xs) (dVar 0) (dCons (dVar 3) dNil)) [3]) dNil))) (sSeq (sSet 2 (dLc (iSeq (dOp1 (gFld 4) (dVar 0))) (gN 3) (tVal (dMeth 1 28 1 S_House_can_settle (fun xs _ => xs) (dVar 0) (dCons (dVar 3) dNil))) (dVar 3) [3])) (sSeq (sDrop (dBm tyLst gRemove (dOp1 (gFld 4) (dVar 0)) (dCons (dOp2 gIx (dVar 2) (dC (.int 0))) dNil))) (sSeq (sDrop (dMeth 1 31 1 S_House_settle (fun xs _ => xs) (dVar 0) (dCons (dOp2 gIx (dVar 2) (dC (.int 0))) dNil))) (sDrop (dBm tyLst gAppend (dVar 1) (dCons (dOp2 gIx (dVar 2) (dC (.int 0))) dNil)))))) 100000) (sRet (dVar 1))))
def S_House_go_on : List D → Mem → Res D := fun ds M => match decide (ds.length = 1) with
  | true => (f_House_go_on (startD 4 ds) M).fin
  | false => .bad
def f_House_take : SF := (sSeq (sAsg (dVar 1) (gT 4 (gsCons 2 (gsCons 3 (gsCons 4 (gsCons 5 gsNil)))))) (sSeq (sIf (tAndF (tVal (dOp2 gGe (dVar 3) (dOp2 gIx (dOp1 (gFld 1) (dVar 0)) (dVar 2)))) (tVal (dOp2 gNotIn (dVar 1) (dOp1 (gFld 4) (dVar 0))))) (sDrop (dBm tyLst gAppend (dOp1 (gFld 4) (dVar 0)) (dCons (dVar 1) dNil))) sNext) (sRet (dMeth 1 30 0 S_House_go_on (fun xs _ => xs) (dVar 0) dNil))))
def S_House_take : List D → Mem → Res D := fun ds M => match decide (ds.length = 2) with
  | true => (f_House_take (startD 6 ds) M).fin
  | false => .bad
def f_World_come : SF := (sSeq (sIf (tNotF (tVal (dCall 3 0 S_is_whole (fun xs _ => xs) (dCons (dVar 1) (dCons (dC (.int 0)) (dCons (dOp2 gSub (dOpN gLen (dCons (dOp1 (gFld 14) (dVar 0)) dNil)) (dC (.int 1))) dNil))) dNil))) (sRaise 12) sNext) (sSeq (sAsg (dBm tyLst gPopAt (dOp1 (gFld 14) (dVar 0)) (dCons (dVar 1) dNil)) (gT 3 (gsCons 2 (gsCons 3 (gsCons 4 gsNil))))) (sSeq (sSet 5 (dOp2 gIx (dOp1 (gFld 13) (dVar 0)) (dVar 3))) (sSeq (sSet 6 (dIfE (tVal (dOp2 gEq (dVar 2) (dC (.str "order")))) (dMeth 1 26 1 S_House_hear (fun xs _ => xs) (dVar 5) (dCons (dVar 4) dNil)) (dLst dNil))) (sSeq (sIf (tAndF (tVal (dOp2 gEq (dVar 2) (dC (.str "paper")))) (tVal (dOp2 gNe (dMeth 1 29 1 S_House_take (fun xs _ => xs) (dVar 5) (dCons (dVar 4) dNil)) (dLst dNil)))) (sSet 6 (dMeth 1 27 0 S_House_new_votes (fun xs _ => xs) (dVar 5) dNil)) sNext) (sSeq (sFor (iSeq (dVar 6)) (gN 7) (sDrop (dMeth 0 50 2 S_World_signed (fun xs _ => xs) (dVar 0) (dCons (dVar 3) (dCons (dVar 7) dNil))))) (sRet (dTup (dCons (dVar 2) (dCons (dVar 3) (dCons (dVar 4) dNil)))))))))))
def S_World_come : List D → Mem → Res D := fun ds M => match decide (ds.length = 2) with
  | true => (f_World_come (startD 8 ds) M).fin
  | false => .bad
def f_World_room : SF := (sSeq (sIf (tOrF (tNotF (tVal (dCall 3 0 S_is_whole (fun xs _ => xs) (dCons (dVar 1) (dCons (dC (.int 0)) (dCons (dOp2 gSub (dOp1 (gFld 6) (dOp1 (gFld 12) (dVar 0))) (dC (.int 1))) dNil))) dNil))) (tVal (dOp2 gNotIn (dVar 1) (dOp1 (gFld 13) (dVar 0))))) (sRaise1 10 24 (dVar 1)) sNext) (sRet (dOp2 gIx (dOp1 (gFld 13) (dVar 0)) (dVar 1))))
def S_World_room : List D → Mem → Res D := fun ds M => match decide (ds.length = 2) with
  | true => (f_World_room (startD 2 ds) M).fin
  | false => .bad
def f_World_cheat : SF := (sSeq (sDrop (dCall 1 1 S_look_order (fun xs zs => xs ++ zs) (dCons (dVar 1) dNil) (dCons (dOpN gLen (dCons (dOp1 (gFld 9) (dVar 0)) dNil)) dNil))) (sSeq (sIf (tVal (dOp2 gNotIn (dOp2 gIx (dVar 1) (dC (.int 0))) (dOp1 (gFld 11) (dVar 0)))) (sRaise1 11 17 (dOp2 gIx (dVar 1) (dC (.int 0)))) sNext) (sSeq (sDrop (dMeth 0 40 1 S_World_room (fun xs _ => xs) (dVar 0) (dCons (dVar 2) dNil))) (sDrop (dBm tyLst gAppend (dOp1 (gFld 14) (dVar 0)) (dCons (dTup (dCons (dC (.str "order")) (dCons (dVar 2) (dCons (dVar 1) dNil)))) dNil))))))
def S_World_cheat : List D → Mem → Res D := fun ds M => match decide (ds.length = 3) with
  | true => (f_World_cheat (startD 3 ds) M).fin
  | false => .bad
def f_World_look_liar : SF := (sIf (tOrF (tNotF (tVal (dCall 3 0 S_is_whole (fun xs _ => xs) (dCons (dVar 1) (dCons (dC (.int 0)) (dCons (dOp2 gSub (dOp1 (gFld 6) (dOp1 (gFld 12) (dVar 0))) (dC (.int 1))) dNil))) dNil))) (tVal (dOp2 gIn (dVar 1) (dOp1 (gFld 13) (dVar 0))))) (sRaise1 10 24 (dVar 1)) sNext)
def S_World_look_liar : List D → Mem → Res D := fun ds M => match decide (ds.length = 2) with
  | true => (f_World_look_liar (startD 2 ds) M).fin
  | false => .bad
def f_World_lie : SF := (sSeq (sDrop (dMeth 0 41 1 S_World_look_liar (fun xs _ => xs) (dVar 0) (dCons (dVar 1) dNil))) (sSeq (sDrop (dCall 1 1 S_look_order (fun xs zs => xs ++ zs) (dCons (dVar 2) dNil) (dCons (dOpN gLen (dCons (dOp1 (gFld 9) (dVar 0)) dNil)) dNil))) (sSeq (sIf (tAndF (tVal (dOp2 gNotIn (dOp2 gIx (dVar 2) (dC (.int 0))) (dOp1 (gFld 11) (dVar 0)))) (tVal (dOp2 gNe (dGet1 (dOp1 (gFld 15) (dVar 0)) (dSl (dVar 2) oNone (oSome (dC (.int 2))))) (dVar 2)))) (sRaise1 11 17 (dOp2 gIx (dVar 2) (dC (.int 0)))) sNext) (sDrop (dMeth 0 50 2 S_World_signed (fun xs _ => xs) (dVar 0) (dCons (dVar 1) (dCons (dVar 2) dNil)))))))
def S_World_lie : List D → Mem → Res D := fun ds M => match decide (ds.length = 3) with
  | true => (f_World_lie (startD 3 ds) M).fin
  | false => .bad
def f_World_look_purse : SF := (sIf (tNotF (tVal (dCall 3 0 S_is_whole (fun xs _ => xs) (dCons (dVar 1) (dCons (dC (.int 0)) (dCons (dOp2 gSub (dOpN gLen (dCons (dOp1 (gFld 9) (dVar 0)) dNil)) (dC (.int 1))) dNil))) dNil))) (sRaise1 11 17 (dVar 1)) sNext)
def S_World_look_purse : List D → Mem → Res D := fun ds M => match decide (ds.length = 2) with
  | true => (f_World_look_purse (startD 2 ds) M).fin
  | false => .bad
def f_World_next_number : SF := (sSeq (sDrop (dMeth 0 42 1 S_World_look_purse (fun xs _ => xs) (dVar 0) (dCons (dVar 1) dNil))) (sRet (dOpN gLen (dCons (dLock (dOp1 (gFld 15) (dVar 0)) (dLc (iKeysF (dOp1 (gFld 15) (dVar 0))) (gN 2) (tVal (dOp2 gEq (dOp2 gIx (dVar 2) (dC (.int 0))) (dVar 1))) (dVar 2) [2])) dNil))))
def S_World_next_number : List D → Mem → Res D := fun ds M => match decide (ds.length = 2) with
  | true => (f_World_next_number (startD 3 ds) M).fin
  | false => .bad
def f_World_order_to_all : SF := (sFor (iSeq (dMeth 0 39 0 S_World_honest (fun xs _ => xs) (dVar 0) dNil)) (gN 2) (sDrop (dBm tyLst gAppend (dOp1 (gFld 14) (dVar 0)) (dCons (dTup (dCons (dC (.str "order")) (dCons (dVar 2) (dCons (dVar 1) dNil)))) dNil))))
def S_World_order_to_all : List D → Mem → Res D := fun ds M => match decide (ds.length = 2) with
  | true => (f_World_order_to_all (startD 3 ds) M).fin
  | false => .bad
def f_Board_is_paper : SF := (sRet (dOp2 gGe (dOpN gLen (dCons (dGet2 (dOp1 (gFld 8) (dVar 0)) (dVar 1) (dLst dNil)) dNil)) (dCall 2 0 S_enough (fun xs _ => xs) (dCons (dOp1 (gFld 6) (dVar 0)) (dCons (dOp1 (gFld 7) (dVar 0)) dNil)) dNil)))
def S_Board_is_paper : List D → Mem → Res D := fun ds M => match decide (ds.length = 2) with
  | true => (f_Board_is_paper (startD 2 ds) M).fin
  | false => .bad
def f_World_left_at : SF := (sSeq (sSet 3 (dOp2 gIx (dOp1 (gFld 13) (dVar 0)) (dVar 1))) (sSeq (sLock (dOp1 (gFld 15) (dVar 0)) (sSet 4 (dLc (iKeysF (dOp1 (gFld 15) (dVar 0))) (gN 5) (tAndF (tVal (dOp2 gEq (dOp2 gIx (dVar 5) (dC (.int 0))) (dVar 2))) (tVal (dOp2 gGe (dOp2 gIx (dVar 5) (dC (.int 1))) (dOp2 gIx (dOp1 (gFld 1) (dVar 3)) (dVar 2))))) (dOp2 gIx (dOp1 (gFld 15) (dVar 0)) (dVar 5)) [5]))) (sRet (dOp2 gSub (dOp2 gIx (dOp1 (gFld 0) (dVar 3)) (dVar 2)) (dOpN gSum (dCons (dLc (iSeq (dVar 4)) (gN 6) tYesF (dOp2 gIx (dVar 6) (dC (.int 3))) [6]) dNil))))))
def S_World_left_at : List D → Mem → Res D := fun ds M => match decide (ds.length = 3) with
  | true => (f_World_left_at (startD 7 ds) M).fin
  | false => .bad
def f_World_ask : SF := (sSeq (sDrop (dMeth 0 42 1 S_World_look_purse (fun xs _ => xs) (dVar 0) (dCons (dVar 1) dNil))) (sSeq (sDrop (dMeth 0 42 1 S_World_look_purse (fun xs _ => xs) (dVar 0) (dCons (dVar 2) dNil))) (sSeq (sIf (tOrF (tVal (dOp2 gIn (dVar 1) (dOp1 (gFld 11) (dVar 0)))) (tVal (dOp2 gEq (dVar 1) (dVar 2)))) (sRaise1 11 17 (dVar 1)) sNext) (sSeq (sDrop (dCall 3 0 S_look_number (fun xs _ => xs) (dCons (dVar 3) (dCons (dC (.int 1)) (dCons (dC (.int 1000)) dNil))) dNil)) (sSeq (sSet 4 (dMeth 0 45 1 S_World_next_number (fun xs _ => xs) (dVar 0) (dCons (dVar 1) dNil))) (sSeq (sIf (tOrF (tVal (dOp2 gGt (dVar 4) (dC (.int 99)))) (tAndF (tVal (dOp2 gGt (dVar 4) (dC (.int 0)))) (tNotF (tVal (dMeth 2 36 1 S_Board_is_paper (fun xs _ => xs) (dOp1 (gFld 12) (dVar 0)) (dCons (dOp2 gIx (dOp1 (gFld 15) (dVar 0)) (dTup (dCons (dVar 1) (dCons (dOp2 gSub (dVar 4) (dC (.int 1))) dNil)))) dNil)))))) (sRaise 13) sNext) (sSeq (sSet 5 (dTup (dCons (dVar 1) (dCons (dVar 4) (dCons (dVar 2) (dCons (dVar 3) dNil)))))) (sSeq (sIf (tVal (dOp2 gGt (dVar 3) (dOpN gMax (dCons (dLc (iSeq (dMeth 0 39 0 S_World_honest (fun xs _ => xs) (dVar 0) dNil)) (gN 6) tYesF (dMeth 0 47 2 S_World_left_at (fun xs _ => xs) (dVar 0) (dCons (dVar 6) (dCons (dVar 1) dNil))) [6]) dNil)))) (sRaise 14) sNext) (sSeq (sAsg (dVar 5) (gIxSet (dOp1 (gFld 15) (dVar 0)) (dTup (dCons (dVar 1) (dCons (dVar 4) dNil))))) (sSeq (sDrop (dMeth 0 43 1 S_World_order_to_all (fun xs _ => xs) (dVar 0) (dCons (dVar 5) dNil))) (sRet (dVar 5))))))))))))
def S_World_ask : List D → Mem → Res D := fun ds M => match decide (ds.length = 4) with
  | true => (f_World_ask (startD 7 ds) M).fin
  | false => .bad
def f_Board_votes_for : SF := (sRet (dOpN gSorted (dCons (dGet2 (dOp1 (gFld 8) (dVar 0)) (dVar 1) (dLst dNil)) dNil)))
def S_Board_votes_for : List D → Mem → Res D := fun ds M => match decide (ds.length = 2) with
  | true => (f_Board_votes_for (startD 2 ds) M).fin
  | false => .bad
def f_Board_paper : SF := (sSeq (sIf (tOrF (tNotF (tVal (dCall 1 0 S_is_order (fun xs _ => xs ++ [(.int 8)]) (dCons (dVar 1) dNil) dNil))) (tNotF (tVal (dMeth 2 36 1 S_Board_is_paper (fun xs _ => xs) (dVar 0) (dCons (dVar 1) dNil))))) (sRaise 15) sNext) (sRet (dTup (dCons (dVar 1) (dCons (dOpN gTuple (dCons (dMeth 2 35 1 S_Board_votes_for (fun xs _ => xs) (dVar 0) (dCons (dVar 1) dNil)) dNil)) dNil)))))
def S_Board_paper : List D → Mem → Res D := fun ds M => match decide (ds.length = 2) with
  | true => (f_Board_paper (startD 2 ds) M).fin
  | false => .bad
def f_World_show : SF := (sSeq (sDrop (dMeth 0 40 1 S_World_room (fun xs _ => xs) (dVar 0) (dCons (dVar 2) dNil))) (sSeq (sDrop (dMeth 2 37 1 S_Board_paper (fun xs _ => xs) (dOp1 (gFld 12) (dVar 0)) (dCons (dVar 1) dNil))) (sDrop (dBm tyLst gAppend (dOp1 (gFld 14) (dVar 0)) (dCons (dTup (dCons (dC (.str "paper")) (dCons (dVar 2) (dCons (dVar 1) dNil)))) dNil)))))
def S_World_show : List D → Mem → Res D := fun ds M => match decide (ds.length = 3) with
  | true => (f_World_show (startD 3 ds) M).fin
  | false => .bad
def f_Board_papers : SF := (sRet (dOpN gSorted (dCons (dLock (dOp1 (gFld 8) (dVar 0)) (dLc (iKeysF (dOp1 (gFld 8) (dVar 0))) (gN 1) (tVal (dMeth 2 36 1 S_Board_is_paper (fun xs _ => xs) (dVar 0) (dCons (dVar 1) dNil))) (dVar 1) [1])) dNil)))
def S_Board_papers : List D → Mem → Res D := fun ds M => match decide (ds.length = 1) with
  | true => (f_Board_papers (startD 2 ds) M).fin
  | false => .bad
def f_World_papers : SF := (sRet (dMeth 2 38 0 S_Board_papers (fun xs _ => xs) (dOp1 (gFld 12) (dVar 0)) dNil))
def S_World_papers : List D → Mem → Res D := fun ds M => match decide (ds.length = 1) with
  | true => (f_World_papers (startD 1 ds) M).fin
  | false => .bad
def f_World_paper : SF := (sSeq (sDrop (dCall 1 1 S_look_order (fun xs zs => xs ++ zs) (dCons (dVar 1) dNil) (dCons (dOpN gLen (dCons (dOp1 (gFld 9) (dVar 0)) dNil)) dNil))) (sRet (dMeth 2 37 1 S_Board_paper (fun xs _ => xs) (dOp1 (gFld 12) (dVar 0)) (dCons (dVar 1) dNil))))
def S_World_paper : List D → Mem → Res D := fun ds M => match decide (ds.length = 2) with
  | true => (f_World_paper (startD 2 ds) M).fin
  | false => .bad
def f_look_world : SF := (sIf (tNotF (tVal (dOp1 (gIsi (tabW 0)) (dVar 0)))) (sRaise 15) sNext)
def S_look_world : List D → Mem → Res D := fun ds M => match decide (ds.length = 1) with
  | true => (f_look_world (startD 1 ds) M).fin
  | false => .bad
def f_World_votes_for : SF := (sSeq (sDrop (dCall 1 1 S_look_order (fun xs zs => xs ++ zs) (dCons (dVar 1) dNil) (dCons (dOpN gLen (dCons (dOp1 (gFld 9) (dVar 0)) dNil)) dNil))) (sRet (dMeth 2 35 1 S_Board_votes_for (fun xs _ => xs) (dOp1 (gFld 12) (dVar 0)) (dCons (dVar 1) dNil))))
def S_World_votes_for : List D → Mem → Res D := fun ds M => match decide (ds.length = 2) with
  | true => (f_World_votes_for (startD 2 ds) M).fin
  | false => .bad
def f_World_voted : SF := (sSeq (sSet 4 (dMeth 0 40 1 S_World_room (fun xs _ => xs) (dVar 0) (dCons (dVar 1) dNil))) (sSeq (sDrop (dMeth 0 42 1 S_World_look_purse (fun xs _ => xs) (dVar 0) (dCons (dVar 2) dNil))) (sRet (dGet1 (dOp1 (gFld 2) (dVar 4)) (dTup (dCons (dVar 2) (dCons (dVar 3) dNil)))))))
def S_World_voted : List D → Mem → Res D := fun ds M => match decide (ds.length = 4) with
  | true => (f_World_voted (startD 5 ds) M).fin
  | false => .bad
def f_World_sums : SF := (sRet (dOpN gList (dCons (dOp1 (gFld 0) (dMeth 0 40 1 S_World_room (fun xs _ => xs) (dVar 0) (dCons (dVar 1) dNil))) dNil)))
def S_World_sums : List D → Mem → Res D := fun ds M => match decide (ds.length = 2) with
  | true => (f_World_sums (startD 2 ds) M).fin
  | false => .bad
def f_World_settled : SF := (sRet (dOpN gList (dCons (dOp1 (gFld 5) (dMeth 0 40 1 S_World_room (fun xs _ => xs) (dVar 0) (dCons (dVar 1) dNil))) dNil)))
def S_World_settled : List D → Mem → Res D := fun ds M => match decide (ds.length = 2) with
  | true => (f_World_settled (startD 2 ds) M).fin
  | false => .bad
def f_World_waits : SF := (sRet (dOpN gSorted (dCons (dOp1 (gFld 4) (dMeth 0 40 1 S_World_room (fun xs _ => xs) (dVar 0) (dCons (dVar 1) dNil))) dNil)))
def S_World_waits : List D → Mem → Res D := fun ds M => match decide (ds.length = 2) with
  | true => (f_World_waits (startD 2 ds) M).fin
  | false => .bad
def f_World_is_still : SF := (sRet (dOp2 gEq (dOp1 (gFld 14) (dVar 0)) (dLst dNil)))
def S_World_is_still : List D → Mem → Res D := fun ds M => match decide (ds.length = 1) with
  | true => (f_World_is_still (startD 1 ds) M).fin
  | false => .bad
end Fl
namespace L2
open PySem PySem.Spec PyProof.Rows
def SqX (b : Bool) (K : PySem.W.Frag) (H : Hp) (a : Addr) (xs : List V) : Prop := match b with | true => SqL K H a xs | false => SqT K H a xs
def IterX (b : Bool) (h : Heap) (it a : Addr) (i : Nat) : Prop := match b with | true => h.IsListIter it a i | false => h.IsTupleIter it a i
def SeqX (b : Bool) (h : Heap) (a : Addr) (its : Array Value) : Prop := match b with | true => h.IsList a its | false => h.IsTuple a its
def itX (b : Bool) (a : Addr) : Obj := match b with | true => { cls := .type "list_iterator", data := .fields #[.ref a, .int 0 0] } | false => { cls := .type "tuple_iterator", data := .fields #[.ref a, .int 0 0] }
theorem drawsX {prog : Program} {w : World} {A : Around} (b : Bool) (hh : A.handled = none) (it a : Addr) (hne : a ≠ it) (items : Array Value) : Draws prog w A it [it, a] items.size (fun i v => items[i]? = some v) (fun i h => IterX b h it a i ∧ SeqX b h a items) := by
  cases b
  · exact Draws.tuple hh it a hne items
  · exact Draws.list hh it a hne items
theorem beginsX (b : Bool) (a : Addr) (items : Array Value) : Begins (.ref a) (itX b a) fun h => SeqX b h a items := by
  cases b
  · exact begins_tuple a items
  · exact begins_list a items
theorem iterX0 {b : Bool} {h : Heap} {it a : Addr} (e : h.get? it = some (itX b a)) : IterX b h it a 0 := by
  cases b <;> exact ⟨_, e, rfl, rfl⟩
theorem iterX_at {b : Bool} {h h' : Heap} {it a : Addr} {i : Nat} (x : IterX b h it a i) (k : ∀ o, h.get? it = some o → h'.get? it = some o) : IterX b h' it a i := by
  cases b
  · obtain ⟨o, ho, r⟩ := x; exact ⟨o, k o ho, r⟩
  · obtain ⟨o, ho, r⟩ := x; exact ⟨o, k o ho, r⟩
theorem iterX_obj {b : Bool} {h : Heap} {it a : Addr} {i : Nat} (x : IterX b h it a i) : ∃ o, h.get? it = some o ∧ ∀ v, o.data ≠ .cell v := by
  cases b
  · obtain ⟨o, ho, _, d⟩ := x; exact ⟨o, ho, fun v q => by rw [d] at q; cases q⟩
  · obtain ⟨o, ho, _, d⟩ := x; exact ⟨o, ho, fun v q => by rw [d] at q; cases q⟩
section
variable {X : Cx} {pins : List (Addr × Obj)} {σ : St} {H : Hp} {s : Shared} {a : Addr} {xs ys : List V}
theorem Inv.seqX {b : Bool} (I : Inv X pins σ H s) (h : SqX b X.K H a xs) : ∃ its : List Value, Vals xs its ∧ SeqX b s.heap a its.toArray ∧ a < s.heap.objs.size := by
  cases b
  · obtain ⟨its, r, p, _⟩ := I.tuple h
    obtain ⟨o, e, _⟩ := id p
    exact ⟨its, r, p, Heap.lt_size e⟩
  · obtain ⟨its, r, p, _⟩ := I.list h
    exact ⟨its, r, p.isList, p.lt⟩
theorem Inv.seqX_inj {b : Bool} (I : Inv X pins σ H s) (h : SqX b X.K H a xs) (h' : SqX b X.K H a ys) : xs = ys := by
  cases b
  · exact I.tuple_inj h h'
  · exact I.list_inj h h'
end
def ItzX (k1 k2 : Bool) (K : PySem.W.Frag) (a b : Addr) : It :=
  ⟨fun i H => ∃ (xs ys : List V) (x y : V), SqX k1 K H a xs ∧ SqX k2 K H b ys ∧ xs[i]? = some x ∧ ys[i]? = some y,
    fun i H v H' => ∃ T x y, v = .ref T ∧ H T = none ∧ H' = upd H T (.tup [x, y]) ∧ (∀ xs, SqX k1 K H a xs → xs[i]? = some x) ∧ ∀ ys, SqX k2 K H b ys → ys[i]? = some y,
    fun i H => ∃ xs ys : List V, SqX k1 K H a xs ∧ SqX k2 K H b ys ∧ i ≤ xs.length ∧ i ≤ ys.length ∧ (i = xs.length ∨ i = ys.length)⟩
structure ZApart (z TI TO i1 i2 a b : Addr) : Prop where
  S : ZipSep2 z TI TO i1 i2 [i1, a] [i2, b]
  a1 : a ≠ i1
  b2 : b ≠ i2
theorem notin2 {x p q : Nat} (h1 : x ≠ p) (h2 : x ≠ q) : x ∉ ([p, q] : List Nat) := by simp [h1, h2]
theorem zapart {n a b : Nat} (la : a < n) (lb : b < n) : ZApart (n + 4) (n + 2) (n + 3) n (n + 1) a b :=
  ⟨⟨(by omega : (n + 2 : Nat) ≠ n + 4), (by omega : (n + 3 : Nat) ≠ n + 4), (by omega : (n + 2 : Nat) ≠ n + 3), (by omega : (n + 2 : Nat) ≠ n), List.mem_cons_self .., notin2 (by omega) (by omega), notin2 (by omega) (by omega),
    (by omega : (n + 2 : Nat) ≠ n + 1), List.mem_cons_self .., notin2 (by omega) (by omega), notin2 (by omega) (by omega), notin2 (by omega) (by omega), notin2 (by omega) (by omega)⟩, (by omega : (a : Nat) ≠ n), (by omega : (b : Nat) ≠ n + 1)⟩
theorem le_of5 {n c : Nat} (h : c = n + 4 ∨ c = n + 2 ∨ c = n + 3 ∨ c = n ∨ c = n + 1) : n ≤ c := by omega
theorem turn_zipX {P : Program} {w : World} {K : PySem.W.Frag} {elts : List Expr} {kk : Nat} {tpos : Pos} {k1 k2 : Bool} {a b z TI TO i1 i2 : Addr} (D : ZApart z TI TO i1 i2 a b) :
    Turn P w K (.Tuple elts kk tpos) (ItzX k1 k2 K a b) [z, TI, TO, i1, i2] z (fun i h => IsZip h z TI TO .none ∧ IsTupOf2 h TI (.ref i1) (.ref i2) ∧ (∃ x y, IsTupOf2 h TO x y) ∧ IterX k1 h i1 a i ∧ IterX k2 h i2 b i) where
  mem := by simp
  obj := fun i h st c hc => by
    obtain ⟨hz, hTI, ⟨x, y, hTO⟩, q1, q2⟩ := st
    have e' : c = z ∨ c = TI ∨ c = TO ∨ c = i1 ∨ c = i2 := by simpa using hc
    rcases e' with q | q | q | q | q
    · rw [q]; exact ⟨_, hz, fun v q => nomatch q⟩
    · rw [q]; exact ⟨_, hTI, fun v q => nomatch q⟩
    · rw [q]; exact ⟨_, hTO, fun v q => nomatch q⟩
    · rw [q]; exact iterX_obj q1
    · rw [q]; exact iterX_obj q2
  keep := fun i h h' st k => by
    obtain ⟨hz, hTI, ⟨x, y, hTO⟩, h1, h2⟩ := st
    exact ⟨k z (by simp) _ hz, k TI (by simp) _ hTI, ⟨x, y, k TO (by simp) _ hTO⟩, iterX_at h1 fun o q => k i1 (by simp) o q, iterX_at h2 fun o q => k i2 (by simp) o q⟩
  item := by
    intro X hP hw hK hc i pins s σ H E I hf st hg
    subst hP hw hK
    obtain ⟨hz, hTI, ⟨x0, y0, hTO⟩, h1, h2⟩ := st
    obtain ⟨xs, ys, x, y, hqx, hqy, hx, hy⟩ := hg
    obtain ⟨its, rv, p, _⟩ := I.seqX hqx
    obtain ⟨its2, rv2, p2, _⟩ := I.seqX hqy
    have hzl : z < s.heap.objs.size := Heap.lt_size hz
    have l1 := rv.length
    have l2 := rv2.length
    have lx := (List.getElem?_eq_some_iff.mp hx).1
    have ly := (List.getElem?_eq_some_iff.mp hy).1
    have hh : X.A.handled = none := I.ok.hd hc
    refine wpAny_pyNext_zipD2_item D.S (drawsX k1 (A := X.A.in1) hh i1 a D.a1 its.toArray) (drawsX k2 (A := X.A.in1) hh i2 b D.b2 its2.toArray) hz hTI hTO ⟨h1, p⟩ ⟨h2, p2⟩ (by rw [List.size_toArray]; omega) (by rw [List.size_toArray]; omega)
      fun u u2 h' tk hu hu2 z' TO' d1 d2 hT hsz hk => ?_
    have hu' : its[i]? = some u := by simpa using hu
    have hu2' : its2[i]? = some u2 := by simpa using hu2
    obtain ⟨v, ev, ru⟩ := rv.get hx
    rw [hu'] at ev; cases ev
    obtain ⟨v2, ev2, ru2⟩ := rv2.get hy
    rw [hu2'] at ev2; cases ev2
    refine ⟨_, rfl, wpAny_letOwnedTupleGo_zip (s := { s with heap := h', toks := tk }) z' fun h'' z'' sb => ?_⟩
    have hT2 : h''.get? s.heap.objs.size = some { cls := .type "tuple", data := .seq #[u, u2] } := (sb.2 _ (Nat.ne_of_gt hzl)).trans hT
    have new : ObjOk X.prog X.w (upd H s.heap.objs.size (.tup [x, y])) h'' s.heap.objs.size (.tup [x, y]) :=
      ⟨by show 2 ≤ sizeLine; decide, [u, u2], .cons ru (.cons ru2 .nil), ⟨_, hT2, rfl, _, rfl⟩⟩
    have I1 : Inv X pins σ (upd H s.heap.objs.size (.tup [x, y])) { s with heap := h'', toks := tk } :=
      I.turnedNew (t' := tk) (ch := [z, TI, TO, i1, i2]) (fun c o hb q => (sb.2 c (fun q' => hb (by simp [q']))).trans (hk c o (fun q' => hb (by simp [q'])) (fun q' => hb (by simp [q'])) (fun q' => hb (by simp [q'])) (fun q' => hb (by simp [q'])) q)) hf (Nat.le_refl _) new
    refine ⟨.ref s.heap.objs.size, _, I1, rfl, ⟨_, x, y, rfl, I.hok.fresh (Nat.le_refl _), rfl, fun l hl => by rw [I.seqX_inj hl hqx]; exact hx, fun l hl => by rw [I.seqX_inj hl hqy]; exact hy⟩, ⟨z'', ?_, ⟨u, u2, ?_⟩, ?_, ?_⟩, fun c hcm => ?_⟩
    · exact (sb.2 _ D.S.TIz).trans (hk _ _ D.S.TIz D.S.TITO D.S.TIi1 D.S.TIi2 hTI)
    · exact (sb.2 _ D.S.TOz).trans TO'
    · exact iterX_at d1.1 fun o q => (sb.2 _ (Ne.symm D.S.zi1)).trans q
    · exact iterX_at d2.1 fun o q => (sb.2 _ (Ne.symm D.S.zi2)).trans q
    · have hlt : c < s.heap.objs.size := by
        have e' : c = z ∨ c = TI ∨ c = TO ∨ c = i1 ∨ c = i2 := by simpa using hcm
        rcases e' with q | q | q | q | q
        · rw [q]; exact hzl
        · rw [q]; exact Heap.lt_size hTI
        · rw [q]; exact Heap.lt_size hTO
        · rw [q]; obtain ⟨_, e1, _⟩ := iterX_obj h1; exact Heap.lt_size e1
        · rw [q]; obtain ⟨_, e2, _⟩ := iterX_obj h2; exact Heap.lt_size e2
      rw [upd_ne (Nat.ne_of_lt hlt)]
      exact (hf c hcm).1
  done := by
    intro X hP hw hK hc i pins s σ H E I hf st hg
    subst hP hw hK
    obtain ⟨hz, hTI, ⟨x0, y0, hTO⟩, h1, h2⟩ := st
    obtain ⟨xs, ys, hqx, hqy, le1, le2, hend⟩ := hg
    obtain ⟨its, rv, p, _⟩ := I.seqX hqx
    obtain ⟨its2, rv2, p2, _⟩ := I.seqX hqy
    have l1 := rv.length
    have l2 := rv2.length
    have hh : X.A.handled = none := I.ok.hd hc
    exact wpAny_pyNext_zipD2_end D.S (drawsX k1 (A := X.A.in1) hh i1 a D.a1 its.toArray) (drawsX k2 (A := X.A.in1) hh i2 b D.b2 its2.toArray) hz hTI hTO ⟨h1, p⟩ ⟨h2, p2⟩ (by rw [List.size_toArray]; omega) (by rw [List.size_toArray]; omega) (by rw [List.size_toArray, List.size_toArray]; omega)
      fun h' tk hk => ⟨rfl, I.turnedL (t' := tk) (ch := [z, TI, TO, i1, i2]) (fun c o hb q =>
        hk c o (fun q' => hb (by simp [q'])) (fun q' => hb (by simp [q'])) (fun q' => hb (by simp [q'])) (fun q' => hb (by simp [q'])) q) hf⟩
  self := fun A i s Q E st h => wpAny_pyIter_zip st.1 h
def iZipX (K : PySem.W.Frag) (ta : TA) : TI := fun σ H R => ta σ H fun vs H1 => ∃ k1 k2 a b xs ys, vs = [.ref a, .ref b] ∧ SqX k1 K H1 a xs ∧ SqX k2 K H1 b ys ∧ R (ItzX k1 k2 K a b) H1
theorem pi_zipX {X : Cx} {e e2 : Expr} {ta : TA} {p pos tpos : Pos} {elts : List Expr} {kk : Nat} (hg : Gl X "zip") (hm : X.mg "zip" = none) (ha : PA X [e, e2] ta)
    (hs : starEach [e, e2] X.env = (false, eval e X.env) :: starEach [e2] X.env := by rfl) (hpl : (backTo pos (starEach [e2] X.env)).any (·.1) = false := by rfl) :
    PI X (.Tuple elts kk tpos) (.Call (.Name "zip" p) [e, e2] [] pos) (iZipX X.K ta) := by
  refine ⟨fun pins s σ H R I h => ?_⟩
  refine Call_ (ld_blt I hg hm PyProof.Rows.boot_zip (PyProof.Rows.callWith_type1 (thn (ha.run pos pins s σ H _ I h) fun us s1 ⟨vs, H1, I1, r1, q1⟩ => ?_) hs hpl))
  obtain ⟨k1, k2, a, b, xs, ys, ex, hqx, hqy, q⟩ := q1
  subst ex
  cases r1 with
  | cons r rr =>
    cases rr with
    | cons r' rr =>
      cases rr
      cases r
      cases r'
      obtain ⟨its, rv, p1, la⟩ := I1.seqX hqx
      obtain ⟨its2, rv2, p2, lb⟩ := I1.seqX hqy
      refine zip_begins2 (beginsX k1 a its.toArray) (beginsX k2 b its2.toArray) p1 p2 fun h' hz hTI hTO h1 h2 hsz hk => wpAny_pyIter_zip hz ?_
      have I2 : Inv X pins σ H1 { s1 with heap := h' } := I1.kept (t' := s1.toks) hk
      have D : ZApart (s1.heap.objs.size + 4) (s1.heap.objs.size + 2) (s1.heap.objs.size + 3) s1.heap.objs.size (s1.heap.objs.size + 1) a b := by
        exact zapart la lb
      refine ⟨s1.heap.objs.size + 4, [s1.heap.objs.size + 4, s1.heap.objs.size + 2, s1.heap.objs.size + 3, s1.heap.objs.size, s1.heap.objs.size + 1], _, _, H1, rfl, I2, turn_zipX (k1 := k1) (k2 := k2) D, ⟨hz, hTI, ⟨_, _, hTO⟩, iterX0 h1, iterX0 h2⟩, fun c hcm => ?_, q⟩
      have e' : c = s1.heap.objs.size + 4 ∨ c = s1.heap.objs.size + 2 ∨ c = s1.heap.objs.size + 3 ∨ c = s1.heap.objs.size ∨ c = s1.heap.objs.size + 1 := by simpa using hcm
      have hle : s1.heap.objs.size ≤ c := le_of5 e'
      exact I1.fpOk hle (I1.hok.fresh hle)
end L2
namespace Fl
open PySem PySem.Spec L2
def seqX (M : Mem) : D → Option (List D)
  | .tup ds => some ds
  | .ref n => listAt M n
  | _ => none
def nxZ (x y : D) : ItF := fun i M => match seqX M x, seqX M y with
  | some ds, some es => (match ds[i]?, es[i]? with
    | some a, some b => some (some (.tup [a, b]))
    | none, none => (match decide (i = ds.length), decide (i = es.length) with
      | true, true => some none
      | _, _ => none)
    | _, _ => none)
  | _, _ => none
def iZipF (fa : AF) : IF := fun s M => (fa s M).bind fun ds M1 => match ds with
  | [x, y] => (match seqX M1 x, seqX M1 y with
    | some ds, some _ => .ok (nxZ x y, ds.length + 1) M1
    | _, _ => .bad)
  | _ => .bad
def kX : D → Bool
  | .tup _ => false
  | _ => true
theorem seqX_rep {K : PySem.W.Frag} {L : Lay} {α : List Addr} {M : Mem} {H : Hp} (r : Rel K L α M H) {d : D} {x : V} {ds : List D} (h : seqX M d = some ds) (rd : Rep K α H d x) : ∃ a vs, x = .ref a ∧ SqX (kX d) K H a vs ∧ Reps K α H ds vs := by
  cases d with
  | tup es => cases h; obtain ⟨t, vs, rfl, ht, hr⟩ := rd.tup; exact ⟨t, vs, rfl, ht.sq, hr⟩
  | ref n =>
    obtain ⟨a, ha, rfl⟩ := rd.ref
    obtain ⟨a', vs, ha', hv, hr⟩ := r.list h
    rw [ha] at ha'; cases ha'
    exact ⟨a, vs, rfl, .of hv, hr⟩
  | _ => cases h
section
variable {X : Cx} {L : Lay} {W : WX} {e e2 : Expr} {fa : AF}
theorem fi_zip {p pos tpos : Pos} {elts : List Expr} {kk : Nat} (hg : Gl X "zip") (hm : X.mg "zip" = none) (ha : FA X L W [e, e2] fa)
    (hs : starEach [e, e2] X.env = (false, eval e X.env) :: starEach [e2] X.env := by rfl) (hpl : (backTo pos (starEach [e2] X.env)).any (·.1) = false := by rfl) :
    FI X L W (.Tuple elts kk tpos) (.Call (.Name "zip" p) [e, e2] [] pos) (iZipF fa) := piImp (pi_zipX hg hm ha hs hpl) fun σ H R ⟨α, M, s, r, sl, h⟩ => ⟨α, M, s, r, sl, (PostR.bind (R := Reps _) h).imp fun vs H1 ⟨ds, α1, M1, l1, r1, rx, h1⟩ => by
  dsimp only at h1
  split at h1
  · rename_i x y
    obtain ⟨v, vs, rfl, rv, rr⟩ := rx
    obtain ⟨v2, vs, rfl, rv2, rr⟩ := rr
    cases (show vs = [] from rr)
    cases e1 : seqX M1 x with
    | none => rw [e1] at h1; exact h1.elim
    | some xs =>
      cases e2 : seqX M1 y with
      | none => rw [e1, e2] at h1; exact h1.elim
      | some ys =>
        rw [e1, e2] at h1
        obtain ⟨a, us, rfl, hx, hr⟩ := seqX_rep r1 e1 rv
        obtain ⟨b, ws, rfl, hy, hs⟩ := seqX_rep r1 e2 rv2
        refine ⟨kX x, kX y, a, b, us, ws, rfl, hx, hy, PostR.pure (R := RIt _ _) h1 r1 fun i α' H' M' l' r' => ?_⟩
        show ItAt X.K L α' H' M' (ItzX (kX x) (kX y) X.K a b) i (nxZ x y i M')
        unfold nxZ
        cases q1 : seqX M' x with
        | none => trivial
        | some ds =>
          cases q2 : seqX M' y with
          | none => trivial
          | some es =>
            obtain ⟨a', us', ea, hx', hr'⟩ := seqX_rep r' q1 (rv.lw l'.lw)
            cases ea
            obtain ⟨b', ws', eb, hy', hs'⟩ := seqX_rep r' q2 (rv2.lw l'.lw)
            cases eb
            dsimp only
            cases g1 : ds[i]? with
            | none =>
              cases g2 : es[i]? with
              | none =>
                dsimp only
                cases c1 : decide (i = ds.length) with
                | false => trivial
                | true =>
                  cases c2 : decide (i = es.length) with
                  | false => trivial
                  | true =>
                    have c1 := of_decide_eq_true c1
                    have c2 := of_decide_eq_true c2
                    have z1 := hr'.length
                    have z2 := hs'.length
                    exact ⟨us', ws', hx', hy', by omega, by omega, .inl (by omega)⟩
              | some e => trivial
            | some d =>
              cases g2 : es[i]? with
              | none => trivial
              | some e =>
                obtain ⟨u, e3, ru⟩ := hr'.at g1
                obtain ⟨w, e4, rw'⟩ := hs'.at g2
                refine ⟨⟨us', ws', u, w, hx', hy', e3, e4⟩, fun q H2 yy => ?_⟩
                obtain ⟨T, u2, w2, rfl, hT, rfl, y1, y2⟩ := yy
                have y1 := y1 us' hx'
                rw [e3] at y1; cases y1
                have y2 := y2 ws' hy'
                rw [e4] at y2; cases y2
                exact ⟨Le.tup hT, r'.tup hT, rep_tup upd_same (reps_cons (ru.le (Le.tup hT)) (reps_cons (rw'.le (Le.tup hT)) reps_nil))⟩
  · exact h1.elim⟩
end
theorem seqX_r {α : List Nat} {m M : Mem} (r : MR α m M) {d v : D} (hd : Dr α d v) {ds : List D} (h : seqX m d = some ds) : ∃ Ds, seqX M v = some Ds ∧ Drs α ds Ds := by
  cases d with
  | tup es => cases h; obtain ⟨Ds, rfl, h2⟩ := hd.tup; exact ⟨Ds, rfl, h2⟩
  | ref n =>
    obtain ⟨a, ha, rfl⟩ := hd.ref
    obtain ⟨Ds, h3, h4, _⟩ := listAt_r r h ha
    exact ⟨Ds, h3, h4⟩
  | _ => cases h
theorem nxZ_r {α : List Nat} {x y X Y : D} (hx : Dr α x X) (hy : Dr α y Y) {k : Nat} : RIr α (nxZ x y, k) (nxZ X Y, k) := ⟨rfl, fun α' m M i p r => by
  unfold nxZ
  dsimp only
  cases q : seqX m x with
  | none => trivial
  | some ds =>
    obtain ⟨Ds, h1, h2⟩ := seqX_r r (hx.up p) q
    rw [h1]
    cases q2 : seqX m y with
    | none => trivial
    | some es =>
      obtain ⟨Es, h3, h4⟩ := seqX_r r (hy.up p) q2
      rw [h3]
      dsimp only
      cases g1 : ds[i]? with
      | none =>
        rw [h2.none g1]
        cases g2 : es[i]? with
        | none =>
          rw [h4.none g2, ← h2.length, ← h4.length]
          dsimp only
          cases decide (i = ds.length) with
          | false => trivial
          | true =>
            cases decide (i = es.length) with
            | false => trivial
            | true => rfl
        | some e => trivial
      | some d =>
        obtain ⟨v, h5, h6⟩ := h2.at g1
        rw [h5]
        cases g2 : es[i]? with
        | none => trivial
        | some e =>
          obtain ⟨w, h7, h8⟩ := h4.at g2
          rw [h7]
          exact ⟨_, rfl, dr_tup (drs_cons h6 (drs_cons h8 drs_nil))⟩⟩
instance {a : AF} [EqA a] : EqI (iZipF a) := ⟨fun r sl => (EqA.h r sl).bind r fun x X α1 m1 M1 e1 h1 => by
  match x, h1 with
  | [], _ => trivial
  | [d], _ => trivial
  | [d, e], h1 =>
    obtain ⟨v, vs, rfl, h3, h4⟩ := h1.cons_inv
    obtain ⟨w, ws, rfl, h5, h6⟩ := h4.cons_inv
    have := h6.nil_inv
    subst this
    dsimp only
    cases q : seqX m1 d with
    | none => trivial
    | some ds =>
      obtain ⟨Ds, g1, g2⟩ := seqX_r e1.mr h3 q
      rw [g1]
      cases q2 : seqX m1 e with
      | none => trivial
      | some es =>
        obtain ⟨Es, g3, g4⟩ := seqX_r e1.mr h5 q2
        rw [g3]
        dsimp only
        rw [← g2.length]
        exact .ok e1.mr (nxZ_r h3 h5)
  | _ :: _ :: _ :: _, _ => trivial⟩
def dBad : EF := fun _ _ => .bad
instance : EqE dBad := ⟨fun r sl => trivial⟩
end Fl
namespace Fl
open PySem PySem.Spec PyProof.Rows L2
section
variable {P : Program} {w : World} {A : Around} {R : Result → Shared → Prop} {t : Shared} {ex p0 j0 p1 j1 : Expr} {us0 us1 : List Expr} {sc : Scope} {po : Pos} {iv dv : Value} {en : Env}
abbrev two (ex p0 j0 p1 j1 : Expr) (us0 us1 : List Expr) (sc : Scope) (po : Pos) : Expr := .SetComp ex [⟨p0, j0, us0, 0⟩, ⟨p1, j1, us1, 0⟩] sc po
theorem turnS2_out : compTurn (two ex p0 j0 p1 j1 us0 us1 sc po) 0 iv dv en = (do
      standAt j0.pos
      match ← pyNext iv with
      | none => pure (.done .next)
      | some v =>
        letOwnedTupleGo p0 iv v
        assign p0 en v
        let mut ok := true
        for c in us0 do
          if ok then ok ← isTrue c en (eval c en)
        if ok then
          let x ← eval j1 en
          standAt j1.pos
          let x ← foldedSetIterable j1 en x
          let _ ← runOwn (.compStart (two ex p0 j0 p1 j1 us0 us1 sc po) 1 (← holding [x] (pyIter x)) dv en) en
        again (.compLoop (two ex p0 j0 p1 j1 us0 us1 sc po) 0 iv dv en)) := by rfl
theorem turnS2_in : compTurn (two ex p0 j0 p1 j1 us0 us1 sc po) 1 iv dv en = (do
      standAt j1.pos
      match ← pyNext iv with
      | none => pure (.done .next)
      | some v =>
        letOwnedTupleGo p1 iv v
        assign p1 en v
        let mut ok := true
        for c in us1 do
          if ok then ok ← isTrue c en (eval c en)
        if ok then
          (do let v ← eval ex en; standAt ex.pos; let _ ← call (.builtin "set.add") [dv, v])
        again (.compLoop (two ex p0 j0 p1 j1 us0 us1 sc po) 1 iv dv en)) := by rfl
abbrev nE (P : Program) (w : World) (A : Around) (en : Env) (R : Result → Shared → Prop) : Value → Shared → Prop := notedBy (model P w) A en fun e s' => R (.error e) s'
abbrev tests (us : List Expr) (en : Env) : Sem Bool := forIn us true fun c r => if r = true then do let ok ← isTrue c en (eval c en); pure (ForInStep.yield ok) else pure (ForInStep.yield r)
theorem compLoopS2_out (hs : ∀ x, foldedSetIterable j1 en x = pure x) (I : Nat → Shared → Prop)
    (turn : ∀ n s, I n s → wpAny (model P w) A (pyNext iv) (fun r s₁ => match r with
      | none => R (.ok .next) s₁
      | some v => wpAny (model P w) A (letOwnedTupleGo p0 iv v) (fun _ s₁' => wpAny (model P w) A (assign p0 en v) (fun _ s₂ =>
          wpAny (model P w) A (tests us0 en) (fun ok s₃ =>
            if ok = true then wpAny (model P w) A (eval j1 en) (fun x s₄ => wpAny (model P w) A (pyIter x) (fun it1 s₅ =>
              codeAny (model P w) A (.compStart (two ex p0 j0 p1 j1 us0 us1 sc po) 1 it1 dv en) (fun r s' => match r with
                | .ok _ => ∃ m, m < n ∧ I m s'
                | .error _ => False) s₅) (nE P w A en R) s₄) (nE P w A en R) s₃
            else ∃ m, m < n ∧ I m s₃) (nE P w A en R) s₂) (nE P w A en R) s₁') (nE P w A en R) s₁) (nE P w A en R) s)
    (n : Nat) (h : I n t) : codeAny (model P w) A (.compLoop (two ex p0 j0 p1 j1 us0 us1 sc po) 0 iv dv en) R t := by
  refine codeAny_loop rfl I (fun n s hI => ?_) n h
  show wpAny _ A ((compTurn (two ex p0 j0 p1 j1 us0 us1 sc po) 0 iv dv en).onRaise (fun x => do noteFrame x en; theTreesLotGoes x)) _ _ s
  refine wpAny_noted ?_
  rw [turnS2_out]
  refine wpAny_bind (wpAny_standAt (wpAny_bind (wpAny_mono (turn n s hI) (fun r s₁ a => ?_) fun _ _ z => z)))
  cases r with
  | none => exact wpAny_pure a
  | some v =>
    refine wpAny_bind (wpAny_mono a (fun _ s₁' b => ?_) fun _ _ z => z)
    refine wpAny_bind (wpAny_mono b (fun _ s₂ c => wpAny_bind (wpAny_mono c (fun ok s₃ d => ?_) fun _ _ z => z)) fun _ _ z => z)
    cases ok with
    | false => exact wpAny_pure ⟨rfl, d⟩
    | true =>
      refine wpAny_bind (wpAny_mono d (fun x s₄ e => ?_) fun _ _ z => z)
      refine wpAny_bind (wpAny_standAt (wpAny_bind (wpAny_of_eq (hs x) (wpAny_bind (wpAny_holding (wpAny_mono e (fun it1 s₅ f => ?_) fun _ _ z => z))))))
      refine wpAny_bind (wpAny_runOwn ?_)
      rw [Around.mark_none]
      refine codeAny_mono f fun r s' hr => ?_
      cases r with
      | ok f =>
        first
          | exact wpAny_pure ⟨rfl, hr⟩
          | exact wpAny_bind (wpAny_pure (wpAny_pure ⟨rfl, hr⟩))
      | error e => exact hr.elim
theorem compLoopS2_in (I : Nat → Shared → Prop)
    (turn : ∀ n s, I n s → wpAny (model P w) A (pyNext iv) (fun r s₁ => match r with
      | none => R (.ok .next) s₁
      | some v => wpAny (model P w) A (letOwnedTupleGo p1 iv v) (fun _ s₁' => wpAny (model P w) A (assign p1 en v) (fun _ s₂ =>
          wpAny (model P w) A (tests us1 en) (fun ok s₃ =>
            if ok = true then wpAny (model P w) A (eval ex en) (fun x s₄ =>
              wpAny (model P w) A (call (.builtin "set.add") [dv, x]) (fun _ s₅ => ∃ m, m < n ∧ I m s₅) (nE P w A en R) s₄) (nE P w A en R) s₃
            else ∃ m, m < n ∧ I m s₃) (nE P w A en R) s₂) (nE P w A en R) s₁') (nE P w A en R) s₁) (nE P w A en R) s)
    (n : Nat) (h : I n t) : codeAny (model P w) A (.compLoop (two ex p0 j0 p1 j1 us0 us1 sc po) 1 iv dv en) R t := by
  refine codeAny_loop rfl I (fun n s hI => ?_) n h
  show wpAny _ A ((compTurn (two ex p0 j0 p1 j1 us0 us1 sc po) 1 iv dv en).onRaise (fun x => do noteFrame x en; theTreesLotGoes x)) _ _ s
  refine wpAny_noted ?_
  rw [turnS2_in]
  refine wpAny_bind (wpAny_standAt (wpAny_bind (wpAny_mono (turn n s hI) (fun r s₁ a => ?_) fun _ _ z => z)))
  cases r with
  | none => exact wpAny_pure a
  | some v =>
    refine wpAny_bind (wpAny_mono a (fun _ s₁' b => ?_) fun _ _ z => z)
    refine wpAny_bind (wpAny_mono b (fun _ s₂ c => wpAny_bind (wpAny_mono c (fun ok s₃ d => ?_) fun _ _ z => z)) fun _ _ z => z)
    cases ok with
    | false => exact wpAny_pure ⟨rfl, d⟩
    | true =>
      exact wpAny_bind (wpAny_bind (wpAny_mono d (fun x s₄ e => wpAny_bind (wpAny_standAt (wpAny_bind (wpAny_mono e (fun _ s₅ f => wpAny_pure (wpAny_pure ⟨rfl, f⟩)) fun _ _ z => z)))) fun _ _ z => z))
theorem compStartS1_ok (h0 : codeAny (model P w) A (.compLoop (two ex p0 j0 p1 j1 us0 us1 sc po) 1 iv dv en) R t)
    (h : wpAny (model P w) A (pyIter iv) (fun it' s' => codeAny (model P w) A (.compLoop (two ex p0 j0 p1 j1 us0 us1 sc po) 1 it' dv en) R s') (nE P w A en R) t) :
    codeAny (model P w) A (.compStart (two ex p0 j0 p1 j1 us0 us1 sc po) 1 iv dv en) R t := by
  refine codeAny_of_tree ?_
  show wpAny _ _ ((compStart (two ex p0 j0 p1 j1 us0 us1 sc po) 1 iv dv en).onRaise (fun x => do noteFrame x en; standAt theWindowsPlace)) _ _ t
  refine wpAny_notedAt ?_
  unfold compStart
  show wpAny _ _ (ask >>= _) _ _ t
  refine wpAny_bind (wpAny_askSetting (wpAny_ite ?_))
  split
  · first
      | exact wpAny_bind (wpAny_pure (wpAny_pure (And.intro rfl h0)))
      | exact wpAny_pure (And.intro rfl h0)
  · first
      | exact wpAny_bind (wpAny_rule (wpAny_bind (wpAny_standAt (wpAny_bind (wpAny_mono h (fun _ _ z => wpAny_pure (And.intro rfl z)) fun _ _ x => x)))))
      | (refine wpAny_bind (wpAny_rule ?_); show wpAny _ _ (standAt j1.pos >>= _) _ _ t; exact wpAny_bind (wpAny_standAt (wpAny_bind (wpAny_mono h (fun _ _ z => wpAny_pure (And.intro rfl z)) fun _ _ x => x))))
end
section
variable {X : Cx}
def tSc2I (w : World) (wi : TI) (g : TG) (tt : TT) (wj : TI) (g1 : TG) (tt1 : TT) (te : TE) (vs ws : List Nat) : TE := fun ρ H Q => wi ρ H fun J G1 => ∀ D, G1 D = none → ∃ W : Nat → Nat → Hp → Prop, (∃ m, W 0 m (upd G1 D (SetO w D (fun _ => false) 0))) ∧ ∀ i m H, W i m H →
  (J.stop i H ∧ Q (.ref D) H) ∨ (J.go i H ∧ ∃ Nx : Hp → Prop, (∀ G', Nx G' → ∃ m', m' < m ∧ W (i + 1) m' G') ∧ ∀ x G', J.yld i H x G' → g x (wipe ρ vs) G' fun ρ2 G2 => wipe ρ2 vs = wipe ρ vs ∧ tt ρ2 G2 fun b G3 =>
    if b = true then wj ρ2 G3 fun J1 G4 => ∃ W1 : Nat → Nat → Hp → Prop, (∃ m, W1 0 m G4) ∧ ∀ j k H, W1 j k H →
      (J1.stop j H ∧ Nx H) ∨ (J1.go j H ∧ ∃ Nx1 : Hp → Prop, (∀ G', Nx1 G' → ∃ k', k' < k ∧ W1 (j + 1) k' G') ∧ ∀ x G', J1.yld j H x G' → g1 x (wipe ρ2 ws) G' fun ρ3 G5 => wipe ρ3 ws = wipe ρ2 ws ∧ tt1 ρ3 G5 fun b G6 =>
        if b = true then te ρ3 G6 fun y G7 => ∃ (c : Int) (S : Int → Bool) (n : Nat), y = .int c ∧ G7 D = some (SetO w D S n) ∧ n + 1 < scanBound ∧ Nx1 (upd G7 D (SetO w D (fun j => S j || decide (j = c)) (if S c = true then n else n + 1))) else Nx1 G6)
    else Nx G3)
theorem sc2I_core {pn : List (Addr × Obj)} {s : Shared} {ρ : L2.St} {H : Hp} {Q : VK} {elt tg iter tg1 iter1 : Expr} {ifs ifs1 : List Expr} {scope : Scope} {own : List (Str × Nat)} {ws : List Nat} {pos pos' : Pos} {wi wj : TI} {g g1 : TG} {tt tt1 : TT} {te : TE} {use : Option (Value → Sem Unit)} {Qf : Value → Shared → Prop}
    (hc : X.calm = true) (hN : X.N.Nodup) (I : L2.Inv X pn ρ H s) (hi : PI X tg iter wi) (ok : BlkOk X.N X.env.scope scope own) (hv : ∀ i ∈ ws, i ∈ own.map (·.2))
    (hg : ∀ (s : Shared) (H : Hp) (C : Addr) (cl : List (Str × Addr)) (fp : List Addr), PG (X.blk s H scope (compEnvC scope cl C X.env) fp) tg g) (ht : ∀ (s : Shared) (H : Hp) (C : Addr) (cl : List (Str × Addr)) (fp : List Addr), PTs (X.blk s H scope (compEnvC scope cl C X.env) fp) ifs tt)
    (he : ∀ (s : Shared) (H : Hp) (C : Addr) (cl : List (Str × Addr)) (fp : List Addr), PE (X.blk s H scope (compEnvC scope cl C X.env) fp) elt te) (hs : ∀ x, foldedSetIterable iter X.env x = pure x)
    (hi1 : ∀ (s : Shared) (H : Hp) (C : Addr) (cl : List (Str × Addr)) (fp : List Addr), PI (X.blk s H scope (compEnvC scope cl C X.env) fp) tg1 iter1 wj)
    (hg1 : ∀ (s : Shared) (H : Hp) (C : Addr) (cl : List (Str × Addr)) (fp : List Addr), PG (X.blk s H scope (compEnvC scope cl C X.env) fp) tg1 g1) (ht1 : ∀ (s : Shared) (H : Hp) (C : Addr) (cl : List (Str × Addr)) (fp : List Addr), PTs (X.blk s H scope (compEnvC scope cl C X.env) fp) ifs1 tt1)
    (hs1 : ∀ env x, foldedSetIterable iter1 env x = pure x)
    (h : tSc2I X.w wi g tt wj g1 tt1 te (own.map (·.2)) ws ρ H Q)
    (hRR : ∀ D C t' m G', L2.Inv X pn ρ G' t' → Q (.ref D) G' → t'.heap.Ns C m → FpOk X pn G' C → compPost (model X.prog X.w) X.A X.xe use Qf (.ref D) C (.ok .next) t') :
    wpAny (model X.prog X.w) X.A (comprehension (.SetComp elt [⟨tg, iter, ifs, 0⟩, ⟨tg1, iter1, ifs1, 0⟩] scope pos) scope X.env pos' (newSet (.type "set")) false (eval iter X.env) use) Qf X.xe s := by
  have hfree : ∀ y ∈ scope.names, y.2 = .free → ∃ c, X.env.cells.lookup y.1 = some c := fun y hy e => by
    rcases ok.free y hy e with k | k
    · exact I.ok.has _ (.inl k)
    · exact I.ok.has _ (.inr k)
  refine wpAny_comprehension_free (use := use) rfl hs (closure_ok hfree) ok.kind (fun y hy e => by rw [ok.uniq y hy, e])
    (thn (hi.run pn s ρ H _ I h) fun xv t1 hx => thn hx fun itv t2 h2 => ?_)
  obtain ⟨it, fp, tn, J, G2, e, J2, T, sg2, f2, q⟩ := h2
  subst e
  refine PpSet.newSet_ok (newEnv_comp ?_)
  generalize hD : t2.heap.objs.size = D
  have hDn : G2 D = none := J2.hok.fresh (Nat.le_of_eq hD)
  obtain ⟨W, ⟨m0, w0⟩, turn⟩ := q D hDn
  -- the new list
  generalize hs3 : ({ t2 with heap := t2.heap.push { cls := .type "set", dict := none, data := .set #[] 0 (.fresh 0 0 (!X.w.params.followText "set-order")) } } : Shared) = t3
  have J3 : L2.Inv X pn ρ (upd G2 D (SetO X.w D (fun _ => false) 0)) t3 := by
    rw [← hs3]
    refine J2.laid (t' := t2.toks) (fun b o e => Heap.get?_push_of_some _ e) (Nat.le_of_eq hD) ?_
    rw [← hD]
    exact setO_new (setR_fresh X.w)
  have h3 : t3.heap = t2.heap.push { cls := .type "set", dict := none, data := .set #[] 0 (.fresh 0 0 (!X.w.params.followText "set-order")) } := by rw [← hs3]
  have sz : ∀ b ∈ fp, b < t2.heap.objs.size := fun b hb => by
    obtain ⟨o, e, _⟩ := T.obj _ _ sg2 b hb
    exact Heap.lt_size e
  have f3 : ∀ b ∈ fp, FpOk X pn (upd G2 D (SetO X.w D (fun _ => false) 0)) b ∧ b < t3.heap.objs.size := fun b hb => by
    have hlt := sz b hb
    refine ⟨⟨?_, (f2 b hb).2⟩, by rw [h3, Heap.size_push]; exact Nat.lt_succ_of_lt hlt⟩
    rw [upd_ne (by rw [← hD]; exact Nat.ne_of_lt hlt)]
    exact (f2 b hb).1
  have sg3 : tn 0 t3.heap := T.keep _ _ _ sg2 fun b _ o e => by rw [h3]; exact Heap.get?_push_of_some _ e
  have J4 := block_start J3 ok hN f3
  have pg := hg t3 (upd G2 D (SetO X.w D (fun _ => false) 0)) t3.heap.objs.size (cellsFrom (t3.heap.objs.size + 1) scope.names (cloFrom X.env.cells scope.names [])) fp
  have pt := ht t3 (upd G2 D (SetO X.w D (fun _ => false) 0)) t3.heap.objs.size (cellsFrom (t3.heap.objs.size + 1) scope.names (cloFrom X.env.cells scope.names [])) fp
  have pj := hi1 t3 (upd G2 D (SetO X.w D (fun _ => false) 0)) t3.heap.objs.size (cellsFrom (t3.heap.objs.size + 1) scope.names (cloFrom X.env.cells scope.names [])) fp
  have pg1 := hg1 t3 (upd G2 D (SetO X.w D (fun _ => false) 0)) t3.heap.objs.size (cellsFrom (t3.heap.objs.size + 1) scope.names (cloFrom X.env.cells scope.names [])) fp
  have pt1 := ht1 t3 (upd G2 D (SetO X.w D (fun _ => false) 0)) t3.heap.objs.size (cellsFrom (t3.heap.objs.size + 1) scope.names (cloFrom X.env.cells scope.names [])) fp
  have pe := he t3 (upd G2 D (SetO X.w D (fun _ => false) 0)) t3.heap.objs.size (cellsFrom (t3.heap.objs.size + 1) scope.names (cloFrom X.env.cells scope.names [])) fp
  show codeAny _ _ (.compStart (.SetComp elt [⟨tg, iter, ifs, 0⟩, ⟨tg1, iter1, ifs1, 0⟩] scope pos) 0 (.ref it) (.ref D) (compEnvC scope (cellsFrom (t3.heap.objs.size + 1) scope.names (cloFrom X.env.cells scope.names [])) t3.heap.objs.size X.env)) (compPost (model X.prog X.w) X.A X.xe use Qf (.ref D) t3.heap.objs.size) { t3 with heap := pushCells (t3.heap.push { cls := .type "dict", data := .dict #[] }) scope.names }
  have nfp : ∀ b ∈ fp, (upd G2 D (SetO X.w D (fun _ => false) 0)) b = none := fun b hb => (f3 b hb).1.1
  generalize hce : compEnvC scope (cellsFrom (t3.heap.objs.size + 1) scope.names (cloFrom X.env.cells scope.names [])) t3.heap.objs.size X.env = ce at J4 pg pt pe pj pg1 pt1 ⊢
  have cL : ce.locals = t3.heap.objs.size := by subst hce; rfl
  generalize hH3 : upd G2 D (SetO X.w D (fun _ => false) 0) = G3 at J3 J4 pg pt pe pj pg1 pt1 w0 nfp f3
  generalize hs4 : ({ t3 with heap := pushCells (t3.heap.push { cls := .type "dict", data := .dict #[] }) scope.names } : Shared) = t4 at J4 ⊢
  have sg4 : tn 0 t4.heap := T.keep _ _ _ sg3 fun b _ o e => by rw [← hs4]; exact pushCells_keeps _ _ _ _ (Heap.get?_push_of_some _ e)
  have stat : ∀ {ρ' : L2.St} {G' : Hp} {t' : Shared}, L2.Inv (X.blk t3 G3 scope ce fp) [] ρ' G' t' → (∀ b ∈ fp, G' b = none) → ∀ b ∈ fp, FpOk (X.blk t3 G3 scope ce fp) [] G' b := fun {ρ' G' t'} I' hn b hb =>
    ⟨hn b hb, (I'.ok.exf b hb).1, I'.ok.exfs b hb, .inl hb, fun x c e => (I'.ok.exf b hb).2 x c e, fun p hp => absurd (show p ∈ ([] : List (Addr × Obj)) ++ [] from hp) (by simp)⟩
  have loop : codeAny (model X.prog X.w) X.A (.compLoop (.SetComp elt [⟨tg, iter, ifs, 0⟩, ⟨tg1, iter1, ifs1, 0⟩] scope pos) 0 (.ref it) (.ref D) ce) (compPost (model X.prog X.w) X.A X.xe use Qf (.ref D) t3.heap.objs.size) t4 := by
    refine compLoopS2_out (hs1 ce) (fun n t' => ∃ i G', L2.Inv (X.blk t3 G3 scope ce fp) [] (wipe ρ (own.map (·.2))) G' t' ∧ tn i t'.heap ∧ (∀ b ∈ fp, G' b = none) ∧ W i n G') ?_ m0 ⟨0, G3, J4, sg4, nfp, w0⟩
    rintro n t5 ⟨i, G5, J5, sg5, n5, w5⟩
    rcases turn i n G5 w5 with ⟨stop, qq⟩ | ⟨go, Nx, hNx, step⟩
    · have td := T.done (X.blk t3 G3 scope ce fp) rfl rfl rfl hc i [] t5 _ G5 (fun _ _ => False) J5 (stat J5 n5) sg5 stop
      refine thnF td fun r t6 ⟨hr, J6⟩ => ?_
      subst hr
      -- back in the def's context
      have J7 : L2.Inv X pn ρ G5 t6 := J3.call' (ch := fp) J6.os J6.base J6.hok J6.bare fun b hb => ⟨(f3 b hb).1.2.2.2.1, (f3 b hb).1.2.1, (f3 b hb).1.2.2.2.2.1, (f3 b hb).1.2.2.2.2.2⟩
      have nC : G5 t3.heap.objs.size = none := by
        have z : G5 ce.locals = none := J6.free
        rw [cL] at z
        exact z
      obtain ⟨m, hn, _⟩ := J6.loc
      have hn : t6.heap.Ns ce.locals m := hn
      rw [cL] at hn
      exact hRR D t3.heap.objs.size t6 m G5 J7 qq hn (J3.fpOk (Nat.le_refl _) nC)
    · have ti := T.item (X.blk t3 G3 scope ce fp) rfl rfl rfl hc i [] t5 _ G5 (fun _ _ => False) J5 (stat J5 n5) sg5 go
      refine thnF ti fun r t6 ⟨u, hr, h6⟩ => ?_
      subst hr
      refine thnF h6 fun _ t7 ⟨x, G7, J7, r7, y7, sg7, n7⟩ => ?_
      have J7' := J7.pinned (stat J7 n7) (T.obj _ _ sg7)
      refine thnF (pg.run _ t7 _ G7 x u _ J7' r7 (step x G7 y7)) fun _ t8 ⟨ρ8, G8, J8, hw8, q8⟩ => ?_
      refine thnF (pt.run _ t8 ρ8 G8 _ J8 q8) fun b t9 ⟨G9, J9, q9⟩ => ?_
      -- back at the outer loop, from slots that know what the block knew at first
      have back : ∀ {ρ9 : L2.St} {t' : Shared} {G' : Hp}, L2.Inv (X.blk t3 G3 scope ce fp) ([] ++ pinsAt fp t7.heap) ρ9 G' t' → (wipe ρ (own.map (·.2))).length = ρ9.length → (∀ (j : Nat) v, (wipe ρ (own.map (·.2)))[j]? = some (some v) → ρ9[j]? = some (some v)) → Nx G' →
          ∃ m, m < n ∧ ∃ i G', L2.Inv (X.blk t3 G3 scope ce fp) [] (wipe ρ (own.map (·.2))) G' t' ∧ tn i t'.heap ∧ (∀ b ∈ fp, G' b = none) ∧ W i m G' := fun {ρ9 t' G'} I' hl hk nx => by
        obtain ⟨m', hm, w'⟩ := hNx G' nx
        have held : ∀ b ∈ fp, ∀ o, t7.heap.get? b = some o → t'.heap.get? b = some o ∧ G' b = none := fun b hb o e =>
          let z := I'.pin (b, o) (List.mem_append_right _ (List.mem_append_right _ (mem_pinsAt hb e)))
          ⟨z.1, z.2.1⟩
        refine ⟨m', hm, i + 1, G', (I'.unpinned (pins := [])).weak hl hk, T.keep _ _ _ sg7 fun b hb o e => (held b hb o e).1, fun b hb => ?_, w'⟩
        obtain ⟨o, e, _⟩ := T.obj _ _ sg7 b hb
        exact (held b hb o e).2
      have l8 : (wipe ρ (own.map (·.2))).length = ρ8.length := by rw [← hw8, wipe_length]
      have k8 : ∀ (j : Nat) v, (wipe ρ (own.map (·.2)))[j]? = some (some v) → ρ8[j]? = some (some v) := fun j v e => by
        rw [← hw8] at e
        exact (wipe_some e).1
      have k9 : ∀ (j : Nat) v, (wipe ρ (own.map (·.2)))[j]? = some (some v) → (wipe ρ8 ws)[j]? = some (some v) := fun j v e => by
        rw [← hw8] at e
        obtain ⟨e1, e2⟩ := wipe_some e
        rw [wipe_out fun z => e2 (hv j z)]
        exact e1
      cases b with
      | false =>
        simp only [Bool.false_eq_true, if_false] at q9 ⊢
        exact back J9 l8 k8 q9
      | true =>
        simp only [if_true] at q9 ⊢
        refine thnF (pj.run _ t9 ρ8 G9 _ J9 q9) fun xv t10 hx => thnF hx fun itv t11 h11 => ?_
        obtain ⟨itj, fq, tnj, Jj, G11, ej, J11, Tj, sg11, f11, W1, ⟨m1, w1⟩, turn1⟩ := h11
        subst ej
        have statj : ∀ {G' : Hp}, (∀ b ∈ fq, G' b = none) → ∀ b ∈ fq, FpOk (X.blk t3 G3 scope ce fp) ([] ++ pinsAt fp t7.heap) G' b := fun hn b hb => ⟨hn b hb, (f11 b hb).2⟩
        -- the inner loop
        have inner : codeAny (model X.prog X.w) X.A (.compLoop (.SetComp elt [⟨tg, iter, ifs, 0⟩, ⟨tg1, iter1, ifs1, 0⟩] scope pos) 1 (.ref itj) (.ref D) ce)
            (fun r t' => match r with
              | .ok _ => ∃ m, m < n ∧ ∃ i G', L2.Inv (X.blk t3 G3 scope ce fp) [] (wipe ρ (own.map (·.2))) G' t' ∧ tn i t'.heap ∧ (∀ b ∈ fp, G' b = none) ∧ W i m G'
              | .error _ => False) t11 := by
          refine compLoopS2_in (fun k t' => ∃ j G', L2.Inv (X.blk t3 G3 scope ce fp) ([] ++ pinsAt fp t7.heap) (wipe ρ8 ws) G' t' ∧ tnj j t'.heap ∧ (∀ b ∈ fq, G' b = none) ∧ W1 j k G') ?_ m1 ⟨0, G11, J11.weak (wipe_length _ _) (fun j v e => (wipe_some e).1), sg11, fun b hb => (f11 b hb).1, w1⟩
          rintro k t12 ⟨j, G12, J12, sg12, n12, w12⟩
          rcases turn1 j k G12 w12 with ⟨stopj, nxj⟩ | ⟨goj, Nx1, hNx1, stepj⟩
          · refine thnF (Tj.done (X.blk t3 G3 scope ce fp) rfl rfl rfl hc j _ t12 (wipe ρ8 ws) G12 (fun _ _ => False) J12 (statj n12) sg12 stopj) fun r t13 ⟨hr, J13⟩ => ?_
            subst hr
            exact back J13 (l8.trans (wipe_length ρ8 ws).symm) k9 nxj
          · refine thnF (Tj.item (X.blk t3 G3 scope ce fp) rfl rfl rfl hc j _ t12 (wipe ρ8 ws) G12 (fun _ _ => False) J12 (statj n12) sg12 goj) fun r t13 ⟨uj, hr, h13⟩ => ?_
            subst hr
            refine thnF h13 fun _ t14 ⟨xj, G14, J14, r14, y14, sg14, n14⟩ => ?_
            have J14' := J14.pinned (statj n14) (Tj.obj _ _ sg14)
            refine thnF (pg1.run _ t14 (wipe ρ8 ws) G14 xj uj _ J14' r14 (stepj xj G14 y14)) fun _ t15 ⟨ρ15, G15, J15, hw15, q15⟩ => ?_
            refine thnF (pt1.run _ t15 ρ15 G15 _ J15 q15) fun bj t16 ⟨G16, J16, q16⟩ => ?_
            have finj : ∀ {t' : Shared} {G' : Hp}, L2.Inv (X.blk t3 G3 scope ce fp) (([] ++ pinsAt fp t7.heap) ++ pinsAt fq t14.heap) ρ15 G' t' → Nx1 G' → ∃ m, m < k ∧ ∃ j G', L2.Inv (X.blk t3 G3 scope ce fp) ([] ++ pinsAt fp t7.heap) (wipe ρ8 ws) G' t' ∧ tnj j t'.heap ∧ (∀ b ∈ fq, G' b = none) ∧ W1 j m G' := fun {t' G'} I' nx => by
              obtain ⟨m', hm, w'⟩ := hNx1 G' nx
              have held : ∀ b ∈ fq, ∀ o, t14.heap.get? b = some o → t'.heap.get? b = some o ∧ G' b = none := fun b hb o e =>
                let z := I'.pin (b, o) (List.mem_append_right _ (List.mem_append_right _ (mem_pinsAt hb e)))
                ⟨z.1, z.2.1⟩
              refine ⟨m', hm, j + 1, G', I'.unpinned.weak (by rw [← hw15, wipe_length]) (fun j v e => by rw [← hw15] at e; exact (wipe_some e).1), Tj.keep _ _ _ sg14 fun b hb o e => (held b hb o e).1, fun b hb => ?_, w'⟩
              obtain ⟨o, e, _⟩ := Tj.obj _ _ sg14 b hb
              exact (held b hb o e).2
            cases bj with
            | false =>
              simp only [Bool.false_eq_true, if_false] at q16 ⊢
              exact finj J16 q16
            | true =>
              simp only [if_true] at q16 ⊢
              refine thnF (pe.run _ t16 ρ15 G16 _ J16 q16) fun z t17 ⟨yv, H17, J17, r17, cb, S0, n0, ey, hD17, hz17, nx⟩ => ?_
              subst ey
              obtain ⟨tk1, rfl⟩ := r17
              exact addI_ok (X := X.blk t3 G3 scope ce fp) J17 hD17 hz17 fun t18 J18 => finj J18 nx
        exact compStartS1_ok inner (Tj.self X.A 0 _ _ _ sg11 inner)
  exact PpSet.codeAny_compStart_set loop (T.self X.A 0 _ _ _ sg4 loop)
theorem pe_sc2I {elt tg iter tg1 iter1 : Expr} {ifs ifs1 : List Expr} {scope : Scope} {own : List (Str × Nat)} {ws : List Nat} {pos : Pos} {wi wj : TI} {g g1 : TG} {tt tt1 : TT} {te : TE} (hc : X.calm = true) (hN : X.N.Nodup) (hi : PI X tg iter wi) (ok : BlkOk X.N X.env.scope scope own) (hv : ∀ i ∈ ws, i ∈ own.map (·.2))
    (hg : ∀ (s : Shared) (G : Hp) (C : Addr) (cl : List (Str × Addr)) (fp : List Addr), PG (X.blk s G scope (compEnvC scope cl C X.env) fp) tg g) (ht : ∀ (s : Shared) (G : Hp) (C : Addr) (cl : List (Str × Addr)) (fp : List Addr), PTs (X.blk s G scope (compEnvC scope cl C X.env) fp) ifs tt)
    (he : ∀ (s : Shared) (G : Hp) (C : Addr) (cl : List (Str × Addr)) (fp : List Addr), PE (X.blk s G scope (compEnvC scope cl C X.env) fp) elt te) (hs : ∀ x, foldedSetIterable iter X.env x = pure x)
    (hi1 : ∀ (s : Shared) (G : Hp) (C : Addr) (cl : List (Str × Addr)) (fp : List Addr), PI (X.blk s G scope (compEnvC scope cl C X.env) fp) tg1 iter1 wj)
    (hg1 : ∀ (s : Shared) (G : Hp) (C : Addr) (cl : List (Str × Addr)) (fp : List Addr), PG (X.blk s G scope (compEnvC scope cl C X.env) fp) tg1 g1) (ht1 : ∀ (s : Shared) (G : Hp) (C : Addr) (cl : List (Str × Addr)) (fp : List Addr), PTs (X.blk s G scope (compEnvC scope cl C X.env) fp) ifs1 tt1)
    (hs1 : ∀ env x, foldedSetIterable iter1 env x = pure x) :
    PE X (.SetComp elt [⟨tg, iter, ifs, 0⟩, ⟨tg1, iter1, ifs1, 0⟩] scope pos) (tSc2I X.w wi g tt wj g1 tt1 te (own.map (·.2)) ws) := by
  refine ⟨fun pn s ρ H Q I h => ?_⟩
  rw [PpSet.eval_SetComp]
  refine sc2I_core hc hN I hi ok hv hg ht he hs hi1 hg1 ht1 hs1 h fun D C t' m G' I' q hn f => ⟨m, hn, fun h'' sb => ?_⟩
  obtain ⟨f0, f1, f2, f3, f4, f5⟩ := f
  exact ⟨.ref D, G', I'.turned (t' := t'.toks) (fun b o hb e => (sb.2 b hb).trans e) f0 f1 f3 f4 f5, rfl, q⟩
end
end Fl
namespace Fl
open PySem PySem.Spec PyProof.Rows L2
def lcI2 (nx : ItF) (g : GF) (tt : TF) (fj : IF) (g1 : GF) (tt1 : TF) (te : EF) (js : List Nat) (s : Sl) : Nat → Nat → Mem → Res (List Int)
  | 0, _, _ => .bad
  | k + 1, i, M => match nx i M with
    | none => .bad
    | some none => .ok [] M
    | some (some d) => (g d s M).noX.bind fun s1 M1 => (tt s1 M1).noX.bind fun b M2 => match b with
      | true => (fj s1 M2).noX.bind fun nj M3 => (match decide (nj.2 ≤ 62) with
        | true => (lcI nj.1 g1 tt1 te (wipeD s1 js) nj.2 0 M3).bind fun ys M4 => (lcI2 nx g tt fj g1 tt1 te js s k (i + 1) M4).bind fun zs M5 => .ok (ys ++ zs) M5
        | false => .bad)
      | false => lcI2 nx g tt fj g1 tt1 te js s k (i + 1) M2
def finJ (ns : List Int) (M : Mem) : Res D := match decide ((nubI ns).length < 64) with
  | true => .ok (.ref M.length) (M ++ [.lst ((sortNub ns).map .int)])
  | false => .bad
def dSortSc2 (fi : IF) (g : GF) (tt : TF) (fj : IF) (g1 : GF) (tt1 : TF) (te : EF) (is js : List Nat) : EF := fun s M => (fi s M).bind fun nx M1 => match decide (nx.2 ≤ 62) with
  | true => (lcI2 nx.1 g tt fj g1 tt1 te js (wipeD s is) nx.2 0 M1).bind finJ
  | false => .bad
section
variable {X : Cx} {L : Lay} {W : WX}
theorem lx_upd {w : World} {α : List Addr} {H : Hp} {p : Addr} {o : HO} {S : Int → Bool} {c : Nat} (h : H p = some (SetO w p S c)) : Lx α H α (upd H p o) :=
  ⟨⟨[], by simp⟩, fun a ys e => by
    have ne : a ≠ p := fun z => by rw [z, h] at e; cases e
    rw [upd_ne ne]; exact e, fun a q ys e => by
    have ne : a ≠ p := fun z => by rw [z, h] at e; cases e
    rw [upd_ne ne]; exact e⟩
theorem sc2_go {K : PySem.W.Frag} {w : World} {fi fj : IF} {g g1 : GF} {tt tt1 : TF} {te : EF} {is js : List Nat} {ρ : L2.St} {H : Hp} {Q : VK} (h : LE K L W (dSortSc2 fi g tt fj g1 tt1 te is js) ρ H Q) :
    tSc2I w (LI K L W fi) (LG K L W0 is g) (LT K L W0 tt) (LI K L W0 fj) (LG K L W0 js g1) (LT K L W0 tt1) (LE K L W0 te) is js ρ H fun v H' => ∃ D ns c, v = .ref D ∧ H' D = some (SetO w D (fun j => decide (j ∈ ns)) c) ∧
      ∃ α M H0 α0 w', D ∉ α ∧ Le α0 H0 α H' ∧ Rel K L α M H' ∧ PostR K L (Rep K) (finJ ns M) α0 H0 Q w' := by
  obtain ⟨α, M, s, r, sl, h⟩ := h
  refine ⟨α, M, s, r, sl, (PostR.bind (R := RIt _ _) h).imp fun J H1 ⟨nx, α1, M1, l1, r1, it, h1⟩ D hD => ?_⟩
  dsimp only at h1
  split at h1
  · rename_i hz
    have hz := dt hz
    have sl1 := (sl.le l1).wipe is
    have nd : D ∉ α1 := fun hm => by
      obtain ⟨u, hu, _⟩ := r1.mem hm
      rw [hD] at hu; cases hu
    have keepD : ∀ {acc : List Int} {c : Nat} {α α' : List Addr} {H H' : Hp} {M' : Mem}, Le α H α' H' → Rel K L α' M' H' → H D = some (SetO w D (fun j => decide (j ∈ acc)) c) → D ∉ α → H' D = some (SetO w D (fun j => decide (j ∈ acc)) c) ∧ D ∉ α' := fun {acc c α α' H H' M'} l r' e n => by
      refine ⟨l.keep _ _ e n, fun hm => ?_⟩
      obtain ⟨β, eβ, fβ⟩ := l.ext
      rw [eβ] at hm
      rcases List.mem_append.mp hm with z | z
      · exact n z
      · rw [fβ D z] at e; cases e
    refine ⟨fun i m H => ∃ α M acc c, i + m = nx.2 ∧ acc.length ≤ 62 * i ∧ Le α1 H1 α H ∧ Rel K L α M H ∧ H D = some (SetO w D (fun j => decide (j ∈ acc)) c) ∧ c ≤ acc.length ∧ D ∉ α ∧
      PostR K L (Rep K) ((lcI2 nx.1 g tt fj g1 tt1 te js (wipeD s is) m i M).bind fun ys M2 => finJ (acc ++ ys) M2) α1 H1 Q (fun c d H' => W c d ρ H'), ⟨nx.2, ?_⟩, ?_⟩
    · refine ⟨α1, M1, [], 0, by omega, Nat.zero_le _, out_le (Le.refl _ _) hD nd, r1.add hD, ?_, Nat.le_refl _, nd, h1⟩
      rw [upd_same]
      congr 2
    · rintro i m H ⟨α, M, acc, c, hn, hl, le, r, hH, hcl, ndα, hp⟩
      cases m with
      | zero => exact hp.elim
      | succ k =>
        have q := it i α H M le.lx r
        unfold lcI2 at hp
        cases e : nx.1 i M with
        | none => rw [e] at hp; exact hp.elim
        | some o =>
          rw [e] at hp q
          cases o with
          | none =>
            have hp' : PostR K L (Rep K) (finJ (acc ++ []) M) α1 H1 Q (fun c d H' => W c d ρ H') := hp
            rw [List.append_nil] at hp'
            exact .inl ⟨q, D, acc, c, rfl, hH, α, M, H1, α1, _, ndα, le, r, hp'⟩
          | some d =>
            obtain ⟨q1, q2⟩ := q
            refine .inr ⟨q1, fun H => ∃ α M acc c, (i + 1) + k = nx.2 ∧ acc.length ≤ 62 * (i + 1) ∧ Le α1 H1 α H ∧ Rel K L α M H ∧ H D = some (SetO w D (fun j => decide (j ∈ acc)) c) ∧ c ≤ acc.length ∧ D ∉ α ∧
              PostR K L (Rep K) ((lcI2 nx.1 g tt fj g1 tt1 te js (wipeD s is) k (i + 1) M).bind fun ys M2 => finJ (acc ++ ys) M2) α1 H1 Q (fun c d H' => W c d ρ H'), fun H' z => ⟨k, Nat.lt_succ_self _, z⟩, fun x H2 y => ?_⟩
            obtain ⟨lx, r2, rd⟩ := q2 x H2 y
            have le2 := le.trans lx
            obtain ⟨hH2, nd2⟩ := keepD lx r2 hH ndα
            dsimp only at hp
            rw [bind_bind] at hp
            refine ⟨α, M, wipeD s is, d, r2, sl1.le le2, rd, (nox_bind (R := RSl K is (L2.wipe ρ is)) hp _).imp fun σ2 H3 ⟨s1, α3, M3, l3, r3, ⟨q3, q4⟩, h3⟩ _ => ⟨q4.wipe, ?_⟩⟩
            obtain ⟨hH3, nd3⟩ := keepD l3 r3 hH2 nd2
            have le3 := le2.trans l3
            dsimp only at h3
            rw [bind_bind] at h3
            refine ⟨α3, M3, s1, r3, q3, (nox_bind (R := RB) h3 _).imp fun b H4 ⟨b', α4, M4, l4, r4, eb, h4⟩ => ?_⟩
            obtain ⟨hH4, nd4⟩ := keepD l4 r4 hH3 nd3
            have le4 := le3.trans l4
            subst eb
            dsimp only at h4
            cases b' with
            | false => exact iteF ⟨α4, M4, acc, c, by omega, by omega, le4, r4, hH4, hcl, nd4, h4⟩
            | true =>
              refine iteT ?_
              dsimp only at h4
              rw [bind_bind] at h4
              -- the inner loop
              refine ⟨α4, M4, s1, r4, q3.le l4, (nox_bind (R := RIt _ _) h4 _).imp fun J1 H5 ⟨nj, α5, M5, l5, r5, itj, h5⟩ => ?_⟩
              obtain ⟨hH5, nd5⟩ := keepD l5 r5 hH4 nd4
              have le5 := le4.trans l5
              dsimp only at h5
              split at h5
              · rename_i hj
                have hj := dt hj
                have slj := ((q3.le l4).le l5).wipe js
                refine ⟨fun j m H => ∃ α M acc c, j + m = nj.2 ∧ acc.length ≤ 62 * i + j ∧ Lx α5 H5 α H ∧ Le α1 H1 α H ∧ Rel K L α M H ∧ H D = some (SetO w D (fun j => decide (j ∈ acc)) c) ∧ c ≤ acc.length ∧ D ∉ α ∧
                  PostR K L (Rep K) ((lcI nj.1 g1 tt1 te (wipeD s1 js) m j M).bind fun ys M4 => (lcI2 nx.1 g tt fj g1 tt1 te js (wipeD s is) k (i + 1) M4).bind fun zs M5 => finJ (acc ++ (ys ++ zs)) M5) α1 H1 Q (fun c d H' => W c d ρ H'), ⟨nj.2, ?_⟩, ?_⟩
                · refine ⟨α5, M5, acc, c, by omega, by omega, (Le.refl _ _).lx, le5, r5, hH5, hcl, nd5, ?_⟩
                  rw [bind_bind] at h5
                  simp only [bind_bind] at h5
                  exact h5
                · rintro j m H6 ⟨α6, M6, acc6, c6, hn6, hl6, lx6, le6, r6, hH6, hcl6, nd6, hp6⟩
                  cases m with
                  | zero => exact hp6.elim
                  | succ kj =>
                    have q6 := itj j α6 H6 M6 lx6 r6
                    unfold lcI at hp6
                    cases e6 : nj.1 j M6 with
                    | none => rw [e6] at hp6; exact hp6.elim
                    | some o6 =>
                      rw [e6] at hp6 q6
                      cases o6 with
                      | none =>
                        refine .inl ⟨q6, α6, M6, acc6, c6, by omega, by omega, le6, r6, hH6, hcl6, nd6, ?_⟩
                        exact hp6
                      | some d6 =>
                        obtain ⟨q7, q8⟩ := q6
                        refine .inr ⟨q7, fun H => ∃ α M acc c, (j + 1) + kj = nj.2 ∧ acc.length ≤ 62 * i + (j + 1) ∧ Lx α5 H5 α H ∧ Le α1 H1 α H ∧ Rel K L α M H ∧ H D = some (SetO w D (fun j => decide (j ∈ acc)) c) ∧ c ≤ acc.length ∧ D ∉ α ∧
                          PostR K L (Rep K) ((lcI nj.1 g1 tt1 te (wipeD s1 js) kj (j + 1) M).bind fun ys M4 => (lcI2 nx.1 g tt fj g1 tt1 te js (wipeD s is) k (i + 1) M4).bind fun zs M5 => finJ (acc ++ (ys ++ zs)) M5) α1 H1 Q (fun c d H' => W c d ρ H'), fun H' z => ⟨kj, Nat.lt_succ_self _, z⟩, fun x7 H7 y7 => ?_⟩
                        obtain ⟨lx7, r7, rd7⟩ := q8 x7 H7 y7
                        have le7 := le6.trans lx7
                        have lxx7 := lx6.trans lx7.lx
                        obtain ⟨hH7, nd7⟩ := keepD lx7 r7 hH6 nd6
                        dsimp only at hp6
                        rw [bind_bind] at hp6
                        refine ⟨α6, M6, wipeD s1 js, d6, r7, slj.lw lxx7.lw, rd7, (nox_bind (R := RSl K js (L2.wipe σ2 js)) hp6 _).imp fun σ8 H8 ⟨s8, α8, M8, l8, r8, ⟨q9, q10⟩, h8⟩ _ => ⟨q10.wipe, ?_⟩⟩
                        obtain ⟨hH8, nd8⟩ := keepD l8 r8 hH7 nd7
                        have le8 := le7.trans l8
                        dsimp only at h8
                        rw [bind_bind] at h8
                        refine ⟨α8, M8, s8, r8, q9, (nox_bind (R := RB) h8 _).imp fun b9 H9 ⟨b9', α9, M9, l9, r9, eb9, h9⟩ => ?_⟩
                        obtain ⟨hH9, nd9⟩ := keepD l9 r9 hH8 nd8
                        have le9 := le8.trans l9
                        subst eb9
                        dsimp only at h9
                        cases b9' with
                        | false => exact iteF ⟨α9, M9, acc6, c6, by omega, by omega, (lxx7.trans l8.lx).trans l9.lx, le9, r9, hH9, hcl6, nd9, h9⟩
                        | true =>
                          refine iteT ?_
                          dsimp only at h9
                          rw [bind_bind] at h9
                          refine ⟨α9, M9, s8, r9, q9.le l9, (nox_bind (R := Rep K) h9 _).imp fun y10 H10 ⟨dy, α10, M10, l10, r10, ry, h10⟩ => ?_⟩
                          obtain ⟨hH10, nd10⟩ := keepD l10 r10 hH9 nd9
                          have le10 := le9.trans l10
                          dsimp only at h10
                          cases dy <;> try exact h10.elim
                          rename_i z
                          obtain rfl := ry.int
                          refine ⟨z, _, c6, rfl, hH10, ?_, α10, M10, acc6 ++ [z], (if decide (z ∈ acc6) = true then c6 else c6 + 1), by omega, by rw [List.length_append, List.length_singleton]; omega, (((lxx7.trans l8.lx).trans l9.lx).trans l10.lx).trans (lx_upd hH10), out_le le10 hD nd10, outs_rel r10 hH10 nd10, ?_, ?_, nd10, ?_⟩
                          · show c6 + 1 < 4096
                            omega
                          · rw [upd_same, mem_push]
                          · rw [List.length_append, List.length_singleton]
                            split <;> omega
                          · rw [bind_bind] at h10
                            have ea : ∀ ys zs : List Int, acc6 ++ [z] ++ (ys ++ zs) = acc6 ++ (z :: ys ++ zs) := fun ys zs => by simp
                            simp only [ea]
                            exact h10
              · exact h5.elim
  · exact h1.elim
theorem fe_sortSc2 {p q pos : Pos} {elt tg iter tg1 iter1 : Expr} {ifs ifs1 : List Expr} {scope : Scope} {own : List (Str × Nat)} {fi fj : IF} {g g1 : GF} {tt tt1 : TF} {te : EF} {is js : List Nat} (hc : X.calm = true) (hN : X.N.Nodup) (hG : Gl X "sorted") (hM : X.mg "sorted" = none) (hi : FI X L W tg iter fi) (ok : BlkOk X.N X.env.scope scope own) (ei : own.map (·.2) = is) (hv : ∀ i ∈ js, i ∈ is)
    (hg : ∀ (s : Shared) (G : Hp) (C : Addr) (cl : List (Str × Addr)) (fp : List Addr), FG (X.blk s G scope (compEnvC scope cl C X.env) fp) L W0 is tg g) (ht : ∀ (s : Shared) (G : Hp) (C : Addr) (cl : List (Str × Addr)) (fp : List Addr), FTs (X.blk s G scope (compEnvC scope cl C X.env) fp) L W0 ifs tt)
    (hi1 : ∀ (s : Shared) (G : Hp) (C : Addr) (cl : List (Str × Addr)) (fp : List Addr), FI (X.blk s G scope (compEnvC scope cl C X.env) fp) L W0 tg1 iter1 fj)
    (hg1 : ∀ (s : Shared) (G : Hp) (C : Addr) (cl : List (Str × Addr)) (fp : List Addr), FG (X.blk s G scope (compEnvC scope cl C X.env) fp) L W0 js tg1 g1) (ht1 : ∀ (s : Shared) (G : Hp) (C : Addr) (cl : List (Str × Addr)) (fp : List Addr), FTs (X.blk s G scope (compEnvC scope cl C X.env) fp) L W0 ifs1 tt1)
    (he : ∀ (s : Shared) (G : Hp) (C : Addr) (cl : List (Str × Addr)) (fp : List Addr), FE (X.blk s G scope (compEnvC scope cl C X.env) fp) L W0 elt te) (hs : ∀ x, foldedSetIterable iter X.env x = pure x := by intro _; rfl) (hs1 : ∀ env x, foldedSetIterable iter1 env x = pure x := by intro _ _; rfl)
    (na : starEach [.SetComp elt [⟨tg, iter, ifs, 0⟩, ⟨tg1, iter1, ifs1, 0⟩] scope q] X.env = (false, eval (.SetComp elt [⟨tg, iter, ifs, 0⟩, ⟨tg1, iter1, ifs1, 0⟩] scope q) X.env) :: starEach [] X.env := by rfl) :
    FE X L W (.Call (.Name "sorted" p) [.SetComp elt [⟨tg, iter, ifs, 0⟩, ⟨tg1, iter1, ifs1, 0⟩] scope q] [] pos) (dSortSc2 fi g tt fj g1 tt1 te is js) := by
  subst ei
  refine ⟨fun pn s ρ H Q I h => ?_⟩
  refine PyProof.Rows.Call_ (ld_blt I hG hM PyProof.Rows.boot_sorted ?_)
  refine PyProof.Rows.callWith_builtin1 (PyProof.Rows.args_cons ?_ na) na rfl
  refine thn ((pe_sc2I hc hN hi ok hv hg ht he hs hi1 hg1 ht1 hs1).run pn s ρ H _ I (sc2_go h)) fun v s1 ⟨x, H1, I1, rx, D, ns, c, ex, hD, α, M, H0, α0, w', ndα, l1, r1, h1⟩ => ?_
  subst ex
  cases rx
  have ec := setO_keys (setO_get I1 hD)
  refine PyProof.Rows.args_nil ?_
  unfold finJ at h1
  split at h1
  · rename_i h64
    have h64 := dt h64
    refine cr_sortedSet hc pn _ ρ _ [.ref D] _ Q I1 (.cons rfl .nil) ⟨D, _, c, rfl, hD, by omega, fun ms p hp hms _ hpn => ?_⟩
    have em := sortNub_eq (ns := ns) hp fun k => by rw [hms k, decide_eq_true_iff]
    rw [em]
    exact h1 _ _ _ (l1.trans (Le.new hpn)) (r1.new (o := .lst _) hpn ⟨_, upd_same, reps_int⟩) (rep_ref (by rw [← r1.len]; simp))
  · exact h1.elim
end
end Fl
namespace Fl
open PySem PySem.Spec PyProof.Rows L2
def keyTs (kvs : List (List Key × D)) : List D := kvs.map fun kv => .tup (kv.1.map kD)
def gSortedT : List D → Mem → Res D
  | [.ref n], M => (match M[n]? with
    | some (.dt kvs) => (match allSome (toPy M 8) (keyTs kvs) with
      | some ps => (match sortOkB ps, decide ((keyTs kvs).length ≤ sizeLine) with
        | true, true => .ok (.ref M.length) (M ++ [.lst (sortP (keyTs kvs) ps)])
        | _, _ => .bad)
      | none => .bad)
    | _ => .bad)
  | _, _ => .bad
section
variable {X : Cx} {L : Lay}
theorem keys_reps {K : PySem.W.Frag} {α : List Addr} {H : Hp} {kvs : List (List Key × D)} {vs : List (List Key × V)} (h : KvR K α H kvs vs) : ∀ {xs : List (List Key × Addr × Value)}, Paired (fun (p : List Key × V) (q : List Key × Addr × Value) => p.1 = q.1 ∧ H q.2.1 = some (.tup (p.1.map kV)) ∧ RelV p.2 q.2.2) vs xs →
    Reps K α H (keyTs kvs) (xs.map fun q => V.ref q.2.1) := by
  induction h with
  | nil => intro xs q; cases q; exact reps_nil
  | @cons p q ps qs hp _ ih =>
    intro xs z
    cases z with
    | cons z zs =>
      refine reps_cons ?_ (ih zs)
      unfold Rep
      refine ⟨_, _, rfl, .inl z.2.1, ?_⟩
      rw [← hp.1]
      exact reps_kD _
theorem vals_acc {xs : List (List Key × Addr × Value)} {es : Array DictEntry} {acc : Array Value} {f : List Key × Addr × Value → DictEntry} (he : es.toList = xs.map f) (hf : ∀ x, (f x).key = .ref x.2.1) (hs : acc.size = es.size) (h : ∀ j v, acc[j]? = some v → ∃ hi : j < es.size, v = es[j].key) : Vals (xs.map fun q => V.ref q.2.1) acc.toList := by
  have e : acc.toList = xs.map fun q => Value.ref q.2.1 := by
    refine List.ext_getElem? fun j => ?_
    have hx : xs.length = es.size := by rw [← Array.length_toList, he, List.length_map]
    by_cases c : j < acc.size
    · rw [Array.getElem?_toList]
      obtain ⟨hi, e1⟩ := h j _ (Array.getElem?_eq_getElem c)
      rw [Array.getElem?_eq_getElem c, e1, List.getElem?_map]
      have e2 : es.toList[j]? = some es[j] := by rw [Array.getElem?_toList, Array.getElem?_eq_getElem hi]
      rw [he, List.getElem?_map] at e2
      cases e3 : xs[j]? with
      | none => rw [e3] at e2; cases e2
      | some q =>
        rw [e3] at e2
        rw [← Option.some.inj e2, hf]; rfl
    · rw [List.getElem?_eq_none (by rw [Array.length_toList]; omega), List.getElem?_eq_none (by rw [List.length_map]; omega)]
  rw [e]
  clear e h hs he
  induction xs with
  | nil => exact .nil
  | cons q xs ih => exact .cons rfl ih
theorem c_sortedT (hc : X.calm = true) (hu : X.A.units + 70 < cLine) : CallF X L (.builtin "sorted") gSortedT := fun w => call_case fun xs H Q ⟨α, M, ds, r, rx, h⟩ => by
  unfold gSortedT at h
  split at h
  · rename_i n
    split at h
    · rename_i kvs eo
      split at h
      · rename_i ps e2
        split at h
        · rename_i c1 c2
          have c2 := dt c2
          obtain ⟨x, rfl, r1⟩ := rx.one
          obtain ⟨a, ha, rfl⟩ := r1.ref
          obtain ⟨a', ha', vs, hv, hr⟩ := r.at eo
          rw [ha] at ha'; cases ha'
          obtain ⟨hl, hz⟩ := allSome_zip e2
          unfold sortOkB at c1
          rw [Bool.and_eq_true, Bool.and_eq_true] at c1
          obtain ⟨a1, a2, a3⟩ := c1
          refine ⟨fun xs H' Q' => xs = [.ref a] ∧ H' = H ∧ Q' = Q, ?_, rfl, rfl, rfl⟩
          intro pins s σ H' xs us Q' I rvs ⟨ex, eH, eQ⟩
          subst ex eH eQ
          rw [Vals.ref1 rvs]
          obtain ⟨z, lo, zs, rel, o, es, ep, h1, h2, h3, h4, h5⟩ := (show ObjOk X.prog X.w _ _ a (.dT vs) from I.hok a _ hv)
          have raw : s.heap.DictRaw a es ep := ⟨o, h1, h2, h3⟩
          have hsz : es.size = zs.length := by rw [← Array.length_toList, h4, List.length_map]
          have lz : zs.length = vs.length := (Paired.length rel).symm
          have hR := keys_reps hr rel
          generalize hds : keyTs kvs = ks at *
          have em : (ks.zip ps).map (fun b : D × PyData => b.2) = ps := List.map_snd_zip (by omega)
          have halike : PySem.W.AllAlike ((ks.zip ps).map fun b : D × PyData => b.2) := by
            rw [em]
            intro p hp q hq
            exact List.all_eq_true.mp (List.all_eq_true.mp a1 p hp) q hq
          have hsort : PySem.W.Sortable ((ks.zip ps).map fun b : D × PyData => b.2) := by
            rw [em]
            rw [Bool.or_eq_true] at a2
            rcases a2 with a2 | a2
            · refine .inl fun p hp => ?_
              have z := List.all_eq_true.mp a2 p hp
              unfold isTupP at z
              split at z
              · exact ⟨_, _, rfl⟩
              · cases z
            · refine .inr fun p hp => ?_
              have z := List.all_eq_true.mp a2 p hp
              unfold notTupP at z
              split at z
              · cases z
              · cases z
              · rename_i n1 n2
                exact ⟨n1, n2⟩
          have hlen : (ks.zip ps).length ≤ sizeLine := by rw [List.length_zip]; omega
          have hdep : ∀ b, b ∈ ks.zip ps → X.A.in1.in1.units + b.2.depth < cLine := fun b hb => by
            have z := dt (List.all_eq_true.mp a3 b.2 (by rw [← em]; exact List.mem_map_of_mem hb))
            have u : X.A.in1.in1.units = X.A.units + 2 := rfl
            omega
          refine PySem.Calls.call_function_entry PyProof.Rows.kind_sorted PyProof.Rows.plain_sorted PyProof.Rows.entry_sorted (PyProof.Rows.args_sorted1 _) ?_
          unfold Builtin.«sorted»; refine wpAny_bind (m := checkCount "sorted" 1 1 _) (wpAny_pure ?_)
          refine wpAny_bind (PySem.W.kdu_collect (A := X.A.in1) (PySem.KdlSrc.rawDict (prog := X.prog) (w := X.w) (es := es) (ep := ep) lo) (I.ok.hd hc) raw (by rw [hsz, lz]; exact z) fun h' tk acc hk hacc => ?_)
          have rv := vals_acc h4 (fun _ => rfl) hacc.1 hacc.2
          have hal : acc.toList.length = (ks.zip ps).length := by
            rw [← rv.length, ← hR.length, List.length_zip]; omega
          have I1 : L2.Inv X pins σ H' { s with heap := h', toks := tk } := I.kept hk
          have er : PySem.W.EachIs (fun v b => ∃ as, Reads h' v b.2 as) acc.toList (ks.zip ps) :=
            each_imp (each_of hl hR rv) fun u b hb ⟨v, h1, h2⟩ => Dp.reads I1 b.2 v u (toPy_dp r 8 b.1 v b.2 (hz b hb) h2) h1
          refine wpAny_bind (wpAny_newList ?_ (by rw [hal]; exact hlen))
          have hoL : (h'.push (seqObj "list" acc.toList.toArray 0)).get? h'.objs.size = some (seqObj "list" acc.toList.toArray 0) := Heap.get?_push_size _ rfl
          have old : ∀ b u, h'.get? b = some u → (PySem.W.sortingHeap (h'.push (seqObj "list" acc.toList.toArray 0)) h'.objs.size acc.toList).get? b = some u := fun b u e =>
            PySem.W.sortingHeap_old (Nat.ne_of_lt (Heap.lt_size e)) (Heap.get?_push_of_some _ e)
          have er' : PySem.W.EachIs (fun v b => ∃ as, Reads (PySem.W.sortingHeap (h'.push (seqObj "list" acc.toList.toArray 0)) h'.objs.size acc.toList) v b.2 as) acc.toList (ks.zip ps) := er.mono fun _ _ ⟨as, q⟩ => ⟨as, PyProof.Rows.Reads.keeps old q⟩
          show wpAny _ _ _ _ _ { s with heap := h'.push (seqObj "list" acc.toList.toArray 0), toks := tk }
          refine wpAny_bind (wpAny_holding (wpAny_call_entry PyProof.Rows.slot_list_sort ⟨_, hoL, rfl⟩ PyProof.Rows.entry_list_sort
            (PySem.W.list_sort_vals (κ := PySem.W.dataKind (PySem.W.sortingHeap (h'.push (seqObj "list" acc.toList.toArray 0)) h'.objs.size acc.toList) ((ks.zip ps).map fun b : D × PyData => b.2)) hoL
              (PySem.W.SortsAt.data (s := { s with heap := PySem.W.sortingHeap (h'.push (seqObj "list" acc.toList.toArray 0)) h'.objs.size acc.toList, toks := tk }) (PySem.W.each_map (R := fun v d => ∃ as, Reads _ v d as) (fun b : D × PyData => b.2) er') halike hsort (PySem.W.bound_map hdep)) (by rw [hal]; exact hlen) ⟨_, rfl, ?_⟩) (PyProof.Rows.args_list_sort _)))
          have so := PySem.W.sortVals_data (R := SrtR X.K α H') (enc := fun b : D × PyData => b.2) false (each_of hl hR rv) er' halike
          generalize hout : PySem.W.sortVals _ false acc.toList acc.toList = out at so
          obtain ⟨e', he'⟩ := PyProof.Rows.sortedHeap_at (vs := acc.toList) (out := out.toArray) hoL
          obtain ⟨ws, g1, g2⟩ := each_back so
          have hn : H' h'.objs.size = none := I1.hok.fresh (Nat.le_refl _)
          have e3 : ((ks.zip ps).mergeSort (PySem.W.dataLe false fun b : D × PyData => b.2)).map (·.1) = sortP ks ps := by
            unfold sortP
            rw [isortS_merge leP_total]
            rfl
          rw [e3] at g2
          have hl2 : ws.length ≤ sizeLine := by
            have q := g2.length
            have q2 : (sortP ks ps).length = ks.length := by
              unfold sortP
              rw [List.length_map, (isortS_perm _).length_eq, List.length_zip]; omega
            omega
          refine wpAny_pure ⟨_, rfl, .ref _, upd H' h'.objs.size (.lst ws), I1.laid (t' := tk) (fun b u e => ?_) (Nat.le_refl _) ⟨hl2, out, e', g1, he'⟩, rfl, ?_⟩
          · have hb : b < h'.objs.size := Heap.lt_size e
            rw [PyProof.Rows.sortedHeap_old (Nat.ne_of_lt hb) (by rw [size_push']; exact Nat.lt_succ_of_lt hb)]
            exact Heap.get?_push_of_some _ e
          · exact h _ _ _ (Le.new hn) (r.new (o := .lst _) hn ⟨_, upd_same, g2.le (Le.new hn)⟩) (rep_ref (by rw [← r.len]; simp))
        · exact h.elim
      · exact h.elim
    · exact h.elim
  · exact h.elim
end
end Fl
namespace Fl
open PySem
def f_seen_orders : SF := (sSeq (sDrop (dCall 1 0 S_look_world (fun xs _ => xs) (dCons (dVar 0) dNil) dNil)) (sSeq (sSet 1 dNewT) (sSeq (sFor (iSeq (dOp1 (gFld 14) (dVar 0))) (gT 3 (gsCons 2 (gsCons 3 (gsCons 4 gsNil)))) (sAsg (dC (.bl true)) (gIxSet (dVar 1) (dVar 4)))) (sSeq (sFor (iSeq (dMeth 0 39 0 S_World_honest (fun xs _ => xs) (dVar 0) dNil)) (gN 3) (sFor (iSeq (dOp1 (gFld 3) (dOp2 gIx (dOp1 (gFld 13) (dVar 0)) (dVar 3)))) (gN 4) (sAsg (dC (.bl true)) (gIxSet (dVar 1) (dVar 4))))) (sSeq (sLock (dOp1 (gFld 8) (dOp1 (gFld 12) (dVar 0))) (sFor (iKeysF (dOp1 (gFld 8) (dOp1 (gFld 12) (dVar 0)))) (gN 4) (sAsg (dC (.bl true)) (gIxSet (dVar 1) (dVar 4))))) (sRet (dOpN gSortedT (dCons (dVar 1) dNil))))))))
def S_seen_orders : List D → Mem → Res D := fun ds M => match decide (ds.length = 1) with
  | true => (f_seen_orders (startD 5 ds) M).fin
  | false => .bad
def f_false_owners : SF := (sSeq (sSet 1 (dCall 1 0 S_seen_orders (fun xs _ => xs) (dCons (dVar 0) dNil) dNil)) (sRet (dSortSc2 (iSeq (dVar 1)) (gN 2) tYesF (iSeq (dVar 1)) (gN 3) (tAndF (tVal (dOp2 gEq (dSl (dVar 2) oNone (oSome (dC (.int 2)))) (dSl (dVar 3) oNone (oSome (dC (.int 2)))))) (tVal (dOp2 gNe (dVar 2) (dVar 3)))) (dOp2 gIx (dVar 2) (dC (.int 0))) [2, 3] [3])))
def S_false_owners : List D → Mem → Res D := fun ds M => match decide (ds.length = 1) with
  | true => (f_false_owners (startD 4 ds) M).fin
  | false => .bad
end Fl
namespace Fl
open PySem
def f__law_refusal : SF := (sSeq (sSet 1 (dLst (dCons (dOp1 (gIsi (tabX 7)) (dVar 0)) (dCons (dOp1 (gIsi (tabX 8)) (dVar 0)) (dCons (dOp1 (gIsi (tabX 9)) (dVar 0)) dNil))))) (sSeq (sSet 1 (dOp2 gAdd (dVar 1) (dLst (dCons (dOp1 (gIsi (tabX 10)) (dVar 0)) (dCons (dOp1 (gIsi (tabX 11)) (dVar 0)) (dCons (dOp1 (gIsi (tabX 12)) (dVar 0)) dNil)))))) (sSeq (sSet 1 (dOp2 gAdd (dVar 1) (dLst (dCons (dOp1 (gIsi (tabX 13)) (dVar 0)) (dCons (dOp1 (gIsi (tabX 14)) (dVar 0)) (dCons (dOp1 (gIsi (tabX 15)) (dVar 0)) dNil)))))) (sSeq (sSet 1 (dOp2 gAdd (dVar 1) (dLst (dCons (dOp1 (gIsi (tabX 16)) (dVar 0)) (dCons (dOp1 (gIsi (tabX 17)) (dVar 0)) dNil))))) (sSeq (sIf (tOrF (tVal (dOp2 gNe (dBm tyLst (onLst gCount) (dVar 1) (dCons (dC (.bl true)) dNil)) (dC (.int 1)))) (tOrF (tNotF (tVal (dOp1 (gIsi (tabX 6)) (dVar 0)))) (tNotF (tVal (dOp1 (gIsi tabVE) (dVar 0)))))) (sRet (dC (.str "odd"))) sNext) (sSeq (sSet 2 (dLst (dCons (dC (.str "number")) (dCons (dC (.str "order")) (dCons (dC (.str "houses")) (dCons (dC (.str "house")) (dCons (dC (.str "purse")) (dCons (dC (.str "letter")) (dCons (dC (.str "now")) (dCons (dC (.str "much")) (dCons (dC (.str "paper")) (dCons (dC (.str "cut")) (dCons (dC (.str "text")) dNil))))))))))))) (sRet (dOp2 gIx (dVar 2) (dBm tyLst (onLst gIndex) (dVar 1) (dCons (dC (.bl true)) dNil))))))))))
def S__law_refusal : List D → Mem → Res D := fun ds M => match decide (ds.length = 1) with
  | true => (f__law_refusal (startD 3 ds) M).fin
  | false => .bad
def f_order_text : SF := (sSeq (sDrop (dCall 1 0 S_look_order (fun xs _ => xs ++ [(.int 8)]) (dCons (dVar 0) dNil) dNil)) (sSeq (sAsg (dVar 0) (gT 4 (gsCons 1 (gsCons 2 (gsCons 3 (gsCons 4 gsNil)))))) (sRet (dJoin (jCons (dFmt (dVar 1)) (jCons (dC (.str ".")) (jCons (dFmt (dVar 2)) (jCons (dC (.str ": ")) (jCons (dFmt (dVar 4)) (jCons (dC (.str " to ")) (jCons (dFmt (dVar 3)) jNil)))))))))))
def S_order_text : List D → Mem → Res D := fun ds M => match decide (ds.length = 1) with
  | true => (f_order_text (startD 5 ds) M).fin
  | false => .bad
end Fl
namespace Fl
open PySem
def f__law_some : SF := (sSeq (sSet 3 (dLst dNil)) (sSeq (sFor (iRng1 (dCons (dVar 1) dNil)) (gN 4) (sIf (tAndF (tVal (dOp2 gLt (dOpN gLen (dCons (dVar 3) dNil)) (dVar 2))) (tVal (dOp2 gEq (dCall 2 0 S__law_draw (fun xs _ => xs) (dCons (dVar 0) (dCons (dC (.int 3)) dNil)) dNil) (dC (.int 0))))) (sDrop (dBm tyLst gAppend (dVar 3) (dCons (dVar 4) dNil))) sNext)) (sRet (dVar 3))))
def S__law_some : List D → Mem → Res D := fun ds M => match decide (ds.length = 3) with
  | true => (f__law_some (startD 5 ds) M).fin
  | false => .bad
def f__law_world : SF := (sSeq (sSet 1 (dCall 2 0 S__law_draw (fun xs _ => xs) (dCons (dVar 0) (dCons (dC (.int 3)) dNil)) dNil)) (sSeq (sSet 2 (dOp2 gAdd (dOp2 gAdd (dOp2 gMulX (dC (.int 3)) (dVar 1)) (dC (.int 1))) (dCall 2 0 S__law_draw (fun xs _ => xs) (dCons (dVar 0) (dCons (dC (.int 2)) dNil)) dNil))) (sSeq (sSet 3 (dCall 3 0 S__law_some (fun xs _ => xs) (dCons (dVar 0) (dCons (dVar 2) (dCons (dVar 1) dNil))) dNil)) (sSeq (sSet 4 (dLc (iRng1 (dCons (dOp2 gAdd (dC (.int 2)) (dCall 2 0 S__law_draw (fun xs _ => xs) (dCons (dVar 0) (dCons (dC (.int 3)) dNil)) dNil)) dNil)) (gN 7) tYesF (dCall 2 0 S__law_pick (fun xs _ => xs) (dCons (dVar 0) (dCons (dLst (dCons (dC (.int 0)) (dCons (dC (.int 5)) (dCons (dC (.int 20)) (dCons (dC (.int 1000)) (dCons (dCall 2 0 S__law_draw (fun xs _ => xs) (dCons (dVar 0) (dCons (dC (.int 40)) dNil)) dNil) dNil)))))) dNil)) dNil) [7])) (sSeq (sSet 5 (dCall 3 0 S__law_some (fun xs _ => xs) (dCons (dVar 0) (dCons (dOpN gLen (dCons (dVar 4) dNil)) (dCons (dC (.int 2)) dNil))) dNil)) (sSeq (sSet 6 (dMake 0 1 4 S_World___init__ (fun xs zs => xs ++ zs) (dCons (dVar 2) dNil) (dCons (dVar 1) (dCons (dVar 4) (dCons (dVar 3) (dCons (dVar 5) dNil)))))) (sRet (dTup (dCons (dVar 6) (dCons (dVar 2) (dCons (dVar 1) (dCons (dVar 3) (dCons (dLc (iRng1 (dCons (dVar 2) dNil)) (gN 7) (tVal (dOp2 gNotIn (dVar 7) (dVar 3))) (dVar 7) [7]) (dCons (dVar 4) (dCons (dVar 5) dNil)))))))))))))))
def S__law_world : List D → Mem → Res D := fun ds M => match decide (ds.length = 1) with
  | true => (f__law_world (startD 8 ds) M).fin
  | false => .bad
def f__law_letter : SF := (sSeq (sSet 2 (dOpN gLen (dCons (dMeth 0 52 0 S_World_letters (fun xs _ => xs) (dVar 1) dNil) dNil))) (sRet (dIfE (tVal (dOp2 gGt (dVar 2) (dC (.int 0)))) (dMeth 0 53 1 S_World_come (fun xs _ => xs) (dVar 1) (dCons (dCall 2 0 S__law_draw (fun xs _ => xs) (dCons (dVar 0) (dCons (dVar 2) dNil)) dNil) dNil)) (dC .non))))
def S__law_letter : List D → Mem → Res D := fun ds M => match decide (ds.length = 2) with
  | true => (f__law_letter (startD 3 ds) M).fin
  | false => .bad
def f__law_order : SF := (sSeq (sSet 3 (dOpN gLen (dCons (dOp2 gIx (dVar 1) (dC (.int 5))) dNil))) (sSeq (sSet 4 (dOp2 gMod (dOp2 gAdd (dOp2 gAdd (dVar 2) (dC (.int 1))) (dCall 2 0 S__law_draw (fun xs _ => xs) (dCons (dVar 0) (dCons (dOp2 gSub (dVar 3) (dC (.int 1))) dNil)) dNil)) (dVar 3))) (sRet (dTup (dCons (dVar 2) (dCons (dCall 2 0 S__law_draw (fun xs _ => xs) (dCons (dVar 0) (dCons (dC (.int 3)) dNil)) dNil) (dCons (dVar 4) (dCons (dOp2 gAdd (dC (.int 1)) (dCall 2 0 S__law_pick (fun xs _ => xs) (dCons (dVar 0) (dCons (dLst (dCons (dC (.int 0)) (dCons (dC (.int 4)) (dCons (dCall 2 0 S__law_draw (fun xs _ => xs) (dCons (dVar 0) (dCons (dC (.int 12)) dNil)) dNil) dNil)))) dNil)) dNil)) dNil))))))))
def S__law_order : List D → Mem → Res D := fun ds M => match decide (ds.length = 3) with
  | true => (f__law_order (startD 5 ds) M).fin
  | false => .bad
def f__law_told : SF := (sSeq (sSet 5 (dC .non)) (sSeq (sSet 6 (dC .non)) (sSeq (sTry (sIf (tVal (dOp2 gEq (dVar 0) (dC (.str "ask")))) (sSet 5 (dMeth 0 46 3 S_World_ask (fun xs _ => xs) (dVar 1) (dCons (dVar 2) (dCons (dVar 3) (dCons (dVar 4) dNil))))) (sIf (tVal (dOp2 gEq (dVar 0) (dC (.str "cheat")))) (sSet 5 (dMeth 0 48 2 S_World_cheat (fun xs _ => xs) (dVar 1) (dCons (dVar 2) (dCons (dVar 3) dNil)))) (sIf (tVal (dOp2 gEq (dVar 0) (dC (.str "lie")))) (sSet 5 (dMeth 0 49 2 S_World_lie (fun xs _ => xs) (dVar 1) (dCons (dVar 2) (dCons (dVar 3) dNil)))) (sSet 5 (dMeth 0 51 2 S_World_show (fun xs _ => xs) (dVar 1) (dCons (dVar 2) (dCons (dVar 3) dNil))))))) [(tabC 6, 7, (sSet 6 (dVar 7)))]) (sRet (dIfE (tVal (dOp2 gIs (dVar 6) (dC .non))) (dVar 5) (dCall 1 0 S__law_refusal (fun xs _ => xs) (dCons (dVar 6) dNil) dNil))))))
def S__law_told : List D → Mem → Res D := fun ds M => match decide (ds.length = 5) with
  | true => (f__law_told (startD 8 ds) M).fin
  | false => .bad
def f__law_go : SF := (sSeq (sAsg (dVar 1) (gT 7 (gsCons 3 (gsCons 4 (gsCons 5 (gsCons 6 (gsCons 7 (gsCons 8 (gsCons 9 gsNil))))))))) (sSeq (sSet 10 (dOpN gLen (dCons (dVar 8) dNil))) (sSeq (sSet 11 (dCall 2 0 S__law_draw (fun xs _ => xs) (dCons (dVar 0) (dCons (dC (.int 10)) dNil)) dNil)) (sIf (tVal (dOp2 gLt (dVar 11) (dVar 2))) (sDrop (dCall 2 0 S__law_letter (fun xs _ => xs) (dCons (dVar 0) (dCons (dVar 3) dNil)) dNil)) (sIf (tAndF (tVal (dOp2 gEq (dOp2 gMod (dVar 11) (dC (.int 2))) (dC (.int 0)))) (tVal (dOp2 gNe (dVar 9) (dLst dNil)))) (sSeq (sSet 12 (dCall 3 0 S__law_order (fun xs _ => xs) (dCons (dVar 0) (dCons (dVar 1) (dCons (dCall 2 0 S__law_pick (fun xs _ => xs) (dCons (dVar 0) (dCons (dVar 9) dNil)) dNil) dNil))) dNil)) (sSeq (sDrop (dMeth 0 48 2 S_World_cheat (fun xs _ => xs) (dVar 3) (dCons (dVar 12) (dCons (dCall 2 0 S__law_pick (fun xs _ => xs) (dCons (dVar 0) (dCons (dVar 7) dNil)) dNil) dNil)))) (sIf (tVal (dOp2 gNe (dVar 6) (dLst dNil))) (sDrop (dMeth 0 49 2 S_World_lie (fun xs _ => xs) (dVar 3) (dCons (dCall 2 0 S__law_pick (fun xs _ => xs) (dCons (dVar 0) (dCons (dVar 6) dNil)) dNil) (dCons (dVar 12) dNil)))) sNext))) (sIf (tAndF (tVal (dOp2 gNe (dVar 6) (dLst dNil))) (tAndF (tVal (dOp2 gNe (dMeth 0 52 0 S_World_letters (fun xs _ => xs) (dVar 3) dNil) (dLst dNil))) (tVal (dOp2 gEq (dCall 2 0 S__law_draw (fun xs _ => xs) (dCons (dVar 0) (dCons (dC (.int 3)) dNil)) dNil) (dC (.int 0)))))) (sDrop (dCall 5 0 S__law_told (fun xs _ => xs) (dCons (dC (.str "lie")) (dCons (dVar 3) (dCons (dCall 2 0 S__law_pick (fun xs _ => xs) (dCons (dVar 0) (dCons (dVar 6) dNil)) dNil) (dCons (dOp2 gIx (dCall 2 0 S__law_pick (fun xs _ => xs) (dCons (dVar 0) (dCons (dMeth 0 52 0 S_World_letters (fun xs _ => xs) (dVar 3) dNil) dNil)) dNil) (dC (.int 2))) (dCons (dC (.int 0)) dNil))))) dNil)) (sIf (tAndF (tVal (dOp2 gNe (dMeth 0 38 0 S_World_papers (fun xs _ => xs) (dVar 3) dNil) (dLst dNil))) (tVal (dOp2 gEq (dCall 2 0 S__law_draw (fun xs _ => xs) (dCons (dVar 0) (dCons (dC (.int 4)) dNil)) dNil) (dC (.int 0))))) (sDrop (dMeth 0 51 2 S_World_show (fun xs _ => xs) (dVar 3) (dCons (dCall 2 0 S__law_pick (fun xs _ => xs) (dCons (dVar 0) (dCons (dMeth 0 38 0 S_World_papers (fun xs _ => xs) (dVar 3) dNil) dNil)) dNil) (dCons (dCall 2 0 S__law_pick (fun xs _ => xs) (dCons (dVar 0) (dCons (dVar 7) dNil)) dNil) dNil)))) (sSeq (sSet 13 (dCall 2 0 S__law_draw (fun xs _ => xs) (dCons (dVar 0) (dCons (dVar 10) dNil)) dNil)) (sSeq (sSet 14 (dOp2 gMod (dOp2 gAdd (dOp2 gAdd (dVar 13) (dC (.int 1))) (dCall 2 0 S__law_draw (fun xs _ => xs) (dCons (dVar 0) (dCons (dOp2 gSub (dVar 10) (dC (.int 1))) dNil)) dNil)) (dVar 10))) (sDrop (dCall 5 0 S__law_told (fun xs _ => xs) (dCons (dC (.str "ask")) (dCons (dVar 3) (dCons (dVar 13) (dCons (dVar 14) (dCons (dOp2 gAdd (dC (.int 1)) (dCall 2 0 S__law_pick (fun xs _ => xs) (dCons (dVar 0) (dCons (dLst (dCons (dC (.int 0)) (dCons (dC (.int 4)) (dCons (dCall 2 0 S__law_draw (fun xs _ => xs) (dCons (dVar 0) (dCons (dC (.int 30)) dNil)) dNil) dNil)))) dNil)) dNil)) dNil))))) dNil)))))))))))
def S__law_go : List D → Mem → Res D := fun ds M => match decide (ds.length = 3) with
  | true => (f__law_go (startD 15 ds) M).fin
  | false => .bad
end Fl
namespace Fl
open PySem
def f__law_summed : SF := (sSeq (sSet 2 (dOpN gList (dCons (dVar 1) dNil))) (sSeq (sFor (iSeq (dVar 0)) (gT 4 (gsCons 3 (gsCons 4 (gsCons 5 (gsCons 6 gsNil))))) (sSeq (sAsg (dOp2 gSub (dOp2 gIx (dVar 2) (dVar 3)) (dVar 6)) (gIxSet (dVar 2) (dVar 3))) (sAsg (dOp2 gAdd (dOp2 gIx (dVar 2) (dVar 5)) (dVar 6)) (gIxSet (dVar 2) (dVar 5))))) (sRet (dVar 2))))
def S__law_summed : List D → Mem → Res D := fun ds M => match decide (ds.length = 2) with
  | true => (f__law_summed (startD 7 ds) M).fin
  | false => .bad
def f_false_houses : SF := (sSeq (sDrop (dCall 1 0 S_look_world (fun xs _ => xs) (dCons (dVar 0) dNil) dNil)) (sSeq (sSet 1 dNewK) (sSeq (sSet 2 (dOp1 (gFld 8) (dOp1 (gFld 12) (dVar 0)))) (sSeq (sLock (dVar 2) (sFor (iKeysF (dVar 2)) (gN 3) (sFor (iKeysF (dVar 2)) (gN 4) (sIf (tAndF (tVal (dOp2 gEq (dSl (dVar 3) oNone (oSome (dC (.int 2)))) (dSl (dVar 4) oNone (oSome (dC (.int 2)))))) (tVal (dOp2 gNe (dVar 3) (dVar 4)))) (sAug 1 (dDc (iSeq (dOp2 gIx (dVar 2) (dVar 3))) (gN 5) (tVal (dOp2 gIn (dVar 5) (dOp2 gIx (dVar 2) (dVar 4)))) (dVar 5) (dC (.bl true)) [5]) gIOr) sNext)))) (sRet (dOpN gSorted (dCons (dVar 1) dNil)))))))
def S_false_houses : List D → Mem → Res D := fun ds M => match decide (ds.length = 1) with
  | true => (f_false_houses (startD 6 ds) M).fin
  | false => .bad
def f_lost_nothing : SF := (sSeq (sDrop (dCall 1 0 S_look_world (fun xs _ => xs) (dCons (dVar 0) dNil) dNil)) (sSeq (sSet 1 (dOpN gSum (dCons (dOp1 (gFld 9) (dVar 0)) dNil))) (sSeq (sSet 2 (dLc (iSeq (dMeth 0 39 0 S_World_honest (fun xs _ => xs) (dVar 0) dNil)) (gN 3) tYesF (dOp2 gIx (dOp1 (gFld 13) (dVar 0)) (dVar 3)) [3])) (sRet (dOpN gAll (dCons (dLc (iSeq (dVar 2)) (gN 4) tYesF (dAnd (dOp2 gEq (dOpN gSum (dCons (dOp1 (gFld 0) (dVar 4)) dNil)) (dVar 1)) (dOp2 gGe (dOpN gMin (dCons (dOp1 (gFld 0) (dVar 4)) dNil)) (dC (.int 0)))) [4]) dNil))))))
def S_lost_nothing : List D → Mem → Res D := fun ds M => match decide (ds.length = 1) with
  | true => (f_lost_nothing (startD 5 ds) M).fin
  | false => .bad
def f__law_all_come : SF := (sSeq (sFor (iRng1 (dCons (dC (.int 1500)) dNil)) (gN 2) (sIf (tVal (dOp2 gIs (dCall 2 0 S__law_letter (fun xs _ => xs) (dCons (dVar 0) (dCons (dVar 1) dNil)) dNil) (dC .non))) (sRet (dOp2 gIs (dMeth 0 58 0 S_World_is_still (fun xs _ => xs) (dVar 1) dNil) (dC (.bl true)))) sNext)) (sRet (dC (.bl false))))
def S__law_all_come : List D → Mem → Res D := fun ds M => match decide (ds.length = 2) with
  | true => (f__law_all_come (startD 3 ds) M).fin
  | false => .bad
end Fl
namespace Fl
open PySem PySem.Spec L2
def nk (k : NK) : NestedKey := .tup (k.map fun r => .tup (r.map .num))
theorem nums_inj : ∀ {a b : List Int}, a.map NestedKey.num = b.map NestedKey.num → a = b
  | [], [], _ => rfl
  | [], _ :: _, h => by cases h
  | _ :: _, [], h => by cases h
  | x :: a, y :: b, h => by
    rw [List.map_cons, List.map_cons, List.cons.injEq] at h
    obtain ⟨h1, h2⟩ := h
    cases h1
    rw [nums_inj h2]
theorem nks_inj : ∀ {a b : NK}, a.map (fun r => NestedKey.tup (r.map .num)) = b.map (fun r => NestedKey.tup (r.map .num)) → a = b
  | [], [], _ => rfl
  | [], _ :: _, h => by cases h
  | _ :: _, [], h => by cases h
  | x :: a, y :: b, h => by
    rw [List.map_cons, List.map_cons, List.cons.injEq] at h
    obtain ⟨h1, h2⟩ := h
    have h1 := NestedKey.tup.inj h1
    rw [nums_inj h1, nks_inj h2]
theorem nk_inj {a b : NK} (h : nk a = nk b) : a = b := nks_inj (NestedKey.tup.inj h)
theorem nums_depth : ∀ (a : List Int), NestedKey.depthAll (a.map NestedKey.num) = 0
  | [] => by simp [NestedKey.depthAll]
  | x :: a => by rw [List.map_cons, NestedKey.depthAll, nums_depth a]; simp [NestedKey.depth]
theorem nks_depth : ∀ (a : NK), NestedKey.depthAll (a.map fun r => NestedKey.tup (r.map .num)) ≤ 1
  | [] => by simp [NestedKey.depthAll]
  | x :: a => by
    rw [List.map_cons, NestedKey.depthAll, NestedKey.depth, nums_depth]
    exact Nat.max_le.mpr ⟨Nat.le_refl _, nks_depth a⟩
theorem nk_depth (k : NK) : (nk k).depth ≤ 8 := by
  unfold nk
  rw [NestedKey.depth]
  have := nks_depth k
  omega
theorem nums_hash (w : World) : ∀ (a : List Int), NestedKey.hashes w (a.map NestedKey.num) = a.map hashInt
  | [] => by simp [NestedKey.hashes]
  | x :: a => by rw [List.map_cons, NestedKey.hashes, nums_hash w a]; simp [NestedKey.hash]
theorem nks_hash (w : World) : ∀ (a : NK), NestedKey.hashes w (a.map fun r => NestedKey.tup (r.map .num)) = a.map fun r => reduceHash (Builtin.Tuple.tupleHashOf (r.map hashInt))
  | [] => by simp [NestedKey.hashes]
  | x :: a => by rw [List.map_cons, NestedKey.hashes, nks_hash w a, NestedKey.hash, nums_hash]; rfl
theorem nk_hash (w : World) (k : NK) : (nk k).hash w = k.hash := by
  unfold nk NK.hash
  rw [NestedKey.hash, nks_hash]
section
variable {P : Program} {w : World} {H : Hp} {h : Heap} {a t : Addr} {k : NK}
theorem nums_is : ∀ {r : List Int} {us : List Value}, Vals (r.map V.int) us → NestedAll h (r.map .num) us
  | [], _, v => by rw [List.map_nil] at v; cases v; exact .nil
  | x :: r, _, v => by
    rw [List.map_cons] at v
    cases v with
    | cons q v =>
      obtain ⟨tk, rfl⟩ := q
      exact .cons (.int x tk) (nums_is v)
theorem row_is (ok : HOk P w H h) {r : List Int} (e : H a = some (.tup (r.map V.int))) : NestedIs h (.tup (r.map .num)) (.ref a) := by
  obtain ⟨_, its, v, o, h1, h2, n, h3⟩ := (show ObjOk P w H h a (.tup (r.map V.int)) from ok a _ e)
  exact .tup h1 h2 h3 (by simpa using nums_is v)
theorem rows_is (ok : HOk P w H h) : ∀ {k : NK} {ts : List Addr} {us : List Value}, Paired (fun (r : List Int) (u : Addr) => H u = some (.tup (r.map V.int))) k ts → Vals (ts.map V.ref) us → NestedAll h (k.map fun r => NestedKey.tup (r.map .num)) us
  | _, _, _, .nil, v => by rw [List.map_nil] at v; cases v; exact .nil
  | _, _, _, .cons q t, v => by
    rw [List.map_cons] at v
    cases v with
    | cons p v =>
      obtain rfl := (show _ = _ from p)
      exact .cons (row_is ok q) (rows_is ok t v)
theorem nat_is (ok : HOk P w H h) (e : NAt H k t) : (nestedKind P w).is h (nk k) t := by
  obtain ⟨ts, e1, e2⟩ := e
  obtain ⟨_, its, v, o, h1, h2, n, h3⟩ := (show ObjOk P w H h t (.tup (ts.map V.ref)) from ok t _ e1)
  exact ⟨.tup h1 h2 h3 (by simpa using rows_is ok e2 v), nk_depth k⟩
end
abbrev NV : List (NK × Addr × V) → List (NK × Addr × Value) → Prop := Paired fun p q => p.1 = q.1 ∧ p.2.1 = q.2.1 ∧ RelV p.2.2 q.2.2
abbrev nkx (ws : List (NK × Addr × Value)) : List (NestedKey × Addr × Value) := ws.map fun x => (nk x.1, x.2)
def valN (vs : List (NK × Addr × V)) (k : NK) : Option V := (vs.find? fun x => decide (x.1 = k)).map (·.2.2)
def putN (vs : List (NK × Addr × V)) (k : NK) (t : Addr) (v : V) : List (NK × Addr × V) := match valN vs k with
  | some _ => vs.map fun x => if x.1 = k then (x.1, x.2.1, v) else x
  | none => vs ++ [(k, t, v)]
theorem valN_cons {p : NK × Addr × V} {vs : List (NK × Addr × V)} {k : NK} : valN (p :: vs) k = if p.1 = k then some p.2.2 else valN vs k := by
  unfold valN
  rw [List.find?_cons]
  by_cases e : p.1 = k
  · rw [if_pos e, decide_eq_true e]; rfl
  · rw [if_neg e, decide_eq_false e]
theorem atKey_cons {p : NK × Addr × Value} {ws : List (NK × Addr × Value)} {k : NK} : atKey (nkx (p :: ws)) (nk k) = if p.1 = k then some p.2 else atKey (nkx ws) (nk k) := by
  have e0 : nkx (p :: ws) = (nk p.1, p.2) :: nkx ws := rfl
  unfold atKey
  rw [e0, List.find?_cons]
  by_cases e : p.1 = k
  · rw [if_pos e, decide_eq_true (by rw [e])]; rfl
  · rw [if_neg e, decide_eq_false (fun z => e (nk_inj z))]
theorem NV.val {vs : List (NK × Addr × V)} {ws : List (NK × Addr × Value)} (r : NV vs ws) (k : NK) : RelO (valN vs k) ((atKey (nkx ws) (nk k)).map (·.2)) := by
  induction r with
  | nil => exact True.intro
  | @cons p q ps qs h _ ih =>
    rw [valN_cons, atKey_cons]
    by_cases e : p.1 = k
    · rw [if_pos e, if_pos (h.1.symm.trans e)]
      exact h.2.2
    · rw [if_neg e, if_neg (fun z => e (h.1.trans z))]
      exact ih
theorem NV.put {vs : List (NK × Addr × V)} {ws : List (NK × Addr × Value)} (r : NV vs ws) (k : NK) (t : Addr) {v : V} {u : Value} (rv : RelV v u) : ∃ ws', NV (putN vs k t v) ws' ∧ storedH (nkx ws) (nk k) t u = nkx ws' := by
  have q := r.val k
  unfold putN
  cases e : valN vs k with
  | none =>
    rw [e] at q
    have qn : atKey (nkx ws) (nk k) = none := by
      cases qa : atKey (nkx ws) (nk k) with
      | none => rfl
      | some p => rw [qa] at q; exact (show False from q).elim
    refine ⟨ws ++ [(k, t, u)], Paired.snoc r ⟨rfl, rfl, rv⟩, ?_⟩
    rw [storedH_new qn]
    simp [nkx]
  | some x =>
    rw [e] at q
    have qn : ∃ p, atKey (nkx ws) (nk k) = some p := by
      cases qa : atKey (nkx ws) (nk k) with
      | none => rw [qa] at q; exact (show False from q).elim
      | some p => exact ⟨p, rfl⟩
    obtain ⟨p, qn⟩ := qn
    refine ⟨ws.map fun x => if x.1 = k then (x.1, x.2.1, u) else x, ?_, ?_⟩
    · clear e q qn
      dsimp only
      induction r with
      | nil => exact .nil
      | @cons p q ps qs h _ ih =>
        rw [List.map_cons, List.map_cons]
        by_cases e : p.1 = k
        · rw [if_pos e, if_pos (h.1.symm.trans e)]
          exact .cons ⟨h.1, h.2.1, rv⟩ ih
        · rw [if_neg e, if_neg (fun z => e (h.1.trans z))]
          exact .cons h ih
    · rw [storedH_old qn]
      unfold nkx
      rw [List.map_map, List.map_map]
      refine List.map_congr_left fun x _ => ?_
      show putAt (nk k) u (nk x.1, x.2) = _
      unfold putAt
      by_cases e : x.1 = k
      · simp [e]
      · have : ¬ nk x.1 = nk k := fun z => e (nk_inj z)
        simp [e, this]
theorem putN_len {vs : List (NK × Addr × V)} {k : NK} {t : Addr} {v : V} : (putN vs k t v).length ≤ vs.length + 1 := by
  unfold putN
  split
  · rw [List.length_map]; omega
  · simp
section
variable {P : Program} {w : World} {H : Hp} {h h' : Heap} {a t : Addr} {k : NK} {vs : List (NK × Addr × V)}
theorem nkx_es (ws : List (NK × Addr × Value)) : (nkx ws).map (entryOfKey (nestedKind P w)) = ws.map (fun x => (⟨x.1.hash, .ref x.2.1, x.2.2⟩ : DictEntry)) := by
  unfold nkx
  rw [List.map_map]
  refine List.map_congr_left fun x _ => ?_
  show (⟨(nk x.1).hash w, .ref x.2.1, x.2.2⟩ : DictEntry) = _
  rw [nk_hash]
theorem nkx_nd {ws : List (NK × Addr × Value)} (h : (ws.map (·.1)).Nodup) : ((nkx ws).map (·.1)).Nodup := by
  have e : (nkx ws).map (·.1) = (ws.map (·.1)).map nk := by simp [nkx]
  rw [e]
  exact List.pairwise_map.mpr (h.imp fun z q => z (nk_inj q))
theorem nd_nkx {ws : List (NK × Addr × Value)} (h : ((nkx ws).map (·.1)).Nodup) : (ws.map (·.1)).Nodup := by
  have e : (nkx ws).map (·.1) = (ws.map (·.1)).map nk := by simp [nkx]
  rw [e] at h
  exact (List.pairwise_map.mp h).imp fun z q => z (by rw [q])
theorem dn_phi (ok : HOk P w H h) (e : Rd H a (NDict a vs)) : (a == sysModules) = false ∧ vs.length ≤ sizeLine ∧
  ∃ ws : List (NK × Addr × Value), NV vs ws ∧ ∃ o es ep, h.get? a = some o ∧ o.ExactDict ∧ o.data = .dict es ep ∧ es.toList = ws.map (fun x => (⟨x.1.hash, .ref x.2.1, x.2.2⟩ : DictEntry)) ∧ (ws.map (·.1)).Nodup := by
  have z : ObjOk P w H h a (NDict a vs) := e.ok ok
  exact z.1
theorem dn_rd (ok : HOk P w H h) (e : Rd H a (NDict a vs)) (hk : ∀ x ∈ vs, NAt H x.1 x.2.1) : (a == sysModules) = false ∧ vs.length ≤ sizeLine ∧ ∃ ws, NV vs ws ∧ h.DictOfH (nestedKind P w) a (nkx ws) := by
  obtain ⟨hs, hl, ws, r, o, es, ep, h1, h2, h3, h4, h5⟩ := dn_phi ok e
  refine ⟨hs, hl, ws, r, o, es, ep, h1, h2, h3, by rw [nkx_es]; exact h4, ?_, nkx_nd h5⟩
  have all : ∀ {l : List (NK × Addr × V)} {m : List (NK × Addr × Value)}, NV l m → (∀ x ∈ l, NAt H x.1 x.2.1) → ∀ x ∈ nkx m, (nestedKind P w).is h x.1 x.2.1 := by
    intro l m q
    induction q with
    | nil => intro _ x hx; exact nomatch hx
    | @cons p q ps qs hq t ih =>
      intro hk x hx
      rcases List.mem_cons.mp hx with e | hx
      · subst e
        show (nestedKind P w).is h (nk q.1) q.2.1
        rw [← hq.1, ← hq.2.1]
        exact nat_is ok (hk p List.mem_cons_self)
      · exact ih (fun x hx => hk x (List.mem_cons_of_mem _ hx)) x hx
  exact all r hk
theorem dn_ok {H' : Hp} {ws : List (NK × Addr × Value)} (hs : (a == sysModules) = false) (hl : vs.length ≤ sizeLine) (r : NV vs ws) (dd : h'.DictOfH (nestedKind P w) a (nkx ws)) : ObjOk P w H' h' a (NDict a vs) := by
  obtain ⟨o, es, ep, h1, h2, h3, h4, _, h5⟩ := dd
  rw [nkx_es] at h4
  refine ⟨⟨hs, hl, ws, r, o, es, ep, h1, h2, h3, h4, nd_nkx h5⟩, ⟨o, h1⟩, ?_⟩
  rintro g1 g2 ⟨hs, hl, ws, r, o, es, ep, h1, h2⟩ hk
  exact ⟨hs, hl, ws, r, o, es, ep, hk o h1, h2⟩
theorem dn_nd (ok : HOk P w H h) (e : Rd H a (NDict a vs)) : (vs.map (·.1)).Nodup := by
  obtain ⟨hs, hl, ws, r, o, es, ep, h1, h2, h3, h4, h5⟩ := dn_phi ok e
  have all : ∀ {l : List (NK × Addr × V)} {m : List (NK × Addr × Value)}, NV l m → l.map (·.1) = m.map (·.1) := by
    intro l m q
    induction q with
    | nil => rfl
    | cons p _ ih => rw [List.map_cons, List.map_cons, p.1, ih]
  rw [all r]
  exact h5
theorem dn_empty {H : Hp} (h : Heap) (hb : sysModules < h.objs.size) : ObjOk P w H (h.push { cls := .type "dict", data := .dict #[] }) h.objs.size (NDict h.objs.size []) :=
  dn_ok (ws := []) (beq_eq_false_iff_ne.mpr (Ne.symm (Nat.ne_of_lt hb))) (Nat.zero_le _) .nil (Heap.DictOfH.new h)
end
def DGetN (H : Hp) (a : Addr) (y : V) (r : Option V) : Prop := ∃ vs k t, Rd H a (NDict a vs) ∧ (∀ x ∈ vs, NAt H x.1 x.2.1) ∧ y = .ref t ∧ NAt H k t ∧ r = valN vs k
def DPutN (H : Hp) (a : Addr) (y v : V) (H' : Hp) : Prop := ∃ vs k t, H a = some (NDict a vs) ∧ (∀ x ∈ vs, NAt H x.1 x.2.1) ∧ y = .ref t ∧ NAt H k t ∧ vs.length < sizeLine ∧ H' = upd H a (NDict a (putN vs k t v))
section
variable {X : Cx} {pins : List (Addr × Obj)} {σ : L2.St} {H : Hp} {s : Shared} {a : Addr} {y v d : V} {u r : Value} {o : Option V} {A : Around} {E : Value → Shared → Prop}
theorem room_n (hu : A.units + 9 < cLine) : (nestedKind X.prog X.w).room A.in1 := by show A.units + 1 + 8 < cLine; omega
theorem dn_typeIs (I : L2.Inv X pins σ H s) (g : DGetN H a y o) : s.TypeIs (.ref a) "dict" := by
  obtain ⟨vs, k, t, e, hk, _⟩ := g
  obtain ⟨_, _, ws, _, dd⟩ := dn_rd I.hok e hk
  exact dd.typeIs
theorem dn_getItem {Q : Value → Shared → Prop} (hu : A.units + 9 < cLine) (I : L2.Inv X pins σ H s) (g : DGetN H a y (some v)) (ry : RelV y u) (h : ∀ w' s', L2.Inv X pins σ H s' → RelV v w' → Q w' s') :
    wpAny (model X.prog X.w) A (getItem (.ref a) u) Q E s := by
  obtain ⟨vs, k, t, e, hk, rfl, et, l⟩ := g
  cases (show u = Value.ref t from ry)
  obtain ⟨_, _, ws, rel, dd⟩ := dn_rd I.hok e hk
  obtain ⟨w', hw, rw'⟩ := RelO.some_of (v := v) (o := (atKey (nkx ws) (nk k)).map (·.2)) (by rw [l]; exact rel.val k)
  obtain ⟨p, hp, hp2⟩ := Option.map_eq_some_iff.mp hw
  refine wpAny_getItem_heap (room_n hu) (nat_is I.hok et) dd hp ?_
  rw [hp2]
  exact h w' _ (I.tok _) rw'
theorem dn_get2 {Q : Value → Shared → Prop} (hu : A.units + 9 < cLine) (I : L2.Inv X pins σ H s) (g : DGetN H a y o) (ry : RelV y u) (rd : RelV d r) (h : ∀ w' s', L2.Inv X pins σ H s' → RelV (o.getD d) w' → Q w' s') :
    wpAny (model X.prog X.w) A (call (.builtin "dict.get") [.ref a, u, r]) Q E s := by
  obtain ⟨vs, k, t, e, hk, rfl, et, l⟩ := g
  cases (show u = Value.ref t from ry)
  obtain ⟨hs, _, ws, rel, dd⟩ := dn_rd I.hok e hk
  refine call_meetsIn PySem.F.slot_dict_get dd.typeIs PySem.F.entry_dict_get (PySem.F.args_dict_get_3 _ _ _) (meetsH_dict_get_default (nestedKind X.prog X.w) a t hs r) ⟨room_n hu, nk k, _, nat_is I.hok et, dd, h _ _ (I.tok _) ?_⟩
  rw [l]
  exact (rel.val k).getD rd
theorem dn_setd {Q : Value → Shared → Prop} (hu : A.units + 9 < cLine) (I : L2.Inv X pins σ H s) (g : DGetN H a y o) (ry : RelV y u) (rv : RelV v r)
    (h1 : ∀ w, o = some w → ∀ (w' : Value) (s' : Shared), L2.Inv X pins σ H s' → RelV w w' → Q w' s')
    (h2 : o = none → ∃ H', DPutN H a y v H' ∧ ∀ (w' : Value) (s' : Shared), L2.Inv X pins σ H' s' → RelV v w' → Q w' s') :
    wpAny (model X.prog X.w) A (call (.builtin "dict.setdefault") [.ref a, u, r]) Q E s := by
  cases o with
  | none =>
    obtain ⟨H', ⟨vs, k, t, e, hk, rfl, et, l, rfl⟩, h2⟩ := h2 rfl
    cases (show u = Value.ref t from ry)
    obtain ⟨hs, z, ws, rel, dd⟩ := dn_rd I.hok (.inl e) hk
    have hz : (nkx ws).length ≤ sizeLine := by rw [List.length_map, ← Paired.length rel]; exact z
    have hl : (putN vs k t v).length ≤ sizeLine := by have := putN_len (vs := vs) (k := k) (t := t) (v := v); omega
    have qn : atKey (nkx ws) (nk k) = none := by
      obtain ⟨vs', k', t', e', hk', ey, et', l'⟩ := g
      cases ey
      have ek : k' = k := nk_inj ((nestedKind X.prog X.w).inj (nat_is I.hok et') (nat_is I.hok et))
      subst ek
      obtain ⟨_, _, ws2, rel2, dd2⟩ := dn_rd I.hok e' hk'
      have q2 := rel2.val k'
      rw [← l'] at q2
      have ev : ∀ {l m : List (NK × Addr × V)}, NDict a l = NDict a m → True := fun _ => trivial
      have ew : nkx ws2 = nkx ws := by
        obtain ⟨o1, es1, ep1, a1, _, a3, a4, a5, a6⟩ := dd
        obtain ⟨o2, es2, ep2, b1, _, b3, b4, b5, b6⟩ := dd2
        rw [a1] at b1; cases b1
        rw [a3] at b3; cases b3
        rw [a4] at b4
        have key : ∀ {l m : List (NestedKey × Addr × Value)}, l.map (entryOfKey (nestedKind X.prog X.w)) = m.map (entryOfKey (nestedKind X.prog X.w)) → (∀ x ∈ l, (nestedKind X.prog X.w).is s.heap x.1 x.2.1) → (∀ x ∈ m, (nestedKind X.prog X.w).is s.heap x.1 x.2.1) → m = l := by
          intro l
          induction l with
          | nil => intro m h _ _; cases m with
            | nil => rfl
            | cons _ _ => cases h
          | cons p l ih => intro m h g1 g2; cases m with
            | nil => cases h
            | cons q m =>
              rw [List.map_cons, List.map_cons, List.cons.injEq] at h
              obtain ⟨q1, q2⟩ := h
              have z1 : Value.ref p.2.1 = Value.ref q.2.1 := congrArg DictEntry.key q1
              have z2 : p.2.2 = q.2.2 := congrArg DictEntry.val q1
              have z1 : p.2.1 = q.2.1 := by injection z1
              have z3 : p.1 = q.1 := (nestedKind X.prog X.w).inj (g1 p List.mem_cons_self) (by rw [z1]; exact g2 q List.mem_cons_self)
              rw [ih q2 (fun x hx => g1 x (List.mem_cons_of_mem _ hx)) fun x hx => g2 x (List.mem_cons_of_mem _ hx)]
              congr 1
              exact (Prod.ext z3 (Prod.ext z1 z2)).symm
        exact key b4 a5 b5
      rw [← ew]
      cases qa : atKey (nkx ws2) (nk k') with
      | none => rfl
      | some p => rw [qa] at q2; exact (show False from q2).elim
    refine call_setdefault_heap (hsz := hz) (room_n hu) (nat_is I.hok et) hs dd (fun p hp => by rw [qn] at hp; cases hp) fun _ h' dd' hsb => h2 _ _ ?_ rv
    obtain ⟨ws', r1, r2⟩ := rel.put k t rv
    rw [r2] at dd'
    have he : ∃ q, h'.get? a = some q := let ⟨q, _, _, hq, _⟩ := dd'; ⟨q, hq⟩
    exact d_write I (by rw [e]; exact True.intro) hsb he (dn_ok hs hl r1 dd')
  | some w =>
    obtain ⟨vs, k, t, e, hk, rfl, et, l⟩ := g
    cases (show u = Value.ref t from ry)
    obtain ⟨hs, z, ws, rel, dd⟩ := dn_rd I.hok e hk
    have hz : (nkx ws).length ≤ sizeLine := by rw [List.length_map, ← Paired.length rel]; exact z
    obtain ⟨w', hw, rw'⟩ := RelO.some_of (v := w) (o := (atKey (nkx ws) (nk k)).map (·.2)) (by rw [l]; exact rel.val k)
    obtain ⟨p, hp, hp2⟩ := Option.map_eq_some_iff.mp hw
    refine call_setdefault_heap (hsz := hz) (room_n hu) (nat_is I.hok et) hs dd (fun p' hp' => ?_) fun hn => by rw [hp] at hn; cases hn
    rw [hp] at hp'; cases hp'
    rw [hp2]
    exact h1 w rfl _ _ (I.tok _) rw'
end
section
variable {X : Cx} {pins : List (Addr × Obj)} {σ : L2.St} {H : Hp} {s : Shared} {d : Addr} {o : Obj} {vs : List (NK × Addr × V)}
theorem NV.at {vs : List (NK × Addr × V)} {ws : List (NK × Addr × Value)} (r : NV vs ws) {i : Nat} {p : NK × Addr × V} (h : vs[i]? = some p) : ∃ q, ws[i]? = some q ∧ p.1 = q.1 ∧ p.2.1 = q.2.1 := by
  induction r generalizing i with
  | nil => simp at h
  | cons p _ ih =>
    cases i with
    | zero => simp at h; subst h; exact ⟨_, rfl, p.1, p.2.1⟩
    | succ i => simpa using ih (by simpa using h)
theorem frzN (I : L2.Inv X pins σ H s) (h : H d = some (.frz o (NDict d vs))) :
    (d == sysModules) = false ∧ s.heap.get? d = some o ∧ o.ExactDict ∧ ∃ (es : Array DictEntry) (ep : Nat), o.data = .dict es ep ∧ es.size = vs.length ∧
      ∀ (i : Nat) (k : NK) (t : Addr) (v : V), vs[i]? = some (k, t, v) → ∃ en : DictEntry, es[i]? = some en ∧ en.key = .ref t := by
  obtain ⟨hd, _⟩ := I.hok d _ h
  obtain ⟨hs, hl, ws, r, o', es, ep, h1, h2, h3, h4, h5⟩ := dn_phi I.hok (.inr ⟨o, h⟩)
  rw [hd] at h1
  cases h1
  have sz : es.size = ws.length := by rw [← Array.length_toList, h4, List.length_map]
  refine ⟨hs, hd, h2, es, ep, h3, by rw [sz]; exact (Paired.length r).symm, fun i k t v e => ?_⟩
  obtain ⟨q, e1, e2, e3⟩ := r.at e
  have e4 : es[i]? = some ⟨q.1.hash, .ref q.2.1, q.2.2⟩ := by
    rw [← Array.getElem?_toList, h4, List.getElem?_map, e1]; rfl
  exact ⟨_, e4, by rw [show t = q.2.1 from e3]⟩
end
def Itn (d : Addr) (o : Obj) (vs : List (NK × Addr × V)) : It :=
  ⟨fun i H => H d = some (.frz o (NDict d vs)) ∧ i < vs.length, fun i H x H' => H' = H ∧ ∃ (k : NK) (t : Addr) (v : V), vs[i]? = some (k, t, v) ∧ x = .ref t, fun i H => H d = some (.frz o (NDict d vs)) ∧ vs.length ≤ i⟩
section
variable {P : Program} {w : World} {K : PySem.W.Frag} {tg : Expr} {d : Addr} {o : Obj} {es : Array DictEntry} {ep : Nat}
theorem turn_keysN {vs : List (NK × Addr × V)} (it : Addr) (hod : o.data = .dict es ep) : Turn P w K tg (Itn d o vs) [it] it (fun i h => h.IsKeyIter it d i vs.length ep) where
  mem := by simp
  obj := fun i h st b hb => by
    have e : b = it := by simpa using hb
    subst e
    obtain ⟨oi, e, c, dd⟩ := st
    exact ⟨oi, e, fun v z => by rw [dd] at z; cases z⟩
  keep := fun i h h' st k => st.at fun oi e => k it (by simp) oi e
  item := by
    intro X hP hw hK hc i pins s σ H E I hf st hg
    subst hP hw hK
    obtain ⟨hd, hi⟩ := hg
    obtain ⟨f0, f1, f2, f3, f4, f5⟩ := hf it (by simp)
    obtain ⟨hs, hgd, hx, es', ep', hdt, hsz, ent⟩ := frzN I hd
    obtain ⟨rfl, rfl⟩ := dict_ep hod hdt
    obtain ⟨⟨k, t, v⟩, hkv⟩ : ∃ p, vs[i]? = some p := ⟨vs[i], List.getElem?_eq_getElem hi⟩
    obtain ⟨en, hen, hkey⟩ := ent i k t v hkv
    refine next_key_item st hgd hdt hsz hen fun h' st' sb => ?_
    have I1 : L2.Inv X pins σ H { s with heap := h' } := I.turned (t' := s.toks) (fun b ob hb e => (sb.2 b hb).trans e) f0 f1 f3 f4 f5
    obtain ⟨oi, e, c, dd⟩ := id st'
    exact ⟨en.key, rfl, go_of (s := { s with heap := h' }) e c dd (by decide) ⟨.ref t, H, I1, hkey, ⟨rfl, k, t, v, hkv, rfl⟩, st', fun b hb => (hf b hb).1⟩⟩
  done := by
    intro X hP hw hK hc i pins s σ H E I hf st hg
    subst hP hw hK
    obtain ⟨hd, hi⟩ := hg
    obtain ⟨f0, f1, f2, f3, f4, f5⟩ := hf it (by simp)
    obtain ⟨hs, hgd, hx, es', ep', hdt, hsz, ent⟩ := frzN I hd
    obtain ⟨rfl, rfl⟩ := dict_ep hod hdt
    exact next_key_end (I.ok.hd hc) st hgd hdt hsz hi fun h' eb => ⟨rfl, I.turned (t' := s.toks) (fun b ob hb e => eb b ob hb e) f0 f1 f3 f4 f5⟩
  self := fun A i s Q E st h => by
    refine wpAny_pyIter_slot st.typeIs F.slot_dict_keyiterator_iter (wpAny_call_entry F.slot_dict_keyiterator_iter st.typeIs F.entry_dict_keyiterator_iter ?_ (F.args_dict_keyiterator_iter_1 _))
    show wpAny _ _ (ret (.ref it)) _ _ s
    exact wpAny_pure ⟨_, rfl, "dict_keyiterator", _, st.typeIs, F.slot_dict_keyiterator_next.lookup, h⟩
end
def tKeysN (td : TE) : TI := fun σ H R => td σ H fun x H1 => ∃ d o vs, x = .ref d ∧ H1 d = some (.frz o (NDict d vs)) ∧ R (Itn d o vs) H1
theorem pi_keysN {X : Cx} {tg e : Expr} {td : TE} (he : PE X e td) : PI X tg e (tKeysN td) := by
  refine ⟨fun pins s σ H R I h => ?_⟩
  refine thn (he.run pins s σ H _ I h) fun u s1 ⟨x, H1, I1, rx, d, o, vs, ex, hd, q⟩ => ?_
  subst ex
  obtain rfl : u = Value.ref d := rx
  obtain ⟨hs, hgd, hx, es, ep, hdt, hsz, ent⟩ := frzN I1 hd
  refine iter_keys hs hgd hx hdt (pi_one (tk := s1.toks) I1 _ (turn_keysN _ hdt) ⟨_, Heap.get?_push_size _ rfl, rfl, ?_⟩ q)
  rw [hsz] <;> rfl
end Fl
namespace Fl
open PySem PySem.Spec L2
def nD (k : NK) : D := .tup (k.map fun r => .tup (r.map .int))
def intOf : D → Option Int
  | .int i => some i
  | _ => none
def nrOf : D → Option (List Int)
  | .tup (d :: ds) => allSome intOf (d :: ds)
  | _ => none
def nkOf : D → Option NK
  | .tup (d :: ds) => allSome nrOf (d :: ds)
  | _ => none
def nLook (M : Mem) (n : Nat) (k : D) : Option (Option D) := match M[n]? with
  | some (.dn kvs) => (nkOf k).map (look kvs)
  | some (.fn kvs) => (nkOf k).map (look kvs)
  | _ => none
def isN (M : Mem) : D → Bool
  | .ref n => (match M[n]? with
    | some (.dn _) => true
    | some (.fn _) => true
    | _ => false)
  | _ => false
def lookN (M : Mem) (o k : D) : Option (Option D) := match o with
  | .ref n => nLook M n k
  | _ => none
def setN (M : Mem) (o i v : D) : Option Mem := match o with
  | .ref n => (match M[n]? with
    | some (.dn kvs) => (match nkOf i, decide (kvs.length < sizeLine) with
      | some k, true => some (M.set n (.dn (put kvs k v)))
      | _, _ => none)
    | _ => none)
  | _ => none
section
variable {K : PySem.W.Frag} {L : Lay} {α : List Addr} {M : Mem} {H : Hp}
theorem allInts_rep : ∀ {ds : List D} {vs : List V} {r : List Int}, allSome intOf ds = some r → Reps K α H ds vs → vs = r.map V.int ∧ ds = r.map D.int
  | [], vs, r, h, q => by unfold allSome at h; cases h; unfold Reps at q; subst q; exact ⟨rfl, rfl⟩
  | d :: ds, vs, r, h, q => by
    unfold allSome at h
    unfold Reps at q
    obtain ⟨x, xs, rfl, h1, h2⟩ := q
    split at h
    · rename_i p e1
      split at h
      · rename_i ps e2
        cases h
        obtain ⟨b1, b2⟩ := allInts_rep e2 h2
        cases d <;> try (cases e1; done)
        cases e1
        exact ⟨by rw [h1.int, b1]; rfl, by rw [List.map_cons, ← b2]⟩
      · cases h
    · cases h
theorem nrOf_rep {d : D} {v : V} {r : List Int} (h : nrOf d = some r) (q : Rep K α H d v) : ∃ u, v = .ref u ∧ H u = some (.tup (r.map V.int)) ∧ d = .tup (r.map .int) := by
  unfold nrOf at h
  split at h
  · obtain ⟨t, vs, e, ht, hr⟩ := q.tup
    obtain ⟨e1, e2⟩ := allInts_rep h hr
    subst e1
    rcases ht with ht | ⟨z, _⟩
    · exact ⟨t, e, ht, by rw [e2]⟩
    · have q := hr.length
      rw [z] at q
      simp at q
  · cases h
theorem allRows_rep : ∀ {ds : List D} {vs : List V} {k : NK}, allSome nrOf ds = some k → Reps K α H ds vs → ∃ ts : List Addr, vs = ts.map V.ref ∧ Paired (fun (r : List Int) (u : Addr) => H u = some (.tup (r.map V.int))) k ts ∧ ds = k.map fun r => .tup (r.map .int)
  | [], vs, r, h, q => by unfold allSome at h; cases h; unfold Reps at q; subst q; exact ⟨[], rfl, .nil, rfl⟩
  | d :: ds, vs, r, h, q => by
    unfold allSome at h
    unfold Reps at q
    obtain ⟨x, xs, rfl, h1, h2⟩ := q
    split at h
    · rename_i p e1
      split at h
      · rename_i ps e2
        cases h
        obtain ⟨ts, b1, b2, b3⟩ := allRows_rep e2 h2
        obtain ⟨u, a1, a2, a3⟩ := nrOf_rep e1 h1
        exact ⟨u :: ts, by rw [a1, b1]; rfl, .cons a2 b2, by rw [List.map_cons, ← b3, ← a3]⟩
      · cases h
    · cases h
theorem nkOf_rep {d : D} {v : V} {k : NK} (h : nkOf d = some k) (q : Rep K α H d v) : ∃ t, v = .ref t ∧ NAt H k t ∧ d = nD k := by
  unfold nkOf at h
  split at h
  · obtain ⟨t, vs, e, ht, hr⟩ := q.tup
    obtain ⟨ts, e1, e2, e3⟩ := allRows_rep h hr
    subst e1
    rcases ht with ht | ⟨z, _⟩
    · exact ⟨t, e, ⟨ts, ht, e2⟩, by rw [e3]; rfl⟩
    · have q := hr.length
      rw [z] at q
      simp at q
  · cases h
theorem reps_rows {k : NK} {ts : List Addr} (h : Paired (fun (r : List Int) (u : Addr) => H u = some (.tup (r.map V.int))) k ts) : Reps K α H (k.map fun r => D.tup (r.map .int)) (ts.map V.ref) := by
  induction h with
  | nil => exact reps_nil
  | cons p _ ih => exact reps_cons (by unfold Rep; exact ⟨_, _, rfl, .inl p, reps_int⟩) ih
theorem rep_nD {k : NK} {t : Addr} (h : NAt H k t) : Rep K α H (nD k) (.ref t) := by
  obtain ⟨ts, e, q⟩ := h
  unfold nD Rep
  exact ⟨t, _, rfl, .inl e, reps_rows q⟩
theorem NKR.nat {ks : List (NK × D)} {vs : List (NK × Addr × V)} (h : NKR K α H ks vs) : ∀ x ∈ vs, NAt H x.1 x.2.1 := by
  induction h with
  | nil => intro x hx; cases hx
  | @cons p q _ _ h _ ih =>
    intro x hx
    rcases List.mem_cons.mp hx with e | hx
    · rw [e, ← h.1]; exact h.2.1
    · exact ih x hx
theorem look_n {kvs : List (NK × D)} {vs : List (NK × Addr × V)} (h : NKR K α H kvs vs) (k : NK) : OptR K α H (look kvs k) (valN vs k) := by
  induction h with
  | nil => exact rfl
  | @cons p q ps qs hp _ ih =>
    rw [valN_cons]
    unfold look
    by_cases e : p.1 = k
    · rw [decide_eq_true e, if_pos (hp.1.symm.trans e)]
      exact ⟨q.2.2, rfl, hp.2.2⟩
    · rw [decide_eq_false e, if_neg (fun z => e (hp.1.trans z))]
      exact ih
theorem NKR.length {kvs : List (NK × D)} {vs : List (NK × Addr × V)} (h : NKR K α H kvs vs) : kvs.length = vs.length := Paired.length h
theorem NKR.new {kvs : List (NK × D)} {vs : List (NK × Addr × V)} (h : NKR K α H kvs vs) {k : NK} {t : Addr} {d : D} {v : V} (ht : NAt H k t) (rd : Rep K α H d v) (e : valN vs k = none) : NKR K α H (put kvs k d) (vs ++ [(k, t, v)]) := by
  induction h with
  | nil => exact .cons ⟨rfl, ht, rd⟩ .nil
  | @cons p q ps qs hp _ ih =>
    rw [valN_cons] at e
    have nq : ¬ q.1 = k := fun z => by rw [if_pos z] at e; cases e
    have np : ¬ p.1 = k := fun z => nq (hp.1.symm.trans z)
    unfold put
    rw [decide_eq_false np]
    rw [if_neg nq] at e
    exact .cons hp (ih e)
theorem NKR.put {kvs : List (NK × D)} {vs : List (NK × Addr × V)} (h : NKR K α H kvs vs) (nd : (vs.map (·.1)).Nodup) {k : NK} {t : Addr} {d : D} {v : V} (ht : NAt H k t) (rd : Rep K α H d v) : NKR K α H (Fl.put kvs k d) (putN vs k t v) := by
  unfold putN
  cases e : valN vs k with
  | none => exact h.new ht rd e
  | some w =>
    dsimp only
    induction h with
    | nil => cases e
    | @cons p q ps qs hp t ih =>
      rw [put_cons, List.map_cons]
      rw [List.map_cons, List.nodup_cons] at nd
      by_cases z : p.1 = k
      · have z' : q.1 = k := hp.1.symm.trans z
        rw [if_pos z, if_pos z']
        have same : qs.map (fun kv => if kv.1 = k then (kv.1, kv.2.1, v) else kv) = qs := by
          refine (List.map_congr_left fun x hx => ?_).trans (List.map_id _)
          have nx : ¬ x.1 = k := fun y => nd.1 (List.mem_map.mpr ⟨x, hx, y.trans z'.symm⟩)
          rw [if_neg nx]; rfl
        rw [same]
        exact .cons ⟨hp.1, hp.2.1, rd⟩ t
      · have z' : ¬ q.1 = k := fun y => z (hp.1.trans y)
        rw [if_neg z, if_neg z']
        rw [valN_cons, if_neg z'] at e
        exact .cons hp (ih nd.2 e)
theorem n_at (r : Rel K L α M H) {n : Nat} {a : Addr} (ha : α[n]? = some a) {kvs : List (NK × D)} (h : M[n]? = some (.dn kvs) ∨ M[n]? = some (.fn kvs)) : ∃ vs, Rd H a (NDict a vs) ∧ NKR K α H kvs vs := by
  rcases h with e | e
  · obtain ⟨a', ha', vs, hv, q⟩ := r.at e
    rw [ha] at ha'; cases ha'
    exact ⟨vs, .inl hv, q⟩
  · obtain ⟨a', ha', o, vs, hv, q⟩ := r.at e
    rw [ha] at ha'; cases ha'
    exact ⟨vs, .inr ⟨o, hv⟩, q⟩
theorem isN_at (r : Rel K L α M H) {d : D} {v : V} (h : isN M d = true) (rd : Rep K α H d v) : ∃ a vs, v = .ref a ∧ Rd H a (NDict a vs) ∧ ∀ x ∈ vs, NAt H x.1 x.2.1 := by
  unfold isN at h
  split at h
  · obtain ⟨a, ha, rfl⟩ := rd.ref
    split at h
    · rename_i e
      obtain ⟨vs, h1, h2⟩ := n_at r ha (.inl e)
      exact ⟨a, vs, rfl, h1, h2.nat⟩
    · rename_i e
      obtain ⟨vs, h1, h2⟩ := n_at r ha (.inr e)
      exact ⟨a, vs, rfl, h1, h2.nat⟩
    · cases h
  · cases h
theorem lookN_rep (r : Rel K L α M H) {d k : D} {x v : V} {o : Option D} (h : lookN M d k = some o) (rd : Rep K α H d x) (rk : Rep K α H k v) : ∃ a ov, x = .ref a ∧ DGetN H a v ov ∧ OptR K α H o ov := by
  unfold lookN at h
  split at h
  · rename_i n
    obtain ⟨a, ha, rfl⟩ := rd.ref
    have fin : ∀ kvs, (M[n]? = some (.dn kvs) ∨ M[n]? = some (.fn kvs)) → (nkOf k).map (look kvs) = some o → ∃ a' ov, V.ref a = .ref a' ∧ DGetN H a' v ov ∧ OptR K α H o ov := fun kvs e h => by
      cases ek : nkOf k with
      | none => rw [ek] at h; cases h
      | some key =>
        rw [ek] at h; cases h
        obtain ⟨t, e1, e2, _⟩ := nkOf_rep ek rk
        obtain ⟨vs, h1, h2⟩ := n_at r ha e
        exact ⟨a, _, rfl, ⟨vs, key, t, h1, h2.nat, e1, e2, rfl⟩, look_n h2 key⟩
    unfold nLook at h
    split at h
    · rename_i kvs e
      exact fin kvs (.inl e) h
    · rename_i kvs e
      exact fin kvs (.inr e) h
    · cases h
  · cases h
theorem setN_put {X : Cx} {pins : List (Addr × Obj)} {σ : L2.St} {s : Shared} {M' : Mem} {od kd vd : D} {x y v : V} (I : L2.Inv X pins σ H s) (r : Rel X.K L α M H) (qo : Rep X.K α H od x) (qi : Rep X.K α H kd y) (qv : Rep X.K α H vd v)
    (e : setN M od kd vd = some M') : ∃ a H', x = .ref a ∧ DPutN H a y v H' ∧ Le α H α H' ∧ Rel X.K L α M' H' := by
  unfold setN at e
  split at e
  · rename_i n
    obtain ⟨a, ha, rfl⟩ := qo.ref
    have hm : a ∈ α := List.mem_of_getElem? ha
    split at e
    · rename_i kvs eo
      obtain ⟨a', ha', vs, hv, hr⟩ := r.at eo
      rw [ha] at ha'; cases ha'
      split at e
      · rename_i k ek el
        cases e
        obtain ⟨t, e1, et, _⟩ := nkOf_rep ek qi
        have le : Le α H α (upd H a (NDict a (putN vs k t v))) := Le.write hm hv trivial
        exact ⟨a, _, rfl, ⟨vs, k, t, hv, hr.nat, e1, et, by rw [← hr.length]; exact dt el, rfl⟩, le, r.write (o := .dn _) ha ⟨_, upd_same, NKR.put (hr.le le) (dn_nd I.hok (.inl hv)) (et.lw le.lw) (qv.le le)⟩⟩
      · cases e
    · cases e
  · cases e
end
def dNewN : EF := fun _ M => .ok (.ref M.length) (M ++ [.dn []])
def gIxN : D → D → Mem → Res D := fun x y M => match lookN M x y with
  | some (some d) => .ok d M
  | _ => .bad
def dGet2N (fo fk fx : EF) : EF := fun s M => (fo s M).bind fun o M1 => match isN M1 o with
  | true => (fk s M1).bind fun k M2 => (fx s M2).bind fun x M3 => (match lookN M3 o k with
    | some (some d) => .ok d M3
    | some none => .ok x M3
    | none => .bad)
  | false => .bad
def dSetdN (fo fk fx : EF) : EF := fun s M => (fo s M).bind fun o M1 => match isN M1 o with
  | true => (fk s M1).bind fun k M2 => (fx s M2).bind fun x M3 => (match lookN M3 o k with
    | some (some d) => .ok d M3
    | some none => (match setN M3 o k x with
      | some M4 => .ok x M4
      | none => .bad)
    | none => .bad)
  | false => .bad
def gIxSetN (fo fi : EF) : GF := fun d s M => (fo s M).bind fun o M1 => (fi s M1).bind fun i M2 => match setN M2 o i d with
  | some M3 => .ok s M3
  | none => .bad
def nxN (ks : List NK) : ItF := fun i _ => some (ks[i]?.map nD)
def iKeysN (f : EF) : IF := fun s M => (f s M).bind fun d M1 => match d with
  | .ref n => (match M1[n]? with
    | some (.fn kvs) => .ok (nxN (kvs.map (·.1)), kvs.length + 1) M1
    | _ => .bad)
  | _ => .bad
section
variable {X : Cx} {L : Lay} {W : WX} {pos : Pos}
def tNewN : TE := fun _ H Q => ∀ p, H p = none → Q (.ref p) (upd H p (NDict p []))
theorem pe_newN : PE X (.Dict [] [] pos) tNewN := ⟨fun pins s σ H Q I h =>
  wpAny_Dict_empty ⟨.ref s.heap.objs.size, _, I.laid (a := s.heap.objs.size) (o := NDict s.heap.objs.size []) (t' := s.toks) (fun _ _ q => Heap.get?_push_of_some _ q) (Nat.le_refl _) (dn_empty s.heap I.big), rfl, h _ (I.hok.fresh (Nat.le_refl _))⟩⟩
theorem fe_newN : FE X L W (.Dict [] [] pos) dNewN := peImp pe_newN fun σ H Q ⟨α, M, s, r, sl, h⟩ p hp =>
  h _ _ _ (Le.new hp) (r.new (o := .dn []) hp ⟨_, upd_same, .nil⟩) (rep_ref (by rw [← r.len]; simp))
theorem ix_n (hu : X.A.units + 9 < cLine) : IxR X (fun x y H Q => ∃ a v, x = .ref a ∧ DGetN H a y (some v) ∧ Q v H) := by
  intro value slice pins s σ H x y v u Q I rx ry h hs
  obtain ⟨a, z, rfl, g, q⟩ := h
  obtain rfl : v = Value.ref a := rx
  exact PyProof.Rows.tail_any (dn_typeIs I g) PySem.F.slot_dict_getitem.lookup (dn_getItem hu I g ry fun w' s3 I3 rw' => ⟨z, H, I3, rw', q⟩) hs
theorem i_ixN (hu : X.A.units + 70 < cLine) (w : W3) : IxR X (rF2 X.K L gIxN w) := ix_case fun x y H Q ⟨α, M, dx, dy, r, rx, ry, h⟩ => by
  unfold gIxN at h
  split at h
  · rename_i d e
    obtain ⟨a, ov, rfl, g, u, rfl, ru⟩ := lookN_rep r e rx ry
    exact ⟨_, ix_n (by omega), a, u, rfl, g, PostR.pure h r ru⟩
  · exact h.elim
theorem fe_ixN {a b : Expr} {fa fb : EF} (hu : X.A.units + 70 < cLine) (ha : FE X L W a fa) (hb : FE X L W b fb) (hs : PlainIx b := by intro _ _; rfl) : FE X L W (.Subscript a b pos) (dOp2 gIxN fa fb) :=
  ⟨fun pins s σ H Q I h => (pe_ix (i_ixN hu (fun c d H' => W c d σ H')) ha hb hs).run pins s σ H Q I (two_go h)⟩
end
section
variable {X : Cx} {L : Lay} {W : WX} {o e f : Expr} {apos cpos : Pos} {fo fk fx : EF}
theorem isn_ty {pins : List (Addr × Obj)} {σ : L2.St} {H : Hp} {s : Shared} {a : Addr} {vs : List (NK × Addr × V)} (I : L2.Inv X pins σ H s) (e : Rd H a (NDict a vs)) : s.TypeIs (.ref a) "dict" ∧ (∀ b, Value.ref a = .ref b → ∃ ob, s.heap.get? b = some ob ∧ ob.dict = none) := by
  obtain ⟨hs, hl, ws, r, o, es, ep, h1, h2, h3, h4, h5⟩ := dn_phi I.hok e
  refine ⟨⟨o, h1, h2.1⟩, fun b q => ?_⟩
  cases q
  exact ⟨o, h1, h2.2.1⟩
theorem fe_get2N (hu : X.A.units + 70 < cLine) (ho : FE X L W o fo) (he : FE X L W e fk) (hf : FE X L W f fx)
    (base : attributeBase o "get" X.env (eval o X.env) = eval o X.env := by rfl)
    (few : ((backTo cpos (starEach [e, f] X.env)).all (fun x => !x.1) && (backToKw cpos (keywordEach [] X.env)).all (fun x => x.1.isSome) && decide (([e, f] : List Expr).length + ([] : List Keyword).length + (if ([] : List Keyword).isEmpty then 0 else 1) < 30)) = true := by rfl)
    (line : (apos.endLine == cpos.line) = true := by rfl) (trees : backTo cpos (starEach [e, f] X.env) = [(false, eval e X.env), (false, eval f X.env)] := by rfl) :
    FE X L W (.Call (.Attribute o "get" apos) [e, f] [] cpos) (dGet2N fo fk fx) := by
  refine ⟨fun pins s σ H Q I ⟨α, M, sd, r, sl, h⟩ => ?_⟩
  refine wpAny_Call_method base few line PySem.F.plainAttrs_dict PySem.F.slot_dict_get PySem.F.type_dict_get (thn (ho.run pins s σ H _ I ⟨α, M, sd, r, sl, PostR.bind (R := Rep _) h⟩) fun u s1 ⟨x, H1, I1, rx, dx, α1, M1, l1, r1, rd, h1⟩ => ?_)
  dsimp only at h1
  cases ed : isN M1 dx with
  | false => rw [ed] at h1; exact h1.elim
  | true =>
    rw [ed] at h1
    obtain ⟨a, vs, rfl, hd, _⟩ := isN_at r1 ed rd
    obtain rfl : u = Value.ref a := rx
    obtain ⟨t1, t2⟩ := isn_ty I1 hd
    refine ⟨t1, t2, ?_⟩
    rw [trees]
    have sl1 := sl.le l1
    refine Calls.callWith_builtin rfl (Calls.evalArgs_plain (Calls.spliced_cons (thn (he.run pins s1 σ H1 _ I1 ⟨α1, M1, sd, r1, sl1, PostR.bind (R := Rep _) h1⟩) fun iv s2 ⟨y, H2, I2, ry, dy, α2, M2, l2, r2, rdy, h2⟩ =>
      Calls.spliced_cons (thn (hf.run pins s2 σ H2 _ I2 ⟨α2, M2, sd, r2, sl1.le l2, PostR.bind (R := Rep _) h2⟩) fun fv s3 ⟨z, H3, I3, rz, dz, α3, M3, l3, r3, rdz, h3⟩ => Calls.spliced_nil ?_))))
    dsimp only at h3
    cases el : lookN M3 dx dy with
    | none => rw [el] at h3; exact h3.elim
    | some q =>
      rw [el] at h3
      have rd3 := (rd.le l2).le l3
      have ry3 := rdy.le l3
      obtain ⟨a', ov, e1, g, oz⟩ := lookN_rep r3 el rd3 ry3
      cases e1
      refine dn_get2 (by omega) I3 g ry rz fun w' s' I' rw' => ?_
      cases q with
      | none =>
        have oz : ov = none := oz
        subst oz
        exact ⟨z, H3, I', rw', PostR.pure h3 r3 rdz⟩
      | some d =>
        obtain ⟨u2, rfl, ru⟩ := oz
        exact ⟨u2, H3, I', rw', PostR.pure h3 r3 ru⟩
theorem fe_setdN (hu : X.A.units + 70 < cLine) (ho : FE X L W o fo) (he : FE X L W e fk) (hf : FE X L W f fx)
    (base : attributeBase o "setdefault" X.env (eval o X.env) = eval o X.env := by rfl)
    (few : ((backTo cpos (starEach [e, f] X.env)).all (fun x => !x.1) && (backToKw cpos (keywordEach [] X.env)).all (fun x => x.1.isSome) && decide (([e, f] : List Expr).length + ([] : List Keyword).length + (if ([] : List Keyword).isEmpty then 0 else 1) < 30)) = true := by rfl)
    (line : (apos.endLine == cpos.line) = true := by rfl) (trees : backTo cpos (starEach [e, f] X.env) = [(false, eval e X.env), (false, eval f X.env)] := by rfl) :
    FE X L W (.Call (.Attribute o "setdefault" apos) [e, f] [] cpos) (dSetdN fo fk fx) := by
  refine ⟨fun pins s σ H Q I ⟨α, M, sd, r, sl, h⟩ => ?_⟩
  refine wpAny_Call_method base few line PySem.F.plainAttrs_dict PySem.F.slot_dict_setdefault PySem.F.type_dict_setdefault (thn (ho.run pins s σ H _ I ⟨α, M, sd, r, sl, PostR.bind (R := Rep _) h⟩) fun u s1 ⟨x, H1, I1, rx, dx, α1, M1, l1, r1, rd, h1⟩ => ?_)
  dsimp only at h1
  cases ed : isN M1 dx with
  | false => rw [ed] at h1; exact h1.elim
  | true =>
    rw [ed] at h1
    obtain ⟨a, vs, rfl, hd, _⟩ := isN_at r1 ed rd
    obtain rfl : u = Value.ref a := rx
    obtain ⟨t1, t2⟩ := isn_ty I1 hd
    refine ⟨t1, t2, ?_⟩
    rw [trees]
    have sl1 := sl.le l1
    refine Calls.callWith_builtin rfl (Calls.evalArgs_plain (Calls.spliced_cons (thn (he.run pins s1 σ H1 _ I1 ⟨α1, M1, sd, r1, sl1, PostR.bind (R := Rep _) h1⟩) fun iv s2 ⟨y, H2, I2, ry, dy, α2, M2, l2, r2, rdy, h2⟩ =>
      Calls.spliced_cons (thn (hf.run pins s2 σ H2 _ I2 ⟨α2, M2, sd, r2, sl1.le l2, PostR.bind (R := Rep _) h2⟩) fun fv s3 ⟨z, H3, I3, rz, dz, α3, M3, l3, r3, rdz, h3⟩ => Calls.spliced_nil ?_))))
    dsimp only at h3
    cases el : lookN M3 dx dy with
    | none => rw [el] at h3; exact h3.elim
    | some q =>
      rw [el] at h3
      have rd3 := (rd.le l2).le l3
      have ry3 := rdy.le l3
      obtain ⟨a', ov, e1, g, oz⟩ := lookN_rep r3 el rd3 ry3
      cases e1
      refine dn_setd (by omega) I3 g ry rz (fun w hw w' s' I' rw' => ?_) fun hn => ?_
      · cases q with
        | none =>
          have oz : ov = none := oz
          rw [oz] at hw; cases hw
        | some d =>
          obtain ⟨u2, rfl, ru⟩ := oz
          cases hw
          exact ⟨w, H3, I', rw', PostR.pure h3 r3 ru⟩
      · cases q with
        | some d =>
          obtain ⟨u2, rfl, ru⟩ := oz
          cases hn
        | none =>
          dsimp only at h3
          cases es : setN M3 dx dy dz with
          | none => rw [es] at h3; exact h3.elim
          | some M4 =>
            rw [es] at h3
            obtain ⟨a2, H', ea, hp, hq⟩ := setN_put I3 r3 rd3 ry3 rdz es
            cases ea
            exact ⟨H', hp, fun w' s' I' rw' => ⟨z, H', I', rw', h3 α3 H' z hq.1 hq.2 (rdz.le hq.1)⟩⟩
end
section
variable {X : Cx} {L : Lay} {W : WX} {is : List Nat} {pos : Pos}
theorem NKR.ixs {K : PySem.W.Frag} {α : List Addr} {H : Hp} {ks : List (NK × D)} {vs : List (NK × Addr × V)} (h : NKR K α H ks vs) (i : Nat) : (ks[i]?.map (·.1)) = vs[i]?.map (·.1) := by
  induction h generalizing i with
  | nil => rfl
  | cons p _ ih =>
    cases i with
    | zero => simp [p.1]
    | succ i => simpa using ih i
theorem fi_keysN {tg e : Expr} {f : EF} (he : FE X L W e f) : FI X L W tg e (iKeysN f) := piImp (pi_keysN he) fun σ H R ⟨α, M, s, r, sl, h⟩ => ⟨α, M, s, r, sl, (PostR.bind (R := Rep _) h).imp fun x H1 ⟨dx, α1, M1, l1, r1, rd, h1⟩ => by
  dsimp only at h1
  split at h1
  · rename_i n
    split at h1
    · rename_i kvs eo
      obtain ⟨a, ha, rfl⟩ := rd.ref
      obtain ⟨a', ha', o, vs, hv, hr⟩ := r1.at eo
      rw [ha] at ha'; cases ha'
      refine ⟨a, o, vs, rfl, hv, PostR.pure (R := RIt _ _) h1 r1 fun i α' H' M' l' r' => ?_⟩
      have hv' : H' a = some (.frz o (NDict a vs)) := l'.rols a o _ hv
      show ItAt X.K L α' H' M' (Itn a o vs) i (nxN (kvs.map (·.1)) i M')
      have z := hr.ixs i
      unfold nxN
      rw [List.getElem?_map]
      cases e1 : kvs[i]? with
      | none =>
        rw [e1] at z
        have z : none = vs[i]?.map (·.1) := z
        exact ⟨hv', List.getElem?_eq_none_iff.mp (Option.map_eq_none_iff.mp z.symm)⟩
      | some kv =>
        rw [e1] at z
        obtain ⟨kv2, e2, e3⟩ := Option.map_eq_some_iff.mp z.symm
        refine ⟨⟨hv', (List.getElem?_eq_some_iff.mp e2).1⟩, fun x H2 y => ?_⟩
        obtain ⟨rfl, k, t, v, e4, rfl⟩ := y
        rw [e2] at e4; cases e4
        have e3 : k = kv.1 := e3
        have nt : NAt H1 k t := hr.nat (k, t, v) (List.mem_of_getElem? e2)
        refine ⟨Le.refl _ _, r', ?_⟩
        show Rep X.K α' H2 (nD kv.1) (V.ref t)
        rw [← e3]
        exact rep_nD (nt.lw l'.lw)
    · exact h1.elim
  · exact h1.elim⟩
end
end Fl
namespace Fl
open PySem PySem.Spec PyProof.Rows L2
section
variable {prog : Program} {w : World} {A : Around} {E : Value → Shared → Prop} {s : Shared} {l : Addr} {its : List Value} {ns : List Int} {Q : Value → Shared → Prop}
theorem sum_tup (hh : A.handled = none) (hl : s.heap.IsTuple l its.toArray) (hi : IntsAre its ns)
    (h : ∀ h' tk t', (∀ b o, s.heap.get? b = some o → h'.get? b = some o) → Q (.int ns.sum t') { s with heap := h', toks := tk }) : wpAny (model prog w) A (call (.builtin "sum") [.ref l]) Q E s := by
  obtain ⟨xs, e⟩ := hi.allInts.items
  have hn : numsOf (intItems xs).toList = ns := by rw [← e]; exact hi.numsOf
  rw [nums_intItems] at hn
  rw [e] at hl
  have hlt : l < s.heap.objs.size := by obtain ⟨_, e, _⟩ := hl; exact Heap.lt_size e
  refine call_sum_walkG (wpAny_pyIter_tuple hl ?_)
  refine ⟨s.heap.objs.size, [s.heap.objs.size, l], [s.heap.objs.size], _, _, _, numAt xs, rfl, Walks.tuple (A := A.in1) hh s.heap.objs.size l (Nat.ne_of_lt hlt) (intItems xs),
    ⟨⟨_, Heap.get?_push_size _ rfl, rfl, rfl⟩, hl.push _⟩, fun b hb => ?_, fun _ _ => intItems_at, fun h' tk t' hk => ?_⟩
  · show b < (s.heap.push _).objs.size
    rw [Heap.size_push]
    rcases List.mem_cons.mp hb with rfl | hb
    · exact Nat.lt_succ_self _
    · rcases List.mem_cons.mp hb with rfl | hb
      · exact Nat.lt_succ_of_lt hlt
      · cases hb
  · have hold : ∀ b o, s.heap.get? b = some o → h'.get? b = some o := fun b o e => by
      refine hk b o (fun hm => ?_) (Heap.get?_push_of_some _ e)
      rcases List.mem_cons.mp hm with e1 | hm
      · exact absurd (e1 ▸ Heap.lt_size e) (Nat.lt_irrefl _)
      · cases hm
    have := h h' tk t' hold
    have e2 : preSum (numAt xs) (intItems xs).size = ns.sum := by
      rw [preSum_eq, List.take_of_length_le (by simp [intItems]), hn]
    rw [e2]; exact this
end
def rSumT (K : PySem.W.Frag) : List V → Hp → VK → Prop := fun vs H Q => ∃ (a : Addr) (ns : List Int), vs = [V.ref a] ∧ SqT K H a (ns.map V.int) ∧ Q (.int ns.sum) H
theorem cr_sumT {X : Cx} (hc : X.calm = true) : CallR X (.builtin "sum") (rSumT X.K) := by
  intro pins s σ H vs us Q I r h
  obtain ⟨a, ns, rfl, hs, q⟩ := h
  obtain ⟨its, rv, hl, _⟩ := I.tuple hs
  rw [Vals.ref1 r]
  exact sum_tup (I.ok.hd hc) hl rv.ints fun h' tk t' hk => ⟨.int _, H, I.kept hk, ⟨_, rfl⟩, q⟩
def gSumT : List D → Mem → Res D
  | [.tup ds], M => (match intsOf ds with
    | some ns => .ok (.int ns.sum) M
    | none => .bad)
  | _, _ => .bad
section
variable {X : Cx} {L : Lay}
theorem c_sumT (hc : X.calm = true) : CallF X L (.builtin "sum") gSumT := fun w => call_case fun xs H Q ⟨α, M, ds, r, rx, h⟩ => by
  unfold gSumT at h
  split at h
  · split at h
    · rename_i ds ns e2
      obtain ⟨x, rfl, r1⟩ := rx.one
      obtain ⟨t, vs, rfl, ht, hr⟩ := r1.tup
      rw [intsOf_map e2] at hr
      exact ⟨_, cr_sumT hc, t, ns, rfl, by rw [← hr.ints]; exact ht.sq, PostR.pure h r rep_int⟩
    · exact h.elim
  · exact h.elim
end
end Fl
namespace Fl
open PySem
def f_Cutting___init__ : SF := (sSeq (sDrop (dCall 1 0 S_look_world (fun xs _ => xs) (dCons (dVar 1) dNil) dNil)) (sSeq (sFldF 16 (dVar 0) (dVar 1)) (sFldF 8 (dVar 0) dNewN)))
def S_Cutting___init__ : List D → Mem → Res D := fun ds M => match decide (ds.length = 2) with
  | true => (f_Cutting___init__ (startD 2 ds) M).fin
  | false => .bad
def f_House_state : SF := (sRet (dTup (dCons (dOpN gTuple (dCons (dOp1 (gFld 1) (dVar 0)) dNil)) (dCons (dOpN gTuple (dCons (dOp1 (gFld 0) (dVar 0)) dNil)) dNil))))
def S_House_state : List D → Mem → Res D := fun ds M => match decide (ds.length = 1) with
  | true => (f_House_state (startD 1 ds) M).fin
  | false => .bad
def f_cut_of : SF := (sSeq (sDrop (dCall 1 0 S_look_world (fun xs _ => xs) (dCons (dVar 0) dNil) dNil)) (sRet (dMeth 1 32 0 S_House_state (fun xs _ => xs) (dMeth 0 40 1 S_World_room (fun xs _ => xs) (dVar 0) (dCons (dVar 1) dNil)) dNil)))
def S_cut_of : List D → Mem → Res D := fun ds M => match decide (ds.length = 2) with
  | true => (f_cut_of (startD 2 ds) M).fin
  | false => .bad
def f_Cutting_add : SF := (sSeq (sSet 3 (dSetdN (dOp1 (gFld 8) (dVar 0)) (dVar 2) (dLst dNil))) (sIf (tVal (dOp2 gNotIn (dVar 1) (dVar 3))) (sDrop (dBm tyLst gAppend (dVar 3) (dCons (dVar 1) dNil))) sNext))
def S_Cutting_add : List D → Mem → Res D := fun ds M => match decide (ds.length = 3) with
  | true => (f_Cutting_add (startD 4 ds) M).fin
  | false => .bad
def f_Cutting_sign : SF := (sSeq (sSet 2 (dCall 2 0 S_cut_of (fun xs _ => xs) (dCons (dOp1 (gFld 16) (dVar 0)) (dCons (dVar 1) dNil)) dNil)) (sSeq (sDrop (dMeth 3 59 2 S_Cutting_add (fun xs _ => xs) (dVar 0) (dCons (dVar 1) (dCons (dVar 2) dNil)))) (sRet (dVar 2))))
def S_Cutting_sign : List D → Mem → Res D := fun ds M => match decide (ds.length = 2) with
  | true => (f_Cutting_sign (startD 3 ds) M).fin
  | false => .bad
def f_is_cut : SF := (sSeq (sIf (tOrF (tNotF (tVal (dOp1 (gIsi tabTup) (dVar 0)))) (tVal (dOp2 gNe (dOpN gLen (dCons (dVar 0) dNil)) (dC (.int 2))))) (sRet (dC (.bl false))) sNext) (sSeq (sAsg (dVar 0) (gT 2 (gsCons 2 (gsCons 3 gsNil)))) (sSeq (sSet 4 (dOpN gLen (dCons (dOp1 (gFld 9) (dVar 1)) dNil))) (sSeq (sFor (iSeq (dTup (dCons (dVar 2) (dCons (dVar 3) dNil)))) (gN 5) (sIf (tOrF (tNotF (tVal (dOp1 (gIsi tabTup) (dVar 5)))) (tOrF (tVal (dOp2 gNe (dOpN gLen (dCons (dVar 5) dNil)) (dVar 4))) (tNotF (tVal (dOpN gAll (dCons (dLc (iSeq (dVar 5)) (gN 6) tYesF (dCall 3 0 S_is_whole (fun xs _ => xs) (dCons (dVar 6) (dCons (dC (.int 0)) (dCons (dC (.int 100000)) dNil))) dNil) [6]) dNil)))))) (sRet (dC (.bl false))) sNext)) (sRet (dOp2 gEq (dOpN gSumT (dCons (dVar 3) dNil)) (dOpN gSum (dCons (dOp1 (gFld 9) (dVar 1)) dNil))))))))
def S_is_cut : List D → Mem → Res D := fun ds M => match decide (ds.length = 2) with
  | true => (f_is_cut (startD 7 ds) M).fin
  | false => .bad
def f_Cutting_lie : SF := (sSeq (sDrop (dMeth 0 41 1 S_World_look_liar (fun xs _ => xs) (dOp1 (gFld 16) (dVar 0)) (dCons (dVar 1) dNil))) (sSeq (sIf (tNotF (tVal (dCall 2 0 S_is_cut (fun xs _ => xs) (dCons (dVar 2) (dCons (dOp1 (gFld 16) (dVar 0)) dNil)) dNil))) (sRaise 16) sNext) (sDrop (dMeth 3 59 2 S_Cutting_add (fun xs _ => xs) (dVar 0) (dCons (dVar 1) (dCons (dVar 2) dNil))))))
def S_Cutting_lie : List D → Mem → Res D := fun ds M => match decide (ds.length = 3) with
  | true => (f_Cutting_lie (startD 3 ds) M).fin
  | false => .bad
def f_Cutting_signers_of : SF := (sSeq (sIf (tNotF (tVal (dCall 2 0 S_is_cut (fun xs _ => xs) (dCons (dVar 1) (dCons (dOp1 (gFld 16) (dVar 0)) dNil)) dNil))) (sRaise 16) sNext) (sRet (dOpN gSorted (dCons (dGet2N (dOp1 (gFld 8) (dVar 0)) (dVar 1) (dLst dNil)) dNil))))
def S_Cutting_signers_of : List D → Mem → Res D := fun ds M => match decide (ds.length = 2) with
  | true => (f_Cutting_signers_of (startD 2 ds) M).fin
  | false => .bad
def f_Cutting_good : SF := (sSeq (sSet 1 (dCall 2 0 S_enough (fun xs _ => xs) (dCons (dOp1 (gFld 6) (dOp1 (gFld 12) (dOp1 (gFld 16) (dVar 0)))) (dCons (dOp1 (gFld 7) (dOp1 (gFld 12) (dOp1 (gFld 16) (dVar 0)))) dNil)) dNil)) (sRet (dOpN gSorted (dCons (dLock (dOp1 (gFld 8) (dVar 0)) (dLc (iKeysN (dOp1 (gFld 8) (dVar 0))) (gN 2) (tVal (dOp2 gGe (dOpN gLen (dCons (dOp2 gIxN (dOp1 (gFld 8) (dVar 0)) (dVar 2)) dNil)) (dVar 1))) (dVar 2) [2])) dNil))))
def S_Cutting_good : List D → Mem → Res D := fun ds M => match decide (ds.length = 1) with
  | true => (f_Cutting_good (startD 3 ds) M).fin
  | false => .bad
def f_is_behind : SF := (sRet (dOpN gAll (dCons (dLc (iZipF (dCons (dOp2 gIx (dVar 0) (dC (.int 0))) (dCons (dOp2 gIx (dVar 1) (dC (.int 0))) dNil))) (gT 2 (gsCons 2 (gsCons 3 gsNil))) tYesF (dOp2 gLe (dVar 2) (dVar 3)) [2, 3]) dNil)))
def S_is_behind : List D → Mem → Res D := fun ds M => match decide (ds.length = 2) with
  | true => (f_is_behind (startD 4 ds) M).fin
  | false => .bad
def f_House_load : SF := (sSeq (sFldF 1 (dVar 0) (dOpN gList (dCons (dVar 1) dNil))) (sSeq (sFldF 0 (dVar 0) (dOpN gList (dCons (dVar 2) dNil))) (sFldF 4 (dVar 0) (dLc (iSeq (dOp1 (gFld 4) (dVar 0))) (gN 3) (tVal (dOp2 gGe (dOp2 gIx (dVar 3) (dC (.int 1))) (dOp2 gIx (dOp1 (gFld 1) (dVar 0)) (dOp2 gIx (dVar 3) (dC (.int 0)))))) (dVar 3) [3]))))
def S_House_load : List D → Mem → Res D := fun ds M => match decide (ds.length = 3) with
  | true => (f_House_load (startD 4 ds) M).fin
  | false => .bad
def f_Cutting_take : SF := (sSeq (sSet 3 (dMeth 0 40 1 S_World_room (fun xs _ => xs) (dOp1 (gFld 16) (dVar 0)) (dCons (dVar 1) dNil))) (sSeq (sIf (tOrF (tNotF (tVal (dCall 2 0 S_is_cut (fun xs _ => xs) (dCons (dVar 2) (dCons (dOp1 (gFld 16) (dVar 0)) dNil)) dNil))) (tVal (dOp2 gNotIn (dVar 2) (dMeth 3 61 0 S_Cutting_good (fun xs _ => xs) (dVar 0) dNil)))) (sRaise 16) sNext) (sSeq (sAsg (dVar 2) (gT 2 (gsCons 4 (gsCons 5 gsNil)))) (sSeq (sIf (tVal (dOpN gAny (dCons (dLc (iZipF (dCons (dOp1 (gFld 1) (dVar 3)) (dCons (dVar 4) dNil))) (gT 2 (gsCons 7 (gsCons 8 gsNil))) tYesF (dOp2 gGt (dVar 7) (dVar 8)) [7, 8]) dNil))) (sRaise 13) sNext) (sSeq (sDrop (dMeth 1 33 2 S_House_load (fun xs _ => xs) (dVar 3) (dCons (dVar 4) (dCons (dVar 5) dNil)))) (sSeq (sDrop (dMeth 1 30 0 S_House_go_on (fun xs _ => xs) (dVar 3) dNil)) (sFor (iSeq (dMeth 1 27 0 S_House_new_votes (fun xs _ => xs) (dVar 3) dNil)) (gN 6) (sDrop (dMeth 0 50 2 S_World_signed (fun xs _ => xs) (dOp1 (gFld 16) (dVar 0)) (dCons (dVar 1) (dCons (dVar 6) dNil)))))))))))
def S_Cutting_take : List D → Mem → Res D := fun ds M => match decide (ds.length = 3) with
  | true => (f_Cutting_take (startD 9 ds) M).fin
  | false => .bad
end Fl
namespace Fl
open PySem PySem.Spec PyProof.Rows L2
section
variable {P : Program} {w : World} {A : Around} {R : Result → Shared → Prop} {t : Shared} {kx vx p0 j0 p1 j1 : Expr} {us0 us1 : List Expr} {sc : Scope} {po : Pos} {iv : Value} {D : Addr} {en : Env}
abbrev twoD (kx vx p0 j0 p1 j1 : Expr) (us0 us1 : List Expr) (sc : Scope) (po : Pos) : Expr := .DictComp kx vx [⟨p0, j0, us0, 0⟩, ⟨p1, j1, us1, 0⟩] sc po
theorem turnD2_out : compTurn (twoD kx vx p0 j0 p1 j1 us0 us1 sc po) 0 iv (.ref D) en = (do
      standAt j0.pos
      match ← pyNext iv with
      | none => pure (.done .next)
      | some v =>
        letOwnedTupleGo p0 iv v
        assign p0 en v
        let mut ok := true
        for c in us0 do
          if ok then ok ← isTrue c en (eval c en)
        if ok then
          let x ← eval j1 en
          standAt j1.pos
          let x ← foldedSetIterable j1 en x
          let _ ← runOwn (.compStart (twoD kx vx p0 j0 p1 j1 us0 us1 sc po) 1 (← holding [x] (pyIter x)) (.ref D) en) en
        again (.compLoop (twoD kx vx p0 j0 p1 j1 us0 us1 sc po) 0 iv (.ref D) en)) := by rfl
theorem turnD2_in : compTurn (twoD kx vx p0 j0 p1 j1 us0 us1 sc po) 1 iv (.ref D) en = (do
      standAt j1.pos
      match ← pyNext iv with
      | none => pure (.done .next)
      | some v =>
        letOwnedTupleGo p1 iv v
        assign p1 en v
        let mut ok := true
        for c in us1 do
          if ok then ok ← isTrue c en (eval c en)
        if ok then
          (do
            let kv ← eval kx en
            let vv ← holding [kv] (eval vx en)
            standAt { kx.pos with endLine := vx.pos.endLine, endCol := vx.pos.endCol }
            holding [kv, vv] (dictSet D kv vv))
        again (.compLoop (twoD kx vx p0 j0 p1 j1 us0 us1 sc po) 1 iv (.ref D) en)) := by rfl
theorem compLoopD2_out (hs : ∀ x, foldedSetIterable j1 en x = pure x) (I : Nat → Shared → Prop)
    (turn : ∀ n s, I n s → wpAny (model P w) A (pyNext iv) (fun r s₁ => match r with
      | none => R (.ok .next) s₁
      | some v => wpAny (model P w) A (letOwnedTupleGo p0 iv v) (fun _ s₁' => wpAny (model P w) A (assign p0 en v) (fun _ s₂ =>
          wpAny (model P w) A (tests us0 en) (fun ok s₃ =>
            if ok = true then wpAny (model P w) A (eval j1 en) (fun x s₄ => wpAny (model P w) A (pyIter x) (fun it1 s₅ =>
              codeAny (model P w) A (.compStart (twoD kx vx p0 j0 p1 j1 us0 us1 sc po) 1 it1 (.ref D) en) (fun r s' => match r with
                | .ok _ => ∃ m, m < n ∧ I m s'
                | .error _ => False) s₅) (nE P w A en R) s₄) (nE P w A en R) s₃
            else ∃ m, m < n ∧ I m s₃) (nE P w A en R) s₂) (nE P w A en R) s₁') (nE P w A en R) s₁) (nE P w A en R) s)
    (n : Nat) (h : I n t) : codeAny (model P w) A (.compLoop (twoD kx vx p0 j0 p1 j1 us0 us1 sc po) 0 iv (.ref D) en) R t := by
  refine codeAny_loop rfl I (fun n s hI => ?_) n h
  show wpAny _ A ((compTurn (twoD kx vx p0 j0 p1 j1 us0 us1 sc po) 0 iv (.ref D) en).onRaise (fun x => do noteFrame x en; theTreesLotGoes x)) _ _ s
  refine wpAny_noted ?_
  rw [turnD2_out]
  refine wpAny_bind (wpAny_standAt (wpAny_bind (wpAny_mono (turn n s hI) (fun r s₁ a => ?_) fun _ _ z => z)))
  cases r with
  | none => exact wpAny_pure a
  | some v =>
    refine wpAny_bind (wpAny_mono a (fun _ s₁' b => ?_) fun _ _ z => z)
    refine wpAny_bind (wpAny_mono b (fun _ s₂ c => wpAny_bind (wpAny_mono c (fun ok s₃ d => ?_) fun _ _ z => z)) fun _ _ z => z)
    cases ok with
    | false => exact wpAny_pure ⟨rfl, d⟩
    | true =>
      refine wpAny_bind (wpAny_mono d (fun x s₄ e => ?_) fun _ _ z => z)
      refine wpAny_bind (wpAny_standAt (wpAny_bind (wpAny_of_eq (hs x) (wpAny_bind (wpAny_holding (wpAny_mono e (fun it1 s₅ f => ?_) fun _ _ z => z))))))
      refine wpAny_bind (wpAny_runOwn ?_)
      rw [Around.mark_none]
      refine codeAny_mono f fun r s' hr => ?_
      cases r with
      | ok f =>
        first
          | exact wpAny_pure ⟨rfl, hr⟩
          | exact wpAny_bind (wpAny_pure (wpAny_pure ⟨rfl, hr⟩))
      | error e => exact hr.elim
theorem compLoopD2_in (I : Nat → Shared → Prop)
    (turn : ∀ n s, I n s → wpAny (model P w) A (pyNext iv) (fun r s₁ => match r with
      | none => R (.ok .next) s₁
      | some v => wpAny (model P w) A (letOwnedTupleGo p1 iv v) (fun _ s₁' => wpAny (model P w) A (assign p1 en v) (fun _ s₂ =>
          wpAny (model P w) A (tests us1 en) (fun ok s₃ =>
            if ok = true then wpAny (model P w) A (eval kx en) (fun kv s₄ => wpAny (model P w) A (eval vx en) (fun vv s₅ =>
              wpAny (model P w) A (dictSet D kv vv) (fun _ s₆ => ∃ m, m < n ∧ I m s₆) (nE P w A en R) s₅) (nE P w A en R) s₄) (nE P w A en R) s₃
            else ∃ m, m < n ∧ I m s₃) (nE P w A en R) s₂) (nE P w A en R) s₁') (nE P w A en R) s₁) (nE P w A en R) s)
    (n : Nat) (h : I n t) : codeAny (model P w) A (.compLoop (twoD kx vx p0 j0 p1 j1 us0 us1 sc po) 1 iv (.ref D) en) R t := by
  refine codeAny_loop rfl I (fun n s hI => ?_) n h
  show wpAny _ A ((compTurn (twoD kx vx p0 j0 p1 j1 us0 us1 sc po) 1 iv (.ref D) en).onRaise (fun x => do noteFrame x en; theTreesLotGoes x)) _ _ s
  refine wpAny_noted ?_
  rw [turnD2_in]
  refine wpAny_bind (wpAny_standAt (wpAny_bind (wpAny_mono (turn n s hI) (fun r s₁ a => ?_) fun _ _ z => z)))
  cases r with
  | none => exact wpAny_pure a
  | some v =>
    refine wpAny_bind (wpAny_mono a (fun _ s₁' b => ?_) fun _ _ z => z)
    refine wpAny_bind (wpAny_mono b (fun _ s₂ c => wpAny_bind (wpAny_mono c (fun ok s₃ d => ?_) fun _ _ z => z)) fun _ _ z => z)
    cases ok with
    | false => exact wpAny_pure ⟨rfl, d⟩
    | true =>
      exact wpAny_bind (wpAny_bind (wpAny_mono d (fun kv s₄ h₄ => wpAny_bind (wpAny_holding (wpAny_mono h₄ (fun vv s₅ h₅ => wpAny_bind (wpAny_standAt (wpAny_holding (wpAny_mono h₅ (fun _ s₆ h₆ => wpAny_pure ⟨rfl, h₆⟩) fun _ _ h' => h')))) fun _ _ h' => h'))) fun _ _ h' => h'))
theorem compStartD1_ok (h0 : codeAny (model P w) A (.compLoop (twoD kx vx p0 j0 p1 j1 us0 us1 sc po) 1 iv (.ref D) en) R t)
    (h : wpAny (model P w) A (pyIter iv) (fun it' s' => codeAny (model P w) A (.compLoop (twoD kx vx p0 j0 p1 j1 us0 us1 sc po) 1 it' (.ref D) en) R s') (nE P w A en R) t) :
    codeAny (model P w) A (.compStart (twoD kx vx p0 j0 p1 j1 us0 us1 sc po) 1 iv (.ref D) en) R t := by
  refine codeAny_of_tree ?_
  show wpAny _ _ ((compStart (twoD kx vx p0 j0 p1 j1 us0 us1 sc po) 1 iv (.ref D) en).onRaise (fun x => do noteFrame x en; standAt theWindowsPlace)) _ _ t
  refine wpAny_notedAt ?_
  unfold compStart
  show wpAny _ _ (ask >>= _) _ _ t
  refine wpAny_bind (wpAny_askSetting (wpAny_ite ?_))
  split
  · first
      | exact wpAny_bind (wpAny_pure (wpAny_pure (And.intro rfl h0)))
      | exact wpAny_pure (And.intro rfl h0)
  · first
      | exact wpAny_bind (wpAny_rule (wpAny_bind (wpAny_standAt (wpAny_bind (wpAny_mono h (fun _ _ z => wpAny_pure (And.intro rfl z)) fun _ _ x => x)))))
      | (refine wpAny_bind (wpAny_rule ?_); show wpAny _ _ (standAt j1.pos >>= _) _ _ t; exact wpAny_bind (wpAny_standAt (wpAny_bind (wpAny_mono h (fun _ _ z => wpAny_pure (And.intro rfl z)) fun _ _ x => x))))
end
theorem d_dictPut {X : Cx} {pins : List (Addr × Obj)} {σ : L2.St} {H H' : Hp} {s : Shared} {E : Value → Shared → Prop} {a : Addr} {y v : V} {u r : Value} {Q : Unit → Shared → Prop} (hu : X.A.units + 1 < cLine) (I : L2.Inv X pins σ H s) (g : DPut H a y v H') (ry : RelV y u) (rv : RelV v r) (h : ∀ s', L2.Inv X pins σ H' s' → Q () s') :
    wpAny (model X.prog X.w) X.A (dictSet a u r) Q E s := by
  rcases g with ⟨kvs, k, e, ey, l, eH⟩ | ⟨kvs, k, b, e, ey, eb, l, eH⟩
  · subst ey eH
    exact d_dictSet I e l ry rv h
  · subst ey eH
    cases (show u = Value.ref b from ry)
    obtain ⟨z, hd, xs, rel, dd⟩ := dt_of I.hok e
    have hz : xs.length ≤ sizeLine := by rw [← Paired.length rel]; exact z
    have hl : (putK kvs k v).length ≤ sizeLine := by have := length_putK kvs k v; omega
    refine wpAny_dictSet_heap (hsz := hz) (Nat.lt_of_succ_lt hu) (key_of I.hok eb) dd fun h' dd' hs => h _ ?_
    obtain ⟨q, es, ep, hq, h2, h3, h4, _, h5⟩ := dd'
    refine d_write I (by rw [e]; exact True.intro) hs ⟨q, hq⟩ ⟨hl, hd, _, (rel.put k eb rv).keeps fun c ys ec => ?_, q, es, ep, hq, h2, h3, h4, h5⟩
    rw [upd_ne (ne_of ec e (fun z => nomatch z))]
    exact ec
section
variable {X : Cx}
def tDc2 (wi : TI) (g : TG) (tt : TT) (wj : TI) (g1 : TG) (tt1 : TT) (tk tv : TE) (vs ws : List Nat) : TE := fun ρ H Q => wi ρ H fun J G1 => ∀ D, G1 D = none → ∃ W : Nat → Nat → Hp → Prop, (∃ m, W 0 m (upd G1 D (.dT []))) ∧ ∀ i m H, W i m H →
  (J.stop i H ∧ Q (.ref D) H) ∨ (J.go i H ∧ ∃ Nx : Hp → Prop, (∀ G', Nx G' → ∃ m', m' < m ∧ W (i + 1) m' G') ∧ ∀ x G', J.yld i H x G' → g x (wipe ρ vs) G' fun ρ2 G2 => wipe ρ2 vs = wipe ρ vs ∧ tt ρ2 G2 fun b G3 =>
    if b = true then wj ρ2 G3 fun J1 G4 => ∃ W1 : Nat → Nat → Hp → Prop, (∃ m, W1 0 m G4) ∧ ∀ j k H, W1 j k H →
      (J1.stop j H ∧ Nx H) ∨ (J1.go j H ∧ ∃ Nx1 : Hp → Prop, (∀ G', Nx1 G' → ∃ k', k' < k ∧ W1 (j + 1) k' G') ∧ ∀ x G', J1.yld j H x G' → g1 x (wipe ρ2 ws) G' fun ρ3 G5 => wipe ρ3 ws = wipe ρ2 ws ∧ tt1 ρ3 G5 fun b G6 =>
        if b = true then tk ρ3 G6 fun y G7 => tv ρ3 G7 fun z G8 => ∃ G9, DPut G8 D y z G9 ∧ Nx1 G9 else Nx1 G6)
    else Nx G3)
theorem dc2_core {pn : List (Addr × Obj)} {s : Shared} {ρ : L2.St} {H : Hp} {Q : VK} {kx vx tg iter tg1 iter1 : Expr} {ifs ifs1 : List Expr} {scope : Scope} {own : List (Str × Nat)} {ws : List Nat} {pos pos' : Pos} {wi wj : TI} {g g1 : TG} {tt tt1 : TT} {tk tv : TE} {use : Option (Value → Sem Unit)} {Qf : Value → Shared → Prop}
    (hu : X.A.units + 1 < cLine) (hc : X.calm = true) (hN : X.N.Nodup) (I : L2.Inv X pn ρ H s) (hi : PI X tg iter wi) (ok : BlkOk X.N X.env.scope scope own) (hv : ∀ i ∈ ws, i ∈ own.map (·.2))
    (hg : ∀ (s : Shared) (H : Hp) (C : Addr) (cl : List (Str × Addr)) (fp : List Addr), PG (X.blk s H scope (compEnvC scope cl C X.env) fp) tg g) (ht : ∀ (s : Shared) (H : Hp) (C : Addr) (cl : List (Str × Addr)) (fp : List Addr), PTs (X.blk s H scope (compEnvC scope cl C X.env) fp) ifs tt)
    (hk : ∀ (s : Shared) (H : Hp) (C : Addr) (cl : List (Str × Addr)) (fp : List Addr), PE (X.blk s H scope (compEnvC scope cl C X.env) fp) kx tk) (he : ∀ (s : Shared) (H : Hp) (C : Addr) (cl : List (Str × Addr)) (fp : List Addr), PE (X.blk s H scope (compEnvC scope cl C X.env) fp) vx tv) (hs : ∀ x, foldedSetIterable iter X.env x = pure x)
    (hi1 : ∀ (s : Shared) (H : Hp) (C : Addr) (cl : List (Str × Addr)) (fp : List Addr), PI (X.blk s H scope (compEnvC scope cl C X.env) fp) tg1 iter1 wj)
    (hg1 : ∀ (s : Shared) (H : Hp) (C : Addr) (cl : List (Str × Addr)) (fp : List Addr), PG (X.blk s H scope (compEnvC scope cl C X.env) fp) tg1 g1) (ht1 : ∀ (s : Shared) (H : Hp) (C : Addr) (cl : List (Str × Addr)) (fp : List Addr), PTs (X.blk s H scope (compEnvC scope cl C X.env) fp) ifs1 tt1)
    (hs1 : ∀ env x, foldedSetIterable iter1 env x = pure x)
    (h : tDc2 wi g tt wj g1 tt1 tk tv (own.map (·.2)) ws ρ H Q)
    (hRR : ∀ D C t' m G', L2.Inv X pn ρ G' t' → Q (.ref D) G' → t'.heap.Ns C m → FpOk X pn G' C → compPost (model X.prog X.w) X.A X.xe use Qf (.ref D) C (.ok .next) t') :
    wpAny (model X.prog X.w) X.A (comprehension (.DictComp kx vx [⟨tg, iter, ifs, 0⟩, ⟨tg1, iter1, ifs1, 0⟩] scope pos) scope X.env pos' newDict false (eval iter X.env) use) Qf X.xe s := by
  have hfree : ∀ y ∈ scope.names, y.2 = .free → ∃ c, X.env.cells.lookup y.1 = some c := fun y hy e => by
    rcases ok.free y hy e with k | k
    · exact I.ok.has _ (.inl k)
    · exact I.ok.has _ (.inr k)
  refine wpAny_comprehension_free (use := use) rfl hs (closure_ok hfree) ok.kind (fun y hy e => by rw [ok.uniq y hy, e])
    (thn (hi.run pn s ρ H _ I h) fun xv t1 hx => thn hx fun itv t2 h2 => ?_)
  obtain ⟨it, fp, tn, J, G2, e, J2, T, sg2, f2, q⟩ := h2
  subst e
  refine wpAny_newObj_type (newEnv_comp ?_)
  generalize hD : t2.heap.objs.size = D
  have hDn : G2 D = none := J2.hok.fresh (Nat.le_of_eq hD)
  obtain ⟨W, ⟨m0, w0⟩, turn⟩ := q D hDn
  -- the new list
  generalize hs3 : ({ t2 with heap := t2.heap.push { cls := .type "dict", data := .dict #[] } } : Shared) = t3
  have J3 : L2.Inv X pn ρ (upd G2 D (.dT [])) t3 := by
    rw [← hs3]
    refine J2.laid (t' := t2.toks) (fun b o e => Heap.get?_push_of_some _ e) (Nat.le_of_eq hD) ?_
    rw [← hD]
    exact dt_empty t2.heap J2.big
  have h3 : t3.heap = t2.heap.push { cls := .type "dict", data := .dict #[] } := by rw [← hs3]
  have sz : ∀ b ∈ fp, b < t2.heap.objs.size := fun b hb => by
    obtain ⟨o, e, _⟩ := T.obj _ _ sg2 b hb
    exact Heap.lt_size e
  have f3 : ∀ b ∈ fp, FpOk X pn (upd G2 D (.dT [])) b ∧ b < t3.heap.objs.size := fun b hb => by
    have hlt := sz b hb
    refine ⟨⟨?_, (f2 b hb).2⟩, by rw [h3, Heap.size_push]; exact Nat.lt_succ_of_lt hlt⟩
    rw [upd_ne (by rw [← hD]; exact Nat.ne_of_lt hlt)]
    exact (f2 b hb).1
  have sg3 : tn 0 t3.heap := T.keep _ _ _ sg2 fun b _ o e => by rw [h3]; exact Heap.get?_push_of_some _ e
  have J4 := block_start J3 ok hN f3
  have pg := hg t3 (upd G2 D (.dT [])) t3.heap.objs.size (cellsFrom (t3.heap.objs.size + 1) scope.names (cloFrom X.env.cells scope.names [])) fp
  have pt := ht t3 (upd G2 D (.dT [])) t3.heap.objs.size (cellsFrom (t3.heap.objs.size + 1) scope.names (cloFrom X.env.cells scope.names [])) fp
  have pj := hi1 t3 (upd G2 D (.dT [])) t3.heap.objs.size (cellsFrom (t3.heap.objs.size + 1) scope.names (cloFrom X.env.cells scope.names [])) fp
  have pg1 := hg1 t3 (upd G2 D (.dT [])) t3.heap.objs.size (cellsFrom (t3.heap.objs.size + 1) scope.names (cloFrom X.env.cells scope.names [])) fp
  have pt1 := ht1 t3 (upd G2 D (.dT [])) t3.heap.objs.size (cellsFrom (t3.heap.objs.size + 1) scope.names (cloFrom X.env.cells scope.names [])) fp
  have pk := hk t3 (upd G2 D (.dT [])) t3.heap.objs.size (cellsFrom (t3.heap.objs.size + 1) scope.names (cloFrom X.env.cells scope.names [])) fp
  have pe := he t3 (upd G2 D (.dT [])) t3.heap.objs.size (cellsFrom (t3.heap.objs.size + 1) scope.names (cloFrom X.env.cells scope.names [])) fp
  show codeAny _ _ (.compStart (.DictComp kx vx [⟨tg, iter, ifs, 0⟩, ⟨tg1, iter1, ifs1, 0⟩] scope pos) 0 (.ref it) (.ref D) (compEnvC scope (cellsFrom (t3.heap.objs.size + 1) scope.names (cloFrom X.env.cells scope.names [])) t3.heap.objs.size X.env)) (compPost (model X.prog X.w) X.A X.xe use Qf (.ref D) t3.heap.objs.size) { t3 with heap := pushCells (t3.heap.push { cls := .type "dict", data := .dict #[] }) scope.names }
  have nfp : ∀ b ∈ fp, (upd G2 D (.dT [])) b = none := fun b hb => (f3 b hb).1.1
  generalize hce : compEnvC scope (cellsFrom (t3.heap.objs.size + 1) scope.names (cloFrom X.env.cells scope.names [])) t3.heap.objs.size X.env = ce at J4 pg pt pk pe pj pg1 pt1 ⊢
  have cL : ce.locals = t3.heap.objs.size := by subst hce; rfl
  generalize hH3 : upd G2 D (.dT []) = G3 at J3 J4 pg pt pk pe pj pg1 pt1 w0 nfp f3
  generalize hs4 : ({ t3 with heap := pushCells (t3.heap.push { cls := .type "dict", data := .dict #[] }) scope.names } : Shared) = t4 at J4 ⊢
  have sg4 : tn 0 t4.heap := T.keep _ _ _ sg3 fun b _ o e => by rw [← hs4]; exact pushCells_keeps _ _ _ _ (Heap.get?_push_of_some _ e)
  have stat : ∀ {ρ' : L2.St} {G' : Hp} {t' : Shared}, L2.Inv (X.blk t3 G3 scope ce fp) [] ρ' G' t' → (∀ b ∈ fp, G' b = none) → ∀ b ∈ fp, FpOk (X.blk t3 G3 scope ce fp) [] G' b := fun {ρ' G' t'} I' hn b hb =>
    ⟨hn b hb, (I'.ok.exf b hb).1, I'.ok.exfs b hb, .inl hb, fun x c e => (I'.ok.exf b hb).2 x c e, fun p hp => absurd (show p ∈ ([] : List (Addr × Obj)) ++ [] from hp) (by simp)⟩
  have loop : codeAny (model X.prog X.w) X.A (.compLoop (.DictComp kx vx [⟨tg, iter, ifs, 0⟩, ⟨tg1, iter1, ifs1, 0⟩] scope pos) 0 (.ref it) (.ref D) ce) (compPost (model X.prog X.w) X.A X.xe use Qf (.ref D) t3.heap.objs.size) t4 := by
    refine compLoopD2_out (hs1 ce) (fun n t' => ∃ i G', L2.Inv (X.blk t3 G3 scope ce fp) [] (wipe ρ (own.map (·.2))) G' t' ∧ tn i t'.heap ∧ (∀ b ∈ fp, G' b = none) ∧ W i n G') ?_ m0 ⟨0, G3, J4, sg4, nfp, w0⟩
    rintro n t5 ⟨i, G5, J5, sg5, n5, w5⟩
    rcases turn i n G5 w5 with ⟨stop, qq⟩ | ⟨go, Nx, hNx, step⟩
    · have td := T.done (X.blk t3 G3 scope ce fp) rfl rfl rfl hc i [] t5 _ G5 (fun _ _ => False) J5 (stat J5 n5) sg5 stop
      refine thnF td fun r t6 ⟨hr, J6⟩ => ?_
      subst hr
      -- back in the def's context
      have J7 : L2.Inv X pn ρ G5 t6 := J3.call' (ch := fp) J6.os J6.base J6.hok J6.bare fun b hb => ⟨(f3 b hb).1.2.2.2.1, (f3 b hb).1.2.1, (f3 b hb).1.2.2.2.2.1, (f3 b hb).1.2.2.2.2.2⟩
      have nC : G5 t3.heap.objs.size = none := by
        have z : G5 ce.locals = none := J6.free
        rw [cL] at z
        exact z
      obtain ⟨m, hn, _⟩ := J6.loc
      have hn : t6.heap.Ns ce.locals m := hn
      rw [cL] at hn
      exact hRR D t3.heap.objs.size t6 m G5 J7 qq hn (J3.fpOk (Nat.le_refl _) nC)
    · have ti := T.item (X.blk t3 G3 scope ce fp) rfl rfl rfl hc i [] t5 _ G5 (fun _ _ => False) J5 (stat J5 n5) sg5 go
      refine thnF ti fun r t6 ⟨u, hr, h6⟩ => ?_
      subst hr
      refine thnF h6 fun _ t7 ⟨x, G7, J7, r7, y7, sg7, n7⟩ => ?_
      have J7' := J7.pinned (stat J7 n7) (T.obj _ _ sg7)
      refine thnF (pg.run _ t7 _ G7 x u _ J7' r7 (step x G7 y7)) fun _ t8 ⟨ρ8, G8, J8, hw8, q8⟩ => ?_
      refine thnF (pt.run _ t8 ρ8 G8 _ J8 q8) fun b t9 ⟨G9, J9, q9⟩ => ?_
      -- back at the outer loop, from slots that know what the block knew at first
      have back : ∀ {ρ9 : L2.St} {t' : Shared} {G' : Hp}, L2.Inv (X.blk t3 G3 scope ce fp) ([] ++ pinsAt fp t7.heap) ρ9 G' t' → (wipe ρ (own.map (·.2))).length = ρ9.length → (∀ (j : Nat) v, (wipe ρ (own.map (·.2)))[j]? = some (some v) → ρ9[j]? = some (some v)) → Nx G' →
          ∃ m, m < n ∧ ∃ i G', L2.Inv (X.blk t3 G3 scope ce fp) [] (wipe ρ (own.map (·.2))) G' t' ∧ tn i t'.heap ∧ (∀ b ∈ fp, G' b = none) ∧ W i m G' := fun {ρ9 t' G'} I' hl hk nx => by
        obtain ⟨m', hm, w'⟩ := hNx G' nx
        have held : ∀ b ∈ fp, ∀ o, t7.heap.get? b = some o → t'.heap.get? b = some o ∧ G' b = none := fun b hb o e =>
          let z := I'.pin (b, o) (List.mem_append_right _ (List.mem_append_right _ (mem_pinsAt hb e)))
          ⟨z.1, z.2.1⟩
        refine ⟨m', hm, i + 1, G', (I'.unpinned (pins := [])).weak hl hk, T.keep _ _ _ sg7 fun b hb o e => (held b hb o e).1, fun b hb => ?_, w'⟩
        obtain ⟨o, e, _⟩ := T.obj _ _ sg7 b hb
        exact (held b hb o e).2
      have l8 : (wipe ρ (own.map (·.2))).length = ρ8.length := by rw [← hw8, wipe_length]
      have k8 : ∀ (j : Nat) v, (wipe ρ (own.map (·.2)))[j]? = some (some v) → ρ8[j]? = some (some v) := fun j v e => by
        rw [← hw8] at e
        exact (wipe_some e).1
      have k9 : ∀ (j : Nat) v, (wipe ρ (own.map (·.2)))[j]? = some (some v) → (wipe ρ8 ws)[j]? = some (some v) := fun j v e => by
        rw [← hw8] at e
        obtain ⟨e1, e2⟩ := wipe_some e
        rw [wipe_out fun z => e2 (hv j z)]
        exact e1
      cases b with
      | false =>
        simp only [Bool.false_eq_true, if_false] at q9 ⊢
        exact back J9 l8 k8 q9
      | true =>
        simp only [if_true] at q9 ⊢
        refine thnF (pj.run _ t9 ρ8 G9 _ J9 q9) fun xv t10 hx => thnF hx fun itv t11 h11 => ?_
        obtain ⟨itj, fq, tnj, Jj, G11, ej, J11, Tj, sg11, f11, W1, ⟨m1, w1⟩, turn1⟩ := h11
        subst ej
        have statj : ∀ {G' : Hp}, (∀ b ∈ fq, G' b = none) → ∀ b ∈ fq, FpOk (X.blk t3 G3 scope ce fp) ([] ++ pinsAt fp t7.heap) G' b := fun hn b hb => ⟨hn b hb, (f11 b hb).2⟩
        -- the inner loop
        have inner : codeAny (model X.prog X.w) X.A (.compLoop (.DictComp kx vx [⟨tg, iter, ifs, 0⟩, ⟨tg1, iter1, ifs1, 0⟩] scope pos) 1 (.ref itj) (.ref D) ce)
            (fun r t' => match r with
              | .ok _ => ∃ m, m < n ∧ ∃ i G', L2.Inv (X.blk t3 G3 scope ce fp) [] (wipe ρ (own.map (·.2))) G' t' ∧ tn i t'.heap ∧ (∀ b ∈ fp, G' b = none) ∧ W i m G'
              | .error _ => False) t11 := by
          refine compLoopD2_in (fun k t' => ∃ j G', L2.Inv (X.blk t3 G3 scope ce fp) ([] ++ pinsAt fp t7.heap) (wipe ρ8 ws) G' t' ∧ tnj j t'.heap ∧ (∀ b ∈ fq, G' b = none) ∧ W1 j k G') ?_ m1 ⟨0, G11, J11.weak (wipe_length _ _) (fun j v e => (wipe_some e).1), sg11, fun b hb => (f11 b hb).1, w1⟩
          rintro k t12 ⟨j, G12, J12, sg12, n12, w12⟩
          rcases turn1 j k G12 w12 with ⟨stopj, nxj⟩ | ⟨goj, Nx1, hNx1, stepj⟩
          · refine thnF (Tj.done (X.blk t3 G3 scope ce fp) rfl rfl rfl hc j _ t12 (wipe ρ8 ws) G12 (fun _ _ => False) J12 (statj n12) sg12 stopj) fun r t13 ⟨hr, J13⟩ => ?_
            subst hr
            exact back J13 (l8.trans (wipe_length ρ8 ws).symm) k9 nxj
          · refine thnF (Tj.item (X.blk t3 G3 scope ce fp) rfl rfl rfl hc j _ t12 (wipe ρ8 ws) G12 (fun _ _ => False) J12 (statj n12) sg12 goj) fun r t13 ⟨uj, hr, h13⟩ => ?_
            subst hr
            refine thnF h13 fun _ t14 ⟨xj, G14, J14, r14, y14, sg14, n14⟩ => ?_
            have J14' := J14.pinned (statj n14) (Tj.obj _ _ sg14)
            refine thnF (pg1.run _ t14 (wipe ρ8 ws) G14 xj uj _ J14' r14 (stepj xj G14 y14)) fun _ t15 ⟨ρ15, G15, J15, hw15, q15⟩ => ?_
            refine thnF (pt1.run _ t15 ρ15 G15 _ J15 q15) fun bj t16 ⟨G16, J16, q16⟩ => ?_
            have finj : ∀ {t' : Shared} {G' : Hp}, L2.Inv (X.blk t3 G3 scope ce fp) (([] ++ pinsAt fp t7.heap) ++ pinsAt fq t14.heap) ρ15 G' t' → Nx1 G' → ∃ m, m < k ∧ ∃ j G', L2.Inv (X.blk t3 G3 scope ce fp) ([] ++ pinsAt fp t7.heap) (wipe ρ8 ws) G' t' ∧ tnj j t'.heap ∧ (∀ b ∈ fq, G' b = none) ∧ W1 j m G' := fun {t' G'} I' nx => by
              obtain ⟨m', hm, w'⟩ := hNx1 G' nx
              have held : ∀ b ∈ fq, ∀ o, t14.heap.get? b = some o → t'.heap.get? b = some o ∧ G' b = none := fun b hb o e =>
                let z := I'.pin (b, o) (List.mem_append_right _ (List.mem_append_right _ (mem_pinsAt hb e)))
                ⟨z.1, z.2.1⟩
              refine ⟨m', hm, j + 1, G', I'.unpinned.weak (by rw [← hw15, wipe_length]) (fun j v e => by rw [← hw15] at e; exact (wipe_some e).1), Tj.keep _ _ _ sg14 fun b hb o e => (held b hb o e).1, fun b hb => ?_, w'⟩
              obtain ⟨o, e, _⟩ := Tj.obj _ _ sg14 b hb
              exact (held b hb o e).2
            cases bj with
            | false =>
              simp only [Bool.false_eq_true, if_false] at q16 ⊢
              exact finj J16 q16
            | true =>
              simp only [if_true] at q16 ⊢
              refine thnF (pk.run _ t16 ρ15 G16 _ J16 q16) fun u1 t17 ⟨yk, G17, J17, r17, q17⟩ => ?_
              refine thnF (pe.run _ t17 ρ15 G17 _ J17 q17) fun u2 t18 ⟨yv, G18, J18, r18, G19, put, nx⟩ => ?_
              exact d_dictPut (X := X.blk t3 G3 scope ce fp) hu J18 put r17 r18 fun t19 J19 => finj J19 nx
        exact compStartD1_ok inner (Tj.self X.A 0 _ _ _ sg11 inner)
  exact codeAny_compStart_dict loop (T.self X.A 0 _ _ _ sg4 loop)
end
end Fl
namespace Fl
open PySem PySem.Spec PyProof.Rows L2
def dcLT (nx : ItF) (g : GF) (tt : TF) (tk tv : EF) (s : Sl) : Nat → Nat → List (List Key × D) → Mem → Res (List (List Key × D))
  | 0, _, _, _ => .bad
  | k + 1, i, acc, M => match nx i M with
    | none => .bad
    | some none => .ok acc M
    | some (some d) => (g d s M).noX.bind fun s1 M1 => (tt s1 M1).noX.bind fun b M2 => match b with
      | true => (tk s1 M2).noX.bind fun y M3 => (tv s1 M3).noX.bind fun z M4 => (match keysOf y, decide (acc.length < sizeLine) with
        | some q, true => dcLT nx g tt tk tv s k (i + 1) (put acc q z) M4
        | _, _ => .bad)
      | false => dcLT nx g tt tk tv s k (i + 1) acc M2
def dcL2 (nx : ItF) (g : GF) (tt : TF) (fj : IF) (g1 : GF) (tt1 : TF) (tk tv : EF) (js : List Nat) (s : Sl) : Nat → Nat → List (List Key × D) → Mem → Res (List (List Key × D))
  | 0, _, _, _ => .bad
  | k + 1, i, acc, M => match nx i M with
    | none => .bad
    | some none => .ok acc M
    | some (some d) => (g d s M).noX.bind fun s1 M1 => (tt s1 M1).noX.bind fun b M2 => match b with
      | true => (fj s1 M2).noX.bind fun nj M3 => (dcLT nj.1 g1 tt1 tk tv (wipeD s1 js) nj.2 0 acc M3).bind fun acc2 M4 => dcL2 nx g tt fj g1 tt1 tk tv js s k (i + 1) acc2 M4
      | false => dcL2 nx g tt fj g1 tt1 tk tv js s k (i + 1) acc M2
def dDc2 (fi : IF) (g : GF) (tt : TF) (fj : IF) (g1 : GF) (tt1 : TF) (tk tv : EF) (is js : List Nat) : EF := fun s M => (fi s M).bind fun nx M1 => (dcL2 nx.1 g tt fj g1 tt1 tk tv js (wipeD s is) nx.2 0 [] M1).bind fun kvs M2 => .ok (.ref M2.length) (M2 ++ [.dt kvs])
section
variable {X : Cx} {L : Lay} {W : WX}
theorem outt_lw {α : List Addr} {H : Hp} {p : Addr} {o : HO} {xs : List (List Key × V)} (h : H p = some (.dT xs)) : Lw α H α (upd H p o) :=
  ⟨⟨[], by simp⟩, fun a ys e => by
    have ne : a ≠ p := fun z => by rw [z, h] at e; cases e
    rw [upd_ne ne]; exact e, fun a q ys e => by
    have ne : a ≠ p := fun z => by rw [z, h] at e; cases e
    rw [upd_ne ne]; exact e⟩
theorem lx_updt {α : List Addr} {H : Hp} {p : Addr} {o : HO} {xs : List (List Key × V)} (h : H p = some (.dT xs)) : Lx α H α (upd H p o) :=
  ⟨⟨[], by simp⟩, fun a ys e => by
    have ne : a ≠ p := fun z => by rw [z, h] at e; cases e
    rw [upd_ne ne]; exact e, fun a q ys e => by
    have ne : a ≠ p := fun z => by rw [z, h] at e; cases e
    rw [upd_ne ne]; exact e⟩
theorem outt_rel {K : PySem.W.Frag} {α : List Addr} {M : Mem} {H : Hp} {p : Addr} {o : HO} {xs : List (List Key × V)} (r : Rel K L α M H) (h : H p = some (.dT xs)) (hp : p ∉ α) : Rel K L α M (upd H p o) :=
  ⟨r.len, r.nd, fun i x a h1 h2 => (r.ob i x a h1 h2).stayW (outt_lw h) (by rw [upd_ne (fun z => hp (by rw [← z]; exact List.mem_of_getElem? h2))]) (fun dd fs _ e => by
    have ne : dd ≠ p := fun z => by rw [z, h] at e; cases e
    rw [upd_ne ne]; exact e) fun _ _ z => z⟩
theorem outt_in {K : PySem.W.Frag} {α : List Addr} {M : Mem} {H : Hp} {p : Addr} {xs : List (List Key × V)} {ds : List (List Key × D)} (r : Rel K L α M H) (h : H p = some (.dT xs)) (hp : p ∉ α) (q : KvR K α H ds xs) : Rel K L (α ++ [p]) (M ++ [.dt ds]) H := by
  have lw : Lw α H (α ++ [p]) H := ⟨⟨[p], rfl⟩, fun _ _ e => e, fun _ _ _ e => e⟩
  refine ⟨by rw [List.length_append, List.length_append, r.len]; rfl, List.nodup_append.mpr ⟨r.nd, by simp, fun a ha b hb => by rw [List.mem_singleton.mp hb]; exact fun z => hp (by rw [← z]; exact ha)⟩, fun i x a h1 h2 => ?_⟩
  by_cases hi : i < M.length
  · rw [List.getElem?_append_left hi] at h1
    rw [List.getElem?_append_left (by rw [r.len]; exact hi)] at h2
    have q' := r.ob i x a h1 h2
    cases x with
    | exc c f =>
      obtain ⟨cls, d, e1, e2, e3⟩ := q'
      refine ⟨cls, d, e1, e2.lw lw (fun _ _ _ z => z), fun dd ed hm => ?_⟩
      rcases List.mem_append.mp hm with z | z
      · exact e3 dd ed z
      · have ep := List.mem_singleton.mp z
        have e4 := e2.2
        cases f with
        | none => rw [e4] at ed; cases ed
        | some pf =>
          obtain ⟨d2, v, e5, e6, _⟩ := e4
          rw [ed] at e5; cases e5
          rw [ep, h] at e6; cases e6
    | lst ds => obtain ⟨vs, e1, e2⟩ := q'; exact ⟨vs, e1, e2.lw lw⟩
    | dk ds => obtain ⟨vs, e1, e2⟩ := q'; exact ⟨vs, e1, e2.lw lw⟩
    | dt ds => obtain ⟨vs, e1, e2⟩ := q'; exact ⟨vs, e1, e2.lw lw⟩
    | fk ds => obtain ⟨o, vs, e1, e2⟩ := q'; exact ⟨o, vs, e1, e2.lw lw⟩
    | ft ds => obtain ⟨o, vs, e1, e2⟩ := q'; exact ⟨o, vs, e1, e2.lw lw⟩
    | dn ds => obtain ⟨vs, e1, e2⟩ := q'; exact ⟨vs, e1, e2.lw lw⟩
    | fn ds => obtain ⟨o, vs, e1, e2⟩ := q'; exact ⟨o, vs, e1, e2.lw lw⟩
    | ins c fs => obtain ⟨dx, vs, e1, e2, e3⟩ := q'; exact ⟨dx, vs, e1, e2.lw lw, e3⟩
  · rw [List.getElem?_append_right (by omega)] at h1
    rw [List.getElem?_append_right (by rw [r.len]; omega), r.len] at h2
    have e : i - M.length = 0 := by
      cases z : i - M.length with
      | zero => rfl
      | succ k => rw [z] at h1; simp at h1
    rw [e] at h1 h2
    have e1 : MO.dt ds = x := by simpa using h1
    have e2 : p = a := by simpa using h2
    subst e1 e2
    exact ⟨xs, h, q.lw lw⟩
theorem dc2_go {K : PySem.W.Frag} {fi fj : IF} {g g1 : GF} {tt tt1 : TF} {tk tv : EF} {is js : List Nat} {ρ : L2.St} {H : Hp} {Q : VK} (h : LE K L W (dDc2 fi g tt fj g1 tt1 tk tv is js) ρ H Q) :
    tDc2 (LI K L W fi) (LG K L W0 is g) (LT K L W0 tt) (LI K L W0 fj) (LG K L W0 js g1) (LT K L W0 tt1) (LE K L W0 tk) (LE K L W0 tv) is js ρ H Q := by
  obtain ⟨α, M, s, r, sl, h⟩ := h
  refine ⟨α, M, s, r, sl, (PostR.bind (R := RIt _ _) h).imp fun J H1 ⟨nx, α1, M1, l1, r1, it, h1⟩ D hD => ?_⟩
  dsimp only at h1
  have sl1 := (sl.le l1).wipe is
  have nd : D ∉ α1 := fun hm => by
    obtain ⟨u, hu, _⟩ := r1.mem hm
    rw [hD] at hu; cases hu
  have keepD : ∀ {accV : List (List Key × V)} {α α' : List Addr} {H H' : Hp} {M' : Mem}, Le α H α' H' → Rel K L α' M' H' → H D = some (.dT accV) → D ∉ α → H' D = some (.dT accV) ∧ D ∉ α' := fun {accV α α' H H' M'} l r' e n => by
    refine ⟨l.keep _ _ e n, fun hm => ?_⟩
    obtain ⟨β, eβ, fβ⟩ := l.ext
    rw [eβ] at hm
    rcases List.mem_append.mp hm with z | z
    · exact n z
    · rw [fβ D z] at e; cases e
  refine ⟨fun i m H => ∃ α M acc accV, i + m = nx.2 ∧ Le α1 H1 α H ∧ Rel K L α M H ∧ H D = some (.dT accV) ∧ D ∉ α ∧ KvR K α H acc accV ∧ (acc.map (·.1)).Nodup ∧
    PostR K L (Rep K) ((dcL2 nx.1 g tt fj g1 tt1 tk tv js (wipeD s is) m i acc M).bind fun kvs M2 => .ok (.ref M2.length) (M2 ++ [.dt kvs])) α1 H1 Q (fun c d H' => W c d ρ H'), ⟨nx.2, ?_⟩, ?_⟩
  · have rT : Rel K L α1 M1 (upd H1 D (.dT [])) := ⟨r1.len, r1.nd, fun i x a e1 e2 => by
      obtain ⟨u, hu, _⟩ := (r1.ob i x a e1 e2).ours
      refine (r1.ob i x a e1 e2).stayW ⟨⟨[], by simp⟩, fun a ys e => by rw [upd_ne (ne_of_none e hD)]; exact e, fun a q ys e => by rw [upd_ne (ne_of_none e hD)]; exact e⟩ (by rw [upd_ne (ne_of_none hu hD)]) (fun dd fs _ e => by rw [upd_ne (ne_of_none e hD)]; exact e) fun _ _ z => z⟩
    exact ⟨α1, M1, [], [], by omega, out_le (Le.refl _ _) hD nd, rT, upd_same, nd, .nil, by simp, h1⟩
  · rintro i m H ⟨α, M, acc, accV, hn, le, r, hH, ndα, hacc, hnd, hp⟩
    cases m with
    | zero => exact hp.elim
    | succ k =>
      have q := it i α H M le.lx r
      unfold dcL2 at hp
      cases e : nx.1 i M with
      | none => rw [e] at hp; exact hp.elim
      | some o =>
        rw [e] at hp q
        cases o with
        | none =>
          refine .inl ⟨q, ?_⟩
          have hp' : PostR K L (Rep K) (.ok (.ref M.length) (M ++ [.dt acc])) α1 H1 Q (fun c d H' => W c d ρ H') := hp
          obtain ⟨β, eβ, fβ⟩ := le.ext
          have le2 : Le α1 H1 (α ++ [D]) H := ⟨⟨β ++ [D], by rw [eβ, List.append_assoc], fun b hb => by
            rcases List.mem_append.mp hb with z | z
            · exact fβ b z
            · rw [List.mem_singleton.mp z]; exact hD⟩, le.keep, le.dom, le.tups, le.rols⟩
          exact hp' _ H _ le2 (outt_in r hH ndα hacc) (rep_ref (by rw [← r.len]; simp))
        | some d =>
          obtain ⟨q1, q2⟩ := q
          refine .inr ⟨q1, fun H => ∃ α M acc accV, (i + 1) + k = nx.2 ∧ Le α1 H1 α H ∧ Rel K L α M H ∧ H D = some (.dT accV) ∧ D ∉ α ∧ KvR K α H acc accV ∧ (acc.map (·.1)).Nodup ∧
            PostR K L (Rep K) ((dcL2 nx.1 g tt fj g1 tt1 tk tv js (wipeD s is) k (i + 1) acc M).bind fun kvs M2 => .ok (.ref M2.length) (M2 ++ [.dt kvs])) α1 H1 Q (fun c d H' => W c d ρ H'), fun H' z => ⟨k, Nat.lt_succ_self _, z⟩, fun x H2 y => ?_⟩
          obtain ⟨lx, r2, rd⟩ := q2 x H2 y
          have le2 := le.trans lx
          obtain ⟨hH2, nd2⟩ := keepD lx r2 hH ndα
          dsimp only at hp
          rw [bind_bind] at hp
          refine ⟨α, M, wipeD s is, d, r2, sl1.le le2, rd, (nox_bind (R := RSl K is (L2.wipe ρ is)) hp _).imp fun σ2 H3 ⟨s1, α3, M3, l3, r3, ⟨q3, q4⟩, h3⟩ _ => ⟨q4.wipe, ?_⟩⟩
          obtain ⟨hH3, nd3⟩ := keepD l3 r3 hH2 nd2
          have le3 := le2.trans l3
          dsimp only at h3
          rw [bind_bind] at h3
          refine ⟨α3, M3, s1, r3, q3, (nox_bind (R := RB) h3 _).imp fun b H4 ⟨b', α4, M4, l4, r4, eb, h4⟩ => ?_⟩
          obtain ⟨hH4, nd4⟩ := keepD l4 r4 hH3 nd3
          have le4 := le3.trans l4
          subst eb
          dsimp only at h4
          have hacc4 := ((hacc.le lx).le l3).le l4
          cases b' with
          | false => exact iteF ⟨α4, M4, acc, accV, by omega, le4, r4, hH4, nd4, hacc4, hnd, h4⟩
          | true =>
            refine iteT ?_
            dsimp only at h4
            rw [bind_bind] at h4
            -- the inner loop
            refine ⟨α4, M4, s1, r4, q3.le l4, (nox_bind (R := RIt _ _) h4 _).imp fun J1 H5 ⟨nj, α5, M5, l5, r5, itj, h5⟩ => ?_⟩
            obtain ⟨hH5, nd5⟩ := keepD l5 r5 hH4 nd4
            have le5 := le4.trans l5
            dsimp only at h5
            have slj := ((q3.le l4).le l5).wipe js
            refine ⟨fun j m H => ∃ α M acc accV, j + m = nj.2 ∧ Lx α5 H5 α H ∧ Le α1 H1 α H ∧ Rel K L α M H ∧ H D = some (.dT accV) ∧ D ∉ α ∧ KvR K α H acc accV ∧ (acc.map (·.1)).Nodup ∧
              PostR K L (Rep K) ((dcLT nj.1 g1 tt1 tk tv (wipeD s1 js) m j acc M).bind fun acc2 M4 => (dcL2 nx.1 g tt fj g1 tt1 tk tv js (wipeD s is) k (i + 1) acc2 M4).bind fun kvs M2 => .ok (.ref M2.length) (M2 ++ [.dt kvs])) α1 H1 Q (fun c d H' => W c d ρ H'), ⟨nj.2, ?_⟩, ?_⟩
            · refine ⟨α5, M5, acc, accV, by omega, (Le.refl _ _).lx, le5, r5, hH5, nd5, hacc4.le l5, hnd, ?_⟩
              rw [bind_bind] at h5
              exact h5
            · rintro j m H6 ⟨α6, M6, acc6, accV6, hn6, lx6, le6, r6, hH6, nd6, hacc6, hnd6, hp6⟩
              cases m with
              | zero => exact hp6.elim
              | succ kj =>
                have q6 := itj j α6 H6 M6 lx6 r6
                unfold dcLT at hp6
                cases e6 : nj.1 j M6 with
                | none => rw [e6] at hp6; exact hp6.elim
                | some o6 =>
                  rw [e6] at hp6 q6
                  cases o6 with
                  | none =>
                    exact .inl ⟨q6, α6, M6, acc6, accV6, by omega, le6, r6, hH6, nd6, hacc6, hnd6, hp6⟩
                  | some d6 =>
                    obtain ⟨q7, q8⟩ := q6
                    refine .inr ⟨q7, fun H => ∃ α M acc accV, (j + 1) + kj = nj.2 ∧ Lx α5 H5 α H ∧ Le α1 H1 α H ∧ Rel K L α M H ∧ H D = some (.dT accV) ∧ D ∉ α ∧ KvR K α H acc accV ∧ (acc.map (·.1)).Nodup ∧
                      PostR K L (Rep K) ((dcLT nj.1 g1 tt1 tk tv (wipeD s1 js) kj (j + 1) acc M).bind fun acc2 M4 => (dcL2 nx.1 g tt fj g1 tt1 tk tv js (wipeD s is) k (i + 1) acc2 M4).bind fun kvs M2 => .ok (.ref M2.length) (M2 ++ [.dt kvs])) α1 H1 Q (fun c d H' => W c d ρ H'), fun H' z => ⟨kj, Nat.lt_succ_self _, z⟩, fun x7 H7 y7 => ?_⟩
                    obtain ⟨lx7, r7, rd7⟩ := q8 x7 H7 y7
                    have le7 := le6.trans lx7
                    have lxx7 := lx6.trans lx7.lx
                    obtain ⟨hH7, nd7⟩ := keepD lx7 r7 hH6 nd6
                    dsimp only at hp6
                    rw [bind_bind] at hp6
                    refine ⟨α6, M6, wipeD s1 js, d6, r7, slj.lw lxx7.lw, rd7, (nox_bind (R := RSl K js (L2.wipe σ2 js)) hp6 _).imp fun σ8 H8 ⟨s8, α8, M8, l8, r8, ⟨q9, q10⟩, h8⟩ _ => ⟨q10.wipe, ?_⟩⟩
                    obtain ⟨hH8, nd8⟩ := keepD l8 r8 hH7 nd7
                    have le8 := le7.trans l8
                    dsimp only at h8
                    rw [bind_bind] at h8
                    refine ⟨α8, M8, s8, r8, q9, (nox_bind (R := RB) h8 _).imp fun b9 H9 ⟨b9', α9, M9, l9, r9, eb9, h9⟩ => ?_⟩
                    obtain ⟨hH9, nd9⟩ := keepD l9 r9 hH8 nd8
                    have le9 := le8.trans l9
                    subst eb9
                    dsimp only at h9
                    have hacc9 := ((hacc6.le lx7).le l8).le l9
                    have lx9 := (lxx7.trans l8.lx).trans l9.lx
                    cases b9' with
                    | false => exact iteF ⟨α9, M9, acc6, accV6, by omega, lx9, le9, r9, hH9, nd9, hacc9, hnd6, h9⟩
                    | true =>
                      refine iteT ?_
                      dsimp only at h9
                      rw [bind_bind] at h9
                      refine ⟨α9, M9, s8, r9, q9.le l9, (nox_bind (R := Rep K) h9 _).imp fun y10 H10 ⟨dy, α10, M10, l10, r10, ry, h10⟩ => ?_⟩
                      obtain ⟨hH10, nd10⟩ := keepD l10 r10 hH9 nd9
                      have le10 := le9.trans l10
                      dsimp only at h10
                      rw [bind_bind] at h10
                      refine ⟨α10, M10, s8, r10, (q9.le l9).le l10, (nox_bind (R := Rep K) h10 _).imp fun z11 H11 ⟨dz, α11, M11, l11, r11, rz, h11⟩ => ?_⟩
                      obtain ⟨hH11, nd11⟩ := keepD l11 r11 hH10 nd10
                      have le11 := le10.trans l11
                      have hacc11 := (hacc9.le l10).le l11
                      dsimp only at h11
                      split at h11
                      · rename_i qk ek el
                        obtain ⟨t, ey, et, _⟩ := keysOf_rep ek (ry.le l11)
                        subst ey
                        have nv : (accV6.map (·.1)).Nodup := by rw [← hacc11.keys]; exact hnd6
                        exact ⟨_, DPut.t hH11 et (by rw [← hacc11.length]; exact dt el), α11, M11, put acc6 qk dz, putK accV6 qk z11, by omega, ((lx9.trans l10.lx).trans l11.lx).trans (lx_updt hH11), out_le le11 hD nd11, outt_rel r11 hH11 nd11, upd_same, nd11, (KvR.put hacc11 nv rz).lw (outt_lw hH11), put_nd hnd6, h11⟩
                      · exact h11.elim
def dLockC (c : TF) (fo : EF) (t : EF) : EF := fun s M => match c s M with
  | .ok true _ => dLock fo t s M
  | .ok false _ => t s M
  | _ => .bad
end
end Fl
namespace Fl
open PySem PySem.Spec PyProof.Rows L2
theorem sw_trueD {kx vx : Expr} {gs : List Comprehension} {scope : Scope} {pos py : Pos} {y : Str} {l : Nat} {env : Env} (hk : env.scope.kind = .function) (hy : env.scope.names.lookup y = some .local) (hl : (py.line == pos.line) = true)
    (ha : (scope.names.any fun (n, k) => n == y && (k == .local || k == .cell)) = false) : swapsWith (.DictComp kx vx gs scope pos) (some (.Name y py)) l env = pure true := by
  have ky : env.kindOf y = some .local := hy
  have hb : env.blockKind = .function := by unfold Env.blockKind; rw [hk]; rfl
  unfold swapsWith
  simp only [hb, ky, ha, Expr.pos, hl]
  rfl
section
variable {X : Cx}
theorem ps_setDc2 {i : Nat} {y : Str} {py : Pos} {kx vx tg iter tg1 iter1 : Expr} {ifs ifs1 : List Expr} {scope : Scope} {own : List (Str × Nat)} {ws : List Nat} {pos spos : Pos} {wi wj : TI} {g g1 : TG} {tt tt1 : TT} {tk tv : TE} (hu : X.A.units + 1 < cLine) (hc : X.calm = true) (hN : X.N.Nodup) (hy : X.N[i]? = some y) (hyl : X.env.scope.names.lookup y = some .local)
    (hsw : swapsWith (.DictComp kx vx [⟨tg, iter, ifs, 0⟩, ⟨tg1, iter1, ifs1, 0⟩] scope pos) (some (.Name y py)) spos.line X.env = pure true)
    (hi : PI X tg iter wi) (ok : BlkOk X.N X.env.scope scope own) (hv : ∀ i ∈ ws, i ∈ own.map (·.2))
    (hg : ∀ (s : Shared) (G : Hp) (C : Addr) (cl : List (Str × Addr)) (fp : List Addr), PG (X.blk s G scope (compEnvC scope cl C X.env) fp) tg g) (ht : ∀ (s : Shared) (G : Hp) (C : Addr) (cl : List (Str × Addr)) (fp : List Addr), PTs (X.blk s G scope (compEnvC scope cl C X.env) fp) ifs tt)
    (hk : ∀ (s : Shared) (G : Hp) (C : Addr) (cl : List (Str × Addr)) (fp : List Addr), PE (X.blk s G scope (compEnvC scope cl C X.env) fp) kx tk) (he : ∀ (s : Shared) (G : Hp) (C : Addr) (cl : List (Str × Addr)) (fp : List Addr), PE (X.blk s G scope (compEnvC scope cl C X.env) fp) vx tv) (hs : ∀ x, foldedSetIterable iter X.env x = pure x)
    (hi1 : ∀ (s : Shared) (G : Hp) (C : Addr) (cl : List (Str × Addr)) (fp : List Addr), PI (X.blk s G scope (compEnvC scope cl C X.env) fp) tg1 iter1 wj)
    (hg1 : ∀ (s : Shared) (G : Hp) (C : Addr) (cl : List (Str × Addr)) (fp : List Addr), PG (X.blk s G scope (compEnvC scope cl C X.env) fp) tg1 g1) (ht1 : ∀ (s : Shared) (G : Hp) (C : Addr) (cl : List (Str × Addr)) (fp : List Addr), PTs (X.blk s G scope (compEnvC scope cl C X.env) fp) ifs1 tt1)
    (hs1 : ∀ env x, foldedSetIterable iter1 env x = pure x) :
    PS X (.Assign [.Name y py] (.DictComp kx vx [⟨tg, iter, ifs, 0⟩, ⟨tg1, iter1, ifs1, 0⟩] scope pos) spos) (tAsg (tDc2 wi g tt wj g1 tt1 tk tv (own.map (·.2)) ws) (gName i)) := by
  refine ⟨fun pins s σ H D I h => ?_⟩
  rw [exec_Assign_Name_used _ _ _ _ hsw]
  refine wpAny_bind (wpAny_standAt (wpAny_bind ?_))
  show wpAny _ X.A (do let _ ← comprehension (.DictComp kx vx [⟨tg, iter, ifs, 0⟩, ⟨tg1, iter1, ifs1, 0⟩] scope pos) scope X.env (firstIterPos [⟨tg, iter, ifs, 0⟩, ⟨tg1, iter1, ifs1, 0⟩] pos) newDict false (eval iter X.env) (some (assign (.Name y py) X.env))) _ _ s
  have h : tDc2 wi g tt wj g1 tt1 tk tv (own.map (·.2)) ws σ H (fun x H1 => gName i x σ H1 D.nx) := h
  refine wpAny_bind (thn (dc2_core (Qf := fun _ s' => SP X pins D .next s') hu hc hN I hi ok hv hg ht hk he hs hi1 hg1 ht1 hs1 h fun L C s' m H' I' q hn f => ?_) fun _ s' hq => wpAny_pure (wpAny_pure hq))
  show wpAny _ _ (assign (.Name y py) X.env (.ref L)) _ _ _
  refine wpAny_assign_Name (store_ok2 (v := V.ref L) I' hN hy (.inl hyl) rfl (fun s2 I2 ⟨a, sb, ha⟩ => ?_) (.inr hyl))
  obtain ⟨f0, f1, f2, f3, f4, f5⟩ := f
  have haC : C ≠ a := by
    rcases ha with z | z
    · rw [z]; exact f1
    · exact fun e => f4 y a z e.symm
  refine ⟨m, hn.sameBut sb haC, fun h3 sb3 => ?_⟩
  exact ⟨_, H', I2.turned (t' := s2.toks) (fun b o hb e => (sb3.2 b hb).trans e) f0 f1 f3 f4 f5, q⟩
end
section
variable {X : Cx} {L : Lay} {W : WX}
theorem fs_setDc2 {i : Nat} {y : Str} {py : Pos} {kx vx tg iter tg1 iter1 : Expr} {ifs ifs1 : List Expr} {scope : Scope} {own : List (Str × Nat)} {pos spos : Pos} {fi fj : IF} {g g1 : GF} {tt tt1 : TF} {tk tv : EF} {is js : List Nat} (hu : X.A.units + 1 < cLine) (hc : X.calm = true) (hN : X.N.Nodup) (hy : X.N[i]? = some y) (hyl : X.env.scope.names.lookup y = some .local)
    (hsw : swapsWith (.DictComp kx vx [⟨tg, iter, ifs, 0⟩, ⟨tg1, iter1, ifs1, 0⟩] scope pos) (some (.Name y py)) spos.line X.env = pure true)
    (hi : FI X L W tg iter fi) (ok : BlkOk X.N X.env.scope scope own) (ei : own.map (·.2) = is) (hv : ∀ i ∈ js, i ∈ is)
    (hg : ∀ (s : Shared) (G : Hp) (C : Addr) (cl : List (Str × Addr)) (fp : List Addr), FG (X.blk s G scope (compEnvC scope cl C X.env) fp) L W0 is tg g) (ht : ∀ (s : Shared) (G : Hp) (C : Addr) (cl : List (Str × Addr)) (fp : List Addr), FTs (X.blk s G scope (compEnvC scope cl C X.env) fp) L W0 ifs tt)
    (hi1 : ∀ (s : Shared) (G : Hp) (C : Addr) (cl : List (Str × Addr)) (fp : List Addr), FI (X.blk s G scope (compEnvC scope cl C X.env) fp) L W0 tg1 iter1 fj)
    (hg1 : ∀ (s : Shared) (G : Hp) (C : Addr) (cl : List (Str × Addr)) (fp : List Addr), FG (X.blk s G scope (compEnvC scope cl C X.env) fp) L W0 js tg1 g1) (ht1 : ∀ (s : Shared) (G : Hp) (C : Addr) (cl : List (Str × Addr)) (fp : List Addr), FTs (X.blk s G scope (compEnvC scope cl C X.env) fp) L W0 ifs1 tt1)
    (hk : ∀ (s : Shared) (G : Hp) (C : Addr) (cl : List (Str × Addr)) (fp : List Addr), FE (X.blk s G scope (compEnvC scope cl C X.env) fp) L W0 kx tk)
    (he : ∀ (s : Shared) (G : Hp) (C : Addr) (cl : List (Str × Addr)) (fp : List Addr), FE (X.blk s G scope (compEnvC scope cl C X.env) fp) L W0 vx tv) (hs : ∀ x, foldedSetIterable iter X.env x = pure x := by intro _; rfl) (hs1 : ∀ env x, foldedSetIterable iter1 env x = pure x := by intro _ _; rfl) :
    FS X L W (.Assign [.Name y py] (.DictComp kx vx [⟨tg, iter, ifs, 0⟩, ⟨tg1, iter1, ifs1, 0⟩] scope pos) spos) (sSet i (dDc2 fi g tt fj g1 tt1 tk tv is js)) := by
  subst ei
  refine psImp (ps_setDc2 hu hc hN hy hyl hsw hi ok hv hg ht hk he hs hi1 hg1 ht1 hs1) fun D σ H ⟨α, M, s, r, sl, h⟩ => dc2_go ⟨α, M, s, r, sl, ?_⟩
  exact (PostR.toS (R := Rep _) sl h).imp fun x H1 ⟨dx, α1, M1, l1, r1, rx, h1⟩ => h1 α1 H1 _ (Le.refl _ _) r1 ((sl.le l1).set i rx)
def sLockC (c : TF) (fo : EF) (t : SF) : SF := fun s M => match c s M with
  | .ok true _ => sLock fo t s M
  | .ok false _ => t s M
  | _ => .bad
theorem fs_lockC {st : Stmt} {c : TF} {fo : EF} {t : SF} (h : ∀ W : WX, FS X L W st t) (W : WX) : FS X L W st (sLockC c fo t) := by
  refine ⟨fun pn s ρ H D I q => ?_⟩
  obtain ⟨α, M, sl, r, ss, q⟩ := q
  unfold sLockC at q
  split at q
  · exact (fs_lock (fo := fo) (h W0)).run pn s ρ H D I ⟨α, M, sl, r, ss, q⟩
  · exact (h W).run pn s ρ H D I ⟨α, M, sl, r, ss, q⟩
  · exact q.elim
end
end Fl
namespace Fl
open PySem
def f_stuck_purses : SF := (sSeq (sDrop (dCall 1 0 S_look_world (fun xs _ => xs) (dCons (dVar 0) dNil) dNil)) (sSeq (sSet 1 (dMeth 0 39 0 S_World_honest (fun xs _ => xs) (dVar 0) dNil)) (sSeq (sSet 2 (dOp2 gSub (dOp1 (gFld 6) (dOp1 (gFld 12) (dVar 0))) (dOpN gLen (dCons (dVar 1) dNil)))) (sSeq (sSet 3 (dOp2 gSub (dOp1 (gFld 6) (dOp1 (gFld 12) (dVar 0))) (dOp1 (gFld 7) (dOp1 (gFld 12) (dVar 0))))) (sSeq (sLockC (tVal (dOp2 gGt (dOpN gLen (dCons (dVar 1) dNil)) (dC (.int 0)))) (dOp1 (gFld 2) (dOp2 gIx (dOp1 (gFld 13) (dVar 0)) (dOp2 gIx (dVar 1) (dC (.int 0))))) (sLockC (tVal (dOp2 gGt (dOpN gLen (dCons (dVar 1) dNil)) (dC (.int 1)))) (dOp1 (gFld 2) (dOp2 gIx (dOp1 (gFld 13) (dVar 0)) (dOp2 gIx (dVar 1) (dC (.int 1))))) (sLockC (tVal (dOp2 gGt (dOpN gLen (dCons (dVar 1) dNil)) (dC (.int 2)))) (dOp1 (gFld 2) (dOp2 gIx (dOp1 (gFld 13) (dVar 0)) (dOp2 gIx (dVar 1) (dC (.int 2))))) (sLockC (tVal (dOp2 gGt (dOpN gLen (dCons (dVar 1) dNil)) (dC (.int 3)))) (dOp1 (gFld 2) (dOp2 gIx (dOp1 (gFld 13) (dVar 0)) (dOp2 gIx (dVar 1) (dC (.int 3))))) (sLockC (tVal (dOp2 gGt (dOpN gLen (dCons (dVar 1) dNil)) (dC (.int 4)))) (dOp1 (gFld 2) (dOp2 gIx (dOp1 (gFld 13) (dVar 0)) (dOp2 gIx (dVar 1) (dC (.int 4))))) (sLockC (tVal (dOp2 gGt (dOpN gLen (dCons (dVar 1) dNil)) (dC (.int 5)))) (dOp1 (gFld 2) (dOp2 gIx (dOp1 (gFld 13) (dVar 0)) (dOp2 gIx (dVar 1) (dC (.int 5))))) (sLockC (tVal (dOp2 gGt (dOpN gLen (dCons (dVar 1) dNil)) (dC (.int 6)))) (dOp1 (gFld 2) (dOp2 gIx (dOp1 (gFld 13) (dVar 0)) (dOp2 gIx (dVar 1) (dC (.int 6))))) (sLockC (tVal (dOp2 gGt (dOpN gLen (dCons (dVar 1) dNil)) (dC (.int 7)))) (dOp1 (gFld 2) (dOp2 gIx (dOp1 (gFld 13) (dVar 0)) (dOp2 gIx (dVar 1) (dC (.int 7))))) (sSet 5 (dDc2 (iSeq (dVar 1)) (gN 10) tYesF (iKeysF (dOp1 (gFld 2) (dOp2 gIx (dOp1 (gFld 13) (dVar 0)) (dVar 10)))) (gN 4) tYesF (dVar 4) (dC (.bl true)) [10, 4] [4])))))))))) (sSeq (sSet 6 dNewK) (sSeq (sLock (dVar 5) (sFor (iKeysF (dVar 5)) (gN 4) (sSeq (sSet 7 (dLc (iSeq (dVar 1)) (gN 10) tYesF (dGet1 (dOp1 (gFld 2) (dOp2 gIx (dOp1 (gFld 13) (dVar 0)) (dVar 10))) (dVar 4)) [10])) (sSeq (sSet 8 (dBm tyLst (onLst gCount) (dVar 7) (dCons (dC .non) dNil))) (sSeq (sSet 9 (dOpN gMax (dCons (dLc (iSeq (dVar 7)) (gN 11) (tVal (dOp2 gIsNot (dVar 11) (dC .non))) (dBm tyLst (onLst gCount) (dVar 7) (dCons (dVar 11) dNil)) [11]) dNil))) (sIf (tVal (dOp2 gLt (dOp2 gAdd (dOp2 gAdd (dVar 9) (dVar 8)) (dVar 2)) (dVar 3))) (sAsg (dC (.bl true)) (gIxSet (dVar 6) (dOp2 gIx (dVar 4) (dC (.int 0))))) sNext)))))) (sRet (dOpN gSorted (dCons (dVar 6) dNil))))))))))
def S_stuck_purses : List D → Mem → Res D := fun ds M => match decide (ds.length = 1) with
  | true => (f_stuck_purses (startD 12 ds) M).fin
  | false => .bad
def f__law_did : SF := (sSeq (sIf (tVal (dOp2 gEq (dVar 0) (dC (.int 0)))) (sRet (dMake 3 1 0 S_Cutting___init__ (fun xs _ => xs) (dCons (dVar 1) dNil) dNil)) sNext) (sSeq (sIf (tVal (dOp2 gEq (dVar 0) (dC (.int 1)))) (sRet (dCall 2 0 S_cut_of (fun xs _ => xs) (dCons (dVar 1) (dCons (dVar 2) dNil)) dNil)) sNext) (sSeq (sIf (tVal (dOp2 gEq (dVar 0) (dC (.int 2)))) (sRet (dMeth 3 34 1 S_Cutting_sign (fun xs _ => xs) (dVar 1) (dCons (dVar 2) dNil))) sNext) (sSeq (sIf (tVal (dOp2 gEq (dVar 0) (dC (.int 3)))) (sRet (dMeth 3 49 2 S_Cutting_lie (fun xs _ => xs) (dVar 1) (dCons (dVar 2) (dCons (dVar 3) dNil)))) sNext) (sSeq (sIf (tVal (dOp2 gEq (dVar 0) (dC (.int 4)))) (sRet (dMeth 3 29 2 S_Cutting_take (fun xs _ => xs) (dVar 1) (dCons (dVar 2) (dCons (dVar 3) dNil)))) sNext) (sSeq (sIf (tVal (dOp2 gEq (dVar 0) (dC (.int 5)))) (sRet (dMeth 3 60 1 S_Cutting_signers_of (fun xs _ => xs) (dVar 1) (dCons (dVar 3) dNil))) sNext) (sSeq (sIf (tVal (dOp2 gEq (dVar 0) (dC (.int 6)))) (sRet (dCall 1 0 S_false_owners (fun xs _ => xs) (dCons (dVar 1) dNil) dNil)) sNext) (sSeq (sIf (tVal (dOp2 gEq (dVar 0) (dC (.int 7)))) (sRet (dCall 1 0 S_false_houses (fun xs _ => xs) (dCons (dVar 1) dNil) dNil)) sNext) (sRet (dIfE (tVal (dOp2 gEq (dVar 0) (dC (.int 8)))) (dCall 1 0 S_stuck_purses (fun xs _ => xs) (dCons (dVar 1) dNil) dNil) (dCall 1 0 S_lost_nothing (fun xs _ => xs) (dCons (dVar 1) dNil) dNil)))))))))))
def S__law_did : List D → Mem → Res D := fun ds M => match decide (ds.length = 4) with
  | true => (f__law_did (startD 4 ds) M).fin
  | false => .bad
def f__law_asked : SF := (sSeq (sSet 4 (dC .non)) (sSeq (sSet 5 (dC .non)) (sSeq (sTry (sDrop (dCall 4 0 S__law_did (fun xs _ => xs) (dCons (dVar 0) (dCons (dVar 1) (dCons (dVar 2) (dCons (dVar 3) dNil)))) dNil)) [(tabC 10, 6, (sSeq (sSet 5 (dTup (dCons (dC (.str "house")) (dCons (dOp1 (gXFld 10 24) (dVar 6)) dNil)))) (sSet 4 (dVar 6)))), (tabC 6, 6, (sSeq (sSet 5 (dC .non)) (sSet 4 (dVar 6))))]) (sRet (dIfE (tVal (dOp2 gIs (dVar 4) (dC .non))) (dC (.str "told")) (dIfE (tVal (dOp2 gIs (dVar 5) (dC .non))) (dCall 1 0 S__law_refusal (fun xs _ => xs) (dCons (dVar 4) dNil) dNil) (dVar 5)))))))
def S__law_asked : List D → Mem → Res D := fun ds M => match decide (ds.length = 4) with
  | true => (f__law_asked (startD 7 ds) M).fin
  | false => .bad
def f_law : SF := (sSeq (sSet 1 (dCall 1 0 S__law_town (fun xs _ => xs) (dCons (dVar 0) dNil) dNil)) (sSeq (sSet 2 (dMake 0 1 3 S_World___init__ (fun xs zs => xs ++ (zs ++ [(.tup [])])) (dCons (dC (.int 4)) dNil) (dCons (dC (.int 1)) (dCons (dLst (dCons (dC (.int 10)) (dCons (dC (.int 0)) dNil))) (dCons (dLst (dCons (dC (.int 3)) dNil)) dNil))))) (sSeq (sSet 3 (dMake 3 1 0 S_Cutting___init__ (fun xs _ => xs) (dCons (dVar 2) dNil) dNil)) (sSeq (sFor (iSeq (dLst (dCons (dC .non) (dCons (dC (.int 5)) (dCons (dVar 3) (dCons (dLst (dCons (dC (.int 10)) (dCons (dC (.int 0)) dNil))) (dCons (dC (.str "world")) dNil))))))) (gN 4) (sIf (tVal (dOp2 gNe (dLc (iSeq (dLst (dCons (dC (.int 0)) (dCons (dC (.int 1)) (dCons (dC (.int 6)) (dCons (dC (.int 7)) (dCons (dC (.int 8)) (dCons (dC (.int 9)) dNil)))))))) (gN 11) tYesF (dCall 4 0 S__law_asked (fun xs _ => xs) (dCons (dVar 11) (dCons (dVar 4) (dCons (dC (.int 9)) (dCons (dC (.int 0)) dNil)))) dNil) [11]) (dOp2 gMulX (dLst (dCons (dC (.str "paper")) dNil)) (dC (.int 6))))) (sRet (dC (.bl false))) sNext)) (sSeq (sSet 5 (dTup (dCons (dTup (dCons (dC (.int 0)) (dCons (dC (.int 0)) dNil))) (dCons (dTup (dCons (dC (.int 10)) (dCons (dC (.int 0)) dNil))) dNil)))) (sSeq (sSet 6 (dLst (dCons (dC .non) (dCons (dC (.int 5)) (dCons (dTup dNil) (dCons (dSl (dVar 5) oNone (oSome (dC (.int 1)))) (dCons (dLst (dCons (dTup (dCons (dC (.int 0)) (dCons (dC (.int 0)) dNil))) (dCons (dTup (dCons (dC (.int 10)) (dCons (dC (.int 0)) dNil))) dNil))) (dCons (dTup (dCons (dTup (dCons (dC (.int 0)) (dCons (dC (.int 0)) dNil))) (dCons (dTup (dCons (dC (.int 11)) (dCons (dC (.int 0)) dNil))) dNil))) (dCons (dTup (dCons (dTup (dCons (dC (.int 0)) (dCons (dC (.int 0)) dNil))) (dCons (dLst (dCons (dC (.int 10)) (dCons (dC (.int 0)) dNil))) dNil))) (dCons (dTup (dCons (dTup (dCons (dC (.int 0)) dNil)) (dCons (dTup (dCons (dC (.int 10)) (dCons (dC (.int 0)) dNil))) dNil))) (dCons (dTup (dCons (dTup (dCons (dC (.int 0)) (dCons (dC (.int 0)) dNil))) (dCons (dTup (dCons (dC (.int 11)) (dCons (dOp2 gSub (dC (.int 0)) (dC (.int 1))) dNil))) dNil))) dNil))))))))))) (sSeq (sSet 6 (dOp2 gAdd (dVar 6) (dLst (dCons (dTup (dCons (dTup (dCons (dC (.int 0)) (dCons (dC (.bl true)) dNil))) (dCons (dTup (dCons (dC (.int 10)) (dCons (dC (.int 0)) dNil))) dNil))) (dCons (dTup (dCons (dTup (dCons (dC (.int 0)) (dCons (dOp2 gSub (dC (.int 0)) (dC (.int 1))) dNil))) (dCons (dTup (dCons (dC (.int 10)) (dCons (dC (.int 0)) dNil))) dNil))) (dCons (dTup (dCons (dTup (dCons (dC (.int 0)) (dCons (dC (.int 0)) (dCons (dC (.int 0)) dNil)))) (dCons (dTup (dCons (dC (.int 10)) (dCons (dC (.int 0)) dNil))) dNil))) (dCons (dTup (dCons (dTup (dCons (dC (.int 0)) (dCons (dC .non) dNil))) (dCons (dTup (dCons (dC (.int 10)) (dCons (dC (.int 0)) dNil))) dNil))) (dCons (dTup (dCons (dTup (dCons (dC (.int 0)) (dCons (dC (.int 100001)) dNil))) (dCons (dTup (dCons (dC (.int 10)) (dCons (dC (.int 0)) dNil))) dNil))) dNil)))))))) (sSeq (sFor (iRng1 (dCons (dC (.int 6)) dNil)) (gN 7) (sSeq (sSet 8 (dCall 2 0 S__law_pick (fun xs _ => xs) (dCons (dVar 1) (dCons (dVar 6) dNil)) dNil)) (sSeq (sFor (iSeq (dLst (dCons (dC (.int 4)) (dCons (dOp2 gSub (dC (.int 0)) (dC (.int 1))) (dCons (dC (.bl true)) (dCons (dC .non) (dCons (dC (.str "0")) (dCons (dC (.int 3)) dNil)))))))) (gN 9) (sIf (tOrF (tVal (dOp2 gNe (dCall 4 0 S__law_asked (fun xs _ => xs) (dCons (dC (.int 2)) (dCons (dVar 3) (dCons (dVar 9) (dCons (dC (.int 0)) dNil)))) dNil) (dTup (dCons (dC (.str "house")) (dCons (dVar 9) dNil))))) (tVal (dOp2 gNe (dCall 4 0 S__law_asked (fun xs _ => xs) (dCons (dC (.int 4)) (dCons (dVar 3) (dCons (dVar 9) (dCons (dVar 8) dNil)))) dNil) (dTup (dCons (dC (.str "house")) (dCons (dVar 9) dNil)))))) (sRet (dC (.bl false))) sNext)) (sSeq (sFor (iSeq (dLst (dCons (dC (.int 4)) (dCons (dC (.int 0)) (dCons (dC (.bl true)) (dCons (dC .non) dNil)))))) (gN 9) (sIf (tVal (dOp2 gNe (dCall 4 0 S__law_asked (fun xs _ => xs) (dCons (dC (.int 3)) (dCons (dVar 3) (dCons (dVar 9) (dCons (dVar 8) dNil)))) dNil) (dTup (dCons (dC (.str "house")) (dCons (dVar 9) dNil))))) (sRet (dC (.bl false))) sNext)) (sIf (tVal (dOp2 gNe (dLc (iSeq (dLst (dCons (dC (.int 3)) (dCons (dC (.int 4)) (dCons (dC (.int 5)) dNil))))) (gN 11) tYesF (dCall 4 0 S__law_asked (fun xs _ => xs) (dCons (dVar 11) (dCons (dVar 3) (dCons (dIfE (tVal (dOp2 gEq (dVar 11) (dC (.int 3)))) (dC (.int 3)) (dC (.int 0))) (dCons (dVar 8) dNil)))) dNil) [11]) (dOp2 gMulX (dLst (dCons (dC (.str "cut")) dNil)) (dC (.int 3))))) (sRet (dC (.bl false))) sNext))))) (sSeq (sIf (tOrF (tVal (dOp2 gNe (dCall 4 0 S__law_asked (fun xs _ => xs) (dCons (dC (.int 4)) (dCons (dVar 3) (dCons (dC (.int 0)) (dCons (dVar 5) dNil)))) dNil) (dC (.str "cut")))) (tOrF (tVal (dOp2 gNe (dMeth 3 61 0 S_Cutting_good (fun xs _ => xs) (dVar 3) dNil) (dLst dNil))) (tVal (dOp2 gNe (dMeth 3 60 1 S_Cutting_signers_of (fun xs _ => xs) (dVar 3) (dCons (dVar 5) dNil)) (dLst dNil))))) (sRet (dC (.bl false))) sNext) (sSeq (sFor (iSeq (dLst (dCons (dC (.int 0)) (dCons (dC (.int 1)) dNil)))) (gN 10) (sDrop (dMeth 3 34 1 S_Cutting_sign (fun xs _ => xs) (dVar 3) (dCons (dVar 10) dNil)))) (sSeq (sIf (tOrF (tVal (dOp2 gNe (dCall 4 0 S__law_asked (fun xs _ => xs) (dCons (dC (.int 4)) (dCons (dVar 3) (dCons (dC (.int 0)) (dCons (dVar 5) dNil)))) dNil) (dC (.str "cut")))) (tOrF (tVal (dOp2 gNe (dCall 4 0 S__law_asked (fun xs _ => xs) (dCons (dC (.int 3)) (dCons (dVar 3) (dCons (dC (.int 3)) (dCons (dVar 5) dNil)))) dNil) (dC (.str "told")))) (tVal (dOp2 gNe (dMeth 3 61 0 S_Cutting_good (fun xs _ => xs) (dVar 3) dNil) (dLst (dCons (dVar 5) dNil)))))) (sRet (dC (.bl false))) sNext) (sSeq (sDrop (dMeth 0 46 3 S_World_ask (fun xs _ => xs) (dVar 2) (dCons (dC (.int 0)) (dCons (dC (.int 1)) (dCons (dC (.int 4)) dNil))))) (sSeq (sWhileL (tVal (dOp2 gNe (dMeth 0 52 0 S_World_letters (fun xs _ => xs) (dVar 2) dNil) (dLst dNil))) (sDrop (dMeth 0 53 1 S_World_come (fun xs _ => xs) (dVar 2) (dCons (dC (.int 0)) dNil))) 100000) (sSeq (sIf (tOrF (tVal (dOp2 gNe (dCall 4 0 S__law_asked (fun xs _ => xs) (dCons (dC (.int 4)) (dCons (dVar 3) (dCons (dC (.int 0)) (dCons (dVar 5) dNil)))) dNil) (dC (.str "now")))) (tOrF (tVal (dOp2 gNe (dMeth 0 54 1 S_World_sums (fun xs _ => xs) (dVar 2) (dCons (dC (.int 0)) dNil)) (dLst (dCons (dC (.int 6)) (dCons (dC (.int 4)) dNil))))) (tVal (dOp2 gIsNot (dCall 2 0 S_is_behind (fun xs _ => xs) (dCons (dVar 5) (dCons (dCall 2 0 S_cut_of (fun xs _ => xs) (dCons (dVar 2) (dCons (dC (.int 0)) dNil)) dNil) dNil)) dNil) (dC (.bl true)))))) (sRet (dC (.bl false))) sNext) (sRet (dAnd (dOp2 gIs (dCall 2 0 S_is_behind (fun xs _ => xs) (dCons (dCall 2 0 S_cut_of (fun xs _ => xs) (dCons (dVar 2) (dCons (dC (.int 0)) dNil)) dNil) (dCons (dVar 5) dNil)) dNil) (dC (.bl false))) (dOp2 gEq (dMeth 3 60 1 S_Cutting_signers_of (fun xs _ => xs) (dVar 3) (dCons (dVar 5) dNil)) (dLst (dCons (dC (.int 0)) (dCons (dC (.int 1)) (dCons (dC (.int 3)) dNil)))))))))))))))))))))
def S_law : List D → Mem → Res D := fun ds M => match decide (ds.length = 1) with
  | true => (f_law (startD 12 ds) M).fin
  | false => .bad
end Fl
namespace Fl
open PySem
instance : EqS f__law_town := by unfold f__law_town; infer_instance
instance : EqD S__law_town := eqD_of (f := f__law_town) (n := 1) (k := 1) rfl
instance : EqS f_is_whole := by unfold f_is_whole; infer_instance
instance : EqD S_is_whole := eqD_of (f := f_is_whole) (n := 3) (k := 3) rfl
instance : EqS f_is_order := by unfold f_is_order; infer_instance
instance : EqD S_is_order := eqD_of (f := f_is_order) (n := 6) (k := 2) rfl
instance : EqS f_summed := by unfold f_summed; infer_instance
instance : EqD S_summed := eqD_of (f := f_summed) (n := 8) (k := 2) rfl
instance : EqS f__law_draw := by unfold f__law_draw; infer_instance
instance : EqD S__law_draw := eqD_of (f := f__law_draw) (n := 6) (k := 2) rfl
instance : EqS f_enough := by unfold f_enough; infer_instance
instance : EqD S_enough := eqD_of (f := f_enough) (n := 2) (k := 2) rfl
instance : EqS f_in_common := by unfold f_in_common; infer_instance
instance : EqD S_in_common := eqD_of (f := f_in_common) (n := 3) (k := 2) rfl
instance : EqS f__law_whole := by unfold f__law_whole; infer_instance
instance : EqD S__law_whole := eqD_of (f := f__law_whole) (n := 1) (k := 1) rfl
instance : EqS f__law_pick := by unfold f__law_pick; infer_instance
instance : EqD S__law_pick := eqD_of (f := f__law_pick) (n := 2) (k := 2) rfl
instance : EqS f_look_order := by unfold f_look_order; infer_instance
instance : EqD S_look_order := eqD_of (f := f_look_order) (n := 2) (k := 2) rfl
instance : EqS f_place_of := by unfold f_place_of; infer_instance
instance : EqD S_place_of := eqD_of (f := f_place_of) (n := 1) (k := 1) rfl
instance : EqS f__law_is := by unfold f__law_is; infer_instance
instance : EqD S__law_is := eqD_of (f := f__law_is) (n := 2) (k := 2) rfl
instance : EqS f_clash := by unfold f_clash; infer_instance
instance : EqD S_clash := eqD_of (f := f_clash) (n := 2) (k := 2) rfl
instance : EqS f_look_number := by unfold f_look_number; infer_instance
instance : EqD S_look_number := eqD_of (f := f_look_number) (n := 3) (k := 3) rfl
instance : EqS f_checked := by unfold f_checked; infer_instance
instance : EqD S_checked := eqD_of (f := f_checked) (n := 7) (k := 4) rfl
end Fl
namespace Fl
open PySem
open L2 (Key)
def cmp (σ α : List Nat) : List Nat := σ.map fun i => α[i]?.getD 0
section
variable {σ α : List Nat} {m' m M : Mem}
theorem cmp_get (h : ∀ i ∈ σ, i < α.length) {n : Nat} {i : Nat} (e : σ[n]? = some i) : ∃ a, α[i]? = some a ∧ (cmp σ α)[n]? = some a := by
  have hi := h i (List.mem_of_getElem? e)
  refine ⟨α[i], List.getElem?_eq_getElem hi, ?_⟩
  unfold cmp
  rw [List.getElem?_map, e]
  simp [List.getElem?_eq_getElem hi]
mutual
theorem Dr.comp (h : ∀ i ∈ σ, i < α.length) : ∀ {d v w : D}, Dr σ d v → Dr α v w → Dr (cmp σ α) d w
  | .non, _, _, a, b => by rw [a.non] at b; rw [b.non]; exact dr_non
  | .bl _, _, _, a, b => by rw [a.bl] at b; rw [b.bl]; exact dr_bl
  | .int _, _, _, a, b => by rw [a.int] at b; rw [b.int]; exact dr_int
  | .str _, _, _, a, b => by rw [a.str] at b; rw [b.str]; exact dr_str
  | .tup ds, _, _, a, b => by
    obtain ⟨vs, rfl, h1⟩ := a.tup
    obtain ⟨ws, rfl, h2⟩ := b.tup
    exact dr_tup (Drs.comp h h1 h2)
  | .rol ds, _, _, a, b => by
    obtain ⟨vs, rfl, h1⟩ := a.rol
    obtain ⟨ws, rfl, h2⟩ := b.rol
    exact dr_rol (Drs.comp h h1 h2)
  | .ref n, _, _, a, b => by
    obtain ⟨i, h1, rfl⟩ := a.ref
    obtain ⟨x, h2, rfl⟩ := b.ref
    obtain ⟨y, h3, h4⟩ := cmp_get h h1
    rw [h2] at h3; cases h3
    exact dr_ref h4
theorem Drs.comp (h : ∀ i ∈ σ, i < α.length) : ∀ {d v w : List D}, Drs σ d v → Drs α v w → Drs (cmp σ α) d w
  | [], _, _, a, b => by rw [a.nil_inv] at b; rw [b.nil_inv]; exact drs_nil
  | d :: ds, _, _, a, b => by
    obtain ⟨v, vs, rfl, h1, h2⟩ := a.cons_inv
    obtain ⟨w, ws, rfl, h3, h4⟩ := b.cons_inv
    exact drs_cons (Dr.comp h h1 h3) (Drs.comp h h2 h4)
end
theorem KR.comp {κ : Type} (h : ∀ i ∈ σ, i < α.length) {a b c : List (κ × D)} (h1 : KR σ a b) (h2 : KR α b c) : KR (cmp σ α) a c := by
  induction h1 generalizing c with
  | nil => cases h2; exact .nil
  | cons p _ ih =>
    cases h2 with
    | cons q t => exact .cons ⟨p.1.trans q.1, Dr.comp h p.2 q.2⟩ (ih t)
theorem XR.comp (h : ∀ i ∈ σ, i < α.length) : ∀ {a b c : Option (Nat × D)}, XR σ a b → XR α b c → XR (cmp σ α) a c
  | none, _, _, a, b => by cases a; cases b; rfl
  | some p, _, _, ⟨v, e, h1⟩, h2 => by
    subst e
    obtain ⟨w, rfl, h3⟩ := h2
    exact ⟨w, rfl, Dr.comp h h1 h3⟩
theorem OR.comp (h : ∀ i ∈ σ, i < α.length) : ∀ {a b c : MO}, OR σ a b → OR α b c → OR (cmp σ α) a c
  | .lst _, _, _, ⟨_, e, h1⟩, h2 => by subst e; obtain ⟨_, rfl, h3⟩ := h2; exact ⟨_, rfl, Drs.comp h h1 h3⟩
  | .dk _, _, _, ⟨_, e, h1⟩, h2 => by subst e; obtain ⟨_, rfl, h3⟩ := h2; exact ⟨_, rfl, KR.comp h h1 h3⟩
  | .dt _, _, _, ⟨_, e, h1⟩, h2 => by subst e; obtain ⟨_, rfl, h3⟩ := h2; exact ⟨_, rfl, KR.comp h h1 h3⟩
  | .fk _, _, _, ⟨_, e, h1⟩, h2 => by subst e; obtain ⟨_, rfl, h3⟩ := h2; exact ⟨_, rfl, KR.comp h h1 h3⟩
  | .ft _, _, _, ⟨_, e, h1⟩, h2 => by subst e; obtain ⟨_, rfl, h3⟩ := h2; exact ⟨_, rfl, KR.comp h h1 h3⟩
  | .dn _, _, _, ⟨_, e, h1⟩, h2 => by subst e; obtain ⟨_, rfl, h3⟩ := h2; exact ⟨_, rfl, KR.comp h h1 h3⟩
  | .fn _, _, _, ⟨_, e, h1⟩, h2 => by subst e; obtain ⟨_, rfl, h3⟩ := h2; exact ⟨_, rfl, KR.comp h h1 h3⟩
  | .ins _ _, _, _, ⟨_, e, h1⟩, h2 => by subst e; obtain ⟨_, rfl, h3⟩ := h2; exact ⟨_, rfl, KR.comp h h1 h3⟩
  | .exc _ _, _, _, .inl e, _ => .inl e
  | .exc c f, _, _, .inr ⟨F, e, h1⟩, h2 => by
    subst e
    rcases h2 with z | ⟨G, rfl, h3⟩
    · exact .inl z
    · exact .inr ⟨G, rfl, XR.comp h h1 h3⟩
theorem MR.lt (r : MR α m M) : ∀ i ∈ α, i < M.length := fun i hi => by
  obtain ⟨n, hn⟩ := List.mem_iff_getElem?.mp hi
  obtain ⟨_, _, _, h, _⟩ := r.has hn
  exact (List.getElem?_eq_some_iff.mp h).1
theorem MR.comp (r1 : MR σ m' m) (r2 : MR α m M) : MR (cmp σ α) m' M := by
  have h : ∀ i ∈ σ, i < α.length := fun i hi => by rw [r2.len]; exact r1.lt i hi
  refine ⟨by unfold cmp; rw [List.length_map]; exact r1.len, ?_, fun n o a h1 h2 => ?_⟩
  · unfold cmp
    refine List.pairwise_map.mpr (r1.nd.imp_of_mem fun {a b} ha hb ne e => ne ?_)
    have la := h a ha
    have lb := h b hb
    rw [List.getElem?_eq_getElem la, List.getElem?_eq_getElem lb] at e
    exact nd_ix2 r2.nd (List.getElem?_eq_getElem la) (by rw [List.getElem?_eq_getElem lb]; exact congrArg some e.symm)
  · have hn : n < σ.length := by rw [r1.len]; exact (List.getElem?_eq_some_iff.mp h1).1
    obtain ⟨x, h3, h4⟩ := cmp_get h (List.getElem?_eq_getElem hn)
    rw [h2] at h4; cases h4
    obtain ⟨O, h5, h6⟩ := r1.at h1 (List.getElem?_eq_getElem hn)
    obtain ⟨P, h7, h8⟩ := r2.at h5 h3
    exact ⟨P, h7, OR.comp h h6 h8⟩
theorem SlR.comp {s' s S : Sl} (h : ∀ i ∈ σ, i < α.length) (h1 : SlR σ s' s) (h2 : SlR α s S) : SlR (cmp σ α) s' S := ⟨h1.1.trans h2.1, fun i d e => by
  obtain ⟨v, e1, r1⟩ := h1.2 i d e
  obtain ⟨w, e2, r2⟩ := h2.2 i v e1
  exact ⟨w, e2, Dr.comp h r1 r2⟩⟩
end
structure TR (α : List Nat) (m M : Mem) : Prop where
  r : MR α m M
  t : Town M
  a1 : α[1]? = some 1
  a2 : α[2]? = some 2
  h1 : m[1]? = some hole
  h2 : m[2]? = some hole
theorem TR.ext {α α' : List Nat} {m M m' M' : Mem} (t : TR α m M) (e : Ext α m M α' m' M') : TR α' m' M' := by
  have nl : ∀ (i : Nat), α[i]? = some i → m[i]? = some hole → ¬ Live α m i := fun i hi hh ⟨j, o, e1, e2, e3⟩ => by
    have := nd_ix2 t.r.nd hi e1
    subst this
    rw [hh] at e2; cases e2; exact e3 rfl
  obtain ⟨k, cells, c1, c2, c3⟩ := t.t.ex
  have l2 := t.t.lt
  exact ⟨e.mr, ⟨k, cells, by rw [e.fx 2 l2 (nl 2 t.a2 t.h2)]; exact c1, by rw [e.fx 1 (by omega) (nl 1 t.a1 t.h1)]; exact c2, c3⟩, e.pre.get t.a1, e.pre.get t.a2, e.hl 1 t.h1, e.hl 2 t.h2⟩
theorem TR.step {α : List Nat} {m M M' : Mem} (t : TR α m M) (t' : Town M') (f : Fr [1, 2] M M') : TR α m M' := by
  refine ⟨⟨t.r.len, t.r.nd, fun n o a h1 h2 => ?_⟩, t', t.a1, t.a2, t.h1, t.h2⟩
  obtain ⟨O, h3, h4⟩ := t.r.at h1 h2
  have hl := (List.getElem?_eq_some_iff.mp h3).1
  by_cases c : a = 1 ∨ a = 2
  · have key : ∀ i, α[i]? = some i → m[i]? = some hole → a = i → ∃ O, M'[a]? = some O ∧ OR α o O := fun i ha hh e => by
      subst e
      have := nd_ix2 t.r.nd h2 ha
      subst this
      rw [hh] at h1; cases h1
      have : n < M'.length := Nat.lt_of_lt_of_le hl f.len
      exact ⟨_, List.getElem?_eq_getElem this, .inl rfl⟩
    rcases c with c | c
    · exact key 1 t.a1 t.h1 c
    · exact key 2 t.a2 t.h2 c
  · exact ⟨O, f.get h3 (by simp only [List.mem_cons, List.not_mem_nil, or_false]; exact c), h4⟩
theorem TR.drop {σ α : List Nat} {m' m M : Mem} (t : TR α m M) (r : MR σ m' m) (s1 : σ[1]? = some 1) (s2 : σ[2]? = some 2) (g1 : m'[1]? = some hole) (g2 : m'[2]? = some hole) : TR (cmp σ α) m' M := by
  have h : ∀ i ∈ σ, i < α.length := fun i hi => by rw [t.r.len]; exact r.lt i hi
  obtain ⟨a, e1, e2⟩ := cmp_get h s1
  obtain ⟨b, e3, e4⟩ := cmp_get h s2
  rw [t.a1] at e1; cases e1
  rw [t.a2] at e3; cases e3
  exact ⟨r.comp t.r, t.t, e2, e4, g1, g2⟩
def UpT (q : Po) : Po where
  n := fun S M => ∃ α s m, TR α m M ∧ SlR α s S ∧ q.n s m
  b := fun S M => ∃ α s m, TR α m M ∧ SlR α s S ∧ q.b s m
  c := fun S M => ∃ α s m, TR α m M ∧ SlR α s S ∧ q.c s m
  r := fun D M => ∃ α d m, TR α m M ∧ Dr α d D ∧ q.r d m
def GT (q : Po) (t : SF) (s : Sl) (m : Mem) : Prop := ∀ α M S, TR α m M → SlR α s S → (UpT q).of (t S M)
section
variable {q : Po} {t u : SF} {s : Sl} {m : Mem}
theorem gt_run [EqS t] (h : q.of (t s m)) (hx : q.x = fun _ _ _ _ => False := by rfl) : GT q t s m := fun α M S tr sl => by
  have z := EqS.h (e := t) tr.r sl
  cases e : t s m with
  | nx s1 m1 =>
    rw [e] at z h
    obtain ⟨S1, M1, α1, e1, x1, sl1⟩ := z
    rw [e1]
    exact ⟨α1, s1, m1, tr.ext x1, sl1, h⟩
  | bk s1 m1 =>
    rw [e] at z h
    obtain ⟨S1, M1, α1, e1, x1, sl1⟩ := z
    rw [e1]
    exact ⟨α1, s1, m1, tr.ext x1, sl1, h⟩
  | ct s1 m1 =>
    rw [e] at z h
    obtain ⟨S1, M1, α1, e1, x1, sl1⟩ := z
    rw [e1]
    exact ⟨α1, s1, m1, tr.ext x1, sl1, h⟩
  | rt s1 m1 =>
    rw [e] at z h
    obtain ⟨S1, M1, α1, e1, x1, sl1⟩ := z
    rw [e1]
    exact ⟨α1, s1, m1, tr.ext x1, sl1, h⟩
  | exc c f s1 m1 =>
    rw [e] at h
    have h : q.x c f s1 m1 := h
    rw [hx] at h
    exact h.elim
  | bad => rw [e] at h; exact h.elim
theorem gt_seq (h : GT { q with n := fun s' m' => GT q u s' m' } t s m) : GT q (sSeq t u) s m := fun α M S tr sl => by
  have z := h α M S tr sl
  rw [sSeq_ap]
  cases e : t S M with
  | nx S1 M1 =>
    rw [e] at z
    obtain ⟨α1, s1, m1, tr1, sl1, z⟩ := z
    exact z α1 M1 S1 tr1 sl1
  | bk S1 M1 => rw [e] at z; exact z
  | ct S1 M1 => rw [e] at z; exact z
  | rt S1 M1 => rw [e] at z; exact z
  | exc c f S1 M1 => rw [e] at z; exact z.elim
  | bad => rw [e] at z; exact z.elim
theorem seq_assoc {a b c : SF} : sSeq a (sSeq b c) = sSeq (sSeq a b) c := by
  funext s M
  rw [sSeq_ap, sSeq_ap, sSeq_ap]
  cases a s M <;> rfl
theorem gt_pick {i a n : Nat} {lit : EF} {m1 : Mem} {ds : List D} {gd : List D → List D → List D} [EqE lit] (hg : gd = fun xs _ => xs) (hs : s[a]? = some (some (.ref 2))) (hl : lit s m = .ok (.ref n) m1) (hd : listAt m1 n = some ds) (h0 : 0 < ds.length ∧ ds.length < 1000000)
    (h : ∀ d ∈ ds, q.n (s.set i (some d)) m1) : GT q (sSet i (dCall 2 0 S__law_pick gd (dCons (dVar a) (dCons lit dNil)) dNil)) s m := fun α M S tr sl => by
  subst hg
  obtain ⟨V, e1, r1⟩ := sl.2 a _ hs
  obtain ⟨x, hx, rfl⟩ := r1.ref
  rw [tr.a2] at hx; cases hx
  have z := EqE.h (e := lit) tr.r sl
  rw [hl] at z
  obtain ⟨L, M1, α1, el, x1, rl⟩ := z
  obtain ⟨y, hy, rfl⟩ := rl.ref
  have tr1 := tr.ext x1
  obtain ⟨Ds, d1, d2, d3⟩ := listAt_r tr1.r hd hy
  have ne : y ≠ 1 ∧ y ≠ 2 := by
    constructor
    · rintro rfl
      have := nd_ix2 tr1.r.nd hy tr1.a1
      subst this
      rw [tr1.h1] at d3; cases d3
    · rintro rfl
      have := nd_ix2 tr1.r.nd hy tr1.a2
      subst this
      rw [tr1.h2] at d3; cases d3
  obtain ⟨D', hD, M', e2, t', f, l⟩ := sp_pick tr1.t d1 ne (by rw [← d2.length]; exact h0.1) (by rw [← d2.length]; exact h0.2)
  obtain ⟨j, hj⟩ := List.mem_iff_getElem?.mp hD
  have hj2 : j < ds.length := by rw [d2.length]; exact (List.getElem?_eq_some_iff.mp hj).1
  obtain ⟨v, g1, g2⟩ := d2.at (List.getElem?_eq_getElem hj2)
  rw [hj] at g1; cases g1
  have e3 : sSet i (dCall 2 0 S__law_pick (fun xs _ => xs) (dCons (dVar a) (dCons lit dNil)) dNil) S M = .nx (S.set i (some D')) M' := by
    simp [e1, el, e2]
  rw [e3]
  exact ⟨α1, _, m1, tr1.step t' f, (sl.up x1.pre).set i g2, h _ (List.getElem_mem hj2)⟩
theorem gt_for0 {x : Nat} {k : Int} {a : AF} {body : SF} (P : Nat → Sl → Mem → Prop) (he : a = dCons (dC (.int k)) dNil) (k0 : 0 ≤ k) (k1 : k < 2 ^ 62) (h0 : P 0 s m)
    (hs : ∀ (i : Nat) s m, (i : Int) < k → P i s m → s[x]? = some none ∧ GT { n := P (i + 1), c := P (i + 1), b := q.n, r := q.r } body s m) (hk : ∀ s m, P k.toNat s m → q.n s m) :
    GT q (sFor (iRng1 a) (gN x) body) s m := fun α M S tr sl => by
  subst he
  refine end_forR (j := k) (q := UpT q) (fun i S M => ∃ α s m, TR α m M ∧ SlR α s S ∧ P i s m) rfl k0 k1 ⟨α, s, m, tr, sl, h0⟩ (fun i S M hi ⟨α, s, m, tr, sl, hp⟩ => ⟨_, _, rfl, ?_⟩) fun S M ⟨α, s, m, tr, sl, hp⟩ => ⟨α, s, m, tr, sl, hk s m hp⟩
  obtain ⟨hx, z⟩ := hs i s m hi hp
  refine z α M _ tr ⟨by rw [List.length_set]; exact sl.1, fun j d e => ?_⟩
  by_cases c : x = j
  · subst c
    rw [hx] at e; cases e
  · rw [List.getElem?_set_ne c]
    exact sl.2 j d e
end
def SR.isN : SR → Bool
  | .nx _ _ => true
  | _ => false
def SR.sl : SR → Sl
  | .nx s _ => s
  | _ => []
def SR.me : SR → Mem
  | .nx _ m => m
  | .rt _ m => m
  | _ => []
def isRef2 : Option (Option D) → Bool
  | some (some (.ref 2)) => true
  | _ => false
theorem isRef2_ok {o : Option (Option D)} (h : isRef2 o = true) : o = some (some (.ref 2)) := by
  unfold isRef2 at h
  split at h
  · rfl
  · cases h
def SR.isT : SR → Bool
  | .rt (.bl true) _ => true
  | _ => false
section
variable {q : Po} {t u : SF} {s : Sl} {m : Mem}
theorem gt_n [EqS t] (h : (t s m).isN = true) (k : q.n (t s m).sl (t s m).me) (hx : q.x = fun _ _ _ _ => False := by rfl) : GT q t s m := gt_run (by
  cases e : t s m with
  | nx s m => rw [e] at k; exact k
  | _ => rw [e] at h; cases h) hx
theorem gt_t [EqS t] (h : (t s m).isT = true) (k : ∀ M, q.r (.bl true) M) (hx : q.x = fun _ _ _ _ => False := by rfl) : GT q t s m := gt_run (by
  unfold SR.isT at h
  split at h
  · rename_i m1 e; rw [e]; exact k m1
  · cases h) hx
end
def sl0 (a n : Nat) : Sl := (List.replicate n none).set a (some (.ref 2))
def mem0 : Mem := [hole, hole, hole]
theorem law_of {n : Nat} {ns : List Int} {rest : SF} {f : SF} {S : List D → Mem → Res D} (hS : S = fun ds M => match decide (ds.length = 1) with
  | true => (f (startD n ds) M).fin
  | false => .bad) (hf : f = sSeq (sSet 1 (dCall 1 0 S__law_town (fun xs _ => xs) (dCons (dVar 0) dNil) dNil)) rest) (hn : 2 ≤ n) (hl : ns.length ≤ 63) (h : GT { n := fun _ _ => False, r := fun d _ => d = .bl true } rest (sl0 1 n) mem0) : ∃ M, S [.rol (ns.map .int)] [] = .ok (.bl true) M := by
  obtain ⟨M0, e0, t0, l0⟩ := sp_town ns hl
  subst hS hf
  have tr : TR [0, 1, 2] mem0 M0 := by
    refine ⟨⟨rfl, by decide, fun i o b e1 e2 => ?_⟩, t0, rfl, rfl, rfl, rfl⟩
    have hi : i < 3 := (List.getElem?_eq_some_iff.mp e1).1
    have key : o = hole ∧ b < M0.length := by
      match i, hi with
      | 0, _ => cases e1; cases e2; exact ⟨rfl, by omega⟩
      | 1, _ => cases e1; cases e2; exact ⟨rfl, by omega⟩
      | 2, _ => cases e1; cases e2; exact ⟨rfl, by omega⟩
    obtain ⟨rfl, hb⟩ := key
    exact ⟨_, List.getElem?_eq_getElem hb, .inl rfl⟩
  generalize hS : (startD n [.rol (ns.map .int)]).set 1 (some (.ref 2)) = S1
  have e1 : S1[1]? = some (some (.ref 2)) := by
    rw [← hS, List.getElem?_set_self (by simp [startD]; omega)]
  have sl : SlR [0, 1, 2] (sl0 1 n) S1 := by
    refine ⟨by rw [← hS]; simp [sl0, startD]; omega, fun i d e => ?_⟩
    unfold sl0 at e
    by_cases c : 1 = i
    · subst c
      rw [List.getElem?_set_self (by simp; omega)] at e
      cases e
      exact ⟨_, e1, dr_ref rfl⟩
    · rw [List.getElem?_set_ne c, List.getElem?_replicate] at e
      split at e <;> cases e
  have z := h _ M0 S1 tr sl
  have es : (startD n [D.rol (ns.map .int)])[0]? = some (some (.rol (ns.map .int))) := by simp [startD]
  have e2 : sSet 1 (dCall 1 0 S__law_town (fun xs _ => xs) (dCons (dVar 0) dNil) dNil) (startD n [.rol (ns.map .int)]) [] = .nx S1 M0 := by
    simp [es, e0, hS]
  show ∃ M, (sSeq (sSet 1 (dCall 1 0 S__law_town (fun xs _ => xs) (dCons (dVar 0) dNil) dNil)) rest (startD n [.rol (ns.map .int)]) []).fin = .ok (.bl true) M
  rw [sSeq_ap, e2, seq_nx]
  cases e : rest S1 M0 with
  | rt d M =>
    rw [e] at z
    obtain ⟨α, d', m', _, hd, rfl⟩ := z
    rw [hd.bl]
    exact ⟨M, rfl⟩
  | nx s M => rw [e] at z; obtain ⟨_, _, _, _, _, z⟩ := z; exact z.elim
  | bk s M => rw [e] at z; obtain ⟨_, _, _, _, _, z⟩ := z; exact z.elim
  | ct s M => rw [e] at z; obtain ⟨_, _, _, _, _, z⟩ := z; exact z.elim
  | exc c f s M => rw [e] at z; exact z.elim
  | bad => rw [e] at z; exact z.elim
end Fl
namespace Fl
open PySem
open L2 (Key)
def Res.me {A : Type} : Res A → Mem
  | .ok _ m => m
  | _ => []
end Fl
namespace Fl
open PySem
open L2 (Key)
mutual
def D.sh (k : Nat) : D → D
  | .non => .non
  | .bl b => .bl b
  | .int i => .int i
  | .str s => .str s
  | .tup ds => .tup (D.shs k ds)
  | .rol ds => .rol (D.shs k ds)
  | .ref n => .ref (k + n)
def D.shs (k : Nat) : List D → List D
  | [] => []
  | d :: ds => d.sh k :: D.shs k ds
end
def kvSh {κ : Type} (k : Nat) (kvs : List (κ × D)) : List (κ × D) := kvs.map fun p => (p.1, p.2.sh k)
def MO.sh (k : Nat) : MO → MO
  | .lst ds => .lst (D.shs k ds)
  | .dk kvs => .dk (kvSh k kvs)
  | .dt kvs => .dt (kvSh k kvs)
  | .fk kvs => .fk (kvSh k kvs)
  | .ft kvs => .ft (kvSh k kvs)
  | .dn kvs => .dn (kvSh k kvs)
  | .fn kvs => .fn (kvSh k kvs)
  | .ins c fs => .ins c (kvSh k fs)
  | .exc c f => .exc c (f.map fun p => (p.1, p.2.sh k))
def shM (k : Nat) (m : Mem) : Mem := m.map (MO.sh k)
section
variable {α : List Nat} {k : Nat}
mutual
theorem dr_sh : ∀ {d v : D}, Dr α (d.sh k) v ↔ Dr (α.drop k) d v
  | .non, v => by unfold D.sh Dr; rfl
  | .bl _, v => by unfold D.sh Dr; rfl
  | .int _, v => by unfold D.sh Dr; rfl
  | .str _, v => by unfold D.sh Dr; rfl
  | .tup ds, v => by
    unfold D.sh Dr
    exact ⟨fun ⟨vs, e, h⟩ => ⟨vs, e, drs_sh.mp h⟩, fun ⟨vs, e, h⟩ => ⟨vs, e, drs_sh.mpr h⟩⟩
  | .rol ds, v => by
    unfold D.sh Dr
    exact ⟨fun ⟨vs, e, h⟩ => ⟨vs, e, drs_sh.mp h⟩, fun ⟨vs, e, h⟩ => ⟨vs, e, drs_sh.mpr h⟩⟩
  | .ref n, v => by
    unfold D.sh Dr
    rw [List.getElem?_drop]
theorem drs_sh : ∀ {ds vs : List D}, Drs α (D.shs k ds) vs ↔ Drs (α.drop k) ds vs
  | [], v => by unfold D.shs Drs; rfl
  | d :: ds, v => by
    unfold D.shs Drs
    exact ⟨fun ⟨x, xs, e, h, h'⟩ => ⟨x, xs, e, dr_sh.mp h, drs_sh.mp h'⟩, fun ⟨x, xs, e, h, h'⟩ => ⟨x, xs, e, dr_sh.mpr h, drs_sh.mpr h'⟩⟩
end
theorem kr_sh {κ : Type} : ∀ {a b : List (κ × D)}, KR α (kvSh k a) b ↔ KR (α.drop k) a b
  | [], b => ⟨fun h => by cases h; exact .nil, fun h => by cases h; exact .nil⟩
  | p :: a, b => by
    constructor
    · intro h
      cases h with
      | cons q t => exact .cons ⟨q.1, dr_sh.mp q.2⟩ (kr_sh.mp t)
    · intro h
      cases h with
      | cons q t => exact .cons ⟨q.1, dr_sh.mpr q.2⟩ (kr_sh.mpr t)
theorem xr_sh : ∀ {f F : Option (Nat × D)}, XR α (f.map fun p => (p.1, p.2.sh k)) F ↔ XR (α.drop k) f F
  | none, F => Iff.rfl
  | some p, F => ⟨fun ⟨v, e, h⟩ => ⟨v, e, dr_sh.mp h⟩, fun ⟨v, e, h⟩ => ⟨v, e, dr_sh.mpr h⟩⟩
theorem or_sh : ∀ {o O : MO}, OR α (o.sh k) O ↔ OR (α.drop k) o O
  | .lst _, _ => ⟨fun ⟨D, e, h⟩ => ⟨D, e, drs_sh.mp h⟩, fun ⟨D, e, h⟩ => ⟨D, e, drs_sh.mpr h⟩⟩
  | .dk _, _ => ⟨fun ⟨D, e, h⟩ => ⟨D, e, kr_sh.mp h⟩, fun ⟨D, e, h⟩ => ⟨D, e, kr_sh.mpr h⟩⟩
  | .dt _, _ => ⟨fun ⟨D, e, h⟩ => ⟨D, e, kr_sh.mp h⟩, fun ⟨D, e, h⟩ => ⟨D, e, kr_sh.mpr h⟩⟩
  | .fk _, _ => ⟨fun ⟨D, e, h⟩ => ⟨D, e, kr_sh.mp h⟩, fun ⟨D, e, h⟩ => ⟨D, e, kr_sh.mpr h⟩⟩
  | .ft _, _ => ⟨fun ⟨D, e, h⟩ => ⟨D, e, kr_sh.mp h⟩, fun ⟨D, e, h⟩ => ⟨D, e, kr_sh.mpr h⟩⟩
  | .dn _, _ => ⟨fun ⟨D, e, h⟩ => ⟨D, e, kr_sh.mp h⟩, fun ⟨D, e, h⟩ => ⟨D, e, kr_sh.mpr h⟩⟩
  | .fn _, _ => ⟨fun ⟨D, e, h⟩ => ⟨D, e, kr_sh.mp h⟩, fun ⟨D, e, h⟩ => ⟨D, e, kr_sh.mpr h⟩⟩
  | .ins _ _, _ => ⟨fun ⟨D, e, h⟩ => ⟨D, e, kr_sh.mp h⟩, fun ⟨D, e, h⟩ => ⟨D, e, kr_sh.mpr h⟩⟩
  | .exc _ _, _ => ⟨fun h => h.imp id fun ⟨F, e, h⟩ => ⟨F, e, xr_sh.mp h⟩, fun h => h.imp id fun ⟨F, e, h⟩ => ⟨F, e, xr_sh.mpr h⟩⟩
theorem sh_hole {o : MO} (h : o.sh k = hole) : o = hole := by
  cases o with
  | exc c f =>
    cases f with
    | none => exact h
    | some p => simp [MO.sh, hole] at h
  | _ => simp [MO.sh, hole] at h
theorem shM_get {m : Mem} {n : Nat} : (shM k m)[n]? = m[n]?.map (MO.sh k) := by unfold shM; rw [List.getElem?_map]
theorem shM_len {m : Mem} : (shM k m).length = m.length := by unfold shM; rw [List.length_map]
end
section
variable {α α1 : List Nat} {pre m0 m1 M M' : Mem}
theorem mr_sub (r : MR α (pre ++ shM pre.length m0) M) : MR (α.drop pre.length) m0 M := by
  refine ⟨by rw [List.length_drop, r.len, List.length_append, shM_len]; omega, r.nd.sublist (List.drop_sublist _ _), fun n o a h1 h2 => ?_⟩
  rw [List.getElem?_drop] at h2
  obtain ⟨O, h3, h4⟩ := r.at (n := pre.length + n) (o := o.sh pre.length) (by rw [List.getElem?_append_right (by omega), Nat.add_sub_cancel_left, shM_get, h1]; rfl) h2
  exact ⟨O, h3, or_sh.mp h4⟩
theorem ext_sub (r : MR α (pre ++ shM pre.length m0) M) (e : Ext (α.drop pre.length) m0 M α1 m1 M') : Ext α (pre ++ shM pre.length m0) M (α.take pre.length ++ α1) (pre ++ shM pre.length m1) M' := by
  obtain ⟨β, hb, hb2⟩ := e.ex
  have hk : pre.length ≤ α.length := by rw [r.len, List.length_append]; omega
  have ea : α.take pre.length ++ α1 = α ++ β := by rw [hb, ← List.append_assoc, List.take_append_drop]
  have lt : (α.take pre.length).length = pre.length := by rw [List.length_take]; omega
  have am : ∀ a ∈ α, a < M.length := r.lt
  have nd1 := e.mr.nd
  have edrop : (α ++ β).drop pre.length = α1 := by rw [hb, List.drop_append_of_le_length hk]
  refine ⟨⟨?_, ?_, fun n o a h1 h2 => ?_⟩, ⟨β, ea, hb2⟩, e.len, fun n hn hl => e.fx n hn fun ⟨i, o, h1, h2, h3⟩ => hl ⟨pre.length + i, o.sh pre.length, by rw [List.getElem?_drop] at h1; exact h1, by rw [List.getElem?_append_right (by omega), Nat.add_sub_cancel_left, shM_get, h2]; rfl, fun z => h3 (sh_hole z)⟩, fun i hi => ?_⟩
  · rw [List.length_append, List.length_append, lt, shM_len, e.mr.len]
  · rw [ea, List.nodup_append]
    refine ⟨r.nd, ?_, fun a ha b hb3 z => ?_⟩
    · rw [hb] at nd1; exact (List.nodup_append.mp nd1).2.1
    · have := am a ha
      have := hb2 b hb3
      omega
  · by_cases c : n < pre.length
    · rw [List.getElem?_append_left c] at h1
      have h3 : α[n]? = some a := by
        rw [ea] at h2
        rwa [List.getElem?_append_left (by omega)] at h2
      obtain ⟨O, h4, h5⟩ := r.at (n := n) (o := o) (by rw [List.getElem?_append_left c]; exact h1) h3
      refine ⟨O, ?_, h5.up ⟨β, ea⟩⟩
      rw [e.fx a (am a (List.mem_of_getElem? h3)) ?_]
      · exact h4
      · rintro ⟨i, _, h6, _, _⟩
        rw [List.getElem?_drop] at h6
        have := nd_ix2 r.nd h3 h6
        omega
    · rw [List.getElem?_append_right (by omega), shM_get] at h1
      rw [List.getElem?_append_right (by omega), lt] at h2
      cases e1 : m1[n - pre.length]? with
      | none => rw [e1] at h1; cases h1
      | some o1 =>
        rw [e1] at h1
        obtain rfl := Option.some.inj h1
        obtain ⟨O, h4, h5⟩ := e.mr.at e1 h2
        refine ⟨O, h4, or_sh.mpr ?_⟩
        rw [ea, edrop]
        exact h5
  · by_cases c : i < pre.length
    · rw [List.getElem?_append_left c] at hi ⊢; exact hi
    · rw [List.getElem?_append_right (by omega), shM_get] at hi ⊢
      cases e1 : m0[i - pre.length]? with
      | none => rw [e1] at hi; cases hi
      | some o1 =>
        rw [e1] at hi
        have := sh_hole (Option.some.inj hi)
        subst this
        rw [e.hl _ e1]; rfl
end
def RSt (S : List D → Mem → Res D) (ds : List D) (m : Mem) (v : D) (m1 : Mem) : Prop := ∀ {α : List Nat} {M : Mem} {Ds : List D}, MR α m M → Drs α ds Ds → ∃ V M' α', S Ds M = .ok V M' ∧ Ext α m M α' m1 M' ∧ Dr α' v V
section
variable {S : List D → Mem → Res D} {ds : List D} {m m1 m0 pre : Mem} {v : D}
theorem RSt.of [EqD S] (h : S ds m = .ok v m1) : RSt S ds m v m1 := fun r hd => by
  have z := EqD.h (S := S) r hd
  rw [h] at z
  exact z
theorem RSt.sub (h : RSt S ds m0 v m1) : RSt S (D.shs pre.length ds) (pre ++ shM pre.length m0) (v.sh pre.length) (pre ++ shM pre.length m1) := fun {α M Ds} r hd => by
  obtain ⟨V, M', α', e1, x1, r1⟩ := h (mr_sub r) (drs_sh.mp hd)
  have x := ext_sub r x1
  refine ⟨V, M', _, e1, x, dr_sh.mpr ?_⟩
  obtain ⟨β, hb, _⟩ := x1.ex
  have hk : pre.length ≤ α.length := by rw [r.len, List.length_append]; omega
  have ea : α.take pre.length ++ α' = α ++ β := by rw [hb, ← List.append_assoc, List.take_append_drop]
  rw [ea, List.drop_append_of_le_length hk, ← hb]
  exact r1
end
section
variable {α : List Nat}
mutual
theorem Dr.det : ∀ {d v w : D}, Dr α d v → Dr α d w → v = w
  | .non, _, _, a, b => by rw [a.non, b.non]
  | .bl _, _, _, a, b => by rw [a.bl, b.bl]
  | .int _, _, _, a, b => by rw [a.int, b.int]
  | .str _, _, _, a, b => by rw [a.str, b.str]
  | .tup ds, _, _, a, b => by
    obtain ⟨vs, rfl, h1⟩ := a.tup
    obtain ⟨ws, rfl, h2⟩ := b.tup
    rw [Drs.det h1 h2]
  | .rol ds, _, _, a, b => by
    obtain ⟨vs, rfl, h1⟩ := a.rol
    obtain ⟨ws, rfl, h2⟩ := b.rol
    rw [Drs.det h1 h2]
  | .ref n, _, _, a, b => by
    obtain ⟨i, h1, rfl⟩ := a.ref
    obtain ⟨x, h2, rfl⟩ := b.ref
    rw [h1] at h2; cases h2; rfl
theorem Drs.det : ∀ {d v w : List D}, Drs α d v → Drs α d w → v = w
  | [], _, _, a, b => by rw [a.nil_inv, b.nil_inv]
  | d :: ds, _, _, a, b => by
    obtain ⟨v, vs, rfl, h1, h2⟩ := a.cons_inv
    obtain ⟨w, ws, rfl, h3, h4⟩ := b.cons_inv
    rw [Dr.det h1 h3, Drs.det h2 h4]
end
theorem KR.det {κ : Type} : ∀ {a b c : List (κ × D)}, KR α a b → KR α a c → b = c
  | [], _, _, a, b => by cases a; cases b; rfl
  | p :: r, _, _, a, b => by
    cases a with
    | cons q t =>
      cases b with
      | cons q' t' =>
        rw [KR.det t t']
        congr 1
        exact Prod.ext (q.1.symm.trans q'.1) (Dr.det q.2 q'.2)
def MO.isX : MO → Bool
  | .exc _ _ => true
  | _ => false
theorem OR.det : ∀ {o O P : MO}, o.isX = false → OR α o O → OR α o P → O = P
  | .lst _, _, _, _, ⟨_, e, h⟩, ⟨_, e', h'⟩ => by subst e e'; rw [h.det h']
  | .dk _, _, _, _, ⟨_, e, h⟩, ⟨_, e', h'⟩ => by subst e e'; rw [h.det h']
  | .dt _, _, _, _, ⟨_, e, h⟩, ⟨_, e', h'⟩ => by subst e e'; rw [h.det h']
  | .fk _, _, _, _, ⟨_, e, h⟩, ⟨_, e', h'⟩ => by subst e e'; rw [h.det h']
  | .ft _, _, _, _, ⟨_, e, h⟩, ⟨_, e', h'⟩ => by subst e e'; rw [h.det h']
  | .dn _, _, _, _, ⟨_, e, h⟩, ⟨_, e', h'⟩ => by subst e e'; rw [h.det h']
  | .fn _, _, _, _, ⟨_, e, h⟩, ⟨_, e', h'⟩ => by subst e e'; rw [h.det h']
  | .ins _ _, _, _, _, ⟨_, e, h⟩, ⟨_, e', h'⟩ => by subst e e'; rw [h.det h']
end
end Fl
namespace Fl
open PySem
open L2 (Key)
section
variable {α : List Nat} {m M m' : Mem}
theorem intOf_r : ∀ (d v : D) (k : Int), Dr α d v → intOf d = some k → intOf v = some k := fun d v k h e => by
  cases d with
  | int i => rw [h.int]; exact e
  | _ => cases e
theorem nrOf_r : ∀ (d v : D) (k : List Int), Dr α d v → nrOf d = some k → nrOf v = some k := fun d v k h e => by
  cases d with
  | tup ds =>
    obtain ⟨vs, rfl, h2⟩ := h.tup
    cases ds with
    | nil => cases e
    | cons d ds =>
      obtain ⟨x, xs, rfl, _, _⟩ := h2.cons_inv
      exact allSome_r (fun d v b => intOf_r d v b) h2 e
  | _ => cases e
theorem nkOf_r : ∀ (d v : D) (k : NK), Dr α d v → nkOf d = some k → nkOf v = some k := fun d v k h e => by
  cases d with
  | tup ds =>
    obtain ⟨vs, rfl, h2⟩ := h.tup
    cases ds with
    | nil => cases e
    | cons d ds =>
      obtain ⟨x, xs, rfl, _, _⟩ := h2.cons_inv
      exact allSome_r (fun d v b => nrOf_r d v b) h2 e
  | _ => cases e
theorem dr_ints {l : List Int} : Drs α (l.map D.int) (l.map D.int) := by
  induction l with
  | nil => exact drs_nil
  | cons a l ih => exact drs_cons dr_int ih
theorem dr_rows {k : NK} : Drs α (k.map fun r => D.tup (r.map .int)) (k.map fun r => D.tup (r.map .int)) := by
  induction k with
  | nil => exact drs_nil
  | cons a l ih => exact drs_cons (dr_tup dr_ints) ih
theorem dr_nD {k : NK} : Dr α (nD k) (nD k) := dr_tup dr_rows
theorem isN_r (r : MR α m M) {d v : D} (hd : Dr α d v) (h : isN m d = true) : isN M v = true := by
  cases d with
  | ref j =>
    obtain ⟨a, ha, rfl⟩ := hd.ref
    unfold isN at h ⊢
    dsimp only at h ⊢
    cases q : m[j]? with
    | none => rw [q] at h; cases h
    | some x =>
      rw [q] at h
      obtain ⟨X, h1, h2⟩ := r.at q ha
      cases x with
      | dn _ => obtain ⟨_, rfl, _⟩ := h2; rw [h1]
      | fn _ => obtain ⟨_, rfl, _⟩ := h2; rw [h1]
      | _ => cases h
  | _ => cases h
theorem lookN_r (r : MR α m M) {d v k K : D} {o : Option D} (hd : Dr α d v) (hk : Dr α k K) (h : lookN m d k = some o) : ∃ O, lookN M v K = some O ∧ ODr α o O := by
  cases d with
  | ref n =>
    obtain ⟨a, ha, rfl⟩ := hd.ref
    have h : nLook m n k = some o := h
    unfold nLook at h
    have key : ∀ (ks Ks : List (NK × D)), KR α ks Ks → (nkOf k).map (look ks) = some o → ∃ O, (nkOf K).map (look Ks) = some O ∧ ODr α o O := fun ks Ks hK e => by
      cases q : nkOf k with
      | none => rw [q] at e; cases e
      | some z => rw [q] at e; cases e; rw [nkOf_r _ _ _ hk q]; exact ⟨_, rfl, look_r hK z⟩
    cases q : m[n]? with
    | none => rw [q] at h; cases h
    | some x =>
      rw [q] at h
      obtain ⟨O, h1, h2⟩ := r.at q ha
      cases x with
      | dn ks => obtain ⟨Ks, rfl, hK⟩ := h2; obtain ⟨O, e1, e2⟩ := key ks Ks hK h; exact ⟨O, by show nLook M a K = _; unfold nLook; rw [h1]; exact e1, e2⟩
      | fn ks => obtain ⟨Ks, rfl, hK⟩ := h2; obtain ⟨O, e1, e2⟩ := key ks Ks hK h; exact ⟨O, by show nLook M a K = _; unfold nLook; rw [h1]; exact e1, e2⟩
      | _ => cases h
  | _ => cases h
theorem setN_r (r : MR α m M) {o O i I v V : D} (ho : Dr α o O) (hi : Dr α i I) (hv : Dr α v V) (h : setN m o i v = some m') : ∃ M', setN M O I V = some M' ∧ Ext α m M α m' M' := by
  cases o with
  | ref n =>
    obtain ⟨a, ha, rfl⟩ := ho.ref
    unfold setN at h
    dsimp only at h
    cases q : m[n]? with
    | none => rw [q] at h; cases h
    | some x =>
      rw [q] at h
      obtain ⟨X, h1, h2⟩ := r.at q ha
      cases x with
      | dn ks =>
        obtain ⟨Ks, rfl, hK⟩ := h2
        dsimp only at h
        cases q2 : nkOf i with
        | none => rw [q2] at h; cases h
        | some z =>
          rw [q2] at h
          cases q3 : decide (ks.length < sizeLine) with
          | false => rw [q3] at h; cases h
          | true =>
            rw [q3] at h
            cases h
            exact ⟨M.set a (.dn (put Ks z V)), by unfold setN; simp only [h1, ← hK.length, q3, nkOf_r _ _ _ hi q2], (Ext.refl r).set r ha q dn_ne ⟨_, rfl, put_r hK z hv⟩⟩
      | _ => cases h
  | _ => cases h
end
instance : EqE dNewN := ⟨fun r sl => .new r ⟨_, rfl, .nil⟩⟩
instance : Eq2 gIxN := ⟨fun {α m M x X y Y} r hx hy => by
  unfold gIxN
  cases q2 : lookN m x y with
  | none => trivial
  | some o =>
    obtain ⟨O, h3, h4⟩ := lookN_r r hx hy q2
    rw [h3]
    cases o with
    | none => trivial
    | some d => obtain ⟨u, rfl, h5⟩ := h4; exact .ok r h5⟩
instance {o k x : EF} [EqE o] [EqE k] [EqE x] : EqE (dGet2N o k x) := ⟨fun r sl => (EqE.h r sl).bind r fun x X α1 m1 M1 e1 h1 => by
  cases q : isN m1 x with
  | false => trivial
  | true =>
    rw [isN_r e1.mr h1 q]
    refine (EqE.h e1.mr (sl.up e1.pre)).bind e1.mr fun y Y α2 m2 M2 e2 h2 => (EqE.h e2.mr (sl.up (e1.pre.trans e2.pre))).bind e2.mr fun z Z α3 m3 M3 e3 h3 => ?_
    cases q2 : lookN m3 x y with
    | none => trivial
    | some o =>
      obtain ⟨O, h6, h4⟩ := lookN_r e3.mr (h1.up (e2.pre.trans e3.pre)) (h2.up e3.pre) q2
      rw [h6]
      cases o with
      | none => have h4 : O = none := h4; subst h4; exact .ok e3.mr h3
      | some d => obtain ⟨u, rfl, h5⟩ := h4; exact .ok e3.mr h5⟩
instance {o k x : EF} [EqE o] [EqE k] [EqE x] : EqE (dSetdN o k x) := ⟨fun r sl => (EqE.h r sl).bind r fun x X α1 m1 M1 e1 h1 => by
  cases q : isN m1 x with
  | false => trivial
  | true =>
    rw [isN_r e1.mr h1 q]
    refine (EqE.h e1.mr (sl.up e1.pre)).bind e1.mr fun y Y α2 m2 M2 e2 h2 => (EqE.h e2.mr (sl.up (e1.pre.trans e2.pre))).bind e2.mr fun z Z α3 m3 M3 e3 h3 => ?_
    have hx := h1.up (e2.pre.trans e3.pre)
    have hy := h2.up e3.pre
    cases q2 : lookN m3 x y with
    | none => trivial
    | some o =>
      obtain ⟨O, h6, h4⟩ := lookN_r e3.mr hx hy q2
      rw [h6]
      cases o with
      | none =>
        have h4 : O = none := h4
        subst h4
        dsimp only
        cases q3 : setN m3 x y z with
        | none => trivial
        | some m4 =>
          obtain ⟨M4, e4, e5⟩ := setN_r e3.mr hx hy h3 q3
          rw [e4]
          exact ⟨_, _, _, rfl, e5, h3⟩
      | some d => obtain ⟨u, rfl, h5⟩ := h4; exact .ok e3.mr h5⟩
instance {a b : EF} [EqE a] [EqE b] : EqG (gIxSetN a b) := ⟨fun {α m M s S d D} r sl h => by
  show RR SlR α m M ((a s m).bind _) ((a S M).bind _)
  refine (EqE.h r sl).bind r fun x X α1 m1 M1 e1 h1 => (EqE.h e1.mr (sl.up e1.pre)).bind e1.mr fun y Y α2 m2 M2 e2 h2 => ?_
  cases q : setN m2 x y d with
  | none => trivial
  | some m3 =>
    obtain ⟨M3, e3, e4⟩ := setN_r e2.mr (h1.up e2.pre) h2 (h.up (e1.pre.trans e2.pre)) q
    rw [e3]
    exact ⟨_, _, _, rfl, e4, sl.up (e1.pre.trans e2.pre)⟩⟩
theorem nxN_r {α : List Nat} {ks : List NK} {k : Nat} : RIr α (nxN ks, k) (nxN ks, k) := ⟨rfl, fun α' m M i p r => by
  unfold nxN
  dsimp only
  cases q : ks[i]? with
  | none => rfl
  | some x => exact ⟨_, rfl, dr_nD⟩⟩
instance {e : EF} [EqE e] : EqI (iKeysN e) := ⟨fun r sl => (EqE.h r sl).bind r fun x X α1 m1 M1 e1 h1 => by
  cases x with
  | ref n =>
    obtain ⟨a, ha, rfl⟩ := h1.ref
    dsimp only
    cases q : m1[n]? with
    | none => trivial
    | some o =>
      obtain ⟨O, h3, h4⟩ := e1.mr.at q ha
      rw [h3]
      cases o with
      | fn ks =>
        obtain ⟨Ks, rfl, hK⟩ := h4
        dsimp only
        rw [← hK.length, ← hK.keys]
        exact .ok e1.mr nxN_r
      | _ => trivial
  | _ => trivial⟩
section
variable {s : Sl} {M : Mem} {fo fk fx : EF} {x y d : D} {o i v : D}
@[simp] theorem dNewN_ap : dNewN s M = .ok (.ref M.length) (M ++ [.dn []]) := rfl
end
end Fl
namespace Fl
open PySem
open L2 (Key)
instance : EqD gSumT := ⟨fun {α m M x X} r hx => one_r (g := gSumT) (fun _ => rfl) (fun d _ _ _ => by cases d <;> rfl) (fun d v h1 => by
  cases d with
  | tup ds =>
    obtain ⟨Ds, rfl, h2⟩ := h1.tup
    show RR Dr α m M (match intsOf ds with | some ns => _ | none => _) (match intsOf Ds with | some ns => _ | none => _)
    cases q2 : intsOf ds with
    | none => trivial
    | some ns => rw [intsOf_r h2 q2]; exact .ok r dr_int
  | _ => trivial) hx⟩
end Fl
namespace Fl
open PySem
open L2 (Key)
theorem dcLT_r {x X : ItF} {g : GF} {tt : TF} {tk tv : EF} [EqG g] [EqT tt] [EqE tk] [EqE tv] : ∀ (k i : Nat) {α : List Nat} {m M : Mem} {s S : Sl} {acc Acc : List (List Key × D)}, RIr α (x, k) (X, k) → MR α m M → SlR α s S → KR α acc Acc → RR KR α m M (dcLT x g tt tk tv s k i acc m) (dcLT X g tt tk tv S k i Acc M)
  | 0, _, _, _, _, _, _, _, _, _, _, _, _ => trivial
  | k + 1, i, α, m, M, s, S, acc, Acc, hi, r, sl, ha => by
    have hk : RIr α (x, k) (X, k) := ⟨rfl, hi.2⟩
    unfold dcLT
    have z := hi.2 α m M i .refl r
    dsimp only at z
    cases q : x i m with
    | none => trivial
    | some o =>
      rw [q] at z
      cases o with
      | none =>
        rw [show X i M = some none from z]
        exact .ok r ha
      | some d =>
        obtain ⟨v, h1, h2⟩ := z
        rw [h1]
        refine (EqG.h r sl h2).noX.bind r fun t T α1 m1 M1 e1 h3 => (EqT.h e1.mr h3).noX.bind e1.mr fun b B α2 m2 M2 e2 h4 => ?_
        cases h4
        cases b with
        | true =>
          refine (EqE.h e2.mr (h3.up e2.pre)).noX.bind e2.mr fun y Y α3 m3 M3 e3 h5 => (EqE.h e3.mr (h3.up (e2.pre.trans e3.pre))).noX.bind e3.mr fun z Z α4 m4 M4 e4 h6 => ?_
          have p := ((e1.pre.trans e2.pre).trans e3.pre).trans e4.pre
          cases q2 : keysOf y with
          | none => trivial
          | some w =>
            rw [keysOf_r _ _ _ h5 q2]
            rw [← ha.length]
            cases decide (acc.length < sizeLine) with
            | true => exact dcLT_r k (i + 1) (hk.up p) e4.mr (sl.up p) (put_r (ha.up p) w h6)
            | false => trivial
        | false =>
          have p := e1.pre.trans e2.pre
          exact dcLT_r k (i + 1) (hk.up p) e2.mr (sl.up p) (ha.up p)
theorem dcL2_r {x X : ItF} {g g1 : GF} {tt tt1 : TF} {fj : IF} {tk tv : EF} {js : List Nat} [EqG g] [EqT tt] [EqI fj] [EqG g1] [EqT tt1] [EqE tk] [EqE tv] : ∀ (k i : Nat) {α : List Nat} {m M : Mem} {s S : Sl} {acc Acc : List (List Key × D)}, RIr α (x, k) (X, k) → MR α m M → SlR α s S → KR α acc Acc → RR KR α m M (dcL2 x g tt fj g1 tt1 tk tv js s k i acc m) (dcL2 X g tt fj g1 tt1 tk tv js S k i Acc M)
  | 0, _, _, _, _, _, _, _, _, _, _, _, _ => trivial
  | k + 1, i, α, m, M, s, S, acc, Acc, hi, r, sl, ha => by
    have hk : RIr α (x, k) (X, k) := ⟨rfl, hi.2⟩
    unfold dcL2
    have z := hi.2 α m M i .refl r
    dsimp only at z
    cases q : x i m with
    | none => trivial
    | some o =>
      rw [q] at z
      cases o with
      | none =>
        rw [show X i M = some none from z]
        exact .ok r ha
      | some d =>
        obtain ⟨v, h1, h2⟩ := z
        rw [h1]
        refine (EqG.h r sl h2).noX.bind r fun t T α1 m1 M1 e1 h3 => (EqT.h e1.mr h3).noX.bind e1.mr fun b B α2 m2 M2 e2 h4 => ?_
        cases h4
        cases b with
        | true =>
          refine (EqI.h e2.mr (h3.up e2.pre)).noX.bind e2.mr fun y Y α3 m3 M3 e3 h5 => ?_
          obtain ⟨y, ky⟩ := y
          obtain ⟨Y, kY⟩ := Y
          have e : ky = kY := h5.1
          subst e
          have p3 := (e1.pre.trans e2.pre).trans e3.pre
          refine (dcLT_r ky 0 h5 e3.mr (((h3.up e2.pre).up e3.pre).wipe js) (ha.up p3)).bind e3.mr fun a A α4 m4 M4 e4 h6 => ?_
          have p := p3.trans e4.pre
          exact dcL2_r k (i + 1) (hk.up p) e4.mr (sl.up p) h6
        | false =>
          have p := e1.pre.trans e2.pre
          exact dcL2_r k (i + 1) (hk.up p) e2.mr (sl.up p) (ha.up p)
instance {fi fj : IF} {g g1 : GF} {tt tt1 : TF} {tk tv : EF} {is js : List Nat} [EqI fi] [EqG g] [EqT tt] [EqI fj] [EqG g1] [EqT tt1] [EqE tk] [EqE tv] : EqE (dDc2 fi g tt fj g1 tt1 tk tv is js) := ⟨fun r sl => (EqI.h r sl).bind r fun x X α1 m1 M1 e1 h1 => by
  obtain ⟨x, k⟩ := x
  obtain ⟨X, K⟩ := X
  have e : k = K := h1.1
  subst e
  dsimp only
  exact (dcL2_r k 0 h1 e1.mr ((sl.up e1.pre).wipe is) .nil).bind e1.mr fun y Y α2 m2 M2 e2 h2 => .new e2.mr ⟨_, rfl, h2⟩⟩
instance {c : TF} {fo t : EF} [EqT c] [EqE fo] [EqE t] : EqE (dLockC c fo t) := ⟨fun {α m M s S} r sl => by
  have z := EqT.h (e := c) r sl
  unfold dLockC
  cases q : c s m with
  | ok b m1 =>
    rw [q] at z
    obtain ⟨B, M1, α1, e1, _, hb⟩ := z
    cases hb
    rw [e1]
    cases b with
    | true => exact EqE.h (e := dLock fo t) r sl
    | false => exact EqE.h (e := t) r sl
  | exc _ _ _ => trivial
  | bad => trivial⟩
end Fl
namespace Fl
open PySem
instance {c : TF} {fo : EF} {t : SF} [EqT c] [EqE fo] [EqS t] : EqS (sLockC c fo t) := ⟨fun {α m M s S} r sl => by
  have z := EqT.h (e := c) r sl
  unfold sLockC
  cases q : c s m with
  | ok b m1 =>
    rw [q] at z
    obtain ⟨B, M1, α1, e1, _, hb⟩ := z
    cases hb
    rw [e1]
    cases b with
    | true => exact EqS.h (e := sLock fo t) r sl
    | false => exact EqS.h (e := t) r sl
  | exc _ _ _ => trivial
  | bad => trivial⟩
end Fl
namespace Fl
open PySem
open L2 (Key)
theorem dr_key {α : List Nat} : ∀ {k : Key}, Dr α (kD k) (kD k)
  | .inl i => dr_int
  | .inr x => dr_str
theorem drs_key {α : List Nat} : ∀ {ks : List Key}, Drs α (ks.map kD) (ks.map kD)
  | [] => drs_nil
  | k :: ks => drs_cons dr_key drs_key
theorem drs_keyTs {α : List Nat} : ∀ {a b : List (List Key × D)}, KR α a b → Drs α (keyTs a) (keyTs b) ∧ keyTs b = keyTs a
  | [], b, h => by cases h; exact ⟨drs_nil, rfl⟩
  | p :: a, b, h => by
    cases h with
    | cons q t =>
      obtain ⟨h1, h2⟩ := drs_keyTs t
      unfold keyTs at h1 h2 ⊢
      rw [List.map_cons, List.map_cons, ← q.1, h2]
      refine ⟨drs_cons (dr_tup drs_key) ?_, rfl⟩
      rw [h2] at h1
      exact h1
instance : EqD gSortedT := ⟨fun {α m M x X} r hx => one_r (g := gSortedT) (fun _ => rfl) (fun d _ _ _ => by cases d <;> rfl) (fun d v h1 => by
  unfold gSortedT
  cases d with
  | ref n =>
    obtain ⟨a, ha, rfl⟩ := h1.ref
    dsimp only
    cases q2 : m[n]? with
    | none => trivial
    | some o =>
      obtain ⟨O, h3, h4⟩ := r.at q2 ha
      cases o with
      | dt ks =>
        obtain ⟨Ks, rfl, hK⟩ := h4
        obtain ⟨h5, h6⟩ := drs_keyTs hK
        rw [h3]
        dsimp only
        cases q3 : allSome (toPy m 8) (keyTs ks) with
        | none => trivial
        | some ps =>
          rw [toPys_r r h5 q3]
          dsimp only
          rw [← h5.length]
          cases sortOkB ps <;> cases decide ((keyTs ks).length ≤ sizeLine) <;> first | trivial | exact .new r ⟨_, rfl, sortP_r h5⟩
      | _ => trivial
  | _ => trivial) hx⟩
end Fl
namespace Fl
open PySem
open L2 (Key)
theorem lcI2_r {x X : ItF} {g g1 : GF} {tt tt1 : TF} {fj : IF} {te : EF} {js : List Nat} [EqG g] [EqT tt] [EqI fj] [EqG g1] [EqT tt1] [EqE te] : ∀ (k i : Nat) {α : List Nat} {m M : Mem} {s S : Sl}, RIr α (x, k) (X, k) → MR α m M → SlR α s S → RR (Rel0 (List Int)) α m M (lcI2 x g tt fj g1 tt1 te js s k i m) (lcI2 X g tt fj g1 tt1 te js S k i M)
  | 0, _, _, _, _, _, _, _, _, _ => trivial
  | k + 1, i, α, m, M, s, S, hi, r, sl => by
    have hk : RIr α (x, k) (X, k) := ⟨rfl, hi.2⟩
    unfold lcI2
    have z := hi.2 α m M i .refl r
    dsimp only at z
    cases q : x i m with
    | none => trivial
    | some o =>
      rw [q] at z
      cases o with
      | none =>
        rw [show X i M = some none from z]
        exact .ok r rfl
      | some d =>
        obtain ⟨v, h1, h2⟩ := z
        rw [h1]
        refine (EqG.h r sl h2).noX.bind r fun t T α1 m1 M1 e1 h3 => (EqT.h e1.mr h3).noX.bind e1.mr fun b B α2 m2 M2 e2 h4 => ?_
        cases h4
        cases b with
        | true =>
          refine (EqI.h e2.mr (h3.up e2.pre)).noX.bind e2.mr fun y Y α3 m3 M3 e3 h5 => ?_
          obtain ⟨y, ky⟩ := y
          obtain ⟨Y, kY⟩ := Y
          have e : ky = kY := h5.1
          subst e
          dsimp only
          cases decide (ky ≤ 62) with
          | true =>
            refine (lcI_r ky 0 h5 e3.mr (((h3.up e2.pre).up e3.pre).wipe js)).bind e3.mr fun a A α4 m4 M4 e4 h6 => ?_
            cases h6
            have p := ((e1.pre.trans e2.pre).trans e3.pre).trans e4.pre
            exact (lcI2_r k (i + 1) (hk.up p) e4.mr (sl.up p)).bind e4.mr fun ys Ys α5 m5 M5 e5 h7 => by cases h7; exact .ok e5.mr rfl
          | false => trivial
        | false =>
          have p := e1.pre.trans e2.pre
          exact lcI2_r k (i + 1) (hk.up p) e2.mr (sl.up p)
instance {fi fj : IF} {g g1 : GF} {tt tt1 : TF} {te : EF} {is js : List Nat} [EqI fi] [EqG g] [EqT tt] [EqI fj] [EqG g1] [EqT tt1] [EqE te] : EqE (dSortSc2 fi g tt fj g1 tt1 te is js) := ⟨fun r sl => (EqI.h r sl).bind r fun x X α1 m1 M1 e1 h1 => by
  obtain ⟨x, k⟩ := x
  obtain ⟨X, K⟩ := X
  have e : k = K := h1.1
  subst e
  dsimp only
  cases decide (k ≤ 62) with
  | true =>
    refine (lcI2_r k 0 h1 e1.mr ((sl.up e1.pre).wipe is)).bind e1.mr fun y Y α2 m2 M2 e2 h2 => ?_
    cases h2
    unfold finJ
    cases decide ((nubI y).length < 64) with
    | true => exact .new e2.mr ⟨_, rfl, drs_ints⟩
    | false => trivial
  | false => trivial⟩
end Fl
namespace Fl
open PySem
instance : EqS f_look_liars := by unfold f_look_liars; infer_instance
instance : EqD S_look_liars := eqD_of (f := f_look_liars) (n := 5) (k := 3) rfl
instance : EqS f_Board___init__ := by unfold f_Board___init__; infer_instance
instance : EqD S_Board___init__ := eqD_of (f := f_Board___init__) (n := 3) (k := 3) rfl
instance : EqS f_House___init__ := by unfold f_House___init__; infer_instance
instance : EqD S_House___init__ := eqD_of (f := f_House___init__) (n := 3) (k := 2) rfl
instance : EqS f_World___init__ := by unfold f_World___init__; infer_instance
instance : EqD S_World___init__ := eqD_of (f := f_World___init__) (n := 9) (k := 6) rfl
instance : EqS f_World_letters := by unfold f_World_letters; infer_instance
instance : EqD S_World_letters := eqD_of (f := f_World_letters) (n := 1) (k := 1) rfl
instance : EqS f_House_may_vote := by unfold f_House_may_vote; infer_instance
instance : EqD S_House_may_vote := eqD_of (f := f_House_may_vote) (n := 6) (k := 2) rfl
instance : EqS f_House_new_votes := by unfold f_House_new_votes; infer_instance
instance : EqD S_House_new_votes := eqD_of (f := f_House_new_votes) (n := 3) (k := 1) rfl
instance : EqS f_House_hear := by unfold f_House_hear; infer_instance
instance : EqD S_House_hear := eqD_of (f := f_House_hear) (n := 2) (k := 2) rfl
instance : EqS f_Board_sign := by unfold f_Board_sign; infer_instance
instance : EqD S_Board_sign := eqD_of (f := f_Board_sign) (n := 4) (k := 3) rfl
instance : EqS f_World_honest := by unfold f_World_honest; infer_instance
instance : EqD S_World_honest := eqD_of (f := f_World_honest) (n := 1) (k := 1) rfl
instance : EqS f_World_paper_to_all := by unfold f_World_paper_to_all; infer_instance
instance : EqD S_World_paper_to_all := eqD_of (f := f_World_paper_to_all) (n := 3) (k := 2) rfl
instance : EqS f_World_signed := by unfold f_World_signed; infer_instance
instance : EqD S_World_signed := eqD_of (f := f_World_signed) (n := 3) (k := 3) rfl
instance : EqS f_House_settle := by unfold f_House_settle; infer_instance
instance : EqD S_House_settle := eqD_of (f := f_House_settle) (n := 6) (k := 2) rfl
instance : EqS f_House_can_settle := by unfold f_House_can_settle; infer_instance
instance : EqD S_House_can_settle := eqD_of (f := f_House_can_settle) (n := 6) (k := 2) rfl
instance : EqS f_House_go_on := by unfold f_House_go_on; infer_instance
instance : EqD S_House_go_on := eqD_of (f := f_House_go_on) (n := 4) (k := 1) rfl
instance : EqS f_House_take := by unfold f_House_take; infer_instance
instance : EqD S_House_take := eqD_of (f := f_House_take) (n := 6) (k := 2) rfl
instance : EqS f_World_come := by unfold f_World_come; infer_instance
instance : EqD S_World_come := eqD_of (f := f_World_come) (n := 8) (k := 2) rfl
instance : EqS f_World_room := by unfold f_World_room; infer_instance
instance : EqD S_World_room := eqD_of (f := f_World_room) (n := 2) (k := 2) rfl
instance : EqS f_World_cheat := by unfold f_World_cheat; infer_instance
instance : EqD S_World_cheat := eqD_of (f := f_World_cheat) (n := 3) (k := 3) rfl
instance : EqS f_World_look_liar := by unfold f_World_look_liar; infer_instance
instance : EqD S_World_look_liar := eqD_of (f := f_World_look_liar) (n := 2) (k := 2) rfl
instance : EqS f_World_lie := by unfold f_World_lie; infer_instance
instance : EqD S_World_lie := eqD_of (f := f_World_lie) (n := 3) (k := 3) rfl
instance : EqS f_World_look_purse := by unfold f_World_look_purse; infer_instance
instance : EqD S_World_look_purse := eqD_of (f := f_World_look_purse) (n := 2) (k := 2) rfl
instance : EqS f_World_next_number := by unfold f_World_next_number; infer_instance
instance : EqD S_World_next_number := eqD_of (f := f_World_next_number) (n := 3) (k := 2) rfl
instance : EqS f_World_order_to_all := by unfold f_World_order_to_all; infer_instance
instance : EqD S_World_order_to_all := eqD_of (f := f_World_order_to_all) (n := 3) (k := 2) rfl
instance : EqS f_Board_is_paper := by unfold f_Board_is_paper; infer_instance
instance : EqD S_Board_is_paper := eqD_of (f := f_Board_is_paper) (n := 2) (k := 2) rfl
instance : EqS f_World_left_at := by unfold f_World_left_at; infer_instance
instance : EqD S_World_left_at := eqD_of (f := f_World_left_at) (n := 7) (k := 3) rfl
instance : EqS f_World_ask := by unfold f_World_ask; infer_instance
instance : EqD S_World_ask := eqD_of (f := f_World_ask) (n := 7) (k := 4) rfl
instance : EqS f_Board_votes_for := by unfold f_Board_votes_for; infer_instance
instance : EqD S_Board_votes_for := eqD_of (f := f_Board_votes_for) (n := 2) (k := 2) rfl
instance : EqS f_Board_paper := by unfold f_Board_paper; infer_instance
instance : EqD S_Board_paper := eqD_of (f := f_Board_paper) (n := 2) (k := 2) rfl
instance : EqS f_World_show := by unfold f_World_show; infer_instance
instance : EqD S_World_show := eqD_of (f := f_World_show) (n := 3) (k := 3) rfl
instance : EqS f_Board_papers := by unfold f_Board_papers; infer_instance
instance : EqD S_Board_papers := eqD_of (f := f_Board_papers) (n := 2) (k := 1) rfl
instance : EqS f_World_papers := by unfold f_World_papers; infer_instance
instance : EqD S_World_papers := eqD_of (f := f_World_papers) (n := 1) (k := 1) rfl
instance : EqS f_World_paper := by unfold f_World_paper; infer_instance
instance : EqD S_World_paper := eqD_of (f := f_World_paper) (n := 2) (k := 2) rfl
instance : EqS f_look_world := by unfold f_look_world; infer_instance
instance : EqD S_look_world := eqD_of (f := f_look_world) (n := 1) (k := 1) rfl
instance : EqS f_World_votes_for := by unfold f_World_votes_for; infer_instance
instance : EqD S_World_votes_for := eqD_of (f := f_World_votes_for) (n := 2) (k := 2) rfl
instance : EqS f_World_voted := by unfold f_World_voted; infer_instance
instance : EqD S_World_voted := eqD_of (f := f_World_voted) (n := 5) (k := 4) rfl
instance : EqS f_World_sums := by unfold f_World_sums; infer_instance
instance : EqD S_World_sums := eqD_of (f := f_World_sums) (n := 2) (k := 2) rfl
instance : EqS f_World_settled := by unfold f_World_settled; infer_instance
instance : EqD S_World_settled := eqD_of (f := f_World_settled) (n := 2) (k := 2) rfl
instance : EqS f_World_waits := by unfold f_World_waits; infer_instance
instance : EqD S_World_waits := eqD_of (f := f_World_waits) (n := 2) (k := 2) rfl
instance : EqS f_World_is_still := by unfold f_World_is_still; infer_instance
instance : EqD S_World_is_still := eqD_of (f := f_World_is_still) (n := 1) (k := 1) rfl
end Fl
namespace Fl
open PySem
instance : EqS f_seen_orders := by unfold f_seen_orders; infer_instance
instance : EqD S_seen_orders := eqD_of (f := f_seen_orders) (n := 5) (k := 1) rfl
instance : EqS f_false_owners := by unfold f_false_owners; infer_instance
instance : EqD S_false_owners := eqD_of (f := f_false_owners) (n := 4) (k := 1) rfl
end Fl
namespace Fl
open PySem
instance : EqS f__law_refusal := by unfold f__law_refusal; infer_instance
instance : EqD S__law_refusal := eqD_of (f := f__law_refusal) (n := 3) (k := 1) rfl
instance : EqS f_order_text := by unfold f_order_text; infer_instance
instance : EqD S_order_text := eqD_of (f := f_order_text) (n := 5) (k := 1) rfl
end Fl
namespace Fl
open PySem
instance : EqS f__law_some := by unfold f__law_some; infer_instance
instance : EqD S__law_some := eqD_of (f := f__law_some) (n := 5) (k := 3) rfl
instance : EqS f__law_world := by unfold f__law_world; infer_instance
instance : EqD S__law_world := eqD_of (f := f__law_world) (n := 8) (k := 1) rfl
instance : EqS f__law_letter := by unfold f__law_letter; infer_instance
instance : EqD S__law_letter := eqD_of (f := f__law_letter) (n := 3) (k := 2) rfl
instance : EqS f__law_order := by unfold f__law_order; infer_instance
instance : EqD S__law_order := eqD_of (f := f__law_order) (n := 5) (k := 3) rfl
instance : EqS f__law_told := by unfold f__law_told; infer_instance
instance : EqD S__law_told := eqD_of (f := f__law_told) (n := 8) (k := 5) rfl
instance : EqS f__law_go := by unfold f__law_go; infer_instance
instance : EqD S__law_go := eqD_of (f := f__law_go) (n := 15) (k := 3) rfl
end Fl
namespace Fl
open PySem
instance : EqS f__law_summed := by unfold f__law_summed; infer_instance
instance : EqD S__law_summed := eqD_of (f := f__law_summed) (n := 7) (k := 2) rfl
instance : EqS f_false_houses := by unfold f_false_houses; infer_instance
instance : EqD S_false_houses := eqD_of (f := f_false_houses) (n := 6) (k := 1) rfl
instance : EqS f_lost_nothing := by unfold f_lost_nothing; infer_instance
instance : EqD S_lost_nothing := eqD_of (f := f_lost_nothing) (n := 5) (k := 1) rfl
instance : EqS f__law_all_come := by unfold f__law_all_come; infer_instance
instance : EqD S__law_all_come := eqD_of (f := f__law_all_come) (n := 3) (k := 2) rfl
end Fl
namespace Fl
open PySem
instance : EqS f_Cutting___init__ := by unfold f_Cutting___init__; infer_instance
instance : EqD S_Cutting___init__ := eqD_of (f := f_Cutting___init__) (n := 2) (k := 2) rfl
instance : EqS f_House_state := by unfold f_House_state; infer_instance
instance : EqD S_House_state := eqD_of (f := f_House_state) (n := 1) (k := 1) rfl
instance : EqS f_cut_of := by unfold f_cut_of; infer_instance
instance : EqD S_cut_of := eqD_of (f := f_cut_of) (n := 2) (k := 2) rfl
instance : EqS f_Cutting_add := by unfold f_Cutting_add; infer_instance
instance : EqD S_Cutting_add := eqD_of (f := f_Cutting_add) (n := 4) (k := 3) rfl
instance : EqS f_Cutting_sign := by unfold f_Cutting_sign; infer_instance
instance : EqD S_Cutting_sign := eqD_of (f := f_Cutting_sign) (n := 3) (k := 2) rfl
instance : EqS f_is_cut := by unfold f_is_cut; infer_instance
instance : EqD S_is_cut := eqD_of (f := f_is_cut) (n := 7) (k := 2) rfl
instance : EqS f_Cutting_lie := by unfold f_Cutting_lie; infer_instance
instance : EqD S_Cutting_lie := eqD_of (f := f_Cutting_lie) (n := 3) (k := 3) rfl
instance : EqS f_Cutting_signers_of := by unfold f_Cutting_signers_of; infer_instance
instance : EqD S_Cutting_signers_of := eqD_of (f := f_Cutting_signers_of) (n := 2) (k := 2) rfl
instance : EqS f_Cutting_good := by unfold f_Cutting_good; infer_instance
instance : EqD S_Cutting_good := eqD_of (f := f_Cutting_good) (n := 3) (k := 1) rfl
instance : EqS f_is_behind := by unfold f_is_behind; infer_instance
instance : EqD S_is_behind := eqD_of (f := f_is_behind) (n := 4) (k := 2) rfl
instance : EqS f_House_load := by unfold f_House_load; infer_instance
instance : EqD S_House_load := eqD_of (f := f_House_load) (n := 4) (k := 3) rfl
instance : EqS f_Cutting_take := by unfold f_Cutting_take; infer_instance
instance : EqD S_Cutting_take := eqD_of (f := f_Cutting_take) (n := 9) (k := 3) rfl
end Fl
namespace Fl
open PySem
instance : EqS f_stuck_purses := by unfold f_stuck_purses; infer_instance
instance : EqD S_stuck_purses := eqD_of (f := f_stuck_purses) (n := 12) (k := 1) rfl
instance : EqS f__law_did := by unfold f__law_did; infer_instance
instance : EqD S__law_did := eqD_of (f := f__law_did) (n := 4) (k := 4) rfl
instance : EqS f__law_asked := by unfold f__law_asked; infer_instance
instance : EqD S__law_asked := eqD_of (f := f__law_asked) (n := 7) (k := 4) rfl
instance : EqS f_law := by unfold f_law; infer_instance
instance : EqD S_law := eqD_of (f := f_law) (n := 12) (k := 1) rfl
end Fl
namespace Fl
open PySem
open L2 (Key)
end Fl
namespace Fl
open PySem
open L2 (Key)
theorem XR.detT {α : List Nat} : ∀ {f F G : Option (Nat × D)}, XR α f F → XR α f G → F = G
  | none, _, _, a, b => by rw [show _ = none from a, show _ = none from b]
  | some p, _, _, ⟨v, e, h⟩, ⟨v', e', h'⟩ => by rw [e, e', h.det h']
theorem or_backT {α β : List Nat} {o O O' : MO} (a : OR α o O) (b : OR (α ++ β) o O') : OR α o O' := by
  by_cases h : o.isX = false
  · have z := OR.det h (a.up ⟨β, rfl⟩) b
    rw [← z]; exact a
  · cases o with
    | exc c f =>
      have a0 := a
      have a' : OR (α ++ β) (.exc c f) O := a.up ⟨β, rfl⟩
      rcases b with b | ⟨F, e, x⟩
      · exact .inl b
      · rcases a' with a' | ⟨G, e', x'⟩
        · exact .inl a'
        · rw [e, XR.detT x x', ← e']; exact a
    | _ => exact absurd rfl h
theorem mr_backT {α β : List Nat} {m Y M M' : Mem} (r : MR α m M) (r' : MR (α ++ β) (m ++ Y) M') : MR α m M' := by
  refine ⟨r.len, r.nd, fun n o a h1 h2 => ?_⟩
  obtain ⟨O, _, h4⟩ := r.at h1 h2
  have h1' : (m ++ Y)[n]? = some o := by rw [List.getElem?_append_left (List.getElem?_eq_some_iff.mp h1).1]; exact h1
  have h2' : (α ++ β)[n]? = some a := by rw [List.getElem?_append_left (List.getElem?_eq_some_iff.mp h2).1]; exact h2
  obtain ⟨O', h5, h6⟩ := r'.at h1' h2'
  exact ⟨O', h5, or_backT h4 h6⟩
theorem tr_backT {α β : List Nat} {m Y M M' : Mem} (t : TR α m M) (t' : TR (α ++ β) (m ++ Y) M') : TR α m M' :=
  ⟨mr_backT t.r t'.r, t'.t, t.a1, t.a2, t.h1, t.h2⟩
mutual
def dEq : D → D → Bool
  | .non, .non => true
  | .bl a, .bl b => decide (a = b)
  | .int a, .int b => decide (a = b)
  | .str a, .str b => decide (a = b)
  | .tup a, .tup b => dsEq a b
  | .rol a, .rol b => dsEq a b
  | .ref a, .ref b => decide (a = b)
  | _, _ => false
def dsEq : List D → List D → Bool
  | [], [] => true
  | a :: l, b :: r => dEq a b && dsEq l r
  | _, _ => false
end
mutual
theorem dEq_ok : ∀ {a b : D}, dEq a b = true → a = b
  | .non, b, h => by cases b <;> first | rfl | (unfold dEq at h; cases h)
  | .bl a, b, h => by cases b <;> unfold dEq at h <;> first | (rw [decide_eq_true_eq] at h; rw [h]) | cases h
  | .int a, b, h => by cases b <;> unfold dEq at h <;> first | (rw [decide_eq_true_eq] at h; rw [h]) | cases h
  | .str a, b, h => by cases b <;> unfold dEq at h <;> first | (rw [decide_eq_true_eq] at h; rw [h]) | cases h
  | .tup a, b, h => by cases b <;> unfold dEq at h <;> first | (rw [dsEq_ok h]) | cases h
  | .rol a, b, h => by cases b <;> unfold dEq at h <;> first | (rw [dsEq_ok h]) | cases h
  | .ref a, b, h => by cases b <;> unfold dEq at h <;> first | (rw [decide_eq_true_eq] at h; rw [h]) | cases h
theorem dsEq_ok : ∀ {a b : List D}, dsEq a b = true → a = b
  | [], b, h => by cases b <;> first | rfl | (unfold dsEq at h; cases h)
  | x :: a, b, h => by
    cases b with
    | nil => unfold dsEq at h; cases h
    | cons y b =>
      unfold dsEq at h
      rw [Bool.and_eq_true] at h
      rw [dEq_ok h.1, dsEq_ok h.2]
end
def kvEq {κ : Type} [DecidableEq κ] : List (κ × D) → List (κ × D) → Bool
  | [], [] => true
  | a :: l, b :: r => decide (a.1 = b.1) && (dEq a.2 b.2 && kvEq l r)
  | _, _ => false
theorem kvEq_ok {κ : Type} [DecidableEq κ] : ∀ {a b : List (κ × D)}, kvEq a b = true → a = b
  | [], b, h => by cases b <;> first | rfl | (unfold kvEq at h; cases h)
  | x :: a, b, h => by
    cases b with
    | nil => unfold kvEq at h; cases h
    | cons y b =>
      unfold kvEq at h
      rw [Bool.and_eq_true, Bool.and_eq_true, decide_eq_true_eq] at h
      rw [kvEq_ok h.2.2, Prod.ext h.1 (dEq_ok h.2.1)]
def moEq : MO → MO → Bool
  | .lst a, .lst b => dsEq a b
  | .dk a, .dk b => kvEq a b
  | .dt a, .dt b => kvEq a b
  | .fk a, .fk b => kvEq a b
  | .ft a, .ft b => kvEq a b
  | .dn a, .dn b => kvEq a b
  | .fn a, .fn b => kvEq a b
  | .ins c a, .ins d b => decide (c = d) && kvEq a b
  | .exc c none, .exc d none => decide (c = d)
  | _, _ => false
theorem moEq_ok {a b : MO} (h : moEq a b = true) : a = b := by
  unfold moEq at h
  split at h
  · rw [dsEq_ok h]
  · rw [kvEq_ok h]
  · rw [kvEq_ok h]
  · rw [kvEq_ok h]
  · rw [kvEq_ok h]
  · rw [kvEq_ok h]
  · rw [kvEq_ok h]
  · rw [Bool.and_eq_true, decide_eq_true_eq] at h
    rw [h.1, kvEq_ok h.2]
  · rw [decide_eq_true_eq] at h
    rw [h]
  · cases h
def memPre : Mem → Mem → Bool
  | [], _ => true
  | a :: l, b :: r => moEq a b && memPre l r
  | _, _ => false
theorem memPre_ok : ∀ {a b : Mem}, memPre a b = true → ∃ Y, b = a ++ Y
  | [], b, _ => ⟨b, rfl⟩
  | x :: a, b, h => by
    cases b with
    | nil => unfold memPre at h; cases h
    | cons y b =>
      unfold memPre at h
      rw [Bool.and_eq_true] at h
      obtain ⟨Y, rfl⟩ := memPre_ok h.2
      exact ⟨Y, by rw [moEq_ok h.1]; rfl⟩
def slSub : Sl → Sl → Bool
  | [], [] => true
  | none :: l, _ :: r => slSub l r
  | some d :: l, some e :: r => dEq d e && slSub l r
  | _, _ => false
theorem slSub_ok : ∀ {a b : Sl}, slSub a b = true → a.length = b.length ∧ ∀ (i : Nat) (d : D), a[i]? = some (some d) → b[i]? = some (some d)
  | [], b, h => by
    cases b with
    | nil => exact ⟨rfl, fun i d e => by simp at e⟩
    | cons y b => unfold slSub at h; cases h
  | none :: a, b, h => by
    cases b with
    | nil => unfold slSub at h; cases h
    | cons y b =>
      unfold slSub at h
      obtain ⟨h1, h2⟩ := slSub_ok h
      refine ⟨by simp [h1], fun i d e => ?_⟩
      cases i with
      | zero => simp at e
      | succ i => exact h2 i d (by simpa using e)
  | some x :: a, b, h => by
    cases b with
    | nil => unfold slSub at h; cases h
    | cons y b =>
      cases y with
      | none => unfold slSub at h; cases h
      | some y =>
        unfold slSub at h
        rw [Bool.and_eq_true] at h
        obtain ⟨h1, h2⟩ := slSub_ok h.2
        have e0 := dEq_ok h.1
        refine ⟨by simp [h1], fun i d e => ?_⟩
        cases i with
        | zero => rw [← e0]; simpa using e
        | succ i => exact h2 i d (by simpa using e)
def SR.keep (s0 : Sl) (m : Mem) : SR → Bool
  | .nx s1 m1 => memPre m m1 && slSub s0 s1
  | _ => false
theorem gt_keep {q : Po} {t : SF} {s : Sl} {m : Mem} {s0 : Sl} [EqS t] (h0 : slSub s0 s = true) (h : (t s m).keep s0 m = true) (k : q.n s0 m) : GT q t s m := fun α M S tr sl => by
  have z := EqS.h (e := t) tr.r sl
  unfold SR.keep at h
  split at h
  · rename_i s1 m1 e
    rw [e] at z
    rw [Bool.and_eq_true] at h
    obtain ⟨Y, rfl⟩ := memPre_ok h.1
    obtain ⟨S1, M1, α1, e1, x1, sl1⟩ := z
    obtain ⟨β, rfl⟩ := x1.pre
    rw [e1]
    obtain ⟨l0, g0⟩ := slSub_ok h0
    obtain ⟨l1, g1⟩ := slSub_ok h.2
    refine ⟨α, s0, m, tr_backT tr (tr.ext x1), ⟨by rw [l1, sl1.1], fun i d e => ?_⟩, k⟩
    obtain ⟨v, v1, v2⟩ := sl.2 i d (g0 i d e)
    obtain ⟨w, w1, w2⟩ := sl1.2 i d (g1 i d e)
    have := (v2.up ⟨β, rfl⟩ : Dr (α ++ β) d v).det w2
    subst this
    exact ⟨_, w1, v2⟩
  · cases h
end Fl
namespace Fl
open PySem
def pre : SF := (sSeq (sSeq (sSeq (sSeq (sSeq (sSet 2 (dMake 0 1 3 S_World___init__ (fun xs zs => xs ++ (zs ++ [(.tup [])])) (dCons (dC (.int 4)) dNil) (dCons (dC (.int 1)) (dCons (dLst (dCons (dC (.int 10)) (dCons (dC (.int 0)) dNil))) (dCons (dLst (dCons (dC (.int 3)) dNil)) dNil))))) (sSet 3 (dMake 3 1 0 S_Cutting___init__ (fun xs _ => xs) (dCons (dVar 2) dNil) dNil))) (sFor (iSeq (dLst (dCons (dC .non) (dCons (dC (.int 5)) (dCons (dVar 3) (dCons (dLst (dCons (dC (.int 10)) (dCons (dC (.int 0)) dNil))) (dCons (dC (.str "world")) dNil))))))) (gN 4) (sIf (tVal (dOp2 gNe (dLc (iSeq (dLst (dCons (dC (.int 0)) (dCons (dC (.int 1)) (dCons (dC (.int 6)) (dCons (dC (.int 7)) (dCons (dC (.int 8)) (dCons (dC (.int 9)) dNil)))))))) (gN 11) tYesF (dCall 4 0 S__law_asked (fun xs _ => xs) (dCons (dVar 11) (dCons (dVar 4) (dCons (dC (.int 9)) (dCons (dC (.int 0)) dNil)))) dNil) [11]) (dOp2 gMulX (dLst (dCons (dC (.str "paper")) dNil)) (dC (.int 6))))) (sRet (dC (.bl false))) sNext))) (sSet 5 (dTup (dCons (dTup (dCons (dC (.int 0)) (dCons (dC (.int 0)) dNil))) (dCons (dTup (dCons (dC (.int 10)) (dCons (dC (.int 0)) dNil))) dNil))))) (sSet 6 (dLst (dCons (dC .non) (dCons (dC (.int 5)) (dCons (dTup dNil) (dCons (dSl (dVar 5) oNone (oSome (dC (.int 1)))) (dCons (dLst (dCons (dTup (dCons (dC (.int 0)) (dCons (dC (.int 0)) dNil))) (dCons (dTup (dCons (dC (.int 10)) (dCons (dC (.int 0)) dNil))) dNil))) (dCons (dTup (dCons (dTup (dCons (dC (.int 0)) (dCons (dC (.int 0)) dNil))) (dCons (dTup (dCons (dC (.int 11)) (dCons (dC (.int 0)) dNil))) dNil))) (dCons (dTup (dCons (dTup (dCons (dC (.int 0)) (dCons (dC (.int 0)) dNil))) (dCons (dLst (dCons (dC (.int 10)) (dCons (dC (.int 0)) dNil))) dNil))) (dCons (dTup (dCons (dTup (dCons (dC (.int 0)) dNil)) (dCons (dTup (dCons (dC (.int 10)) (dCons (dC (.int 0)) dNil))) dNil))) (dCons (dTup (dCons (dTup (dCons (dC (.int 0)) (dCons (dC (.int 0)) dNil))) (dCons (dTup (dCons (dC (.int 11)) (dCons (dOp2 gSub (dC (.int 0)) (dC (.int 1))) dNil))) dNil))) dNil)))))))))))) (sSet 6 (dOp2 gAdd (dVar 6) (dLst (dCons (dTup (dCons (dTup (dCons (dC (.int 0)) (dCons (dC (.bl true)) dNil))) (dCons (dTup (dCons (dC (.int 10)) (dCons (dC (.int 0)) dNil))) dNil))) (dCons (dTup (dCons (dTup (dCons (dC (.int 0)) (dCons (dOp2 gSub (dC (.int 0)) (dC (.int 1))) dNil))) (dCons (dTup (dCons (dC (.int 10)) (dCons (dC (.int 0)) dNil))) dNil))) (dCons (dTup (dCons (dTup (dCons (dC (.int 0)) (dCons (dC (.int 0)) (dCons (dC (.int 0)) dNil)))) (dCons (dTup (dCons (dC (.int 10)) (dCons (dC (.int 0)) dNil))) dNil))) (dCons (dTup (dCons (dTup (dCons (dC (.int 0)) (dCons (dC .non) dNil))) (dCons (dTup (dCons (dC (.int 10)) (dCons (dC (.int 0)) dNil))) dNil))) (dCons (dTup (dCons (dTup (dCons (dC (.int 0)) (dCons (dC (.int 100001)) dNil))) (dCons (dTup (dCons (dC (.int 10)) (dCons (dC (.int 0)) dNil))) dNil))) dNil)))))))))
instance : EqS pre := by unfold pre; infer_instance
def s1 : Sl := (pre (sl0 1 12) mem0).sl
def m1 : Mem := (pre (sl0 1 12) mem0).me
def refAt (o : Option (Option D)) : Nat := match o with
  | some (some (D.ref n)) => n
  | _ => 0
def isRefB (o : Option (Option D)) : Bool := match o with
  | some (some (D.ref _)) => true
  | _ => false
theorem ref_ok {o : Option (Option D)} (h : isRefB o = true) : o = some (some (.ref (refAt o))) := by
  unfold isRefB at h
  split at h
  · rfl
  · cases h
def badN : Nat := refAt s1[6]?
theorem bad_ok (h : isRefB s1[6]? = true) : s1[6]? = some (some (.ref badN)) := ref_ok h
def badL : List D := (listAt m1 badN).getD []
theorem badL_ok (h : (listAt m1 badN).isSome = true) : listAt m1 badN = some badL := by
  unfold badL
  cases e : listAt m1 badN with
  | none => rw [e] at h; cases h
  | some l => rfl
def isNoneB : Option (Option D) → Bool
  | some none => true
  | _ => false
theorem none_ok {o : Option (Option D)} (h : isNoneB o = true) : o = some none := by
  unfold isNoneB at h
  split at h
  · rfl
  · cases h
theorem plain (ns : List Int) (h : ns.length ≤ 63) : ∃ M, S_law [.rol (ns.map .int)] [] = .ok (.bl true) M := by
  refine law_of (n := 12) (f := f_law) rfl rfl (by decide) h ?_
  rw [seq_assoc, seq_assoc, seq_assoc, seq_assoc, seq_assoc]
  change GT _ (sSeq pre _) _ _
  refine gt_seq (gt_n (by decide +kernel) ?_)
  change GT _ _ s1 m1
  refine gt_seq (gt_for0 (fun _ s m => s = s1 ∧ m = m1) rfl (by decide) (by decide) ⟨rfl, rfl⟩ (fun i s m _ ⟨es, em⟩ => ?_) (fun s m ⟨es, em⟩ => ?_))
  · subst es em
    refine ⟨none_ok (by decide +kernel), ?_⟩
    have hl : dVar 6 s1 m1 = .ok (.ref badN) m1 := by rw [dVar_ap, bad_ok (by decide +kernel)]
    refine gt_seq (gt_pick rfl (isRef2_ok (by decide +kernel)) hl (badL_ok (by decide +kernel)) (by decide +kernel) fun d hd => ?_)
    refine gt_keep (s0 := s1) ?_ ?_ ⟨rfl, rfl⟩
    · revert d
      decide +kernel
    · revert d
      decide +kernel
  · subst es em
    refine gt_t ?_ fun _ => rfl
    decide +kernel
end Fl
namespace Wk
open PySem PySem.Spec PyProof.Rows L2 Fl
structure Txt (K : PySem.W.Frag) (mg : Str → Option Value) where
  d__law_town : FuncData
  F__law_town : FunD K "_law_town" "_law_town" (defArgs s__law_town) (defBody s__law_town) (defScope s__law_town) [] [] (A__law_town K) d__law_town
  m__law_town : mg "_law_town" = some (.ref (A__law_town K))
  d_is_whole : FuncData
  F_is_whole : FunD K "is_whole" "is_whole" (defArgs s_is_whole) (defBody s_is_whole) (defScope s_is_whole) [] [] (A_is_whole K) d_is_whole
  m_is_whole : mg "is_whole" = some (.ref (A_is_whole K))
  d_look_number : FuncData
  F_look_number : FunD K "look_number" "look_number" (defArgs s_look_number) (defBody s_look_number) (defScope s_look_number) [] [] (A_look_number K) d_look_number
  m_look_number : mg "look_number" = some (.ref (A_look_number K))
  d_look_liars : FuncData
  F_look_liars : FunD K "look_liars" "look_liars" (defArgs s_look_liars) (defBody s_look_liars) (defScope s_look_liars) [] [] (A_look_liars K) d_look_liars
  m_look_liars : mg "look_liars" = some (.ref (A_look_liars K))
  d_Board___init__ : FuncData
  F_Board___init__ : FunD K "__init__" "Board.__init__" (defArgs s_Board___init__) (defBody s_Board___init__) (defScope s_Board___init__) [] [] (A_Board___init__ K) d_Board___init__
  d_House___init__ : FuncData
  F_House___init__ : FunD K "__init__" "House.__init__" (defArgs s_House___init__) (defBody s_House___init__) (defScope s_House___init__) [] [] (A_House___init__ K) d_House___init__
  d_World___init__ : FuncData
  F_World___init__ : FunD K "__init__" "World.__init__" (defArgs s_World___init__) (defBody s_World___init__) (defScope s_World___init__) [] [("liars", (V.ref (kwdAt ("World", some "__init__") "liars" K))), ("cheats", (V.ref (kwdAt ("World", some "__init__") "cheats" K)))] (A_World___init__ K) d_World___init__
  d_look_world : FuncData
  F_look_world : FunD K "look_world" "look_world" (defArgs s_look_world) (defBody s_look_world) (defScope s_look_world) [] [] (A_look_world K) d_look_world
  m_look_world : mg "look_world" = some (.ref (A_look_world K))
  d_Cutting___init__ : FuncData
  F_Cutting___init__ : FunD K "__init__" "Cutting.__init__" (defArgs s_Cutting___init__) (defBody s_Cutting___init__) (defScope s_Cutting___init__) [] [] (A_Cutting___init__ K) d_Cutting___init__
  d_World_look_purse : FuncData
  F_World_look_purse : FunD K "look_purse" "World.look_purse" (defArgs s_World_look_purse) (defBody s_World_look_purse) (defScope s_World_look_purse) [] [] (A_World_look_purse K) d_World_look_purse
  d_World_next_number : FuncData
  F_World_next_number : FunD K "next_number" "World.next_number" (defArgs s_World_next_number) (defBody s_World_next_number) (defScope s_World_next_number) [] [] (A_World_next_number K) d_World_next_number
  d_World_honest : FuncData
  F_World_honest : FunD K "honest" "World.honest" (defArgs s_World_honest) (defBody s_World_honest) (defScope s_World_honest) [] [] (A_World_honest K) d_World_honest
  d_World_order_to_all : FuncData
  F_World_order_to_all : FunD K "order_to_all" "World.order_to_all" (defArgs s_World_order_to_all) (defBody s_World_order_to_all) (defScope s_World_order_to_all) [] [] (A_World_order_to_all K) d_World_order_to_all
  d_enough : FuncData
  F_enough : FunD K "enough" "enough" (defArgs s_enough) (defBody s_enough) (defScope s_enough) [] [] (A_enough K) d_enough
  m_enough : mg "enough" = some (.ref (A_enough K))
  d_Board_is_paper : FuncData
  F_Board_is_paper : FunD K "is_paper" "Board.is_paper" (defArgs s_Board_is_paper) (defBody s_Board_is_paper) (defScope s_Board_is_paper) [] [] (A_Board_is_paper K) d_Board_is_paper
  d_World_left_at : FuncData
  F_World_left_at : FunD K "left_at" "World.left_at" (defArgs s_World_left_at) (defBody s_World_left_at) (defScope s_World_left_at) [] [] (A_World_left_at K) d_World_left_at
  d_World_ask : FuncData
  F_World_ask : FunD K "ask" "World.ask" (defArgs s_World_ask) (defBody s_World_ask) (defScope s_World_ask) [] [] (A_World_ask K) d_World_ask
  d__law_draw : FuncData
  F__law_draw : FunD K "_law_draw" "_law_draw" (defArgs s__law_draw) (defBody s__law_draw) (defScope s__law_draw) [] [] (A__law_draw K) d__law_draw
  m__law_draw : mg "_law_draw" = some (.ref (A__law_draw K))
  d__law_pick : FuncData
  F__law_pick : FunD K "_law_pick" "_law_pick" (defArgs s__law_pick) (defBody s__law_pick) (defScope s__law_pick) [] [] (A__law_pick K) d__law_pick
  m__law_pick : mg "_law_pick" = some (.ref (A__law_pick K))
  d_House_state : FuncData
  F_House_state : FunD K "state" "House.state" (defArgs s_House_state) (defBody s_House_state) (defScope s_House_state) [] [] (A_House_state K) d_House_state
  d_World_room : FuncData
  F_World_room : FunD K "room" "World.room" (defArgs s_World_room) (defBody s_World_room) (defScope s_World_room) [] [] (A_World_room K) d_World_room
  d_cut_of : FuncData
  F_cut_of : FunD K "cut_of" "cut_of" (defArgs s_cut_of) (defBody s_cut_of) (defScope s_cut_of) [] [] (A_cut_of K) d_cut_of
  m_cut_of : mg "cut_of" = some (.ref (A_cut_of K))
  d_Cutting_add : FuncData
  F_Cutting_add : FunD K "add" "Cutting.add" (defArgs s_Cutting_add) (defBody s_Cutting_add) (defScope s_Cutting_add) [] [] (A_Cutting_add K) d_Cutting_add
  d_Cutting_sign : FuncData
  F_Cutting_sign : FunD K "sign" "Cutting.sign" (defArgs s_Cutting_sign) (defBody s_Cutting_sign) (defScope s_Cutting_sign) [] [] (A_Cutting_sign K) d_Cutting_sign
  d_World_letters : FuncData
  F_World_letters : FunD K "letters" "World.letters" (defArgs s_World_letters) (defBody s_World_letters) (defScope s_World_letters) [] [] (A_World_letters K) d_World_letters
  d_is_order : FuncData
  F_is_order : FunD K "is_order" "is_order" (defArgs s_is_order) (defBody s_is_order) (defScope s_is_order) [] [("purses", (V.int 8))] (A_is_order K) d_is_order
  m_is_order : mg "is_order" = some (.ref (A_is_order K))
  d_look_order : FuncData
  F_look_order : FunD K "look_order" "look_order" (defArgs s_look_order) (defBody s_look_order) (defScope s_look_order) [] [("purses", (V.int 8))] (A_look_order K) d_look_order
  m_look_order : mg "look_order" = some (.ref (A_look_order K))
  d_House_may_vote : FuncData
  F_House_may_vote : FunD K "may_vote" "House.may_vote" (defArgs s_House_may_vote) (defBody s_House_may_vote) (defScope s_House_may_vote) [] [] (A_House_may_vote K) d_House_may_vote
  d_House_new_votes : FuncData
  F_House_new_votes : FunD K "new_votes" "House.new_votes" (defArgs s_House_new_votes) (defBody s_House_new_votes) (defScope s_House_new_votes) [] [] (A_House_new_votes K) d_House_new_votes
  d_House_hear : FuncData
  F_House_hear : FunD K "hear" "House.hear" (defArgs s_House_hear) (defBody s_House_hear) (defScope s_House_hear) [] [] (A_House_hear K) d_House_hear
  d_Board_sign : FuncData
  F_Board_sign : FunD K "sign" "Board.sign" (defArgs s_Board_sign) (defBody s_Board_sign) (defScope s_Board_sign) [] [] (A_Board_sign K) d_Board_sign
  d_World_paper_to_all : FuncData
  F_World_paper_to_all : FunD K "paper_to_all" "World.paper_to_all" (defArgs s_World_paper_to_all) (defBody s_World_paper_to_all) (defScope s_World_paper_to_all) [] [] (A_World_paper_to_all K) d_World_paper_to_all
  d_World_signed : FuncData
  F_World_signed : FunD K "signed" "World.signed" (defArgs s_World_signed) (defBody s_World_signed) (defScope s_World_signed) [] [] (A_World_signed K) d_World_signed
  d_House_settle : FuncData
  F_House_settle : FunD K "settle" "House.settle" (defArgs s_House_settle) (defBody s_House_settle) (defScope s_House_settle) [] [] (A_House_settle K) d_House_settle
  d_House_can_settle : FuncData
  F_House_can_settle : FunD K "can_settle" "House.can_settle" (defArgs s_House_can_settle) (defBody s_House_can_settle) (defScope s_House_can_settle) [] [] (A_House_can_settle K) d_House_can_settle
  d_House_go_on : FuncData
  F_House_go_on : FunD K "go_on" "House.go_on" (defArgs s_House_go_on) (defBody s_House_go_on) (defScope s_House_go_on) [] [] (A_House_go_on K) d_House_go_on
  d_House_take : FuncData
  F_House_take : FunD K "take" "House.take" (defArgs s_House_take) (defBody s_House_take) (defScope s_House_take) [] [] (A_House_take K) d_House_take
  d_World_come : FuncData
  F_World_come : FunD K "come" "World.come" (defArgs s_World_come) (defBody s_World_come) (defScope s_World_come) [] [] (A_World_come K) d_World_come
  d_World_look_liar : FuncData
  F_World_look_liar : FunD K "look_liar" "World.look_liar" (defArgs s_World_look_liar) (defBody s_World_look_liar) (defScope s_World_look_liar) [] [] (A_World_look_liar K) d_World_look_liar
  d_is_cut : FuncData
  F_is_cut : FunD K "is_cut" "is_cut" (defArgs s_is_cut) (defBody s_is_cut) (defScope s_is_cut) [] [] (A_is_cut K) d_is_cut
  m_is_cut : mg "is_cut" = some (.ref (A_is_cut K))
  d_Cutting_lie : FuncData
  F_Cutting_lie : FunD K "lie" "Cutting.lie" (defArgs s_Cutting_lie) (defBody s_Cutting_lie) (defScope s_Cutting_lie) [] [] (A_Cutting_lie K) d_Cutting_lie
  d_House_load : FuncData
  F_House_load : FunD K "load" "House.load" (defArgs s_House_load) (defBody s_House_load) (defScope s_House_load) [] [] (A_House_load K) d_House_load
  d_Cutting_good : FuncData
  F_Cutting_good : FunD K "good" "Cutting.good" (defArgs s_Cutting_good) (defBody s_Cutting_good) (defScope s_Cutting_good) [] [] (A_Cutting_good K) d_Cutting_good
  d_Cutting_take : FuncData
  F_Cutting_take : FunD K "take" "Cutting.take" (defArgs s_Cutting_take) (defBody s_Cutting_take) (defScope s_Cutting_take) [] [] (A_Cutting_take K) d_Cutting_take
  d_Cutting_signers_of : FuncData
  F_Cutting_signers_of : FunD K "signers_of" "Cutting.signers_of" (defArgs s_Cutting_signers_of) (defBody s_Cutting_signers_of) (defScope s_Cutting_signers_of) [] [] (A_Cutting_signers_of K) d_Cutting_signers_of
  d_seen_orders : FuncData
  F_seen_orders : FunD K "seen_orders" "seen_orders" (defArgs s_seen_orders) (defBody s_seen_orders) (defScope s_seen_orders) [] [] (A_seen_orders K) d_seen_orders
  m_seen_orders : mg "seen_orders" = some (.ref (A_seen_orders K))
  d_false_owners : FuncData
  F_false_owners : FunD K "false_owners" "false_owners" (defArgs s_false_owners) (defBody s_false_owners) (defScope s_false_owners) [] [] (A_false_owners K) d_false_owners
  m_false_owners : mg "false_owners" = some (.ref (A_false_owners K))
  d_false_houses : FuncData
  F_false_houses : FunD K "false_houses" "false_houses" (defArgs s_false_houses) (defBody s_false_houses) (defScope s_false_houses) [] [] (A_false_houses K) d_false_houses
  m_false_houses : mg "false_houses" = some (.ref (A_false_houses K))
  d_stuck_purses : FuncData
  F_stuck_purses : FunD K "stuck_purses" "stuck_purses" (defArgs s_stuck_purses) (defBody s_stuck_purses) (defScope s_stuck_purses) [] [] (A_stuck_purses K) d_stuck_purses
  m_stuck_purses : mg "stuck_purses" = some (.ref (A_stuck_purses K))
  d_lost_nothing : FuncData
  F_lost_nothing : FunD K "lost_nothing" "lost_nothing" (defArgs s_lost_nothing) (defBody s_lost_nothing) (defScope s_lost_nothing) [] [] (A_lost_nothing K) d_lost_nothing
  m_lost_nothing : mg "lost_nothing" = some (.ref (A_lost_nothing K))
  d__law_did : FuncData
  F__law_did : FunD K "_law_did" "_law_did" (defArgs s__law_did) (defBody s__law_did) (defScope s__law_did) [] [] (A__law_did K) d__law_did
  m__law_did : mg "_law_did" = some (.ref (A__law_did K))
  d__law_refusal : FuncData
  F__law_refusal : FunD K "_law_refusal" "_law_refusal" (defArgs s__law_refusal) (defBody s__law_refusal) (defScope s__law_refusal) [] [] (A__law_refusal K) d__law_refusal
  m__law_refusal : mg "_law_refusal" = some (.ref (A__law_refusal K))
  d__law_asked : FuncData
  F__law_asked : FunD K "_law_asked" "_law_asked" (defArgs s__law_asked) (defBody s__law_asked) (defScope s__law_asked) [] [] (A__law_asked K) d__law_asked
  m__law_asked : mg "_law_asked" = some (.ref (A__law_asked K))
  d_World_sums : FuncData
  F_World_sums : FunD K "sums" "World.sums" (defArgs s_World_sums) (defBody s_World_sums) (defScope s_World_sums) [] [] (A_World_sums K) d_World_sums
  d_is_behind : FuncData
  F_is_behind : FunD K "is_behind" "is_behind" (defArgs s_is_behind) (defBody s_is_behind) (defScope s_is_behind) [] [] (A_is_behind K) d_is_behind
  m_is_behind : mg "is_behind" = some (.ref (A_is_behind K))
  d_law : FuncData
  F_law : FunD K "law" "law" (defArgs s_law) (defBody s_law) (defScope s_law) [] [] (A_law K) d_law
  m_law : mg "law" = some (.ref (A_law K))
  d_NoHouse___init__ : FuncData
  F_NoHouse___init__ : FunD K "__init__" "NoHouse.__init__" (defArgs s_NoHouse___init__) (defBody s_NoHouse___init__) (defScope s_NoHouse___init__) [] [] (A_NoHouse___init__ K) d_NoHouse___init__
  xf_NoHouse : ExF K ((Ly K).cls 10) (A_NoHouse___init__ K) "house"
  xr_NoHouse : XrOk K ((Ly K).cls 10) "house"
  d_NoPurse___init__ : FuncData
  F_NoPurse___init__ : FunD K "__init__" "NoPurse.__init__" (defArgs s_NoPurse___init__) (defBody s_NoPurse___init__) (defScope s_NoPurse___init__) [] [] (A_NoPurse___init__ K) d_NoPurse___init__
  xf_NoPurse : ExF K ((Ly K).cls 11) (A_NoPurse___init__ K) "purse"
  fr_ValueError : mg "ValueError" = none
  fr_all : mg "all" = none
  fr_any : mg "any" = none
  fr_bool : mg "bool" = none
  fr_int : mg "int" = none
  fr_isinstance : mg "isinstance" = none
  fr_len : mg "len" = none
  fr_list : mg "list" = none
  fr_max : mg "max" = none
  fr_min : mg "min" = none
  fr_range : mg "range" = none
  fr_set : mg "set" = none
  fr_sorted : mg "sorted" = none
  fr_sum : mg "sum" = none
  fr_tuple : mg "tuple" = none
  fr_zip : mg "zip" = none
  i_MOST_FEW : ∃ t, mg "MOST_FEW" = some (.int 5 t)
  i_MOST_HOUSES : ∃ t, mg "MOST_HOUSES" = some (.int 16 t)
  i_MOST_NUMBER : ∃ t, mg "MOST_NUMBER" = some (.int 99 t)
  i_MOST_PURSES : ∃ t, mg "MOST_PURSES" = some (.int 8 t)
  i_MOST_SUM : ∃ t, mg "MOST_SUM" = some (.int 1000 t)
  c_BadCut : mg "BadCut" = some (.ref (He.ga K "BadCut"))
  c_BadHouses : mg "BadHouses" = some (.ref (He.ga K "BadHouses"))
  c_BadNumber : mg "BadNumber" = some (.ref (He.ga K "BadNumber"))
  c_BadOrder : mg "BadOrder" = some (.ref (He.ga K "BadOrder"))
  c_BadPaper : mg "BadPaper" = some (.ref (He.ga K "BadPaper"))
  c_BadText : mg "BadText" = some (.ref (He.ga K "BadText"))
  c_NoHouse : mg "NoHouse" = some (.ref (He.ga K "NoHouse"))
  c_NoLetter : mg "NoLetter" = some (.ref (He.ga K "NoLetter"))
  c_NoPurse : mg "NoPurse" = some (.ref (He.ga K "NoPurse"))
  c_NotNow : mg "NotNow" = some (.ref (He.ga K "NotNow"))
  c_PurseError : mg "PurseError" = some (.ref (He.ga K "PurseError"))
  c_TooMuch : mg "TooMuch" = some (.ref (He.ga K "TooMuch"))
  x_BadCut : ExK K mg "BadCut" ((Ly K).cls 16)
  x_BadHouses : ExK K mg "BadHouses" ((Ly K).cls 9)
  x_BadNumber : ExK K mg "BadNumber" ((Ly K).cls 7)
  x_BadOrder : ExK K mg "BadOrder" ((Ly K).cls 8)
  x_BadPaper : ExK K mg "BadPaper" ((Ly K).cls 15)
  x_NoLetter : ExK K mg "NoLetter" ((Ly K).cls 12)
  x_NotNow : ExK K mg "NotNow" ((Ly K).cls 13)
  x_TooMuch : ExK K mg "TooMuch" ((Ly K).cls 14)
  mk_Board : Mk K ((Ly K).cls 2) (A_Board___init__ K)
  c_Board : mg "Board" = some (.ref ((Ly K).cls 2))
  mk_Cutting : Mk K ((Ly K).cls 3) (A_Cutting___init__ K)
  c_Cutting : mg "Cutting" = some (.ref ((Ly K).cls 3))
  mk_House : Mk K ((Ly K).cls 1) (A_House___init__ K)
  c_House : mg "House" = some (.ref ((Ly K).cls 1))
  mk_World : Mk K ((Ly K).cls 0) (A_World___init__ K)
  c_World : mg "World" = some (.ref ((Ly K).cls 0))
  me_Board_is_paper : Meth K ((Ly K).cls 2) "is_paper" (A_Board_is_paper K)
  me_Board_sign : Meth K ((Ly K).cls 2) "sign" (A_Board_sign K)
  me_Cutting_add : Meth K ((Ly K).cls 3) "add" (A_Cutting_add K)
  me_Cutting_good : Meth K ((Ly K).cls 3) "good" (A_Cutting_good K)
  me_Cutting_lie : Meth K ((Ly K).cls 3) "lie" (A_Cutting_lie K)
  me_Cutting_sign : Meth K ((Ly K).cls 3) "sign" (A_Cutting_sign K)
  me_Cutting_signers_of : Meth K ((Ly K).cls 3) "signers_of" (A_Cutting_signers_of K)
  me_Cutting_take : Meth K ((Ly K).cls 3) "take" (A_Cutting_take K)
  me_House_can_settle : Meth K ((Ly K).cls 1) "can_settle" (A_House_can_settle K)
  me_House_go_on : Meth K ((Ly K).cls 1) "go_on" (A_House_go_on K)
  me_House_hear : Meth K ((Ly K).cls 1) "hear" (A_House_hear K)
  me_House_load : Meth K ((Ly K).cls 1) "load" (A_House_load K)
  me_House_may_vote : Meth K ((Ly K).cls 1) "may_vote" (A_House_may_vote K)
  me_House_new_votes : Meth K ((Ly K).cls 1) "new_votes" (A_House_new_votes K)
  me_House_settle : Meth K ((Ly K).cls 1) "settle" (A_House_settle K)
  me_House_state : Meth K ((Ly K).cls 1) "state" (A_House_state K)
  me_House_take : Meth K ((Ly K).cls 1) "take" (A_House_take K)
  me_World_ask : Meth K ((Ly K).cls 0) "ask" (A_World_ask K)
  me_World_come : Meth K ((Ly K).cls 0) "come" (A_World_come K)
  me_World_honest : Meth K ((Ly K).cls 0) "honest" (A_World_honest K)
  me_World_left_at : Meth K ((Ly K).cls 0) "left_at" (A_World_left_at K)
  me_World_letters : Meth K ((Ly K).cls 0) "letters" (A_World_letters K)
  me_World_look_liar : Meth K ((Ly K).cls 0) "look_liar" (A_World_look_liar K)
  me_World_look_purse : Meth K ((Ly K).cls 0) "look_purse" (A_World_look_purse K)
  me_World_next_number : Meth K ((Ly K).cls 0) "next_number" (A_World_next_number K)
  me_World_order_to_all : Meth K ((Ly K).cls 0) "order_to_all" (A_World_order_to_all K)
  me_World_paper_to_all : Meth K ((Ly K).cls 0) "paper_to_all" (A_World_paper_to_all K)
  me_World_room : Meth K ((Ly K).cls 0) "room" (A_World_room K)
  me_World_signed : Meth K ((Ly K).cls 0) "signed" (A_World_signed K)
  me_World_sums : Meth K ((Ly K).cls 0) "sums" (A_World_sums K)
  wAll : WAll K (Ly K)
  et_World___init___cheats : WrT K (kwdAt ("World", some "__init__") "cheats" K) []
  et_World___init___liars : WrT K (kwdAt ("World", some "__init__") "liars" K) []
  clAll : ClAll K (Ly K)
  exAll : ExAll K (Ly K)
section
variable {P : Program} {w : World} {K : PySem.W.Frag} {mg : Str → Option Value} {base : Heap}
theorem xi_NoHouse (T : Txt K mg) : FnOk P w K mg base CX0 1 (A_NoHouse___init__ K) T.d_NoHouse___init__ N_NoHouse___init__ (spXI K "house") := xi_ok T.F_NoHouse___init__ sc_NoHouse___init__ rfl fun cdv A outer s H E => pss_one (ps_ost (pv 0) (pv 1))
theorem xb_NoHouse (T : Txt K mg) : Binds K T.d_NoHouse___init__ N_NoHouse___init__ [] := T.F_NoHouse___init__.bindsN fun _ _ _ _ _ _ us hl => match us, hl with | [_, _], _ => rfl
theorem xi_NoPurse (T : Txt K mg) : FnOk P w K mg base CX0 1 (A_NoPurse___init__ K) T.d_NoPurse___init__ N_NoPurse___init__ (spXI K "purse") := xi_ok T.F_NoPurse___init__ sc_NoPurse___init__ rfl fun cdv A outer s H E => pss_one (ps_ost (pv 0) (pv 1))
theorem xb_NoPurse (T : Txt K mg) : Binds K T.d_NoPurse___init__ N_NoPurse___init__ [] := T.F_NoPurse___init__.bindsN fun _ _ _ _ _ _ us hl => match us, hl with | [_, _], _ => rfl
theorem kb_Board___init___a (T : Txt K mg) : ∃ g, KBn K T.d_Board___init__ p_Board___init__ 2 ["few"] g (fun vs zs => vs ++ zs) := ⟨_, Fl.FunD.kbN T.F_Board___init__ 2 ["few"] (fun vs zs => vs ++ zs) (fun r r2 => r.append r2) fun _ _ _ _ _ _ us ws h1 h2 => match us, ws, h1, h2 with | [_, _], [_], _, _ => rfl⟩
theorem kb_Board_is_paper_p (T : Txt K mg) : ∃ g, KBn K T.d_Board_is_paper p_Board_is_paper 2 [] g (fun vs _ => vs) := ⟨_, kb_plain (T.F_Board_is_paper.bindsN fun _ _ _ _ _ _ us hl => match us, hl with | [_, _], _ => rfl) rfl⟩
theorem kb_Board_sign_p (T : Txt K mg) : ∃ g, KBn K T.d_Board_sign p_Board_sign 3 [] g (fun vs _ => vs) := ⟨_, kb_plain (T.F_Board_sign.bindsN fun _ _ _ _ _ _ us hl => match us, hl with | [_, _, _], _ => rfl) rfl⟩
theorem kb_Cutting___init___p (T : Txt K mg) : ∃ g, KBn K T.d_Cutting___init__ p_Cutting___init__ 2 [] g (fun vs _ => vs) := ⟨_, kb_plain (T.F_Cutting___init__.bindsN fun _ _ _ _ _ _ us hl => match us, hl with | [_, _], _ => rfl) rfl⟩
theorem kb_Cutting_add_p (T : Txt K mg) : ∃ g, KBn K T.d_Cutting_add p_Cutting_add 3 [] g (fun vs _ => vs) := ⟨_, kb_plain (T.F_Cutting_add.bindsN fun _ _ _ _ _ _ us hl => match us, hl with | [_, _, _], _ => rfl) rfl⟩
theorem kb_Cutting_good_p (T : Txt K mg) : ∃ g, KBn K T.d_Cutting_good p_Cutting_good 1 [] g (fun vs _ => vs) := ⟨_, kb_plain (T.F_Cutting_good.bindsN fun _ _ _ _ _ _ us hl => match us, hl with | [_], _ => rfl) rfl⟩
theorem kb_Cutting_lie_p (T : Txt K mg) : ∃ g, KBn K T.d_Cutting_lie p_Cutting_lie 3 [] g (fun vs _ => vs) := ⟨_, kb_plain (T.F_Cutting_lie.bindsN fun _ _ _ _ _ _ us hl => match us, hl with | [_, _, _], _ => rfl) rfl⟩
theorem kb_Cutting_sign_p (T : Txt K mg) : ∃ g, KBn K T.d_Cutting_sign p_Cutting_sign 2 [] g (fun vs _ => vs) := ⟨_, kb_plain (T.F_Cutting_sign.bindsN fun _ _ _ _ _ _ us hl => match us, hl with | [_, _], _ => rfl) rfl⟩
theorem kb_Cutting_signers_of_p (T : Txt K mg) : ∃ g, KBn K T.d_Cutting_signers_of p_Cutting_signers_of 2 [] g (fun vs _ => vs) := ⟨_, kb_plain (T.F_Cutting_signers_of.bindsN fun _ _ _ _ _ _ us hl => match us, hl with | [_, _], _ => rfl) rfl⟩
theorem kb_Cutting_take_p (T : Txt K mg) : ∃ g, KBn K T.d_Cutting_take p_Cutting_take 3 [] g (fun vs _ => vs) := ⟨_, kb_plain (T.F_Cutting_take.bindsN fun _ _ _ _ _ _ us hl => match us, hl with | [_, _, _], _ => rfl) rfl⟩
theorem kb_House___init___p (T : Txt K mg) : ∃ g, KBn K T.d_House___init__ p_House___init__ 2 [] g (fun vs _ => vs) := ⟨_, kb_plain (T.F_House___init__.bindsN fun _ _ _ _ _ _ us hl => match us, hl with | [_, _], _ => rfl) rfl⟩
theorem kb_House_can_settle_p (T : Txt K mg) : ∃ g, KBn K T.d_House_can_settle p_House_can_settle 2 [] g (fun vs _ => vs) := ⟨_, kb_plain (T.F_House_can_settle.bindsN fun _ _ _ _ _ _ us hl => match us, hl with | [_, _], _ => rfl) rfl⟩
theorem kb_House_go_on_p (T : Txt K mg) : ∃ g, KBn K T.d_House_go_on p_House_go_on 1 [] g (fun vs _ => vs) := ⟨_, kb_plain (T.F_House_go_on.bindsN fun _ _ _ _ _ _ us hl => match us, hl with | [_], _ => rfl) rfl⟩
theorem kb_House_hear_p (T : Txt K mg) : ∃ g, KBn K T.d_House_hear p_House_hear 2 [] g (fun vs _ => vs) := ⟨_, kb_plain (T.F_House_hear.bindsN fun _ _ _ _ _ _ us hl => match us, hl with | [_, _], _ => rfl) rfl⟩
theorem kb_House_load_p (T : Txt K mg) : ∃ g, KBn K T.d_House_load p_House_load 3 [] g (fun vs _ => vs) := ⟨_, kb_plain (T.F_House_load.bindsN fun _ _ _ _ _ _ us hl => match us, hl with | [_, _, _], _ => rfl) rfl⟩
theorem kb_House_may_vote_p (T : Txt K mg) : ∃ g, KBn K T.d_House_may_vote p_House_may_vote 2 [] g (fun vs _ => vs) := ⟨_, kb_plain (T.F_House_may_vote.bindsN fun _ _ _ _ _ _ us hl => match us, hl with | [_, _], _ => rfl) rfl⟩
theorem kb_House_new_votes_p (T : Txt K mg) : ∃ g, KBn K T.d_House_new_votes p_House_new_votes 1 [] g (fun vs _ => vs) := ⟨_, kb_plain (T.F_House_new_votes.bindsN fun _ _ _ _ _ _ us hl => match us, hl with | [_], _ => rfl) rfl⟩
theorem kb_House_settle_p (T : Txt K mg) : ∃ g, KBn K T.d_House_settle p_House_settle 2 [] g (fun vs _ => vs) := ⟨_, kb_plain (T.F_House_settle.bindsN fun _ _ _ _ _ _ us hl => match us, hl with | [_, _], _ => rfl) rfl⟩
theorem kb_House_state_p (T : Txt K mg) : ∃ g, KBn K T.d_House_state p_House_state 1 [] g (fun vs _ => vs) := ⟨_, kb_plain (T.F_House_state.bindsN fun _ _ _ _ _ _ us hl => match us, hl with | [_], _ => rfl) rfl⟩
theorem kb_House_take_p (T : Txt K mg) : ∃ g, KBn K T.d_House_take p_House_take 2 [] g (fun vs _ => vs) := ⟨_, kb_plain (T.F_House_take.bindsN fun _ _ _ _ _ _ us hl => match us, hl with | [_, _], _ => rfl) rfl⟩
theorem kb_World___init___e (T : Txt K mg) : ∃ g, KBn K T.d_World___init__ p_World___init__ 2 ["few", "sums", "liars"] g (fun vs zs => vs ++ (zs ++ [(V.ref (kwdAt ("World", some "__init__") "cheats" K))])) := Exists.elim (L2.FunD.kbinds0 T.F_World___init__ 2 ["few", "sums", "liars"] [("cheats", (V.ref (kwdAt ("World", some "__init__") "cheats" K)))] (fun vs mz zs => vs ++ (zs ++ mz)) (by intro z; cases z) (by first | decide | (intro q h; exact h) | (intro q h; simp only [List.mem_cons, List.not_mem_nil, or_false] at h ⊢; simp [h])) (fun r m z => r.append (z.append m)) fun _ _ _ _ _ _ us mv ws h1 h2 h3 => match us, mv, ws, h1, h2, h3 with | [_, _], [_], [_, _, _], _, _, _ => ⟨_, _, _, _, _, _, rfl, rfl, (by with_unfolding_all rfl)⟩) fun mv h => ⟨_, h⟩
theorem kb_World_ask_p (T : Txt K mg) : ∃ g, KBn K T.d_World_ask p_World_ask 4 [] g (fun vs _ => vs) := ⟨_, kb_plain (T.F_World_ask.bindsN fun _ _ _ _ _ _ us hl => match us, hl with | [_, _, _, _], _ => rfl) rfl⟩
theorem kb_World_come_p (T : Txt K mg) : ∃ g, KBn K T.d_World_come p_World_come 2 [] g (fun vs _ => vs) := ⟨_, kb_plain (T.F_World_come.bindsN fun _ _ _ _ _ _ us hl => match us, hl with | [_, _], _ => rfl) rfl⟩
theorem kb_World_honest_p (T : Txt K mg) : ∃ g, KBn K T.d_World_honest p_World_honest 1 [] g (fun vs _ => vs) := ⟨_, kb_plain (T.F_World_honest.bindsN fun _ _ _ _ _ _ us hl => match us, hl with | [_], _ => rfl) rfl⟩
theorem kb_World_left_at_p (T : Txt K mg) : ∃ g, KBn K T.d_World_left_at p_World_left_at 3 [] g (fun vs _ => vs) := ⟨_, kb_plain (T.F_World_left_at.bindsN fun _ _ _ _ _ _ us hl => match us, hl with | [_, _, _], _ => rfl) rfl⟩
theorem kb_World_letters_p (T : Txt K mg) : ∃ g, KBn K T.d_World_letters p_World_letters 1 [] g (fun vs _ => vs) := ⟨_, kb_plain (T.F_World_letters.bindsN fun _ _ _ _ _ _ us hl => match us, hl with | [_], _ => rfl) rfl⟩
theorem kb_World_look_liar_p (T : Txt K mg) : ∃ g, KBn K T.d_World_look_liar p_World_look_liar 2 [] g (fun vs _ => vs) := ⟨_, kb_plain (T.F_World_look_liar.bindsN fun _ _ _ _ _ _ us hl => match us, hl with | [_, _], _ => rfl) rfl⟩
theorem kb_World_look_purse_p (T : Txt K mg) : ∃ g, KBn K T.d_World_look_purse p_World_look_purse 2 [] g (fun vs _ => vs) := ⟨_, kb_plain (T.F_World_look_purse.bindsN fun _ _ _ _ _ _ us hl => match us, hl with | [_, _], _ => rfl) rfl⟩
theorem kb_World_next_number_p (T : Txt K mg) : ∃ g, KBn K T.d_World_next_number p_World_next_number 2 [] g (fun vs _ => vs) := ⟨_, kb_plain (T.F_World_next_number.bindsN fun _ _ _ _ _ _ us hl => match us, hl with | [_, _], _ => rfl) rfl⟩
theorem kb_World_order_to_all_p (T : Txt K mg) : ∃ g, KBn K T.d_World_order_to_all p_World_order_to_all 2 [] g (fun vs _ => vs) := ⟨_, kb_plain (T.F_World_order_to_all.bindsN fun _ _ _ _ _ _ us hl => match us, hl with | [_, _], _ => rfl) rfl⟩
theorem kb_World_paper_to_all_p (T : Txt K mg) : ∃ g, KBn K T.d_World_paper_to_all p_World_paper_to_all 2 [] g (fun vs _ => vs) := ⟨_, kb_plain (T.F_World_paper_to_all.bindsN fun _ _ _ _ _ _ us hl => match us, hl with | [_, _], _ => rfl) rfl⟩
theorem kb_World_room_p (T : Txt K mg) : ∃ g, KBn K T.d_World_room p_World_room 2 [] g (fun vs _ => vs) := ⟨_, kb_plain (T.F_World_room.bindsN fun _ _ _ _ _ _ us hl => match us, hl with | [_, _], _ => rfl) rfl⟩
theorem kb_World_signed_p (T : Txt K mg) : ∃ g, KBn K T.d_World_signed p_World_signed 3 [] g (fun vs _ => vs) := ⟨_, kb_plain (T.F_World_signed.bindsN fun _ _ _ _ _ _ us hl => match us, hl with | [_, _, _], _ => rfl) rfl⟩
theorem kb_World_sums_p (T : Txt K mg) : ∃ g, KBn K T.d_World_sums p_World_sums 2 [] g (fun vs _ => vs) := ⟨_, kb_plain (T.F_World_sums.bindsN fun _ _ _ _ _ _ us hl => match us, hl with | [_, _], _ => rfl) rfl⟩
theorem kb__law_asked_p (T : Txt K mg) : ∃ g, KBn K T.d__law_asked p__law_asked 4 [] g (fun vs _ => vs) := ⟨_, kb_plain (T.F__law_asked.bindsN fun _ _ _ _ _ _ us hl => match us, hl with | [_, _, _, _], _ => rfl) rfl⟩
theorem kb__law_did_p (T : Txt K mg) : ∃ g, KBn K T.d__law_did p__law_did 4 [] g (fun vs _ => vs) := ⟨_, kb_plain (T.F__law_did.bindsN fun _ _ _ _ _ _ us hl => match us, hl with | [_, _, _, _], _ => rfl) rfl⟩
theorem kb__law_draw_p (T : Txt K mg) : ∃ g, KBn K T.d__law_draw p__law_draw 2 [] g (fun vs _ => vs) := ⟨_, kb_plain (T.F__law_draw.bindsN fun _ _ _ _ _ _ us hl => match us, hl with | [_, _], _ => rfl) rfl⟩
theorem kb__law_pick_p (T : Txt K mg) : ∃ g, KBn K T.d__law_pick p__law_pick 2 [] g (fun vs _ => vs) := ⟨_, kb_plain (T.F__law_pick.bindsN fun _ _ _ _ _ _ us hl => match us, hl with | [_, _], _ => rfl) rfl⟩
theorem kb__law_refusal_p (T : Txt K mg) : ∃ g, KBn K T.d__law_refusal p__law_refusal 1 [] g (fun vs _ => vs) := ⟨_, kb_plain (T.F__law_refusal.bindsN fun _ _ _ _ _ _ us hl => match us, hl with | [_], _ => rfl) rfl⟩
theorem kb__law_town_p (T : Txt K mg) : ∃ g, KBn K T.d__law_town p__law_town 1 [] g (fun vs _ => vs) := ⟨_, kb_plain (T.F__law_town.bindsN fun _ _ _ _ _ _ us hl => match us, hl with | [_], _ => rfl) rfl⟩
theorem kb_cut_of_p (T : Txt K mg) : ∃ g, KBn K T.d_cut_of p_cut_of 2 [] g (fun vs _ => vs) := ⟨_, kb_plain (T.F_cut_of.bindsN fun _ _ _ _ _ _ us hl => match us, hl with | [_, _], _ => rfl) rfl⟩
theorem kb_enough_p (T : Txt K mg) : ∃ g, KBn K T.d_enough p_enough 2 [] g (fun vs _ => vs) := ⟨_, kb_plain (T.F_enough.bindsN fun _ _ _ _ _ _ us hl => match us, hl with | [_, _], _ => rfl) rfl⟩
theorem kb_false_houses_p (T : Txt K mg) : ∃ g, KBn K T.d_false_houses p_false_houses 1 [] g (fun vs _ => vs) := ⟨_, kb_plain (T.F_false_houses.bindsN fun _ _ _ _ _ _ us hl => match us, hl with | [_], _ => rfl) rfl⟩
theorem kb_false_owners_p (T : Txt K mg) : ∃ g, KBn K T.d_false_owners p_false_owners 1 [] g (fun vs _ => vs) := ⟨_, kb_plain (T.F_false_owners.bindsN fun _ _ _ _ _ _ us hl => match us, hl with | [_], _ => rfl) rfl⟩
theorem kb_is_behind_p (T : Txt K mg) : ∃ g, KBn K T.d_is_behind p_is_behind 2 [] g (fun vs _ => vs) := ⟨_, kb_plain (T.F_is_behind.bindsN fun _ _ _ _ _ _ us hl => match us, hl with | [_, _], _ => rfl) rfl⟩
theorem kb_is_cut_p (T : Txt K mg) : ∃ g, KBn K T.d_is_cut p_is_cut 2 [] g (fun vs _ => vs) := ⟨_, kb_plain (T.F_is_cut.bindsN fun _ _ _ _ _ _ us hl => match us, hl with | [_, _], _ => rfl) rfl⟩
theorem kb_is_order_a (T : Txt K mg) : ∃ g, KBn K T.d_is_order p_is_order 1 ["purses"] g (fun vs zs => vs ++ zs) := ⟨_, Fl.FunD.kbN T.F_is_order 1 ["purses"] (fun vs zs => vs ++ zs) (fun r r2 => r.append r2) fun _ _ _ _ _ _ us ws h1 h2 => match us, ws, h1, h2 with | [_], [_], _, _ => rfl⟩
theorem kb_is_whole_p (T : Txt K mg) : ∃ g, KBn K T.d_is_whole p_is_whole 3 [] g (fun vs _ => vs) := ⟨_, kb_plain (T.F_is_whole.bindsN fun _ _ _ _ _ _ us hl => match us, hl with | [_, _, _], _ => rfl) rfl⟩
theorem kb_look_liars_p (T : Txt K mg) : ∃ g, KBn K T.d_look_liars p_look_liars 3 [] g (fun vs _ => vs) := ⟨_, kb_plain (T.F_look_liars.bindsN fun _ _ _ _ _ _ us hl => match us, hl with | [_, _, _], _ => rfl) rfl⟩
theorem kb_look_number_p (T : Txt K mg) : ∃ g, KBn K T.d_look_number p_look_number 3 [] g (fun vs _ => vs) := ⟨_, kb_plain (T.F_look_number.bindsN fun _ _ _ _ _ _ us hl => match us, hl with | [_, _, _], _ => rfl) rfl⟩
theorem kb_look_order_a (T : Txt K mg) : ∃ g, KBn K T.d_look_order p_look_order 1 ["purses"] g (fun vs zs => vs ++ zs) := ⟨_, Fl.FunD.kbN T.F_look_order 1 ["purses"] (fun vs zs => vs ++ zs) (fun r r2 => r.append r2) fun _ _ _ _ _ _ us ws h1 h2 => match us, ws, h1, h2 with | [_], [_], _, _ => rfl⟩
theorem kb_look_order_d (T : Txt K mg) : ∃ g, KBn K T.d_look_order p_look_order 1 [] g (fun vs _ => vs ++ [(V.int 8)]) := Exists.elim (L2.FunD.kbinds0 T.F_look_order 1 [] [("purses", (V.int 8))] (fun vs mz _ => vs ++ mz) (by intro z; cases z) (by first | decide | (intro q h; exact h) | (intro q h; simp only [List.mem_cons, List.not_mem_nil, or_false] at h ⊢; simp [h])) (fun r m _ => r.append m) fun _ _ _ _ _ _ us mv ws h1 h2 h3 => match us, mv, ws, h1, h2, h3 with | [_], [_], [], _, _, _ => ⟨_, _, _, _, _, _, rfl, rfl, (by with_unfolding_all rfl)⟩) fun mv h => ⟨_, h⟩
theorem kb_look_world_p (T : Txt K mg) : ∃ g, KBn K T.d_look_world p_look_world 1 [] g (fun vs _ => vs) := ⟨_, kb_plain (T.F_look_world.bindsN fun _ _ _ _ _ _ us hl => match us, hl with | [_], _ => rfl) rfl⟩
theorem kb_lost_nothing_p (T : Txt K mg) : ∃ g, KBn K T.d_lost_nothing p_lost_nothing 1 [] g (fun vs _ => vs) := ⟨_, kb_plain (T.F_lost_nothing.bindsN fun _ _ _ _ _ _ us hl => match us, hl with | [_], _ => rfl) rfl⟩
theorem kb_seen_orders_p (T : Txt K mg) : ∃ g, KBn K T.d_seen_orders p_seen_orders 1 [] g (fun vs _ => vs) := ⟨_, kb_plain (T.F_seen_orders.bindsN fun _ _ _ _ _ _ us hl => match us, hl with | [_], _ => rfl) rfl⟩
theorem kb_stuck_purses_p (T : Txt K mg) : ∃ g, KBn K T.d_stuck_purses p_stuck_purses 1 [] g (fun vs _ => vs) := ⟨_, kb_plain (T.F_stuck_purses.bindsN fun _ _ _ _ _ _ us hl => match us, hl with | [_], _ => rfl) rfl⟩
theorem ok__law_town (T : Txt K mg) : FnOk P w K mg base (L2.CX P w) 1 (A__law_town K) T.d__law_town p__law_town (spF K (Ly K) S__law_town) := by
  refine def_ok T.F__law_town sc__law_town (fun ds M h => by unfold S__law_town; rw [decide_eq_false (show ¬ ds.length = 1 from h)]) (fun cdv A outer s H E hr tk hp => ?_) (fun ds M h => by unfold S__law_town; rw [decide_eq_true (show ds.length = 1 from h)]; rfl)
  have hu := hu70 hr
  exact (fss_one (fs_ret (fe_lst (fa_cons (fe_if (ft_cmp (o_ne hu) (fv 0) (fe_lst fa_nil)) (fe_ct c_list (by rfl) T.fr_list bb_list (fa_cons (fv 0) fa_nil)) (fe_lst (fa_cons fe_int fa_nil))) (fa_cons fe_int fa_nil)))))
theorem ok_is_whole (T : Txt K mg) : FnOk P w K mg base (L2.CX P w) 1 (A_is_whole K) T.d_is_whole p_is_whole (spF K (Ly K) S_is_whole) := by
  refine def_ok T.F_is_whole sc_is_whole (fun ds M h => by unfold S_is_whole; rw [decide_eq_false (show ¬ ds.length = 3 from h)]) (fun cdv A outer s H E hr tk hp => ?_) (fun ds M h => by unfold S_is_whole; rw [decide_eq_true (show ds.length = 3 from h)]; rfl)
  have hu := hu70 hr
  exact (fss_one (fs_ret (fe_and (fe_isi tabInt_ok (by rfl) T.fr_isinstance (by rfl) T.fr_int bb_int (fv 0)) (fe_and (fe_not (fe_isi tabBool_ok (by rfl) T.fr_isinstance (by rfl) T.fr_bool bb_bool (fv 0))) (fe_one (fe_chain o_le o_le (fv 1) (fv 0) (fv 2)))))))
theorem ok_look_number (T : Txt K mg) : FnOk P w K mg base (L2.CX P w) 2 (A_look_number K) T.d_look_number p_look_number (spF K (Ly K) S_look_number) := by
  have c_is_whole := ok_is_whole (P := P) (w := w) (base := base) T
  obtain ⟨g_is_whole_p, b_is_whole_p⟩ := kb_is_whole_p T
  refine def_ok T.F_look_number sc_look_number (fun ds M h => by unfold S_look_number; rw [decide_eq_false (show ¬ ds.length = 3 from h)]) (fun cdv A outer s H E hr tk hp => ?_) (fun ds M h => by unfold S_look_number; rw [decide_eq_true (show ds.length = 3 from h)]; rfl)
  have hu := hu70 hr
  exact (fss_one (fs_if (ft_not (ft_val (fe_call c_is_whole (hr.mono (by decide : 1 ≤ 1)) tk (by rfl) T.m_is_whole T.F_is_whole.kp b_is_whole_p gr_plain (fa_cons (fv 0) (fa_cons (fv 1) (fa_cons (fv 2) fa_nil)))))) (fss_one (fs_raise (c := 7) rfl tk T.x_BadNumber (by rfl))) fss_nil))
theorem ok_look_liars (T : Txt K mg) : FnOk P w K mg base (L2.CX P w) 2 (A_look_liars K) T.d_look_liars p_look_liars (spF K (Ly K) S_look_liars) := by
  have c_is_whole := ok_is_whole (P := P) (w := w) (base := base) T
  obtain ⟨g_is_whole_p, b_is_whole_p⟩ := kb_is_whole_p T
  refine def_ok T.F_look_liars sc_look_liars (fun ds M h => by unfold S_look_liars; rw [decide_eq_false (show ¬ ds.length = 3 from h)]) (fun cdv A outer s H E hr tk hp => ?_) (fun ds M h => by unfold S_look_liars; rw [decide_eq_true (show ds.length = 3 from h)]; rfl)
  have hu := hu70 hr
  exact (fss_cons (fs_set sc_look_liars.nd rfl (by first | exact Or.inl rfl | exact Or.inr rfl) (fe_and (fe_isiLT (by rfl) T.fr_isinstance (by rfl) T.fr_list (by rfl) T.fr_tuple (fv 0)) (fe_one (fe_cmp o_le (fe_cb c_len (by rfl) T.fr_len bb_len (fa_cons (fv 0) fa_nil)) (fv 2))))) (fss_one (fs_if (fw_t (fw_or (ft_not (ft_val (fv 3))) (fw_or (ft_not (ft_val (fe_cb (c_all rfl) (by rfl) T.fr_all bb_all (fa_cons (fe_lc (own := [("one", 4)]) rfl sc_look_liars.nd  (fi_seq (fv 0)) (blkOk_by (N := N_look_liars) (sc := defScope s_look_liars) (by decide +kernel)) rfl (fun _ _ _ _ _ => (fg_name (by decide) sc_look_liars.nd rfl (by first | exact Or.inl rfl | exact Or.inr rfl))) (fun _ _ _ _ _ => fts_nil) (fun _ _ _ _ _ => (fe_call c_is_whole (hr.mono (by decide : 1 ≤ 1)) takes0 (by rfl) T.m_is_whole T.F_is_whole.kp b_is_whole_p gr_plain (fa_cons (fv 4) (fa_cons fe_int (fa_cons (fe_op o_sub (fv 1) fe_int) fa_nil)))))) fa_nil)))) (fw_or1 (ft_cmp (o_ne hu) (fe_sortSet rfl (by rfl) T.fr_sorted (by rfl) T.fr_set (fv 0)) (fe_ct c_list (by rfl) T.fr_list bb_list (fa_cons (fv 0) fa_nil))))))) (fss_one (fs_raise (c := 9) rfl tk T.x_BadHouses (by rfl))) fss_nil)))
theorem ok_Board___init__ (T : Txt K mg) : FnOk P w K mg base (L2.CX P w) 1 (A_Board___init__ K) T.d_Board___init__ p_Board___init__ (spF K (Ly K) S_Board___init__) := by
  refine def_ok T.F_Board___init__ sc_Board___init__ (fun ds M h => by unfold S_Board___init__; rw [decide_eq_false (show ¬ ds.length = 3 from h)]) (fun cdv A outer s H E hr tk hp => ?_) (fun ds M h => by unfold S_Board___init__; rw [decide_eq_true (show ds.length = 3 from h)]; rfl)
  have hu := hu70 hr
  exact (fss_cons (fs_fld (T.clAll.fld 6 (by decide)) (by rfl) (fv 0) (fv 1)) (fss_cons (fs_fld (T.clAll.fld 7 (by decide)) (by rfl) (fv 0) (fv 2)) (fss_one (fs_fld (T.clAll.fld 8 (by decide)) (by rfl) (fv 0) fe_newT))))
theorem ok_House___init__ (T : Txt K mg) : FnOk P w K mg base (L2.CX P w) 1 (A_House___init__ K) T.d_House___init__ p_House___init__ (spF K (Ly K) S_House___init__) := by
  refine def_ok T.F_House___init__ sc_House___init__ (fun ds M h => by unfold S_House___init__; rw [decide_eq_false (show ¬ ds.length = 2 from h)]) (fun cdv A outer s H E hr tk hp => ?_) (fun ds M h => by unfold S_House___init__; rw [decide_eq_true (show ds.length = 2 from h)]; rfl)
  have hu := hu70 hr
  exact (fss_cons (fs_fld (T.clAll.fld 0 (by decide)) (by rfl) (fv 0) (fe_ct c_list (by rfl) T.fr_list bb_list (fa_cons (fv 1) fa_nil))) (fss_cons (fs_fld (T.clAll.fld 1 (by decide)) (by rfl) (fv 0) (fe_lc (own := [("purse", 2)]) rfl sc_House___init__.nd  (fi_seq (fv 1)) (blkOk_by (N := N_House___init__) (sc := defScope s_House___init__) (by decide +kernel)) rfl (fun _ _ _ _ _ => (fg_name (by decide) sc_House___init__.nd rfl (by first | exact Or.inl rfl | exact Or.inr rfl))) (fun _ _ _ _ _ => fts_nil) (fun _ _ _ _ _ => fe_int))) (fss_cons (fs_fld (T.clAll.fld 2 (by decide)) (by rfl) (fv 0) fe_newT) (fss_cons (fs_fld (T.clAll.fld 3 (by decide)) (by rfl) (fv 0) (fe_lst fa_nil)) (fss_cons (fs_fld (T.clAll.fld 4 (by decide)) (by rfl) (fv 0) (fe_lst fa_nil)) (fss_one (fs_fld (T.clAll.fld 5 (by decide)) (by rfl) (fv 0) (fe_lst fa_nil))))))))
theorem ok_World___init__ (T : Txt K mg) : FnOk P w K mg base (L2.CX P w) 3 (A_World___init__ K) T.d_World___init__ p_World___init__ (spF K (Ly K) S_World___init__) := by
  have c_Board___init__ := ok_Board___init__ (P := P) (w := w) (base := base) T
  have c_House___init__ := ok_House___init__ (P := P) (w := w) (base := base) T
  have c_is_whole := ok_is_whole (P := P) (w := w) (base := base) T
  have c_look_liars := ok_look_liars (P := P) (w := w) (base := base) T
  have c_look_number := ok_look_number (P := P) (w := w) (base := base) T
  obtain ⟨g_Board___init___a, b_Board___init___a⟩ := kb_Board___init___a T
  obtain ⟨g_House___init___p, b_House___init___p⟩ := kb_House___init___p T
  obtain ⟨g_is_whole_p, b_is_whole_p⟩ := kb_is_whole_p T
  obtain ⟨g_look_liars_p, b_look_liars_p⟩ := kb_look_liars_p T
  obtain ⟨g_look_number_p, b_look_number_p⟩ := kb_look_number_p T
  obtain ⟨t_MOST_FEW, i_MOST_FEW⟩ := T.i_MOST_FEW
  obtain ⟨t_MOST_HOUSES, i_MOST_HOUSES⟩ := T.i_MOST_HOUSES
  obtain ⟨t_MOST_PURSES, i_MOST_PURSES⟩ := T.i_MOST_PURSES
  obtain ⟨t_MOST_SUM, i_MOST_SUM⟩ := T.i_MOST_SUM
  refine def_ok T.F_World___init__ sc_World___init__ (fun ds M h => by unfold S_World___init__; rw [decide_eq_false (show ¬ ds.length = 6 from h)]) (fun cdv A outer s H E hr tk hp => ?_) (fun ds M h => by unfold S_World___init__; rw [decide_eq_true (show ds.length = 6 from h)]; rfl)
  have hu := hu70 hr
  exact (fss_cons (fs_expr (fe_call c_look_number (hr.mono (by decide : 2 ≤ 2)) tk (by rfl) T.m_look_number T.F_look_number.kp b_look_number_p gr_plain (fa_cons (fv 1) (fa_cons fe_int (fa_cons (fe_glob (by rfl) i_MOST_HOUSES) fa_nil))))) (fss_cons (fs_expr (fe_call c_look_number (hr.mono (by decide : 2 ≤ 2)) tk (by rfl) T.m_look_number T.F_look_number.kp b_look_number_p gr_plain (fa_cons (fv 2) (fa_cons fe_int (fa_cons (fe_glob (by rfl) i_MOST_FEW) fa_nil))))) (fss_cons (fs_if (ft_cmp o_le (fv 1) (fe_op o_mulX fe_int (fv 2))) (fss_one (fs_raise (c := 9) rfl tk T.x_BadHouses (by rfl))) fss_nil) (fss_cons (fs_expr (fe_call c_look_liars (hr.mono (by decide : 2 ≤ 2)) tk (by rfl) T.m_look_liars T.F_look_liars.kp b_look_liars_p gr_plain (fa_cons (fv 4) (fa_cons (fv 1) (fa_cons (fv 2) fa_nil))))) (fss_cons (fs_set sc_World___init__.nd rfl (by first | exact Or.inl rfl | exact Or.inr rfl) (fe_and (fe_isi tabLst_ok (by rfl) T.fr_isinstance (by rfl) T.fr_list bb_list (fv 3)) (fe_one (fe_chain o_le o_le fe_int (fe_cb c_len (by rfl) T.fr_len bb_len (fa_cons (fv 3) fa_nil)) (fe_glob (by rfl) i_MOST_PURSES))))) (fss_cons (fs_if (fw_t (fw_or (ft_not (ft_val (fv 6))) (fw_or1 (ft_not (ft_val (fe_cb (c_all rfl) (by rfl) T.fr_all bb_all (fa_cons (fe_lc (own := [("one", 8)]) rfl sc_World___init__.nd  (fi_seq (fv 3)) (blkOk_by (N := N_World___init__) (sc := defScope s_World___init__) (by decide +kernel)) rfl (fun _ _ _ _ _ => (fg_name (by decide) sc_World___init__.nd rfl (by first | exact Or.inl rfl | exact Or.inr rfl))) (fun _ _ _ _ _ => fts_nil) (fun _ _ _ _ _ => (fe_call c_is_whole (hr.mono (by decide : 1 ≤ 2)) takes0 (by rfl) T.m_is_whole T.F_is_whole.kp b_is_whole_p gr_plain (fa_cons (fv 8) (fa_cons fe_int (fa_cons (fe_glob (by rfl) i_MOST_SUM) fa_nil)))))) fa_nil))))))) (fss_one (fs_raise (c := 9) rfl tk T.x_BadHouses (by rfl))) fss_nil) (fss_cons (fs_expr (fe_call c_look_liars (hr.mono (by decide : 2 ≤ 2)) tk (by rfl) T.m_look_liars T.F_look_liars.kp b_look_liars_p gr_plain (fa_cons (fv 5) (fa_cons (fe_cb c_len (by rfl) T.fr_len bb_len (fa_cons (fv 3) fa_nil)) (fa_cons (fe_cb c_len (by rfl) T.fr_len bb_len (fa_cons (fv 3) fa_nil)) fa_nil))))) (fss_cons (fs_fld (T.clAll.fld 9 (by decide)) (by rfl) (fv 0) (fe_ct c_list (by rfl) T.fr_list bb_list (fa_cons (fv 3) fa_nil))) (fss_cons (fs_fld (T.clAll.fld 10 (by decide)) (by rfl) (fv 0) (fe_ct c_list (by rfl) T.fr_list bb_list (fa_cons (fv 4) fa_nil))) (fss_cons (fs_fld (T.clAll.fld 11 (by decide)) (by rfl) (fv 0) (fe_ct c_list (by rfl) T.fr_list bb_list (fa_cons (fv 5) fa_nil))) (fss_cons (fs_fld (T.clAll.fld 12 (by decide)) (by rfl) (fv 0) (fe_makeK (c := 2) (ks := ["few"]) (show 2 < 6 by decide) T.mk_Board c_Board___init__ (hr.mono (by decide : 2 ≤ 2)) tk (by rfl) T.c_Board b_Board___init___a gr_app (fa_cons (fv 1) fa_nil) (fk_cons (fv 2) fk_nil))) (fss_cons (fs_fld (T.clAll.fld 13 (by decide)) (by rfl) (fv 0) (fe_dc (own := [("house", 7)]) rfl sc_World___init__.nd (fi_rng1 (by rfl) T.fr_range (fa_cons (fv 1) fa_nil)) (blkOk_by (N := N_World___init__) (sc := defScope s_World___init__) (by decide +kernel)) rfl (fun _ _ _ _ _ => (fg_name (by decide) sc_World___init__.nd rfl (by first | exact Or.inl rfl | exact Or.inr rfl))) (fun _ _ _ _ _ => (fts_one (ft_cmp (o_notIn hu) (fv 7) (fv 4)))) (fun _ _ _ _ _ => (fv 7)) (fun _ _ _ _ _ => (fe_make (c := 1) (show 1 < 6 by decide) T.mk_House c_House___init__ (hr.mono (by decide : 2 ≤ 2)) takes0 (by rfl) T.c_House b_House___init___p gr_plain (fa_cons (fv 3) fa_nil))))) (fss_cons (fs_fld (T.clAll.fld 14 (by decide)) (by rfl) (fv 0) (fe_lst fa_nil)) (fss_one (fs_fld (T.clAll.fld 15 (by decide)) (by rfl) (fv 0) fe_newT)))))))))))))))
theorem ok_look_world (T : Txt K mg) : FnOk P w K mg base (L2.CX P w) 1 (A_look_world K) T.d_look_world p_look_world (spF K (Ly K) S_look_world) := by
  refine def_ok T.F_look_world sc_look_world (fun ds M h => by unfold S_look_world; rw [decide_eq_false (show ¬ ds.length = 1 from h)]) (fun cdv A outer s H E hr tk hp => ?_) (fun ds M h => by unfold S_look_world; rw [decide_eq_true (show ds.length = 1 from h)]; rfl)
  have hu := hu70 hr
  exact (fss_one (fs_if (ft_not (ft_val (fe_isiC (tabW_ok T.wAll T.clAll) (by rfl) T.fr_isinstance (by rfl) T.c_World (fv 0)))) (fss_one (fs_raise (c := 15) rfl tk T.x_BadPaper (by rfl))) fss_nil))
theorem ok_Cutting___init__ (T : Txt K mg) : FnOk P w K mg base (L2.CX P w) 2 (A_Cutting___init__ K) T.d_Cutting___init__ p_Cutting___init__ (spF K (Ly K) S_Cutting___init__) := by
  have c_look_world := ok_look_world (P := P) (w := w) (base := base) T
  obtain ⟨g_look_world_p, b_look_world_p⟩ := kb_look_world_p T
  refine def_ok T.F_Cutting___init__ sc_Cutting___init__ (fun ds M h => by unfold S_Cutting___init__; rw [decide_eq_false (show ¬ ds.length = 2 from h)]) (fun cdv A outer s H E hr tk hp => ?_) (fun ds M h => by unfold S_Cutting___init__; rw [decide_eq_true (show ds.length = 2 from h)]; rfl)
  have hu := hu70 hr
  exact (fss_cons (fs_expr (fe_call c_look_world (hr.mono (by decide : 1 ≤ 1)) tk (by rfl) T.m_look_world T.F_look_world.kp b_look_world_p gr_plain (fa_cons (fv 1) fa_nil))) (fss_cons (fs_fld (T.clAll.fld 16 (by decide)) (by rfl) (fv 0) (fv 1)) (fss_one (fs_fld (T.clAll.fld 8 (by decide)) (by rfl) (fv 0) fe_newN))))
theorem ok_World_look_purse (T : Txt K mg) : FnOk P w K mg base (L2.CX P w) 3 (A_World_look_purse K) T.d_World_look_purse p_World_look_purse (spF K (Ly K) S_World_look_purse) := by
  have c_is_whole := ok_is_whole (P := P) (w := w) (base := base) T
  obtain ⟨g_is_whole_p, b_is_whole_p⟩ := kb_is_whole_p T
  refine def_ok T.F_World_look_purse sc_World_look_purse (fun ds M h => by unfold S_World_look_purse; rw [decide_eq_false (show ¬ ds.length = 2 from h)]) (fun cdv A outer s H E hr tk hp => ?_) (fun ds M h => by unfold S_World_look_purse; rw [decide_eq_true (show ds.length = 2 from h)]; rfl)
  have hu := hu70 hr
  exact (fss_one (fs_if (ft_not (ft_val (fe_call c_is_whole (hr.mono (by decide : 1 ≤ 2)) tk (by rfl) T.m_is_whole T.F_is_whole.kp b_is_whole_p gr_plain (fa_cons (fv 1) (fa_cons fe_int (fa_cons (fe_op o_sub (fe_cb c_len (by rfl) T.fr_len bb_len (fa_cons (fe_fld (T.clAll.fld 9 (by decide)) (by rfl) (fv 0)) fa_nil)) fe_int) fa_nil)))))) (fss_one (fs_raise1 (c := 11) rfl tk T.xf_NoPurse (by rfl) (xi_NoPurse T) (hr.mono (by decide : 2 ≤ 2)) (xb_NoPurse T) (by rfl) T.c_NoPurse (fv 1))) fss_nil))
theorem ok_World_next_number (T : Txt K mg) : FnOk P w K mg base (L2.CX P w) 4 (A_World_next_number K) T.d_World_next_number p_World_next_number (spF K (Ly K) S_World_next_number) := by
  have c_World_look_purse := ok_World_look_purse (P := P) (w := w) (base := base) T
  obtain ⟨g_World_look_purse_p, b_World_look_purse_p⟩ := kb_World_look_purse_p T
  refine def_ok T.F_World_next_number sc_World_next_number (fun ds M h => by unfold S_World_next_number; rw [decide_eq_false (show ¬ ds.length = 2 from h)]) (fun cdv A outer s H E hr tk hp => ?_) (fun ds M h => by unfold S_World_next_number; rw [decide_eq_true (show ds.length = 2 from h)]; rfl)
  have hu := hu70 hr
  exact (fss_cons (fs_expr (fe_meth (c := 0) (T.clAll.cl 0) (by rfl) T.me_World_look_purse c_World_look_purse (hr.mono (by decide : 3 ≤ 3)) tk b_World_look_purse_p gr_plain (fv 0) (fa_cons (fv 1) fa_nil))) (fss_one (fs_ret (fe_cb c_len (by rfl) T.fr_len bb_len (fa_cons (fe_lock (fe_lc (own := [("place", 2)]) rfl sc_World_next_number.nd  (fi_keys (fe_fld (T.clAll.fld 15 (by decide)) (by rfl) (fv 0))) (blkOk_by (N := N_World_next_number) (sc := defScope s_World_next_number) (by decide +kernel)) rfl (fun _ _ _ _ _ => (fg_name (by decide) sc_World_next_number.nd rfl (by first | exact Or.inl rfl | exact Or.inr rfl))) (fun _ _ _ _ _ => (fts_one (ft_cmp (o_eq hu) (fe_ix hu (fv 2) fe_int) (fv 1)))) (fun _ _ _ _ _ => (fv 2)))) fa_nil)))))
theorem ok_World_honest (T : Txt K mg) : FnOk P w K mg base (L2.CX P w) 1 (A_World_honest K) T.d_World_honest p_World_honest (spF K (Ly K) S_World_honest) := by
  refine def_ok T.F_World_honest sc_World_honest (fun ds M h => by unfold S_World_honest; rw [decide_eq_false (show ¬ ds.length = 1 from h)]) (fun cdv A outer s H E hr tk hp => ?_) (fun ds M h => by unfold S_World_honest; rw [decide_eq_true (show ds.length = 1 from h)]; rfl)
  have hu := hu70 hr
  exact (fss_one (fs_ret (fe_cb (c_sorted rfl hu) (by rfl) T.fr_sorted bb_sorted (fa_cons (fe_fld (T.clAll.fld 13 (by decide)) (by rfl) (fv 0)) fa_nil))))
theorem ok_World_order_to_all (T : Txt K mg) : FnOk P w K mg base (L2.CX P w) 2 (A_World_order_to_all K) T.d_World_order_to_all p_World_order_to_all (spF K (Ly K) S_World_order_to_all) := by
  have c_World_honest := ok_World_honest (P := P) (w := w) (base := base) T
  obtain ⟨g_World_honest_p, b_World_honest_p⟩ := kb_World_honest_p T
  refine def_ok T.F_World_order_to_all sc_World_order_to_all (fun ds M h => by unfold S_World_order_to_all; rw [decide_eq_false (show ¬ ds.length = 2 from h)]) (fun cdv A outer s H E hr tk hp => ?_) (fun ds M h => by unfold S_World_order_to_all; rw [decide_eq_true (show ds.length = 2 from h)]; rfl)
  have hu := hu70 hr
  exact (fss_one (fs_for (is := [2]) hp rfl (fi_seq (fe_meth0 (c := 0) (T.clAll.cl 0) (by rfl) T.me_World_honest c_World_honest (hr.mono (by decide : 1 ≤ 1)) tk b_World_honest_p gr_plain (fv 0))) (fg_name (by decide) sc_World_order_to_all.nd rfl (by first | exact Or.inl rfl | exact Or.inr rfl)) (fss_one (fs_expr (fe_bm PySem.F.plainAttrs_list PySem.F.slot_list_append PySem.F.type_list_append tyLst_ok m_append (fe_fld (T.clAll.fld 14 (by decide)) (by rfl) (fv 0)) (fa_cons (fe_tup (fa_cons fe_str (fa_cons (fv 2) (fa_cons (fv 1) fa_nil)))) fa_nil))))))
theorem ok_enough (T : Txt K mg) : FnOk P w K mg base (L2.CX P w) 1 (A_enough K) T.d_enough p_enough (spF K (Ly K) S_enough) := by
  refine def_ok T.F_enough sc_enough (fun ds M h => by unfold S_enough; rw [decide_eq_false (show ¬ ds.length = 2 from h)]) (fun cdv A outer s H E hr tk hp => ?_) (fun ds M h => by unfold S_enough; rw [decide_eq_true (show ds.length = 2 from h)]; rfl)
  have hu := hu70 hr
  exact (fss_one (fs_ret (fe_op o_sub (fv 0) (fv 1))))
theorem ok_Board_is_paper (T : Txt K mg) : FnOk P w K mg base (L2.CX P w) 2 (A_Board_is_paper K) T.d_Board_is_paper p_Board_is_paper (spF K (Ly K) S_Board_is_paper) := by
  have c_enough := ok_enough (P := P) (w := w) (base := base) T
  obtain ⟨g_enough_p, b_enough_p⟩ := kb_enough_p T
  refine def_ok T.F_Board_is_paper sc_Board_is_paper (fun ds M h => by unfold S_Board_is_paper; rw [decide_eq_false (show ¬ ds.length = 2 from h)]) (fun cdv A outer s H E hr tk hp => ?_) (fun ds M h => by unfold S_Board_is_paper; rw [decide_eq_true (show ds.length = 2 from h)]; rfl)
  have hu := hu70 hr
  exact (fss_one (fs_ret (fe_cmp o_ge (fe_cb c_len (by rfl) T.fr_len bb_len (fa_cons (fe_get2 hu (fe_fld (T.clAll.fld 8 (by decide)) (by rfl) (fv 0)) (fv 1) (fe_lst fa_nil)) fa_nil)) (fe_call c_enough (hr.mono (by decide : 1 ≤ 1)) tk (by rfl) T.m_enough T.F_enough.kp b_enough_p gr_plain (fa_cons (fe_fld (T.clAll.fld 6 (by decide)) (by rfl) (fv 0)) (fa_cons (fe_fld (T.clAll.fld 7 (by decide)) (by rfl) (fv 0)) fa_nil))))))
theorem ok_World_left_at (T : Txt K mg) : FnOk P w K mg base (L2.CX P w) 1 (A_World_left_at K) T.d_World_left_at p_World_left_at (spF K (Ly K) S_World_left_at) := by
  refine def_ok T.F_World_left_at sc_World_left_at (fun ds M h => by unfold S_World_left_at; rw [decide_eq_false (show ¬ ds.length = 3 from h)]) (fun cdv A outer s H E hr tk hp => ?_) (fun ds M h => by unfold S_World_left_at; rw [decide_eq_true (show ds.length = 3 from h)]; rfl)
  have hu := hu70 hr
  exact (fss_cons (fs_set sc_World_left_at.nd rfl (by first | exact Or.inl rfl | exact Or.inr rfl) (fe_ix hu (fe_fld (T.clAll.fld 13 (by decide)) (by rfl) (fv 0)) (fv 1))) (fss_cons (fs_lock (by first | exact (fs_setLc (own := [("place", 5)]) rfl sc_World_left_at.nd rfl rfl (sw_true rfl rfl rfl (by decide +kernel)) (fi_keys (fe_fld (T.clAll.fld 15 (by decide)) (by rfl) (fv 0))) (blkOk_by (N := N_World_left_at) (sc := defScope s_World_left_at) (by decide +kernel)) rfl (fun _ _ _ _ _ => (fg_name (by decide) sc_World_left_at.nd rfl (by first | exact Or.inl rfl | exact Or.inr rfl))) (fun _ _ _ _ _ => (fts_one (fw_t (fw_and (ft_cmp (o_eq hu) (fe_ix hu (fv 5) fe_int) (fv 2)) (fw_and1 (ft_cmp o_ge (fe_ix hu (fv 5) fe_int) (fe_ix hu (fe_fld (T.clAll.fld 1 (by decide)) (by rfl) (fv 3)) (fv 2)))))))) (fun _ _ _ _ _ => (fe_ix hu (fe_fld (T.clAll.fld 15 (by decide)) (by rfl) (fv 0)) (fv 5)))) | exact (fs_set sc_World_left_at.nd rfl (by first | exact Or.inl rfl | exact Or.inr rfl) (fe_lc (own := [("place", 5)]) rfl sc_World_left_at.nd  (fi_keys (fe_fld (T.clAll.fld 15 (by decide)) (by rfl) (fv 0))) (blkOk_by (N := N_World_left_at) (sc := defScope s_World_left_at) (by decide +kernel)) rfl (fun _ _ _ _ _ => (fg_name (by decide) sc_World_left_at.nd rfl (by first | exact Or.inl rfl | exact Or.inr rfl))) (fun _ _ _ _ _ => (fts_one (fw_t (fw_and (ft_cmp (o_eq hu) (fe_ix hu (fv 5) fe_int) (fv 2)) (fw_and1 (ft_cmp o_ge (fe_ix hu (fv 5) fe_int) (fe_ix hu (fe_fld (T.clAll.fld 1 (by decide)) (by rfl) (fv 3)) (fv 2)))))))) (fun _ _ _ _ _ => (fe_ix hu (fe_fld (T.clAll.fld 15 (by decide)) (by rfl) (fv 0)) (fv 5))))))) (fss_one (fs_ret (fe_op o_sub (fe_ix hu (fe_fld (T.clAll.fld 0 (by decide)) (by rfl) (fv 3)) (fv 2)) (fe_cb (c_sum rfl) (by rfl) T.fr_sum bb_sum (fa_cons (fe_lc (own := [("order", 6)]) rfl sc_World_left_at.nd  (fi_seq (fv 4)) (blkOk_by (N := N_World_left_at) (sc := defScope s_World_left_at) (by decide +kernel)) rfl (fun _ _ _ _ _ => (fg_name (by decide) sc_World_left_at.nd rfl (by first | exact Or.inl rfl | exact Or.inr rfl))) (fun _ _ _ _ _ => fts_nil) (fun _ _ _ _ _ => (fe_ix hu (fv 6) fe_int))) fa_nil)))))))
theorem ok_World_ask (T : Txt K mg) : FnOk P w K mg base (L2.CX P w) 5 (A_World_ask K) T.d_World_ask p_World_ask (spF K (Ly K) S_World_ask) := by
  have c_Board_is_paper := ok_Board_is_paper (P := P) (w := w) (base := base) T
  have c_World_honest := ok_World_honest (P := P) (w := w) (base := base) T
  have c_World_left_at := ok_World_left_at (P := P) (w := w) (base := base) T
  have c_World_look_purse := ok_World_look_purse (P := P) (w := w) (base := base) T
  have c_World_next_number := ok_World_next_number (P := P) (w := w) (base := base) T
  have c_World_order_to_all := ok_World_order_to_all (P := P) (w := w) (base := base) T
  have c_look_number := ok_look_number (P := P) (w := w) (base := base) T
  obtain ⟨g_Board_is_paper_p, b_Board_is_paper_p⟩ := kb_Board_is_paper_p T
  obtain ⟨g_World_honest_p, b_World_honest_p⟩ := kb_World_honest_p T
  obtain ⟨g_World_left_at_p, b_World_left_at_p⟩ := kb_World_left_at_p T
  obtain ⟨g_World_look_purse_p, b_World_look_purse_p⟩ := kb_World_look_purse_p T
  obtain ⟨g_World_next_number_p, b_World_next_number_p⟩ := kb_World_next_number_p T
  obtain ⟨g_World_order_to_all_p, b_World_order_to_all_p⟩ := kb_World_order_to_all_p T
  obtain ⟨g_look_number_p, b_look_number_p⟩ := kb_look_number_p T
  obtain ⟨t_MOST_NUMBER, i_MOST_NUMBER⟩ := T.i_MOST_NUMBER
  obtain ⟨t_MOST_SUM, i_MOST_SUM⟩ := T.i_MOST_SUM
  refine def_ok T.F_World_ask sc_World_ask (fun ds M h => by unfold S_World_ask; rw [decide_eq_false (show ¬ ds.length = 4 from h)]) (fun cdv A outer s H E hr tk hp => ?_) (fun ds M h => by unfold S_World_ask; rw [decide_eq_true (show ds.length = 4 from h)]; rfl)
  have hu := hu70 hr
  exact (fss_cons (fs_expr (fe_meth (c := 0) (T.clAll.cl 0) (by rfl) T.me_World_look_purse c_World_look_purse (hr.mono (by decide : 3 ≤ 4)) tk b_World_look_purse_p gr_plain (fv 0) (fa_cons (fv 1) fa_nil))) (fss_cons (fs_expr (fe_meth (c := 0) (T.clAll.cl 0) (by rfl) T.me_World_look_purse c_World_look_purse (hr.mono (by decide : 3 ≤ 4)) tk b_World_look_purse_p gr_plain (fv 0) (fa_cons (fv 2) fa_nil))) (fss_cons (fs_if (fw_t (fw_or (ft_cmp (o_in hu) (fv 1) (fe_fld (T.clAll.fld 11 (by decide)) (by rfl) (fv 0))) (fw_or1 (ft_cmp (o_eq hu) (fv 1) (fv 2))))) (fss_one (fs_raise1 (c := 11) rfl tk T.xf_NoPurse (by rfl) (xi_NoPurse T) (hr.mono (by decide : 2 ≤ 4)) (xb_NoPurse T) (by rfl) T.c_NoPurse (fv 1))) fss_nil) (fss_cons (fs_expr (fe_call c_look_number (hr.mono (by decide : 2 ≤ 4)) tk (by rfl) T.m_look_number T.F_look_number.kp b_look_number_p gr_plain (fa_cons (fv 3) (fa_cons fe_int (fa_cons (fe_glob (by rfl) i_MOST_SUM) fa_nil))))) (fss_cons (fs_set sc_World_ask.nd rfl (by first | exact Or.inl rfl | exact Or.inr rfl) (fe_meth (c := 0) (T.clAll.cl 0) (by rfl) T.me_World_next_number c_World_next_number (hr.mono (by decide : 4 ≤ 4)) tk b_World_next_number_p gr_plain (fv 0) (fa_cons (fv 1) fa_nil))) (fss_cons (fs_if (fw_t (fw_or (ft_cmp o_gt (fv 4) (fe_glob (by rfl) i_MOST_NUMBER)) (fw_or1 (fw_t (fw_and (ft_cmp o_gt (fv 4) fe_int) (fw_and1 (ft_not (ft_val (fe_meth (c := 2) (T.clAll.cl 2) (by rfl) T.me_Board_is_paper c_Board_is_paper (hr.mono (by decide : 2 ≤ 4)) tk b_Board_is_paper_p gr_plain (fe_fld (T.clAll.fld 12 (by decide)) (by rfl) (fv 0)) (fa_cons (fe_ix hu (fe_fld (T.clAll.fld 15 (by decide)) (by rfl) (fv 0)) (fe_tup (fa_cons (fv 1) (fa_cons (fe_op o_sub (fv 4) fe_int) fa_nil)))) fa_nil)))))))))) (fss_one (fs_raise (c := 13) rfl tk T.x_NotNow (by rfl))) fss_nil) (fss_cons (fs_set sc_World_ask.nd rfl (by first | exact Or.inl rfl | exact Or.inr rfl) (fe_tup (fa_cons (fv 1) (fa_cons (fv 4) (fa_cons (fv 2) (fa_cons (fv 3) fa_nil)))))) (fss_cons (fs_if (ft_cmp o_gt (fv 3) (fe_cb (c_max rfl) (by rfl) T.fr_max bb_max (fa_cons (fe_lc (own := [("house", 6)]) rfl sc_World_ask.nd  (fi_seq (fe_meth0 (c := 0) (T.clAll.cl 0) (by rfl) T.me_World_honest c_World_honest (hr.mono (by decide : 1 ≤ 4)) tk b_World_honest_p gr_plain (fv 0))) (blkOk_by (N := N_World_ask) (sc := defScope s_World_ask) (by decide +kernel)) rfl (fun _ _ _ _ _ => (fg_name (by decide) sc_World_ask.nd rfl (by first | exact Or.inl rfl | exact Or.inr rfl))) (fun _ _ _ _ _ => fts_nil) (fun _ _ _ _ _ => (fe_meth (c := 0) (T.clAll.cl 0) (by rfl) T.me_World_left_at c_World_left_at (hr.mono (by decide : 1 ≤ 4)) takes0 b_World_left_at_p gr_plain (fv 0) (fa_cons (fv 6) (fa_cons (fv 1) fa_nil))))) fa_nil))) (fss_one (fs_raise (c := 14) rfl tk T.x_TooMuch (by rfl))) fss_nil) (fss_cons (fs_asg (is := []) (fv 5) (fg_sub hu (fe_fld (T.clAll.fld 15 (by decide)) (by rfl) (fv 0)) (fe_tup (fa_cons (fv 1) (fa_cons (fv 4) fa_nil))))) (fss_cons (fs_expr (fe_meth (c := 0) (T.clAll.cl 0) (by rfl) T.me_World_order_to_all c_World_order_to_all (hr.mono (by decide : 2 ≤ 4)) tk b_World_order_to_all_p gr_plain (fv 0) (fa_cons (fv 5) fa_nil))) (fss_one (fs_ret (fv 5)))))))))))))
theorem ok__law_draw (T : Txt K mg) : FnOk P w K mg base (L2.CX P w) 1 (A__law_draw K) T.d__law_draw p__law_draw (spF K (Ly K) S__law_draw) := by
  refine def_ok T.F__law_draw sc__law_draw (fun ds M h => by unfold S__law_draw; rw [decide_eq_false (show ¬ ds.length = 2 from h)]) (fun cdv A outer s H E hr tk hp => ?_) (fun ds M h => by unfold S__law_draw; rw [decide_eq_true (show ds.length = 2 from h)]; rfl)
  have hu := hu70 hr
  exact (fss_cons (fs_set sc__law_draw.nd rfl (by first | exact Or.inl rfl | exact Or.inr rfl) (fe_ix hu (fv 0) fe_int)) (fss_cons (fs_asg (is := []) (fe_op o_add (fe_ix hu (fv 0) fe_int) fe_int) (fg_sub hu (fv 0) fe_int)) (fss_cons (fs_set sc__law_draw.nd rfl (by first | exact Or.inl rfl | exact Or.inr rfl) (fe_op o_mod (fe_ix hu (fv 0) fe_int) (fe_cb c_len (by rfl) T.fr_len bb_len (fa_cons (fv 2) fa_nil)))) (fss_cons (fs_set sc__law_draw.nd rfl (by first | exact Or.inl rfl | exact Or.inr rfl) (fe_ix hu (fv 2) (fv 3))) (fss_cons (fs_if (ft_cmp o_ge (fv 4) fe_int) (fss_cons (fs_asg (is := []) (fe_op o_div (fv 4) (fv 1)) (fg_sub hu (fv 2) (fv 3))) (fss_one (fs_ret (fe_op o_mod (fv 4) (fv 1))))) fss_nil) (fss_cons (fs_set sc__law_draw.nd rfl (by first | exact Or.inl rfl | exact Or.inr rfl) (fe_op o_mod (fe_op o_add (fv 4) (fe_op o_mulX fe_int (fe_ix hu (fv 0) fe_int))) fe_int)) (fss_cons (fs_set sc__law_draw.nd rfl (by first | exact Or.inl rfl | exact Or.inr rfl) (fe_op o_mod (fe_op o_pow (fv 5) fe_int) fe_int)) (fss_one (fs_ret (fe_op o_mod (fe_op o_div (fe_op o_mod (fe_op o_add (fe_op o_mulX (fe_op o_div (fv 5) fe_int) fe_int) (fv 5)) fe_int) fe_int) (fv 1)))))))))))
theorem ok__law_pick (T : Txt K mg) : FnOk P w K mg base (L2.CX P w) 2 (A__law_pick K) T.d__law_pick p__law_pick (spF K (Ly K) S__law_pick) := by
  have c__law_draw := ok__law_draw (P := P) (w := w) (base := base) T
  obtain ⟨g__law_draw_p, b__law_draw_p⟩ := kb__law_draw_p T
  refine def_ok T.F__law_pick sc__law_pick (fun ds M h => by unfold S__law_pick; rw [decide_eq_false (show ¬ ds.length = 2 from h)]) (fun cdv A outer s H E hr tk hp => ?_) (fun ds M h => by unfold S__law_pick; rw [decide_eq_true (show ds.length = 2 from h)]; rfl)
  have hu := hu70 hr
  exact (fss_one (fs_ret (fe_ix hu (fv 1) (fe_call c__law_draw (hr.mono (by decide : 1 ≤ 1)) tk (by rfl) T.m__law_draw T.F__law_draw.kp b__law_draw_p gr_plain (fa_cons (fv 0) (fa_cons (fe_cb c_len (by rfl) T.fr_len bb_len (fa_cons (fv 1) fa_nil)) fa_nil))))))
theorem ok_House_state (T : Txt K mg) : FnOk P w K mg base (L2.CX P w) 1 (A_House_state K) T.d_House_state p_House_state (spF K (Ly K) S_House_state) := by
  refine def_ok T.F_House_state sc_House_state (fun ds M h => by unfold S_House_state; rw [decide_eq_false (show ¬ ds.length = 1 from h)]) (fun cdv A outer s H E hr tk hp => ?_) (fun ds M h => by unfold S_House_state; rw [decide_eq_true (show ds.length = 1 from h)]; rfl)
  have hu := hu70 hr
  exact (fss_one (fs_ret (fe_tup (fa_cons (fe_ct c_tuple (by rfl) T.fr_tuple bb_tuple (fa_cons (fe_fld (T.clAll.fld 1 (by decide)) (by rfl) (fv 0)) fa_nil)) (fa_cons (fe_ct c_tuple (by rfl) T.fr_tuple bb_tuple (fa_cons (fe_fld (T.clAll.fld 0 (by decide)) (by rfl) (fv 0)) fa_nil)) fa_nil)))))
theorem ok_World_room (T : Txt K mg) : FnOk P w K mg base (L2.CX P w) 3 (A_World_room K) T.d_World_room p_World_room (spF K (Ly K) S_World_room) := by
  have c_is_whole := ok_is_whole (P := P) (w := w) (base := base) T
  obtain ⟨g_is_whole_p, b_is_whole_p⟩ := kb_is_whole_p T
  refine def_ok T.F_World_room sc_World_room (fun ds M h => by unfold S_World_room; rw [decide_eq_false (show ¬ ds.length = 2 from h)]) (fun cdv A outer s H E hr tk hp => ?_) (fun ds M h => by unfold S_World_room; rw [decide_eq_true (show ds.length = 2 from h)]; rfl)
  have hu := hu70 hr
  exact (fss_cons (fs_if (fw_t (fw_or (ft_not (ft_val (fe_call c_is_whole (hr.mono (by decide : 1 ≤ 2)) tk (by rfl) T.m_is_whole T.F_is_whole.kp b_is_whole_p gr_plain (fa_cons (fv 1) (fa_cons fe_int (fa_cons (fe_op o_sub (fe_fld (T.clAll.fld 6 (by decide)) (by rfl) (fe_fld (T.clAll.fld 12 (by decide)) (by rfl) (fv 0))) fe_int) fa_nil)))))) (fw_or1 (ft_cmp (o_notIn hu) (fv 1) (fe_fld (T.clAll.fld 13 (by decide)) (by rfl) (fv 0)))))) (fss_one (fs_raise1 (c := 10) rfl tk T.xf_NoHouse (by rfl) (xi_NoHouse T) (hr.mono (by decide : 2 ≤ 2)) (xb_NoHouse T) (by rfl) T.c_NoHouse (fv 1))) fss_nil) (fss_one (fs_ret (fe_ix hu (fe_fld (T.clAll.fld 13 (by decide)) (by rfl) (fv 0)) (fv 1)))))
theorem ok_cut_of (T : Txt K mg) : FnOk P w K mg base (L2.CX P w) 4 (A_cut_of K) T.d_cut_of p_cut_of (spF K (Ly K) S_cut_of) := by
  have c_House_state := ok_House_state (P := P) (w := w) (base := base) T
  have c_World_room := ok_World_room (P := P) (w := w) (base := base) T
  have c_look_world := ok_look_world (P := P) (w := w) (base := base) T
  obtain ⟨g_House_state_p, b_House_state_p⟩ := kb_House_state_p T
  obtain ⟨g_World_room_p, b_World_room_p⟩ := kb_World_room_p T
  obtain ⟨g_look_world_p, b_look_world_p⟩ := kb_look_world_p T
  refine def_ok T.F_cut_of sc_cut_of (fun ds M h => by unfold S_cut_of; rw [decide_eq_false (show ¬ ds.length = 2 from h)]) (fun cdv A outer s H E hr tk hp => ?_) (fun ds M h => by unfold S_cut_of; rw [decide_eq_true (show ds.length = 2 from h)]; rfl)
  have hu := hu70 hr
  exact (fss_cons (fs_expr (fe_call c_look_world (hr.mono (by decide : 1 ≤ 3)) tk (by rfl) T.m_look_world T.F_look_world.kp b_look_world_p gr_plain (fa_cons (fv 0) fa_nil))) (fss_one (fs_ret (fe_meth0 (c := 1) (T.clAll.cl 1) (by rfl) T.me_House_state c_House_state (hr.mono (by decide : 1 ≤ 3)) tk b_House_state_p gr_plain (fe_meth (c := 0) (T.clAll.cl 0) (by rfl) T.me_World_room c_World_room (hr.mono (by decide : 3 ≤ 3)) tk b_World_room_p gr_plain (fv 0) (fa_cons (fv 1) fa_nil))))))
theorem ok_Cutting_add (T : Txt K mg) : FnOk P w K mg base (L2.CX P w) 1 (A_Cutting_add K) T.d_Cutting_add p_Cutting_add (spF K (Ly K) S_Cutting_add) := by
  refine def_ok T.F_Cutting_add sc_Cutting_add (fun ds M h => by unfold S_Cutting_add; rw [decide_eq_false (show ¬ ds.length = 3 from h)]) (fun cdv A outer s H E hr tk hp => ?_) (fun ds M h => by unfold S_Cutting_add; rw [decide_eq_true (show ds.length = 3 from h)]; rfl)
  have hu := hu70 hr
  exact (fss_cons (fs_set sc_Cutting_add.nd rfl (by first | exact Or.inl rfl | exact Or.inr rfl) (fe_setdN hu (fe_fld (T.clAll.fld 8 (by decide)) (by rfl) (fv 0)) (fv 2) (fe_lst fa_nil))) (fss_one (fs_if (ft_cmp (o_notIn hu) (fv 1) (fv 3)) (fss_one (fs_expr (fe_bm PySem.F.plainAttrs_list PySem.F.slot_list_append PySem.F.type_list_append tyLst_ok m_append (fv 3) (fa_cons (fv 1) fa_nil)))) fss_nil)))
theorem ok_Cutting_sign (T : Txt K mg) : FnOk P w K mg base (L2.CX P w) 5 (A_Cutting_sign K) T.d_Cutting_sign p_Cutting_sign (spF K (Ly K) S_Cutting_sign) := by
  have c_Cutting_add := ok_Cutting_add (P := P) (w := w) (base := base) T
  have c_cut_of := ok_cut_of (P := P) (w := w) (base := base) T
  obtain ⟨g_Cutting_add_p, b_Cutting_add_p⟩ := kb_Cutting_add_p T
  obtain ⟨g_cut_of_p, b_cut_of_p⟩ := kb_cut_of_p T
  refine def_ok T.F_Cutting_sign sc_Cutting_sign (fun ds M h => by unfold S_Cutting_sign; rw [decide_eq_false (show ¬ ds.length = 2 from h)]) (fun cdv A outer s H E hr tk hp => ?_) (fun ds M h => by unfold S_Cutting_sign; rw [decide_eq_true (show ds.length = 2 from h)]; rfl)
  have hu := hu70 hr
  exact (fss_cons (fs_set sc_Cutting_sign.nd rfl (by first | exact Or.inl rfl | exact Or.inr rfl) (fe_call c_cut_of (hr.mono (by decide : 4 ≤ 4)) tk (by rfl) T.m_cut_of T.F_cut_of.kp b_cut_of_p gr_plain (fa_cons (fe_fld (T.clAll.fld 16 (by decide)) (by rfl) (fv 0)) (fa_cons (fv 1) fa_nil)))) (fss_cons (fs_expr (fe_meth (c := 3) (T.clAll.cl 3) (by rfl) T.me_Cutting_add c_Cutting_add (hr.mono (by decide : 1 ≤ 4)) tk b_Cutting_add_p gr_plain (fv 0) (fa_cons (fv 1) (fa_cons (fv 2) fa_nil)))) (fss_one (fs_ret (fv 2)))))
theorem ok_World_letters (T : Txt K mg) : FnOk P w K mg base (L2.CX P w) 1 (A_World_letters K) T.d_World_letters p_World_letters (spF K (Ly K) S_World_letters) := by
  refine def_ok T.F_World_letters sc_World_letters (fun ds M h => by unfold S_World_letters; rw [decide_eq_false (show ¬ ds.length = 1 from h)]) (fun cdv A outer s H E hr tk hp => ?_) (fun ds M h => by unfold S_World_letters; rw [decide_eq_true (show ds.length = 1 from h)]; rfl)
  have hu := hu70 hr
  exact (fss_one (fs_ret (fe_ct c_list (by rfl) T.fr_list bb_list (fa_cons (fe_fld (T.clAll.fld 14 (by decide)) (by rfl) (fv 0)) fa_nil))))
theorem ok_is_order (T : Txt K mg) : FnOk P w K mg base (L2.CX P w) 2 (A_is_order K) T.d_is_order p_is_order (spF K (Ly K) S_is_order) := by
  have c_is_whole := ok_is_whole (P := P) (w := w) (base := base) T
  obtain ⟨g_is_whole_p, b_is_whole_p⟩ := kb_is_whole_p T
  obtain ⟨t_MOST_NUMBER, i_MOST_NUMBER⟩ := T.i_MOST_NUMBER
  obtain ⟨t_MOST_PURSES, i_MOST_PURSES⟩ := T.i_MOST_PURSES
  obtain ⟨t_MOST_SUM, i_MOST_SUM⟩ := T.i_MOST_SUM
  refine def_ok T.F_is_order sc_is_order (fun ds M h => by unfold S_is_order; rw [decide_eq_false (show ¬ ds.length = 2 from h)]) (fun cdv A outer s H E hr tk hp => ?_) (fun ds M h => by unfold S_is_order; rw [decide_eq_true (show ds.length = 2 from h)]; rfl)
  have hu := hu70 hr
  exact (fss_cons (fs_if (fw_t (fw_or (ft_not (ft_val (fe_isi tabTup_ok (by rfl) T.fr_isinstance (by rfl) T.fr_tuple bb_tuple (fv 0)))) (fw_or1 (ft_cmp (o_ne hu) (fe_cb c_len (by rfl) T.fr_len bb_len (fa_cons (fv 0) fa_nil)) fe_int)))) (fss_one (fs_ret fe_bl)) fss_nil) (fss_cons (fs_asg (is := [2, 3, 4, 5]) (fv 0) (fg_tup rfl (fgs_cons (by decide) sc_is_order.nd rfl (by first | exact Or.inl rfl | exact Or.inr rfl) (fgs_cons (by decide) sc_is_order.nd rfl (by first | exact Or.inl rfl | exact Or.inr rfl) (fgs_cons (by decide) sc_is_order.nd rfl (by first | exact Or.inl rfl | exact Or.inr rfl) (fgs_cons (by decide) sc_is_order.nd rfl (by first | exact Or.inl rfl | exact Or.inr rfl) fgs_nil)))))) (fss_cons (fs_if (fw_t (fw_or (ft_not (ft_val (fe_call c_is_whole (hr.mono (by decide : 1 ≤ 1)) tk (by rfl) T.m_is_whole T.F_is_whole.kp b_is_whole_p gr_plain (fa_cons (fv 2) (fa_cons fe_int (fa_cons (fe_op o_sub (fv 1) fe_int) fa_nil)))))) (fw_or (ft_not (ft_val (fe_call c_is_whole (hr.mono (by decide : 1 ≤ 1)) tk (by rfl) T.m_is_whole T.F_is_whole.kp b_is_whole_p gr_plain (fa_cons (fv 4) (fa_cons fe_int (fa_cons (fe_op o_sub (fv 1) fe_int) fa_nil)))))) (fw_or1 (ft_cmp (o_eq hu) (fv 2) (fv 4)))))) (fss_one (fs_ret fe_bl)) fss_nil) (fss_one (fs_ret (fe_and (fe_call c_is_whole (hr.mono (by decide : 1 ≤ 1)) tk (by rfl) T.m_is_whole T.F_is_whole.kp b_is_whole_p gr_plain (fa_cons (fv 3) (fa_cons fe_int (fa_cons (fe_glob (by rfl) i_MOST_NUMBER) fa_nil)))) (fe_one (fe_call c_is_whole (hr.mono (by decide : 1 ≤ 1)) tk (by rfl) T.m_is_whole T.F_is_whole.kp b_is_whole_p gr_plain (fa_cons (fv 5) (fa_cons fe_int (fa_cons (fe_glob (by rfl) i_MOST_SUM) fa_nil)))))))))))
theorem ok_look_order (T : Txt K mg) : FnOk P w K mg base (L2.CX P w) 3 (A_look_order K) T.d_look_order p_look_order (spF K (Ly K) S_look_order) := by
  have c_is_order := ok_is_order (P := P) (w := w) (base := base) T
  obtain ⟨g_is_order_a, b_is_order_a⟩ := kb_is_order_a T
  obtain ⟨t_MOST_PURSES, i_MOST_PURSES⟩ := T.i_MOST_PURSES
  refine def_ok T.F_look_order sc_look_order (fun ds M h => by unfold S_look_order; rw [decide_eq_false (show ¬ ds.length = 2 from h)]) (fun cdv A outer s H E hr tk hp => ?_) (fun ds M h => by unfold S_look_order; rw [decide_eq_true (show ds.length = 2 from h)]; rfl)
  have hu := hu70 hr
  exact (fss_one (fs_if (ft_not (ft_val (fe_callK (ks := ["purses"]) c_is_order (hr.mono (by decide : 2 ≤ 2)) tk (by rfl) T.m_is_order T.F_is_order.kp b_is_order_a gr_app (fa_cons (fv 0) fa_nil) (fk_cons (fv 1) fk_nil)))) (fss_one (fs_raise (c := 8) rfl tk T.x_BadOrder (by rfl))) fss_nil))
theorem ok_House_may_vote (T : Txt K mg) : FnOk P w K mg base (L2.CX P w) 1 (A_House_may_vote K) T.d_House_may_vote p_House_may_vote (spF K (Ly K) S_House_may_vote) := by
  refine def_ok T.F_House_may_vote sc_House_may_vote (fun ds M h => by unfold S_House_may_vote; rw [decide_eq_false (show ¬ ds.length = 2 from h)]) (fun cdv A outer s H E hr tk hp => ?_) (fun ds M h => by unfold S_House_may_vote; rw [decide_eq_true (show ds.length = 2 from h)]; rfl)
  have hu := hu70 hr
  exact (fss_cons (fs_asg (is := [2, 3, 4, 5]) (fv 1) (fg_tup rfl (fgs_cons (by decide) sc_House_may_vote.nd rfl (by first | exact Or.inl rfl | exact Or.inr rfl) (fgs_cons (by decide) sc_House_may_vote.nd rfl (by first | exact Or.inl rfl | exact Or.inr rfl) (fgs_cons (by decide) sc_House_may_vote.nd rfl (by first | exact Or.inl rfl | exact Or.inr rfl) (fgs_cons (by decide) sc_House_may_vote.nd rfl (by first | exact Or.inl rfl | exact Or.inr rfl) fgs_nil)))))) (fss_cons (fs_if (ft_cmp (o_ne hu) (fe_get2 hu (fe_fld (T.clAll.fld 2 (by decide)) (by rfl) (fv 0)) (fe_tup (fa_cons (fv 2) (fa_cons (fv 3) fa_nil))) (fv 1)) (fv 1)) (fss_one (fs_ret fe_bl)) fss_nil) (fss_one (fs_ret (fe_and (fe_cmp (o_eq hu) (fv 3) (fe_ix hu (fe_fld (T.clAll.fld 1 (by decide)) (by rfl) (fv 0)) (fv 2))) (fe_one (fe_cmp o_le (fv 5) (fe_ix hu (fe_fld (T.clAll.fld 0 (by decide)) (by rfl) (fv 0)) (fv 2)))))))))
theorem ok_House_new_votes (T : Txt K mg) : FnOk P w K mg base (L2.CX P w) 2 (A_House_new_votes K) T.d_House_new_votes p_House_new_votes (spF K (Ly K) S_House_new_votes) := by
  have c_House_may_vote := ok_House_may_vote (P := P) (w := w) (base := base) T
  obtain ⟨g_House_may_vote_p, b_House_may_vote_p⟩ := kb_House_may_vote_p T
  refine def_ok T.F_House_new_votes sc_House_new_votes (fun ds M h => by unfold S_House_new_votes; rw [decide_eq_false (show ¬ ds.length = 1 from h)]) (fun cdv A outer s H E hr tk hp => ?_) (fun ds M h => by unfold S_House_new_votes; rw [decide_eq_true (show ds.length = 1 from h)]; rfl)
  have hu := hu70 hr
  exact (fss_cons (fs_set sc_House_new_votes.nd rfl (by first | exact Or.inl rfl | exact Or.inr rfl) (fe_lst fa_nil)) (fss_cons (fs_for (is := [2]) hp rfl (fi_seq (fe_ct c_list (by rfl) T.fr_list bb_list (fa_cons (fe_fld (T.clAll.fld 3 (by decide)) (by rfl) (fv 0)) fa_nil))) (fg_name (by decide) sc_House_new_votes.nd rfl (by first | exact Or.inl rfl | exact Or.inr rfl)) (fss_one (fs_if (fw_t (fw_and (ft_cmp (o_notIn hu) (fe_sl (fv 2) fo_none (fo_some fe_int)) (fe_fld (T.clAll.fld 2 (by decide)) (by rfl) (fv 0))) (fw_and1 (ft_val (fe_meth (c := 1) (T.clAll.cl 1) (by rfl) T.me_House_may_vote c_House_may_vote (hr.mono (by decide : 1 ≤ 1)) tk b_House_may_vote_p gr_plain (fv 0) (fa_cons (fv 2) fa_nil)))))) (fss_cons (fs_asg (is := []) (fv 2) (fg_sub hu (fe_fld (T.clAll.fld 2 (by decide)) (by rfl) (fv 0)) (fe_sl (fv 2) fo_none (fo_some fe_int)))) (fss_one (fs_expr (fe_bm PySem.F.plainAttrs_list PySem.F.slot_list_append PySem.F.type_list_append tyLst_ok m_append (fv 1) (fa_cons (fv 2) fa_nil))))) fss_nil))) (fss_one (fs_ret (fv 1)))))
theorem ok_House_hear (T : Txt K mg) : FnOk P w K mg base (L2.CX P w) 4 (A_House_hear K) T.d_House_hear p_House_hear (spF K (Ly K) S_House_hear) := by
  have c_House_new_votes := ok_House_new_votes (P := P) (w := w) (base := base) T
  have c_look_order := ok_look_order (P := P) (w := w) (base := base) T
  obtain ⟨g_House_new_votes_p, b_House_new_votes_p⟩ := kb_House_new_votes_p T
  obtain ⟨g_look_order_a, b_look_order_a⟩ := kb_look_order_a T
  refine def_ok T.F_House_hear sc_House_hear (fun ds M h => by unfold S_House_hear; rw [decide_eq_false (show ¬ ds.length = 2 from h)]) (fun cdv A outer s H E hr tk hp => ?_) (fun ds M h => by unfold S_House_hear; rw [decide_eq_true (show ds.length = 2 from h)]; rfl)
  have hu := hu70 hr
  exact (fss_cons (fs_expr (fe_callK (ks := ["purses"]) c_look_order (hr.mono (by decide : 3 ≤ 3)) tk (by rfl) T.m_look_order T.F_look_order.kp b_look_order_a gr_app (fa_cons (fv 1) fa_nil) (fk_cons (fe_cb c_len (by rfl) T.fr_len bb_len (fa_cons (fe_fld (T.clAll.fld 0 (by decide)) (by rfl) (fv 0)) fa_nil)) fk_nil))) (fss_cons (fs_if (ft_cmp (o_notIn hu) (fv 1) (fe_fld (T.clAll.fld 3 (by decide)) (by rfl) (fv 0))) (fss_one (fs_expr (fe_bm PySem.F.plainAttrs_list PySem.F.slot_list_append PySem.F.type_list_append tyLst_ok m_append (fe_fld (T.clAll.fld 3 (by decide)) (by rfl) (fv 0)) (fa_cons (fv 1) fa_nil)))) fss_nil) (fss_one (fs_ret (fe_meth0 (c := 1) (T.clAll.cl 1) (by rfl) T.me_House_new_votes c_House_new_votes (hr.mono (by decide : 2 ≤ 3)) tk b_House_new_votes_p gr_plain (fv 0))))))
theorem ok_Board_sign (T : Txt K mg) : FnOk P w K mg base (L2.CX P w) 4 (A_Board_sign K) T.d_Board_sign p_Board_sign (spF K (Ly K) S_Board_sign) := by
  have c_enough := ok_enough (P := P) (w := w) (base := base) T
  have c_look_order := ok_look_order (P := P) (w := w) (base := base) T
  obtain ⟨g_enough_p, b_enough_p⟩ := kb_enough_p T
  obtain ⟨g_look_order_d, b_look_order_d⟩ := kb_look_order_d T
  refine def_ok T.F_Board_sign sc_Board_sign (fun ds M h => by unfold S_Board_sign; rw [decide_eq_false (show ¬ ds.length = 3 from h)]) (fun cdv A outer s H E hr tk hp => ?_) (fun ds M h => by unfold S_Board_sign; rw [decide_eq_true (show ds.length = 3 from h)]; rfl)
  have hu := hu70 hr
  exact (fss_cons (fs_expr (fe_call c_look_order (hr.mono (by decide : 3 ≤ 3)) tk (by rfl) T.m_look_order T.F_look_order.kp b_look_order_d (gr_dfl (fun _ _ => reps_cons (by unfold Rep; rfl) (reps_nil))) (fa_cons (fv 2) fa_nil))) (fss_cons (fs_set sc_Board_sign.nd rfl (by first | exact Or.inl rfl | exact Or.inr rfl) (fe_setd hu (fe_fld (T.clAll.fld 8 (by decide)) (by rfl) (fv 0)) (fv 2) (fe_lst fa_nil))) (fss_cons (fs_if (ft_cmp (o_in hu) (fv 1) (fv 3)) (fss_one (fs_ret fe_bl)) fss_nil) (fss_cons (fs_expr (fe_bm PySem.F.plainAttrs_list PySem.F.slot_list_append PySem.F.type_list_append tyLst_ok m_append (fv 3) (fa_cons (fv 1) fa_nil))) (fss_one (fs_ret (fe_cmp (o_eq hu) (fe_cb c_len (by rfl) T.fr_len bb_len (fa_cons (fv 3) fa_nil)) (fe_call c_enough (hr.mono (by decide : 1 ≤ 3)) tk (by rfl) T.m_enough T.F_enough.kp b_enough_p gr_plain (fa_cons (fe_fld (T.clAll.fld 6 (by decide)) (by rfl) (fv 0)) (fa_cons (fe_fld (T.clAll.fld 7 (by decide)) (by rfl) (fv 0)) fa_nil))))))))))
theorem ok_World_paper_to_all (T : Txt K mg) : FnOk P w K mg base (L2.CX P w) 2 (A_World_paper_to_all K) T.d_World_paper_to_all p_World_paper_to_all (spF K (Ly K) S_World_paper_to_all) := by
  have c_World_honest := ok_World_honest (P := P) (w := w) (base := base) T
  obtain ⟨g_World_honest_p, b_World_honest_p⟩ := kb_World_honest_p T
  refine def_ok T.F_World_paper_to_all sc_World_paper_to_all (fun ds M h => by unfold S_World_paper_to_all; rw [decide_eq_false (show ¬ ds.length = 2 from h)]) (fun cdv A outer s H E hr tk hp => ?_) (fun ds M h => by unfold S_World_paper_to_all; rw [decide_eq_true (show ds.length = 2 from h)]; rfl)
  have hu := hu70 hr
  exact (fss_one (fs_for (is := [2]) hp rfl (fi_seq (fe_meth0 (c := 0) (T.clAll.cl 0) (by rfl) T.me_World_honest c_World_honest (hr.mono (by decide : 1 ≤ 1)) tk b_World_honest_p gr_plain (fv 0))) (fg_name (by decide) sc_World_paper_to_all.nd rfl (by first | exact Or.inl rfl | exact Or.inr rfl)) (fss_one (fs_expr (fe_bm PySem.F.plainAttrs_list PySem.F.slot_list_append PySem.F.type_list_append tyLst_ok m_append (fe_fld (T.clAll.fld 14 (by decide)) (by rfl) (fv 0)) (fa_cons (fe_tup (fa_cons fe_str (fa_cons (fv 2) (fa_cons (fv 1) fa_nil)))) fa_nil))))))
theorem ok_World_signed (T : Txt K mg) : FnOk P w K mg base (L2.CX P w) 5 (A_World_signed K) T.d_World_signed p_World_signed (spF K (Ly K) S_World_signed) := by
  have c_Board_sign := ok_Board_sign (P := P) (w := w) (base := base) T
  have c_World_paper_to_all := ok_World_paper_to_all (P := P) (w := w) (base := base) T
  obtain ⟨g_Board_sign_p, b_Board_sign_p⟩ := kb_Board_sign_p T
  obtain ⟨g_World_paper_to_all_p, b_World_paper_to_all_p⟩ := kb_World_paper_to_all_p T
  refine def_ok T.F_World_signed sc_World_signed (fun ds M h => by unfold S_World_signed; rw [decide_eq_false (show ¬ ds.length = 3 from h)]) (fun cdv A outer s H E hr tk hp => ?_) (fun ds M h => by unfold S_World_signed; rw [decide_eq_true (show ds.length = 3 from h)]; rfl)
  have hu := hu70 hr
  exact (fss_one (fs_if (ft_val (fe_meth (c := 2) (T.clAll.cl 2) (by rfl) T.me_Board_sign c_Board_sign (hr.mono (by decide : 4 ≤ 4)) tk b_Board_sign_p gr_plain (fe_fld (T.clAll.fld 12 (by decide)) (by rfl) (fv 0)) (fa_cons (fv 1) (fa_cons (fv 2) fa_nil)))) (fss_one (fs_expr (fe_meth (c := 0) (T.clAll.cl 0) (by rfl) T.me_World_paper_to_all c_World_paper_to_all (hr.mono (by decide : 2 ≤ 4)) tk b_World_paper_to_all_p gr_plain (fv 0) (fa_cons (fv 2) fa_nil)))) fss_nil))
theorem ok_House_settle (T : Txt K mg) : FnOk P w K mg base (L2.CX P w) 1 (A_House_settle K) T.d_House_settle p_House_settle (spF K (Ly K) S_House_settle) := by
  refine def_ok T.F_House_settle sc_House_settle (fun ds M h => by unfold S_House_settle; rw [decide_eq_false (show ¬ ds.length = 2 from h)]) (fun cdv A outer s H E hr tk hp => ?_) (fun ds M h => by unfold S_House_settle; rw [decide_eq_true (show ds.length = 2 from h)]; rfl)
  have hu := hu70 hr
  exact (fss_cons (fs_asg (is := [2, 3, 4, 5]) (fv 1) (fg_tup rfl (fgs_cons (by decide) sc_House_settle.nd rfl (by first | exact Or.inl rfl | exact Or.inr rfl) (fgs_cons (by decide) sc_House_settle.nd rfl (by first | exact Or.inl rfl | exact Or.inr rfl) (fgs_cons (by decide) sc_House_settle.nd rfl (by first | exact Or.inl rfl | exact Or.inr rfl) (fgs_cons (by decide) sc_House_settle.nd rfl (by first | exact Or.inl rfl | exact Or.inr rfl) fgs_nil)))))) (fss_cons (fs_ixAug hu (fe_fld (T.clAll.fld 0 (by decide)) (by rfl) (fv 0)) (fv 2) (fv 5) i_sub) (fss_cons (fs_ixAug hu (fe_fld (T.clAll.fld 0 (by decide)) (by rfl) (fv 0)) (fv 4) (fv 5) i_add) (fss_cons (fs_ixAug hu (fe_fld (T.clAll.fld 1 (by decide)) (by rfl) (fv 0)) (fv 2) fe_int i_add) (fss_one (fs_expr (fe_bm PySem.F.plainAttrs_list PySem.F.slot_list_append PySem.F.type_list_append tyLst_ok m_append (fe_fld (T.clAll.fld 5 (by decide)) (by rfl) (fv 0)) (fa_cons (fv 1) fa_nil))))))))
theorem ok_House_can_settle (T : Txt K mg) : FnOk P w K mg base (L2.CX P w) 1 (A_House_can_settle K) T.d_House_can_settle p_House_can_settle (spF K (Ly K) S_House_can_settle) := by
  refine def_ok T.F_House_can_settle sc_House_can_settle (fun ds M h => by unfold S_House_can_settle; rw [decide_eq_false (show ¬ ds.length = 2 from h)]) (fun cdv A outer s H E hr tk hp => ?_) (fun ds M h => by unfold S_House_can_settle; rw [decide_eq_true (show ds.length = 2 from h)]; rfl)
  have hu := hu70 hr
  exact (fss_cons (fs_asg (is := [2, 3, 4, 5]) (fv 1) (fg_tup rfl (fgs_cons (by decide) sc_House_can_settle.nd rfl (by first | exact Or.inl rfl | exact Or.inr rfl) (fgs_cons (by decide) sc_House_can_settle.nd rfl (by first | exact Or.inl rfl | exact Or.inr rfl) (fgs_cons (by decide) sc_House_can_settle.nd rfl (by first | exact Or.inl rfl | exact Or.inr rfl) (fgs_cons (by decide) sc_House_can_settle.nd rfl (by first | exact Or.inl rfl | exact Or.inr rfl) fgs_nil)))))) (fss_one (fs_ret (fe_and (fe_cmp (o_eq hu) (fv 3) (fe_ix hu (fe_fld (T.clAll.fld 1 (by decide)) (by rfl) (fv 0)) (fv 2))) (fe_one (fe_cmp o_le (fv 5) (fe_ix hu (fe_fld (T.clAll.fld 0 (by decide)) (by rfl) (fv 0)) (fv 2))))))))
theorem ok_House_go_on (T : Txt K mg) : FnOk P w K mg base (L2.CX P w) 2 (A_House_go_on K) T.d_House_go_on p_House_go_on (spF K (Ly K) S_House_go_on) := by
  have c_House_can_settle := ok_House_can_settle (P := P) (w := w) (base := base) T
  have c_House_settle := ok_House_settle (P := P) (w := w) (base := base) T
  obtain ⟨g_House_can_settle_p, b_House_can_settle_p⟩ := kb_House_can_settle_p T
  obtain ⟨g_House_settle_p, b_House_settle_p⟩ := kb_House_settle_p T
  refine def_ok T.F_House_go_on sc_House_go_on (fun ds M h => by unfold S_House_go_on; rw [decide_eq_false (show ¬ ds.length = 1 from h)]) (fun cdv A outer s H E hr tk hp => ?_) (fun ds M h => by unfold S_House_go_on; rw [decide_eq_true (show ds.length = 1 from h)]; rfl)
  have hu := hu70 hr
  exact (fss_cons (fs_set sc_House_go_on.nd rfl (by first | exact Or.inl rfl | exact Or.inr rfl) (fe_lst fa_nil)) (fss_cons (fs_while 100000 hp (ft_val (fe_cb (c_any rfl) (by rfl) T.fr_any bb_any (fa_cons (fe_lc (own := [("one", 3)]) rfl sc_House_go_on.nd  (fi_seq (fe_fld (T.clAll.fld 4 (by decide)) (by rfl) (fv 0))) (blkOk_by (N := N_House_go_on) (sc := defScope s_House_go_on) (by decide +kernel)) rfl (fun _ _ _ _ _ => (fg_name (by decide) sc_House_go_on.nd rfl (by first | exact Or.inl rfl | exact Or.inr rfl))) (fun _ _ _ _ _ => fts_nil) (fun _ _ _ _ _ => (fe_meth (c := 1) (T.clAll.cl 1) (by rfl) T.me_House_can_settle c_House_can_settle (hr.mono (by decide : 1 ≤ 1)) takes0 b_House_can_settle_p gr_plain (fv 0) (fa_cons (fv 3) fa_nil)))) fa_nil))) (fss_cons (by first | exact (fs_setLc (own := [("one", 3)]) rfl sc_House_go_on.nd rfl rfl (sw_true rfl rfl rfl (by decide +kernel)) (fi_seq (fe_fld (T.clAll.fld 4 (by decide)) (by rfl) (fv 0))) (blkOk_by (N := N_House_go_on) (sc := defScope s_House_go_on) (by decide +kernel)) rfl (fun _ _ _ _ _ => (fg_name (by decide) sc_House_go_on.nd rfl (by first | exact Or.inl rfl | exact Or.inr rfl))) (fun _ _ _ _ _ => (fts_one (ft_val (fe_meth (c := 1) (T.clAll.cl 1) (by rfl) T.me_House_can_settle c_House_can_settle (hr.mono (by decide : 1 ≤ 1)) takes0 b_House_can_settle_p gr_plain (fv 0) (fa_cons (fv 3) fa_nil))))) (fun _ _ _ _ _ => (fv 3))) | exact (fs_set sc_House_go_on.nd rfl (by first | exact Or.inl rfl | exact Or.inr rfl) (fe_lc (own := [("one", 3)]) rfl sc_House_go_on.nd  (fi_seq (fe_fld (T.clAll.fld 4 (by decide)) (by rfl) (fv 0))) (blkOk_by (N := N_House_go_on) (sc := defScope s_House_go_on) (by decide +kernel)) rfl (fun _ _ _ _ _ => (fg_name (by decide) sc_House_go_on.nd rfl (by first | exact Or.inl rfl | exact Or.inr rfl))) (fun _ _ _ _ _ => (fts_one (ft_val (fe_meth (c := 1) (T.clAll.cl 1) (by rfl) T.me_House_can_settle c_House_can_settle (hr.mono (by decide : 1 ≤ 1)) takes0 b_House_can_settle_p gr_plain (fv 0) (fa_cons (fv 3) fa_nil))))) (fun _ _ _ _ _ => (fv 3))))) (fss_cons (fs_expr (fe_bm PySem.F.plainAttrs_list PySem.F.slot_list_remove PySem.F.type_list_remove tyLst_ok (m_remove hu) (fe_fld (T.clAll.fld 4 (by decide)) (by rfl) (fv 0)) (fa_cons (fe_ix hu (fv 2) fe_int) fa_nil))) (fss_cons (fs_expr (fe_meth (c := 1) (T.clAll.cl 1) (by rfl) T.me_House_settle c_House_settle (hr.mono (by decide : 1 ≤ 1)) tk b_House_settle_p gr_plain (fv 0) (fa_cons (fe_ix hu (fv 2) fe_int) fa_nil))) (fss_one (fs_expr (fe_bm PySem.F.plainAttrs_list PySem.F.slot_list_append PySem.F.type_list_append tyLst_ok m_append (fv 1) (fa_cons (fe_ix hu (fv 2) fe_int) fa_nil)))))))) (fss_one (fs_ret (fv 1)))))
theorem ok_House_take (T : Txt K mg) : FnOk P w K mg base (L2.CX P w) 3 (A_House_take K) T.d_House_take p_House_take (spF K (Ly K) S_House_take) := by
  have c_House_go_on := ok_House_go_on (P := P) (w := w) (base := base) T
  obtain ⟨g_House_go_on_p, b_House_go_on_p⟩ := kb_House_go_on_p T
  refine def_ok T.F_House_take sc_House_take (fun ds M h => by unfold S_House_take; rw [decide_eq_false (show ¬ ds.length = 2 from h)]) (fun cdv A outer s H E hr tk hp => ?_) (fun ds M h => by unfold S_House_take; rw [decide_eq_true (show ds.length = 2 from h)]; rfl)
  have hu := hu70 hr
  exact (fss_cons (fs_asg (is := [2, 3, 4, 5]) (fv 1) (fg_tup rfl (fgs_cons (by decide) sc_House_take.nd rfl (by first | exact Or.inl rfl | exact Or.inr rfl) (fgs_cons (by decide) sc_House_take.nd rfl (by first | exact Or.inl rfl | exact Or.inr rfl) (fgs_cons (by decide) sc_House_take.nd rfl (by first | exact Or.inl rfl | exact Or.inr rfl) (fgs_cons (by decide) sc_House_take.nd rfl (by first | exact Or.inl rfl | exact Or.inr rfl) fgs_nil)))))) (fss_cons (fs_if (fw_t (fw_and (ft_cmp o_ge (fv 3) (fe_ix hu (fe_fld (T.clAll.fld 1 (by decide)) (by rfl) (fv 0)) (fv 2))) (fw_and1 (ft_cmp (o_notIn hu) (fv 1) (fe_fld (T.clAll.fld 4 (by decide)) (by rfl) (fv 0)))))) (fss_one (fs_expr (fe_bm PySem.F.plainAttrs_list PySem.F.slot_list_append PySem.F.type_list_append tyLst_ok m_append (fe_fld (T.clAll.fld 4 (by decide)) (by rfl) (fv 0)) (fa_cons (fv 1) fa_nil)))) fss_nil) (fss_one (fs_ret (fe_meth0 (c := 1) (T.clAll.cl 1) (by rfl) T.me_House_go_on c_House_go_on (hr.mono (by decide : 2 ≤ 2)) tk b_House_go_on_p gr_plain (fv 0))))))
theorem ok_World_come (T : Txt K mg) : FnOk P w K mg base (L2.CX P w) 6 (A_World_come K) T.d_World_come p_World_come (spF K (Ly K) S_World_come) := by
  have c_House_hear := ok_House_hear (P := P) (w := w) (base := base) T
  have c_House_new_votes := ok_House_new_votes (P := P) (w := w) (base := base) T
  have c_House_take := ok_House_take (P := P) (w := w) (base := base) T
  have c_World_signed := ok_World_signed (P := P) (w := w) (base := base) T
  have c_is_whole := ok_is_whole (P := P) (w := w) (base := base) T
  obtain ⟨g_House_hear_p, b_House_hear_p⟩ := kb_House_hear_p T
  obtain ⟨g_House_new_votes_p, b_House_new_votes_p⟩ := kb_House_new_votes_p T
  obtain ⟨g_House_take_p, b_House_take_p⟩ := kb_House_take_p T
  obtain ⟨g_World_signed_p, b_World_signed_p⟩ := kb_World_signed_p T
  obtain ⟨g_is_whole_p, b_is_whole_p⟩ := kb_is_whole_p T
  refine def_ok T.F_World_come sc_World_come (fun ds M h => by unfold S_World_come; rw [decide_eq_false (show ¬ ds.length = 2 from h)]) (fun cdv A outer s H E hr tk hp => ?_) (fun ds M h => by unfold S_World_come; rw [decide_eq_true (show ds.length = 2 from h)]; rfl)
  have hu := hu70 hr
  exact (fss_cons (fs_if (ft_not (ft_val (fe_call c_is_whole (hr.mono (by decide : 1 ≤ 5)) tk (by rfl) T.m_is_whole T.F_is_whole.kp b_is_whole_p gr_plain (fa_cons (fv 1) (fa_cons fe_int (fa_cons (fe_op o_sub (fe_cb c_len (by rfl) T.fr_len bb_len (fa_cons (fe_fld (T.clAll.fld 14 (by decide)) (by rfl) (fv 0)) fa_nil)) fe_int) fa_nil)))))) (fss_one (fs_raise (c := 12) rfl tk T.x_NoLetter (by rfl))) fss_nil) (fss_cons (fs_asg (is := [2, 3, 4]) (fe_bm PySem.F.plainAttrs_list PySem.F.slot_list_pop PySem.F.type_list_pop tyLst_ok m_popAt (fe_fld (T.clAll.fld 14 (by decide)) (by rfl) (fv 0)) (fa_cons (fv 1) fa_nil)) (fg_tup rfl (fgs_cons (by decide) sc_World_come.nd rfl (by first | exact Or.inl rfl | exact Or.inr rfl) (fgs_cons (by decide) sc_World_come.nd rfl (by first | exact Or.inl rfl | exact Or.inr rfl) (fgs_cons (by decide) sc_World_come.nd rfl (by first | exact Or.inl rfl | exact Or.inr rfl) fgs_nil))))) (fss_cons (fs_set sc_World_come.nd rfl (by first | exact Or.inl rfl | exact Or.inr rfl) (fe_ix hu (fe_fld (T.clAll.fld 13 (by decide)) (by rfl) (fv 0)) (fv 3))) (fss_cons (fs_set sc_World_come.nd rfl (by first | exact Or.inl rfl | exact Or.inr rfl) (fe_if (ft_cmp (o_eq hu) (fv 2) fe_str) (fe_meth (c := 1) (T.clAll.cl 1) (by rfl) T.me_House_hear c_House_hear (hr.mono (by decide : 4 ≤ 5)) tk b_House_hear_p gr_plain (fv 5) (fa_cons (fv 4) fa_nil)) (fe_lst fa_nil))) (fss_cons (fs_if (fw_t (fw_and (ft_cmp (o_eq hu) (fv 2) fe_str) (fw_and1 (ft_cmp (o_ne hu) (fe_meth (c := 1) (T.clAll.cl 1) (by rfl) T.me_House_take c_House_take (hr.mono (by decide : 3 ≤ 5)) tk b_House_take_p gr_plain (fv 5) (fa_cons (fv 4) fa_nil)) (fe_lst fa_nil))))) (fss_one (fs_set sc_World_come.nd rfl (by first | exact Or.inl rfl | exact Or.inr rfl) (fe_meth0 (c := 1) (T.clAll.cl 1) (by rfl) T.me_House_new_votes c_House_new_votes (hr.mono (by decide : 2 ≤ 5)) tk b_House_new_votes_p gr_plain (fv 5)))) fss_nil) (fss_cons (fs_for (is := [7]) hp rfl (fi_seq (fv 6)) (fg_name (by decide) sc_World_come.nd rfl (by first | exact Or.inl rfl | exact Or.inr rfl)) (fss_one (fs_expr (fe_meth (c := 0) (T.clAll.cl 0) (by rfl) T.me_World_signed c_World_signed (hr.mono (by decide : 5 ≤ 5)) tk b_World_signed_p gr_plain (fv 0) (fa_cons (fv 3) (fa_cons (fv 7) fa_nil)))))) (fss_one (fs_ret (fe_tup (fa_cons (fv 2) (fa_cons (fv 3) (fa_cons (fv 4) fa_nil))))))))))))
theorem ok_World_look_liar (T : Txt K mg) : FnOk P w K mg base (L2.CX P w) 3 (A_World_look_liar K) T.d_World_look_liar p_World_look_liar (spF K (Ly K) S_World_look_liar) := by
  have c_is_whole := ok_is_whole (P := P) (w := w) (base := base) T
  obtain ⟨g_is_whole_p, b_is_whole_p⟩ := kb_is_whole_p T
  refine def_ok T.F_World_look_liar sc_World_look_liar (fun ds M h => by unfold S_World_look_liar; rw [decide_eq_false (show ¬ ds.length = 2 from h)]) (fun cdv A outer s H E hr tk hp => ?_) (fun ds M h => by unfold S_World_look_liar; rw [decide_eq_true (show ds.length = 2 from h)]; rfl)
  have hu := hu70 hr
  exact (fss_one (fs_if (fw_t (fw_or (ft_not (ft_val (fe_call c_is_whole (hr.mono (by decide : 1 ≤ 2)) tk (by rfl) T.m_is_whole T.F_is_whole.kp b_is_whole_p gr_plain (fa_cons (fv 1) (fa_cons fe_int (fa_cons (fe_op o_sub (fe_fld (T.clAll.fld 6 (by decide)) (by rfl) (fe_fld (T.clAll.fld 12 (by decide)) (by rfl) (fv 0))) fe_int) fa_nil)))))) (fw_or1 (ft_cmp (o_in hu) (fv 1) (fe_fld (T.clAll.fld 13 (by decide)) (by rfl) (fv 0)))))) (fss_one (fs_raise1 (c := 10) rfl tk T.xf_NoHouse (by rfl) (xi_NoHouse T) (hr.mono (by decide : 2 ≤ 2)) (xb_NoHouse T) (by rfl) T.c_NoHouse (fv 1))) fss_nil))
theorem ok_is_cut (T : Txt K mg) : FnOk P w K mg base (L2.CX P w) 2 (A_is_cut K) T.d_is_cut p_is_cut (spF K (Ly K) S_is_cut) := by
  have c_is_whole := ok_is_whole (P := P) (w := w) (base := base) T
  obtain ⟨g_is_whole_p, b_is_whole_p⟩ := kb_is_whole_p T
  refine def_ok T.F_is_cut sc_is_cut (fun ds M h => by unfold S_is_cut; rw [decide_eq_false (show ¬ ds.length = 2 from h)]) (fun cdv A outer s H E hr tk hp => ?_) (fun ds M h => by unfold S_is_cut; rw [decide_eq_true (show ds.length = 2 from h)]; rfl)
  have hu := hu70 hr
  exact (fss_cons (fs_if (fw_t (fw_or (ft_not (ft_val (fe_isi tabTup_ok (by rfl) T.fr_isinstance (by rfl) T.fr_tuple bb_tuple (fv 0)))) (fw_or1 (ft_cmp (o_ne hu) (fe_cb c_len (by rfl) T.fr_len bb_len (fa_cons (fv 0) fa_nil)) fe_int)))) (fss_one (fs_ret fe_bl)) fss_nil) (fss_cons (fs_asg (is := [2, 3]) (fv 0) (fg_tup rfl (fgs_cons (by decide) sc_is_cut.nd rfl (by first | exact Or.inl rfl | exact Or.inr rfl) (fgs_cons (by decide) sc_is_cut.nd rfl (by first | exact Or.inl rfl | exact Or.inr rfl) fgs_nil)))) (fss_cons (fs_set sc_is_cut.nd rfl (by first | exact Or.inl rfl | exact Or.inr rfl) (fe_cb c_len (by rfl) T.fr_len bb_len (fa_cons (fe_fld (T.clAll.fld 9 (by decide)) (by rfl) (fv 1)) fa_nil))) (fss_cons (fs_for (is := [5]) hp rfl (fi_seq (fe_tup (fa_cons (fv 2) (fa_cons (fv 3) fa_nil)))) (fg_name (by decide) sc_is_cut.nd rfl (by first | exact Or.inl rfl | exact Or.inr rfl)) (fss_one (fs_if (fw_t (fw_or (ft_not (ft_val (fe_isi tabTup_ok (by rfl) T.fr_isinstance (by rfl) T.fr_tuple bb_tuple (fv 5)))) (fw_or (ft_cmp (o_ne hu) (fe_cb c_len (by rfl) T.fr_len bb_len (fa_cons (fv 5) fa_nil)) (fv 4)) (fw_or1 (ft_not (ft_val (fe_cb (c_all rfl) (by rfl) T.fr_all bb_all (fa_cons (fe_lc (own := [("one", 6)]) rfl sc_is_cut.nd  (fi_seq (fv 5)) (blkOk_by (N := N_is_cut) (sc := defScope s_is_cut) (by decide +kernel)) rfl (fun _ _ _ _ _ => (fg_name (by decide) sc_is_cut.nd rfl (by first | exact Or.inl rfl | exact Or.inr rfl))) (fun _ _ _ _ _ => fts_nil) (fun _ _ _ _ _ => (fe_call c_is_whole (hr.mono (by decide : 1 ≤ 1)) takes0 (by rfl) T.m_is_whole T.F_is_whole.kp b_is_whole_p gr_plain (fa_cons (fv 6) (fa_cons fe_int (fa_cons fe_int fa_nil)))))) fa_nil)))))))) (fss_one (fs_ret fe_bl)) fss_nil))) (fss_one (fs_ret (fe_cmp (o_eq hu) (fe_cb (c_sumT rfl) (by rfl) T.fr_sum bb_sum (fa_cons (fv 3) fa_nil)) (fe_cb (c_sum rfl) (by rfl) T.fr_sum bb_sum (fa_cons (fe_fld (T.clAll.fld 9 (by decide)) (by rfl) (fv 1)) fa_nil)))))))))
theorem ok_Cutting_lie (T : Txt K mg) : FnOk P w K mg base (L2.CX P w) 4 (A_Cutting_lie K) T.d_Cutting_lie p_Cutting_lie (spF K (Ly K) S_Cutting_lie) := by
  have c_Cutting_add := ok_Cutting_add (P := P) (w := w) (base := base) T
  have c_World_look_liar := ok_World_look_liar (P := P) (w := w) (base := base) T
  have c_is_cut := ok_is_cut (P := P) (w := w) (base := base) T
  obtain ⟨g_Cutting_add_p, b_Cutting_add_p⟩ := kb_Cutting_add_p T
  obtain ⟨g_World_look_liar_p, b_World_look_liar_p⟩ := kb_World_look_liar_p T
  obtain ⟨g_is_cut_p, b_is_cut_p⟩ := kb_is_cut_p T
  refine def_ok T.F_Cutting_lie sc_Cutting_lie (fun ds M h => by unfold S_Cutting_lie; rw [decide_eq_false (show ¬ ds.length = 3 from h)]) (fun cdv A outer s H E hr tk hp => ?_) (fun ds M h => by unfold S_Cutting_lie; rw [decide_eq_true (show ds.length = 3 from h)]; rfl)
  have hu := hu70 hr
  exact (fss_cons (fs_expr (fe_meth (c := 0) (T.clAll.cl 0) (by rfl) T.me_World_look_liar c_World_look_liar (hr.mono (by decide : 3 ≤ 3)) tk b_World_look_liar_p gr_plain (fe_fld (T.clAll.fld 16 (by decide)) (by rfl) (fv 0)) (fa_cons (fv 1) fa_nil))) (fss_cons (fs_if (ft_not (ft_val (fe_call c_is_cut (hr.mono (by decide : 2 ≤ 3)) tk (by rfl) T.m_is_cut T.F_is_cut.kp b_is_cut_p gr_plain (fa_cons (fv 2) (fa_cons (fe_fld (T.clAll.fld 16 (by decide)) (by rfl) (fv 0)) fa_nil))))) (fss_one (fs_raise (c := 16) rfl tk T.x_BadCut (by rfl))) fss_nil) (fss_one (fs_expr (fe_meth (c := 3) (T.clAll.cl 3) (by rfl) T.me_Cutting_add c_Cutting_add (hr.mono (by decide : 1 ≤ 3)) tk b_Cutting_add_p gr_plain (fv 0) (fa_cons (fv 1) (fa_cons (fv 2) fa_nil)))))))
theorem ok_House_load (T : Txt K mg) : FnOk P w K mg base (L2.CX P w) 1 (A_House_load K) T.d_House_load p_House_load (spF K (Ly K) S_House_load) := by
  refine def_ok T.F_House_load sc_House_load (fun ds M h => by unfold S_House_load; rw [decide_eq_false (show ¬ ds.length = 3 from h)]) (fun cdv A outer s H E hr tk hp => ?_) (fun ds M h => by unfold S_House_load; rw [decide_eq_true (show ds.length = 3 from h)]; rfl)
  have hu := hu70 hr
  exact (fss_cons (fs_fld (T.clAll.fld 1 (by decide)) (by rfl) (fv 0) (fe_ct c_list (by rfl) T.fr_list bb_list (fa_cons (fv 1) fa_nil))) (fss_cons (fs_fld (T.clAll.fld 0 (by decide)) (by rfl) (fv 0) (fe_ct c_list (by rfl) T.fr_list bb_list (fa_cons (fv 2) fa_nil))) (fss_one (fs_fld (T.clAll.fld 4 (by decide)) (by rfl) (fv 0) (fe_lc (own := [("one", 3)]) rfl sc_House_load.nd  (fi_seq (fe_fld (T.clAll.fld 4 (by decide)) (by rfl) (fv 0))) (blkOk_by (N := N_House_load) (sc := defScope s_House_load) (by decide +kernel)) rfl (fun _ _ _ _ _ => (fg_name (by decide) sc_House_load.nd rfl (by first | exact Or.inl rfl | exact Or.inr rfl))) (fun _ _ _ _ _ => (fts_one (ft_cmp o_ge (fe_ix hu (fv 3) fe_int) (fe_ix hu (fe_fld (T.clAll.fld 1 (by decide)) (by rfl) (fv 0)) (fe_ix hu (fv 3) fe_int))))) (fun _ _ _ _ _ => (fv 3)))))))
theorem ok_Cutting_good (T : Txt K mg) : FnOk P w K mg base (L2.CX P w) 2 (A_Cutting_good K) T.d_Cutting_good p_Cutting_good (spF K (Ly K) S_Cutting_good) := by
  have c_enough := ok_enough (P := P) (w := w) (base := base) T
  obtain ⟨g_enough_p, b_enough_p⟩ := kb_enough_p T
  refine def_ok T.F_Cutting_good sc_Cutting_good (fun ds M h => by unfold S_Cutting_good; rw [decide_eq_false (show ¬ ds.length = 1 from h)]) (fun cdv A outer s H E hr tk hp => ?_) (fun ds M h => by unfold S_Cutting_good; rw [decide_eq_true (show ds.length = 1 from h)]; rfl)
  have hu := hu70 hr
  exact (fss_cons (fs_set sc_Cutting_good.nd rfl (by first | exact Or.inl rfl | exact Or.inr rfl) (fe_call c_enough (hr.mono (by decide : 1 ≤ 1)) tk (by rfl) T.m_enough T.F_enough.kp b_enough_p gr_plain (fa_cons (fe_fld (T.clAll.fld 6 (by decide)) (by rfl) (fe_fld (T.clAll.fld 12 (by decide)) (by rfl) (fe_fld (T.clAll.fld 16 (by decide)) (by rfl) (fv 0)))) (fa_cons (fe_fld (T.clAll.fld 7 (by decide)) (by rfl) (fe_fld (T.clAll.fld 12 (by decide)) (by rfl) (fe_fld (T.clAll.fld 16 (by decide)) (by rfl) (fv 0)))) fa_nil)))) (fss_one (fs_ret (fe_cb (c_sorted rfl hu) (by rfl) T.fr_sorted bb_sorted (fa_cons (fe_lock (fe_lc (own := [("cut", 2)]) rfl sc_Cutting_good.nd  (fi_keysN (fe_fld (T.clAll.fld 8 (by decide)) (by rfl) (fv 0))) (blkOk_by (N := N_Cutting_good) (sc := defScope s_Cutting_good) (by decide +kernel)) rfl (fun _ _ _ _ _ => (fg_name (by decide) sc_Cutting_good.nd rfl (by first | exact Or.inl rfl | exact Or.inr rfl))) (fun _ _ _ _ _ => (fts_one (ft_cmp o_ge (fe_cb c_len (by rfl) T.fr_len bb_len (fa_cons (fe_ixN hu (fe_fld (T.clAll.fld 8 (by decide)) (by rfl) (fv 0)) (fv 2)) fa_nil)) (fv 1)))) (fun _ _ _ _ _ => (fv 2)))) fa_nil)))))
theorem ok_Cutting_take (T : Txt K mg) : FnOk P w K mg base (L2.CX P w) 6 (A_Cutting_take K) T.d_Cutting_take p_Cutting_take (spF K (Ly K) S_Cutting_take) := by
  have c_Cutting_good := ok_Cutting_good (P := P) (w := w) (base := base) T
  have c_House_go_on := ok_House_go_on (P := P) (w := w) (base := base) T
  have c_House_load := ok_House_load (P := P) (w := w) (base := base) T
  have c_House_new_votes := ok_House_new_votes (P := P) (w := w) (base := base) T
  have c_World_room := ok_World_room (P := P) (w := w) (base := base) T
  have c_World_signed := ok_World_signed (P := P) (w := w) (base := base) T
  have c_is_cut := ok_is_cut (P := P) (w := w) (base := base) T
  obtain ⟨g_Cutting_good_p, b_Cutting_good_p⟩ := kb_Cutting_good_p T
  obtain ⟨g_House_go_on_p, b_House_go_on_p⟩ := kb_House_go_on_p T
  obtain ⟨g_House_load_p, b_House_load_p⟩ := kb_House_load_p T
  obtain ⟨g_House_new_votes_p, b_House_new_votes_p⟩ := kb_House_new_votes_p T
  obtain ⟨g_World_room_p, b_World_room_p⟩ := kb_World_room_p T
  obtain ⟨g_World_signed_p, b_World_signed_p⟩ := kb_World_signed_p T
  obtain ⟨g_is_cut_p, b_is_cut_p⟩ := kb_is_cut_p T
  refine def_ok T.F_Cutting_take sc_Cutting_take (fun ds M h => by unfold S_Cutting_take; rw [decide_eq_false (show ¬ ds.length = 3 from h)]) (fun cdv A outer s H E hr tk hp => ?_) (fun ds M h => by unfold S_Cutting_take; rw [decide_eq_true (show ds.length = 3 from h)]; rfl)
  have hu := hu70 hr
  exact (fss_cons (fs_set sc_Cutting_take.nd rfl (by first | exact Or.inl rfl | exact Or.inr rfl) (fe_meth (c := 0) (T.clAll.cl 0) (by rfl) T.me_World_room c_World_room (hr.mono (by decide : 3 ≤ 5)) tk b_World_room_p gr_plain (fe_fld (T.clAll.fld 16 (by decide)) (by rfl) (fv 0)) (fa_cons (fv 1) fa_nil))) (fss_cons (fs_if (fw_t (fw_or (ft_not (ft_val (fe_call c_is_cut (hr.mono (by decide : 2 ≤ 5)) tk (by rfl) T.m_is_cut T.F_is_cut.kp b_is_cut_p gr_plain (fa_cons (fv 2) (fa_cons (fe_fld (T.clAll.fld 16 (by decide)) (by rfl) (fv 0)) fa_nil))))) (fw_or1 (ft_cmp (o_notIn hu) (fv 2) (fe_meth0 (c := 3) (T.clAll.cl 3) (by rfl) T.me_Cutting_good c_Cutting_good (hr.mono (by decide : 2 ≤ 5)) tk b_Cutting_good_p gr_plain (fv 0)))))) (fss_one (fs_raise (c := 16) rfl tk T.x_BadCut (by rfl))) fss_nil) (fss_cons (fs_asg (is := [4, 5]) (fv 2) (fg_tup rfl (fgs_cons (by decide) sc_Cutting_take.nd rfl (by first | exact Or.inl rfl | exact Or.inr rfl) (fgs_cons (by decide) sc_Cutting_take.nd rfl (by first | exact Or.inl rfl | exact Or.inr rfl) fgs_nil)))) (fss_cons (fs_if (ft_val (fe_cb (c_any rfl) (by rfl) T.fr_any bb_any (fa_cons (fe_lc (own := [("mine", 7), ("one", 8)]) rfl sc_Cutting_take.nd  (fi_zip (by rfl) T.fr_zip (fa_cons (fe_fld (T.clAll.fld 1 (by decide)) (by rfl) (fv 3)) (fa_cons (fv 4) fa_nil))) (blkOk_by (N := N_Cutting_take) (sc := defScope s_Cutting_take) (by decide +kernel)) rfl (fun _ _ _ _ _ => (fg_tup rfl (fgs_cons (by decide) sc_Cutting_take.nd rfl (by first | exact Or.inl rfl | exact Or.inr rfl) (fgs_cons (by decide) sc_Cutting_take.nd rfl (by first | exact Or.inl rfl | exact Or.inr rfl) fgs_nil)))) (fun _ _ _ _ _ => fts_nil) (fun _ _ _ _ _ => (fe_cmp o_gt (fv 7) (fv 8)))) fa_nil))) (fss_one (fs_raise (c := 13) rfl tk T.x_NotNow (by rfl))) fss_nil) (fss_cons (fs_expr (fe_meth (c := 1) (T.clAll.cl 1) (by rfl) T.me_House_load c_House_load (hr.mono (by decide : 1 ≤ 5)) tk b_House_load_p gr_plain (fv 3) (fa_cons (fv 4) (fa_cons (fv 5) fa_nil)))) (fss_cons (fs_expr (fe_meth0 (c := 1) (T.clAll.cl 1) (by rfl) T.me_House_go_on c_House_go_on (hr.mono (by decide : 2 ≤ 5)) tk b_House_go_on_p gr_plain (fv 3))) (fss_one (fs_for (is := [6]) hp rfl (fi_seq (fe_meth0 (c := 1) (T.clAll.cl 1) (by rfl) T.me_House_new_votes c_House_new_votes (hr.mono (by decide : 2 ≤ 5)) tk b_House_new_votes_p gr_plain (fv 3))) (fg_name (by decide) sc_Cutting_take.nd rfl (by first | exact Or.inl rfl | exact Or.inr rfl)) (fss_one (fs_expr (fe_meth (c := 0) (T.clAll.cl 0) (by rfl) T.me_World_signed c_World_signed (hr.mono (by decide : 5 ≤ 5)) tk b_World_signed_p gr_plain (fe_fld (T.clAll.fld 16 (by decide)) (by rfl) (fv 0)) (fa_cons (fv 1) (fa_cons (fv 6) fa_nil)))))))))))))
theorem ok_Cutting_signers_of (T : Txt K mg) : FnOk P w K mg base (L2.CX P w) 3 (A_Cutting_signers_of K) T.d_Cutting_signers_of p_Cutting_signers_of (spF K (Ly K) S_Cutting_signers_of) := by
  have c_is_cut := ok_is_cut (P := P) (w := w) (base := base) T
  obtain ⟨g_is_cut_p, b_is_cut_p⟩ := kb_is_cut_p T
  refine def_ok T.F_Cutting_signers_of sc_Cutting_signers_of (fun ds M h => by unfold S_Cutting_signers_of; rw [decide_eq_false (show ¬ ds.length = 2 from h)]) (fun cdv A outer s H E hr tk hp => ?_) (fun ds M h => by unfold S_Cutting_signers_of; rw [decide_eq_true (show ds.length = 2 from h)]; rfl)
  have hu := hu70 hr
  exact (fss_cons (fs_if (ft_not (ft_val (fe_call c_is_cut (hr.mono (by decide : 2 ≤ 2)) tk (by rfl) T.m_is_cut T.F_is_cut.kp b_is_cut_p gr_plain (fa_cons (fv 1) (fa_cons (fe_fld (T.clAll.fld 16 (by decide)) (by rfl) (fv 0)) fa_nil))))) (fss_one (fs_raise (c := 16) rfl tk T.x_BadCut (by rfl))) fss_nil) (fss_one (fs_ret (fe_cb (c_sorted rfl hu) (by rfl) T.fr_sorted bb_sorted (fa_cons (fe_get2N hu (fe_fld (T.clAll.fld 8 (by decide)) (by rfl) (fv 0)) (fv 1) (fe_lst fa_nil)) fa_nil)))))
theorem ok_seen_orders (T : Txt K mg) : FnOk P w K mg base (L2.CX P w) 2 (A_seen_orders K) T.d_seen_orders p_seen_orders (spF K (Ly K) S_seen_orders) := by
  have c_World_honest := ok_World_honest (P := P) (w := w) (base := base) T
  have c_look_world := ok_look_world (P := P) (w := w) (base := base) T
  obtain ⟨g_World_honest_p, b_World_honest_p⟩ := kb_World_honest_p T
  obtain ⟨g_look_world_p, b_look_world_p⟩ := kb_look_world_p T
  refine def_ok T.F_seen_orders sc_seen_orders (fun ds M h => by unfold S_seen_orders; rw [decide_eq_false (show ¬ ds.length = 1 from h)]) (fun cdv A outer s H E hr tk hp => ?_) (fun ds M h => by unfold S_seen_orders; rw [decide_eq_true (show ds.length = 1 from h)]; rfl)
  have hu := hu70 hr
  exact (fss_cons (fs_expr (fe_call c_look_world (hr.mono (by decide : 1 ≤ 1)) tk (by rfl) T.m_look_world T.F_look_world.kp b_look_world_p gr_plain (fa_cons (fv 0) fa_nil))) (fss_cons (fs_set sc_seen_orders.nd rfl (by first | exact Or.inl rfl | exact Or.inr rfl) fe_newT) (fss_cons (fs_for (is := [2, 3, 4]) hp rfl (fi_seq (fe_fld (T.clAll.fld 14 (by decide)) (by rfl) (fv 0))) (fg_tup rfl (fgs_cons (by decide) sc_seen_orders.nd rfl (by first | exact Or.inl rfl | exact Or.inr rfl) (fgs_cons (by decide) sc_seen_orders.nd rfl (by first | exact Or.inl rfl | exact Or.inr rfl) (fgs_cons (by decide) sc_seen_orders.nd rfl (by first | exact Or.inl rfl | exact Or.inr rfl) fgs_nil)))) (fss_one (fs_asg (is := []) fe_bl (fg_sub hu (fv 1) (fv 4))))) (fss_cons (fs_for (is := [3]) hp rfl (fi_seq (fe_meth0 (c := 0) (T.clAll.cl 0) (by rfl) T.me_World_honest c_World_honest (hr.mono (by decide : 1 ≤ 1)) tk b_World_honest_p gr_plain (fv 0))) (fg_name (by decide) sc_seen_orders.nd rfl (by first | exact Or.inl rfl | exact Or.inr rfl)) (fss_one (fs_for (is := [4]) hp rfl (fi_seq (fe_fld (T.clAll.fld 3 (by decide)) (by rfl) (fe_ix hu (fe_fld (T.clAll.fld 13 (by decide)) (by rfl) (fv 0)) (fv 3)))) (fg_name (by decide) sc_seen_orders.nd rfl (by first | exact Or.inl rfl | exact Or.inr rfl)) (fss_one (fs_asg (is := []) fe_bl (fg_sub hu (fv 1) (fv 4))))))) (fss_cons (fs_lock (fs_for (is := [4]) hp rfl (fi_keys (fe_fld (T.clAll.fld 8 (by decide)) (by rfl) (fe_fld (T.clAll.fld 12 (by decide)) (by rfl) (fv 0)))) (fg_name (by decide) sc_seen_orders.nd rfl (by first | exact Or.inl rfl | exact Or.inr rfl)) (fss_one (fs_asg (is := []) fe_bl (fg_sub hu (fv 1) (fv 4)))))) (fss_one (fs_ret (fe_cb (c_sortedT rfl hu) (by rfl) T.fr_sorted bb_sorted (fa_cons (fv 1) fa_nil)))))))))
theorem ok_false_owners (T : Txt K mg) : FnOk P w K mg base (L2.CX P w) 3 (A_false_owners K) T.d_false_owners p_false_owners (spF K (Ly K) S_false_owners) := by
  have c_seen_orders := ok_seen_orders (P := P) (w := w) (base := base) T
  obtain ⟨g_seen_orders_p, b_seen_orders_p⟩ := kb_seen_orders_p T
  refine def_ok T.F_false_owners sc_false_owners (fun ds M h => by unfold S_false_owners; rw [decide_eq_false (show ¬ ds.length = 1 from h)]) (fun cdv A outer s H E hr tk hp => ?_) (fun ds M h => by unfold S_false_owners; rw [decide_eq_true (show ds.length = 1 from h)]; rfl)
  have hu := hu70 hr
  exact (fss_cons (fs_set sc_false_owners.nd rfl (by first | exact Or.inl rfl | exact Or.inr rfl) (fe_call c_seen_orders (hr.mono (by decide : 2 ≤ 2)) tk (by rfl) T.m_seen_orders T.F_seen_orders.kp b_seen_orders_p gr_plain (fa_cons (fv 0) fa_nil))) (fss_one (fs_ret (fe_sortSc2 (own := [("one", 2), ("other", 3)]) rfl sc_false_owners.nd (by rfl) T.fr_sorted (fi_seq (fv 1)) (blkOk_by (N := N_false_owners) (sc := defScope s_false_owners) (by decide +kernel)) rfl (by decide) (fun _ _ _ _ _ => (fg_name (by decide) sc_false_owners.nd rfl (by first | exact Or.inl rfl | exact Or.inr rfl))) (fun _ _ _ _ _ => fts_nil) (fun _ _ _ _ _ => (fi_seq (fv 1))) (fun _ _ _ _ _ => (fg_name (by decide) sc_false_owners.nd rfl (by first | exact Or.inl rfl | exact Or.inr rfl))) (fun _ _ _ _ _ => (fts_one (fw_t (fw_and (ft_cmp (o_eq hu) (fe_sl (fv 2) fo_none (fo_some fe_int)) (fe_sl (fv 3) fo_none (fo_some fe_int))) (fw_and1 (ft_cmp (o_ne hu) (fv 2) (fv 3))))))) (fun _ _ _ _ _ => (fe_ix hu (fv 2) fe_int))))))
theorem ok_false_houses (T : Txt K mg) : FnOk P w K mg base (L2.CX P w) 2 (A_false_houses K) T.d_false_houses p_false_houses (spF K (Ly K) S_false_houses) := by
  have c_look_world := ok_look_world (P := P) (w := w) (base := base) T
  obtain ⟨g_look_world_p, b_look_world_p⟩ := kb_look_world_p T
  refine def_ok T.F_false_houses sc_false_houses (fun ds M h => by unfold S_false_houses; rw [decide_eq_false (show ¬ ds.length = 1 from h)]) (fun cdv A outer s H E hr tk hp => ?_) (fun ds M h => by unfold S_false_houses; rw [decide_eq_true (show ds.length = 1 from h)]; rfl)
  have hu := hu70 hr
  exact (fss_cons (fs_expr (fe_call c_look_world (hr.mono (by decide : 1 ≤ 1)) tk (by rfl) T.m_look_world T.F_look_world.kp b_look_world_p gr_plain (fa_cons (fv 0) fa_nil))) (fss_cons (fs_set sc_false_houses.nd rfl (by first | exact Or.inl rfl | exact Or.inr rfl) fe_newK) (fss_cons (fs_set sc_false_houses.nd rfl (by first | exact Or.inl rfl | exact Or.inr rfl) (fe_fld (T.clAll.fld 8 (by decide)) (by rfl) (fe_fld (T.clAll.fld 12 (by decide)) (by rfl) (fv 0)))) (fss_cons (fs_lock (fs_for (is := [3]) hp rfl (fi_keys (fv 2)) (fg_name (by decide) sc_false_houses.nd rfl (by first | exact Or.inl rfl | exact Or.inr rfl)) (fss_one (fs_for (is := [4]) hp rfl (fi_keys (fv 2)) (fg_name (by decide) sc_false_houses.nd rfl (by first | exact Or.inl rfl | exact Or.inr rfl)) (fss_one (fs_if (fw_t (fw_and (ft_cmp (o_eq hu) (fe_sl (fv 3) fo_none (fo_some fe_int)) (fe_sl (fv 4) fo_none (fo_some fe_int))) (fw_and1 (ft_cmp (o_ne hu) (fv 3) (fv 4))))) (fss_one (fs_aug sc_false_houses.nd rfl (by first | exact Or.inl rfl | exact Or.inr rfl) (fe_dc (own := [("house", 5)]) rfl sc_false_houses.nd (fi_seq (fe_ix hu (fv 2) (fv 3))) (blkOk_by (N := N_false_houses) (sc := defScope s_false_houses) (by decide +kernel)) rfl (fun _ _ _ _ _ => (fg_name (by decide) sc_false_houses.nd rfl (by first | exact Or.inl rfl | exact Or.inr rfl))) (fun _ _ _ _ _ => (fts_one (ft_cmp (o_in hu) (fv 5) (fe_ix hu (fv 2) (fv 4))))) (fun _ _ _ _ _ => (fv 5)) (fun _ _ _ _ _ => fe_bl)) i_or)) fss_nil)))))) (fss_one (fs_ret (fe_cb (c_sorted rfl hu) (by rfl) T.fr_sorted bb_sorted (fa_cons (fv 1) fa_nil))))))))
theorem ok_stuck_purses (T : Txt K mg) : FnOk P w K mg base (L2.CX P w) 2 (A_stuck_purses K) T.d_stuck_purses p_stuck_purses (spF K (Ly K) S_stuck_purses) := by
  have c_World_honest := ok_World_honest (P := P) (w := w) (base := base) T
  have c_look_world := ok_look_world (P := P) (w := w) (base := base) T
  obtain ⟨g_World_honest_p, b_World_honest_p⟩ := kb_World_honest_p T
  obtain ⟨g_look_world_p, b_look_world_p⟩ := kb_look_world_p T
  refine def_ok T.F_stuck_purses sc_stuck_purses (fun ds M h => by unfold S_stuck_purses; rw [decide_eq_false (show ¬ ds.length = 1 from h)]) (fun cdv A outer s H E hr tk hp => ?_) (fun ds M h => by unfold S_stuck_purses; rw [decide_eq_true (show ds.length = 1 from h)]; rfl)
  have hu := hu70 hr
  exact (fss_cons (fs_expr (fe_call c_look_world (hr.mono (by decide : 1 ≤ 1)) tk (by rfl) T.m_look_world T.F_look_world.kp b_look_world_p gr_plain (fa_cons (fv 0) fa_nil))) (fss_cons (fs_set sc_stuck_purses.nd rfl (by first | exact Or.inl rfl | exact Or.inr rfl) (fe_meth0 (c := 0) (T.clAll.cl 0) (by rfl) T.me_World_honest c_World_honest (hr.mono (by decide : 1 ≤ 1)) tk b_World_honest_p gr_plain (fv 0))) (fss_cons (fs_set sc_stuck_purses.nd rfl (by first | exact Or.inl rfl | exact Or.inr rfl) (fe_op o_sub (fe_fld (T.clAll.fld 6 (by decide)) (by rfl) (fe_fld (T.clAll.fld 12 (by decide)) (by rfl) (fv 0))) (fe_cb c_len (by rfl) T.fr_len bb_len (fa_cons (fv 1) fa_nil)))) (fss_cons (fs_set sc_stuck_purses.nd rfl (by first | exact Or.inl rfl | exact Or.inr rfl) (fe_op o_sub (fe_fld (T.clAll.fld 6 (by decide)) (by rfl) (fe_fld (T.clAll.fld 12 (by decide)) (by rfl) (fv 0))) (fe_fld (T.clAll.fld 7 (by decide)) (by rfl) (fe_fld (T.clAll.fld 12 (by decide)) (by rfl) (fv 0))))) (fss_cons ((fs_lockC (fs_lockC (fs_lockC (fs_lockC (fs_lockC (fs_lockC (fs_lockC (fs_lockC (fun _ => fs_setDc2 (own := [("house", 10), ("place", 4)]) (Nat.lt_of_le_of_lt (Nat.add_le_add_left (by decide : 1 ≤ 70) _) hu) rfl sc_stuck_purses.nd rfl rfl (sw_trueD rfl rfl rfl (by decide +kernel)) (fi_seq (fv 1)) (blkOk_by (N := N_stuck_purses) (sc := defScope s_stuck_purses) (by decide +kernel)) rfl (by decide) (fun _ _ _ _ _ => (fg_name (by decide) sc_stuck_purses.nd rfl (by first | exact Or.inl rfl | exact Or.inr rfl))) (fun _ _ _ _ _ => fts_nil) (fun _ _ _ _ _ => (fi_keys (fe_fld (T.clAll.fld 2 (by decide)) (by rfl) (fe_ix hu (fe_fld (T.clAll.fld 13 (by decide)) (by rfl) (fv 0)) (fv 10))))) (fun _ _ _ _ _ => (fg_name (by decide) sc_stuck_purses.nd rfl (by first | exact Or.inl rfl | exact Or.inr rfl))) (fun _ _ _ _ _ => fts_nil) (fun _ _ _ _ _ => (fv 4)) (fun _ _ _ _ _ => fe_bl)))))))))) _) (fss_cons (fs_set sc_stuck_purses.nd rfl (by first | exact Or.inl rfl | exact Or.inr rfl) fe_newK) (fss_cons (fs_lock (fs_for (is := [4]) hp rfl (fi_keys (fv 5)) (fg_name (by decide) sc_stuck_purses.nd rfl (by first | exact Or.inl rfl | exact Or.inr rfl)) (fss_cons (by first | exact (fs_setLc (own := [("house", 10)]) rfl sc_stuck_purses.nd rfl rfl (sw_true rfl rfl rfl (by decide +kernel)) (fi_seq (fv 1)) (blkOk_by (N := N_stuck_purses) (sc := defScope s_stuck_purses) (by decide +kernel)) rfl (fun _ _ _ _ _ => (fg_name (by decide) sc_stuck_purses.nd rfl (by first | exact Or.inl rfl | exact Or.inr rfl))) (fun _ _ _ _ _ => fts_nil) (fun _ _ _ _ _ => (fe_get1 hu (fe_fld (T.clAll.fld 2 (by decide)) (by rfl) (fe_ix hu (fe_fld (T.clAll.fld 13 (by decide)) (by rfl) (fv 0)) (fv 10))) (fv 4)))) | exact (fs_set sc_stuck_purses.nd rfl (by first | exact Or.inl rfl | exact Or.inr rfl) (fe_lc (own := [("house", 10)]) rfl sc_stuck_purses.nd  (fi_seq (fv 1)) (blkOk_by (N := N_stuck_purses) (sc := defScope s_stuck_purses) (by decide +kernel)) rfl (fun _ _ _ _ _ => (fg_name (by decide) sc_stuck_purses.nd rfl (by first | exact Or.inl rfl | exact Or.inr rfl))) (fun _ _ _ _ _ => fts_nil) (fun _ _ _ _ _ => (fe_get1 hu (fe_fld (T.clAll.fld 2 (by decide)) (by rfl) (fe_ix hu (fe_fld (T.clAll.fld 13 (by decide)) (by rfl) (fv 0)) (fv 10))) (fv 4)))))) (fss_cons (fs_set sc_stuck_purses.nd rfl (by first | exact Or.inl rfl | exact Or.inr rfl) (fe_bm PySem.F.plainAttrs_list PySem.F.slot_list_count PySem.F.type_list_count tyLst_ok (m_count hu) (fv 7) (fa_cons fe_non fa_nil))) (fss_cons (fs_set sc_stuck_purses.nd rfl (by first | exact Or.inl rfl | exact Or.inr rfl) (fe_cb (c_max rfl) (by rfl) T.fr_max bb_max (fa_cons (fe_lc (own := [("order", 11)]) rfl sc_stuck_purses.nd  (fi_seq (fv 7)) (blkOk_by (N := N_stuck_purses) (sc := defScope s_stuck_purses) (by decide +kernel)) rfl (fun _ _ _ _ _ => (fg_name (by decide) sc_stuck_purses.nd rfl (by first | exact Or.inl rfl | exact Or.inr rfl))) (fun _ _ _ _ _ => (fts_one (ft_cmp o_isNot (fv 11) fe_non))) (fun _ _ _ _ _ => (fe_bm PySem.F.plainAttrs_list PySem.F.slot_list_count PySem.F.type_list_count tyLst_ok (m_count hu) (fv 7) (fa_cons (fv 11) fa_nil)))) fa_nil))) (fss_one (fs_if (ft_cmp o_lt (fe_op o_add (fe_op o_add (fv 9) (fv 8)) (fv 2)) (fv 3)) (fss_one (fs_asg (is := []) fe_bl (fg_sub hu (fv 6) (fe_ix hu (fv 4) fe_int)))) fss_nil))))))) (fss_one (fs_ret (fe_cb (c_sorted rfl hu) (by rfl) T.fr_sorted bb_sorted (fa_cons (fv 6) fa_nil)))))))))))
theorem ok_lost_nothing (T : Txt K mg) : FnOk P w K mg base (L2.CX P w) 2 (A_lost_nothing K) T.d_lost_nothing p_lost_nothing (spF K (Ly K) S_lost_nothing) := by
  have c_World_honest := ok_World_honest (P := P) (w := w) (base := base) T
  have c_look_world := ok_look_world (P := P) (w := w) (base := base) T
  obtain ⟨g_World_honest_p, b_World_honest_p⟩ := kb_World_honest_p T
  obtain ⟨g_look_world_p, b_look_world_p⟩ := kb_look_world_p T
  refine def_ok T.F_lost_nothing sc_lost_nothing (fun ds M h => by unfold S_lost_nothing; rw [decide_eq_false (show ¬ ds.length = 1 from h)]) (fun cdv A outer s H E hr tk hp => ?_) (fun ds M h => by unfold S_lost_nothing; rw [decide_eq_true (show ds.length = 1 from h)]; rfl)
  have hu := hu70 hr
  exact (fss_cons (fs_expr (fe_call c_look_world (hr.mono (by decide : 1 ≤ 1)) tk (by rfl) T.m_look_world T.F_look_world.kp b_look_world_p gr_plain (fa_cons (fv 0) fa_nil))) (fss_cons (fs_set sc_lost_nothing.nd rfl (by first | exact Or.inl rfl | exact Or.inr rfl) (fe_cb (c_sum rfl) (by rfl) T.fr_sum bb_sum (fa_cons (fe_fld (T.clAll.fld 9 (by decide)) (by rfl) (fv 0)) fa_nil))) (fss_cons (by first | exact (fs_setLc (own := [("house", 3)]) rfl sc_lost_nothing.nd rfl rfl (sw_true rfl rfl rfl (by decide +kernel)) (fi_seq (fe_meth0 (c := 0) (T.clAll.cl 0) (by rfl) T.me_World_honest c_World_honest (hr.mono (by decide : 1 ≤ 1)) tk b_World_honest_p gr_plain (fv 0))) (blkOk_by (N := N_lost_nothing) (sc := defScope s_lost_nothing) (by decide +kernel)) rfl (fun _ _ _ _ _ => (fg_name (by decide) sc_lost_nothing.nd rfl (by first | exact Or.inl rfl | exact Or.inr rfl))) (fun _ _ _ _ _ => fts_nil) (fun _ _ _ _ _ => (fe_ix hu (fe_fld (T.clAll.fld 13 (by decide)) (by rfl) (fv 0)) (fv 3)))) | exact (fs_set sc_lost_nothing.nd rfl (by first | exact Or.inl rfl | exact Or.inr rfl) (fe_lc (own := [("house", 3)]) rfl sc_lost_nothing.nd  (fi_seq (fe_meth0 (c := 0) (T.clAll.cl 0) (by rfl) T.me_World_honest c_World_honest (hr.mono (by decide : 1 ≤ 1)) tk b_World_honest_p gr_plain (fv 0))) (blkOk_by (N := N_lost_nothing) (sc := defScope s_lost_nothing) (by decide +kernel)) rfl (fun _ _ _ _ _ => (fg_name (by decide) sc_lost_nothing.nd rfl (by first | exact Or.inl rfl | exact Or.inr rfl))) (fun _ _ _ _ _ => fts_nil) (fun _ _ _ _ _ => (fe_ix hu (fe_fld (T.clAll.fld 13 (by decide)) (by rfl) (fv 0)) (fv 3)))))) (fss_one (fs_ret (fe_cb (c_all rfl) (by rfl) T.fr_all bb_all (fa_cons (fe_lc (own := [("room", 4)]) rfl sc_lost_nothing.nd  (fi_seq (fv 2)) (blkOk_by (N := N_lost_nothing) (sc := defScope s_lost_nothing) (by decide +kernel)) rfl (fun _ _ _ _ _ => (fg_name (by decide) sc_lost_nothing.nd rfl (by first | exact Or.inl rfl | exact Or.inr rfl))) (fun _ _ _ _ _ => fts_nil) (fun _ _ _ _ _ => (fe_and (fe_cmp (o_eq hu) (fe_cb (c_sum rfl) (by rfl) T.fr_sum bb_sum (fa_cons (fe_fld (T.clAll.fld 0 (by decide)) (by rfl) (fv 4)) fa_nil)) (fv 1)) (fe_one (fe_cmp o_ge (fe_cb (c_min rfl) (by rfl) T.fr_min bb_min (fa_cons (fe_fld (T.clAll.fld 0 (by decide)) (by rfl) (fv 4)) fa_nil)) fe_int))))) fa_nil)))))))
theorem ok__law_did (T : Txt K mg) : FnOk P w K mg base (L2.CX P w) 7 (A__law_did K) T.d__law_did p__law_did (spF K (Ly K) S__law_did) := by
  have c_Cutting___init__ := ok_Cutting___init__ (P := P) (w := w) (base := base) T
  have c_Cutting_lie := ok_Cutting_lie (P := P) (w := w) (base := base) T
  have c_Cutting_sign := ok_Cutting_sign (P := P) (w := w) (base := base) T
  have c_Cutting_signers_of := ok_Cutting_signers_of (P := P) (w := w) (base := base) T
  have c_Cutting_take := ok_Cutting_take (P := P) (w := w) (base := base) T
  have c_cut_of := ok_cut_of (P := P) (w := w) (base := base) T
  have c_false_houses := ok_false_houses (P := P) (w := w) (base := base) T
  have c_false_owners := ok_false_owners (P := P) (w := w) (base := base) T
  have c_lost_nothing := ok_lost_nothing (P := P) (w := w) (base := base) T
  have c_stuck_purses := ok_stuck_purses (P := P) (w := w) (base := base) T
  obtain ⟨g_Cutting___init___p, b_Cutting___init___p⟩ := kb_Cutting___init___p T
  obtain ⟨g_Cutting_lie_p, b_Cutting_lie_p⟩ := kb_Cutting_lie_p T
  obtain ⟨g_Cutting_sign_p, b_Cutting_sign_p⟩ := kb_Cutting_sign_p T
  obtain ⟨g_Cutting_signers_of_p, b_Cutting_signers_of_p⟩ := kb_Cutting_signers_of_p T
  obtain ⟨g_Cutting_take_p, b_Cutting_take_p⟩ := kb_Cutting_take_p T
  obtain ⟨g_cut_of_p, b_cut_of_p⟩ := kb_cut_of_p T
  obtain ⟨g_false_houses_p, b_false_houses_p⟩ := kb_false_houses_p T
  obtain ⟨g_false_owners_p, b_false_owners_p⟩ := kb_false_owners_p T
  obtain ⟨g_lost_nothing_p, b_lost_nothing_p⟩ := kb_lost_nothing_p T
  obtain ⟨g_stuck_purses_p, b_stuck_purses_p⟩ := kb_stuck_purses_p T
  refine def_ok T.F__law_did sc__law_did (fun ds M h => by unfold S__law_did; rw [decide_eq_false (show ¬ ds.length = 4 from h)]) (fun cdv A outer s H E hr tk hp => ?_) (fun ds M h => by unfold S__law_did; rw [decide_eq_true (show ds.length = 4 from h)]; rfl)
  have hu := hu70 hr
  exact (fss_cons (fs_if (ft_cmp (o_eq hu) (fv 0) fe_int) (fss_one (fs_ret (fe_make (c := 3) (show 3 < 6 by decide) T.mk_Cutting c_Cutting___init__ (hr.mono (by decide : 3 ≤ 6)) tk (by rfl) T.c_Cutting b_Cutting___init___p gr_plain (fa_cons (fv 1) fa_nil)))) fss_nil) (fss_cons (fs_if (ft_cmp (o_eq hu) (fv 0) fe_int) (fss_one (fs_ret (fe_call c_cut_of (hr.mono (by decide : 4 ≤ 6)) tk (by rfl) T.m_cut_of T.F_cut_of.kp b_cut_of_p gr_plain (fa_cons (fv 1) (fa_cons (fv 2) fa_nil))))) fss_nil) (fss_cons (fs_if (ft_cmp (o_eq hu) (fv 0) fe_int) (fss_one (fs_ret (fe_meth (c := 3) (T.clAll.cl 3) (by rfl) T.me_Cutting_sign c_Cutting_sign (hr.mono (by decide : 5 ≤ 6)) tk b_Cutting_sign_p gr_plain (fv 1) (fa_cons (fv 2) fa_nil)))) fss_nil) (fss_cons (fs_if (ft_cmp (o_eq hu) (fv 0) fe_int) (fss_one (fs_ret (fe_meth (c := 3) (T.clAll.cl 3) (by rfl) T.me_Cutting_lie c_Cutting_lie (hr.mono (by decide : 4 ≤ 6)) tk b_Cutting_lie_p gr_plain (fv 1) (fa_cons (fv 2) (fa_cons (fv 3) fa_nil))))) fss_nil) (fss_cons (fs_if (ft_cmp (o_eq hu) (fv 0) fe_int) (fss_one (fs_ret (fe_meth (c := 3) (T.clAll.cl 3) (by rfl) T.me_Cutting_take c_Cutting_take (hr.mono (by decide : 6 ≤ 6)) tk b_Cutting_take_p gr_plain (fv 1) (fa_cons (fv 2) (fa_cons (fv 3) fa_nil))))) fss_nil) (fss_cons (fs_if (ft_cmp (o_eq hu) (fv 0) fe_int) (fss_one (fs_ret (fe_meth (c := 3) (T.clAll.cl 3) (by rfl) T.me_Cutting_signers_of c_Cutting_signers_of (hr.mono (by decide : 3 ≤ 6)) tk b_Cutting_signers_of_p gr_plain (fv 1) (fa_cons (fv 3) fa_nil)))) fss_nil) (fss_cons (fs_if (ft_cmp (o_eq hu) (fv 0) fe_int) (fss_one (fs_ret (fe_call c_false_owners (hr.mono (by decide : 3 ≤ 6)) tk (by rfl) T.m_false_owners T.F_false_owners.kp b_false_owners_p gr_plain (fa_cons (fv 1) fa_nil)))) fss_nil) (fss_cons (fs_if (ft_cmp (o_eq hu) (fv 0) fe_int) (fss_one (fs_ret (fe_call c_false_houses (hr.mono (by decide : 2 ≤ 6)) tk (by rfl) T.m_false_houses T.F_false_houses.kp b_false_houses_p gr_plain (fa_cons (fv 1) fa_nil)))) fss_nil) (fss_one (fs_ret (fe_if (ft_cmp (o_eq hu) (fv 0) fe_int) (fe_call c_stuck_purses (hr.mono (by decide : 2 ≤ 6)) tk (by rfl) T.m_stuck_purses T.F_stuck_purses.kp b_stuck_purses_p gr_plain (fa_cons (fv 1) fa_nil)) (fe_call c_lost_nothing (hr.mono (by decide : 2 ≤ 6)) tk (by rfl) T.m_lost_nothing T.F_lost_nothing.kp b_lost_nothing_p gr_plain (fa_cons (fv 1) fa_nil)))))))))))))
theorem ok__law_refusal (T : Txt K mg) : FnOk P w K mg base (L2.CX P w) 1 (A__law_refusal K) T.d__law_refusal p__law_refusal (spF K (Ly K) S__law_refusal) := by
  refine def_ok T.F__law_refusal sc__law_refusal (fun ds M h => by unfold S__law_refusal; rw [decide_eq_false (show ¬ ds.length = 1 from h)]) (fun cdv A outer s H E hr tk hp => ?_) (fun ds M h => by unfold S__law_refusal; rw [decide_eq_true (show ds.length = 1 from h)]; rfl)
  have hu := hu70 hr
  exact (fss_cons (fs_set sc__law_refusal.nd rfl (by first | exact Or.inl rfl | exact Or.inr rfl) (fe_lst (fa_cons (fe_isiC (tabX_ok T.exAll 7 (by decide)) (by rfl) T.fr_isinstance (by rfl) T.c_BadNumber (fv 0)) (fa_cons (fe_isiC (tabX_ok T.exAll 8 (by decide)) (by rfl) T.fr_isinstance (by rfl) T.c_BadOrder (fv 0)) (fa_cons (fe_isiC (tabX_ok T.exAll 9 (by decide)) (by rfl) T.fr_isinstance (by rfl) T.c_BadHouses (fv 0)) fa_nil))))) (fss_cons (fs_set sc__law_refusal.nd rfl (by first | exact Or.inl rfl | exact Or.inr rfl) (fe_op o_add (fv 1) (fe_lst (fa_cons (fe_isiC (tabX_ok T.exAll 10 (by decide)) (by rfl) T.fr_isinstance (by rfl) T.c_NoHouse (fv 0)) (fa_cons (fe_isiC (tabX_ok T.exAll 11 (by decide)) (by rfl) T.fr_isinstance (by rfl) T.c_NoPurse (fv 0)) (fa_cons (fe_isiC (tabX_ok T.exAll 12 (by decide)) (by rfl) T.fr_isinstance (by rfl) T.c_NoLetter (fv 0)) fa_nil)))))) (fss_cons (fs_set sc__law_refusal.nd rfl (by first | exact Or.inl rfl | exact Or.inr rfl) (fe_op o_add (fv 1) (fe_lst (fa_cons (fe_isiC (tabX_ok T.exAll 13 (by decide)) (by rfl) T.fr_isinstance (by rfl) T.c_NotNow (fv 0)) (fa_cons (fe_isiC (tabX_ok T.exAll 14 (by decide)) (by rfl) T.fr_isinstance (by rfl) T.c_TooMuch (fv 0)) (fa_cons (fe_isiC (tabX_ok T.exAll 15 (by decide)) (by rfl) T.fr_isinstance (by rfl) T.c_BadPaper (fv 0)) fa_nil)))))) (fss_cons (fs_set sc__law_refusal.nd rfl (by first | exact Or.inl rfl | exact Or.inr rfl) (fe_op o_add (fv 1) (fe_lst (fa_cons (fe_isiC (tabX_ok T.exAll 16 (by decide)) (by rfl) T.fr_isinstance (by rfl) T.c_BadCut (fv 0)) (fa_cons (fe_isiC (tabX_ok T.exAll 17 (by decide)) (by rfl) T.fr_isinstance (by rfl) T.c_BadText (fv 0)) fa_nil))))) (fss_cons (fs_if (fw_t (fw_or (ft_cmp (o_ne hu) (fe_bm PySem.F.plainAttrs_list PySem.F.slot_list_count PySem.F.type_list_count tyLst_ok (m_count hu) (fv 1) (fa_cons fe_bl fa_nil)) fe_int) (fw_or (ft_not (ft_val (fe_isiC (tabX_ok T.exAll 6 (by decide)) (by rfl) T.fr_isinstance (by rfl) T.c_PurseError (fv 0)))) (fw_or1 (ft_not (ft_val (fe_isi (tabVE_ok T.exAll) (by rfl) T.fr_isinstance (by rfl) T.fr_ValueError bb_VE (fv 0)))))))) (fss_one (fs_ret fe_str)) fss_nil) (fss_cons (fs_set sc__law_refusal.nd rfl (by first | exact Or.inl rfl | exact Or.inr rfl) (fe_lst (fa_cons fe_str (fa_cons fe_str (fa_cons fe_str (fa_cons fe_str (fa_cons fe_str (fa_cons fe_str (fa_cons fe_str (fa_cons fe_str (fa_cons fe_str (fa_cons fe_str (fa_cons fe_str fa_nil))))))))))))) (fss_one (fs_ret (fe_ix hu (fv 2) (fe_bm PySem.F.plainAttrs_list PySem.F.slot_list_index PySem.F.type_list_index tyLst_ok (m_index hu) (fv 1) (fa_cons fe_bl fa_nil)))))))))))
theorem ok__law_asked (T : Txt K mg) : FnOk P w K mg base (L2.CX P w) 8 (A__law_asked K) T.d__law_asked p__law_asked (spF K (Ly K) S__law_asked) := by
  have c__law_did := ok__law_did (P := P) (w := w) (base := base) T
  have c__law_refusal := ok__law_refusal (P := P) (w := w) (base := base) T
  obtain ⟨g__law_did_p, b__law_did_p⟩ := kb__law_did_p T
  obtain ⟨g__law_refusal_p, b__law_refusal_p⟩ := kb__law_refusal_p T
  refine def_ok T.F__law_asked sc__law_asked (fun ds M h => by unfold S__law_asked; rw [decide_eq_false (show ¬ ds.length = 4 from h)]) (fun cdv A outer s H E hr tk hp => ?_) (fun ds M h => by unfold S__law_asked; rw [decide_eq_true (show ds.length = 4 from h)]; rfl)
  have hu := hu70 hr
  exact (fss_cons (fs_set sc__law_asked.nd rfl (by first | exact Or.inl rfl | exact Or.inr rfl) fe_non) (fss_cons (fs_set sc__law_asked.nd rfl (by first | exact Or.inl rfl | exact Or.inr rfl) fe_non) (fss_cons (fs_try rfl rfl rfl sc__law_asked.nd tk (fun W' pn xe tk hp => (fss_one (fs_expr (fe_call c__law_did (hr.mono (by decide : 7 ≤ 7)) tk (by rfl) T.m__law_did T.F__law_did.kp b__law_did_p gr_plain (fa_cons (fv 0) (fa_cons (fv 1) (fa_cons (fv 2) (fa_cons (fv 3) fa_nil)))))))) (HdF.cons (i := 6) (tab := tabC 10) ⟨by rfl, by decide, Or.inl T.c_NoHouse⟩ rfl rfl (tabC_ok T.exAll 10 (by decide)) (fun a => (fss_cons (fs_set sc__law_asked.nd rfl (by first | exact Or.inl rfl | exact Or.inr rfl) (fe_tup (fa_cons fe_str (fa_cons (fe_xfld (c := 10) T.xr_NoHouse (by rfl) (fv 6)) fa_nil)))) (fss_one (fs_set sc__law_asked.nd rfl (by first | exact Or.inl rfl | exact Or.inr rfl) (fv 6))))) (HdF.cons (i := 6) (tab := tabC 6) ⟨by rfl, by decide, Or.inl T.c_PurseError⟩ rfl rfl (tabC_ok T.exAll 6 (by decide)) (fun a => (fss_cons (fs_set sc__law_asked.nd rfl (by first | exact Or.inl rfl | exact Or.inr rfl) fe_non) (fss_one (fs_set sc__law_asked.nd rfl (by first | exact Or.inl rfl | exact Or.inr rfl) (fv 6))))) HdF.nil))) (fss_one (fs_ret (fe_if (ft_cmp o_is (fv 4) fe_non) fe_str (fe_if (ft_cmp o_is (fv 5) fe_non) (fe_call c__law_refusal (hr.mono (by decide : 1 ≤ 7)) tk (by rfl) T.m__law_refusal T.F__law_refusal.kp b__law_refusal_p gr_plain (fa_cons (fv 4) fa_nil)) (fv 5))))))))
theorem ok_World_sums (T : Txt K mg) : FnOk P w K mg base (L2.CX P w) 4 (A_World_sums K) T.d_World_sums p_World_sums (spF K (Ly K) S_World_sums) := by
  have c_World_room := ok_World_room (P := P) (w := w) (base := base) T
  obtain ⟨g_World_room_p, b_World_room_p⟩ := kb_World_room_p T
  refine def_ok T.F_World_sums sc_World_sums (fun ds M h => by unfold S_World_sums; rw [decide_eq_false (show ¬ ds.length = 2 from h)]) (fun cdv A outer s H E hr tk hp => ?_) (fun ds M h => by unfold S_World_sums; rw [decide_eq_true (show ds.length = 2 from h)]; rfl)
  have hu := hu70 hr
  exact (fss_one (fs_ret (fe_ct c_list (by rfl) T.fr_list bb_list (fa_cons (fe_fld (T.clAll.fld 0 (by decide)) (by rfl) (fe_meth (c := 0) (T.clAll.cl 0) (by rfl) T.me_World_room c_World_room (hr.mono (by decide : 3 ≤ 3)) tk b_World_room_p gr_plain (fv 0) (fa_cons (fv 1) fa_nil))) fa_nil))))
theorem ok_is_behind (T : Txt K mg) : FnOk P w K mg base (L2.CX P w) 1 (A_is_behind K) T.d_is_behind p_is_behind (spF K (Ly K) S_is_behind) := by
  refine def_ok T.F_is_behind sc_is_behind (fun ds M h => by unfold S_is_behind; rw [decide_eq_false (show ¬ ds.length = 2 from h)]) (fun cdv A outer s H E hr tk hp => ?_) (fun ds M h => by unfold S_is_behind; rw [decide_eq_true (show ds.length = 2 from h)]; rfl)
  have hu := hu70 hr
  exact (fss_one (fs_ret (fe_cb (c_all rfl) (by rfl) T.fr_all bb_all (fa_cons (fe_lc (own := [("one", 2), ("two", 3)]) rfl sc_is_behind.nd  (fi_zip (by rfl) T.fr_zip (fa_cons (fe_ix hu (fv 0) fe_int) (fa_cons (fe_ix hu (fv 1) fe_int) fa_nil))) (blkOk_by (N := N_is_behind) (sc := defScope s_is_behind) (by decide +kernel)) rfl (fun _ _ _ _ _ => (fg_tup rfl (fgs_cons (by decide) sc_is_behind.nd rfl (by first | exact Or.inl rfl | exact Or.inr rfl) (fgs_cons (by decide) sc_is_behind.nd rfl (by first | exact Or.inl rfl | exact Or.inr rfl) fgs_nil)))) (fun _ _ _ _ _ => fts_nil) (fun _ _ _ _ _ => (fe_cmp o_le (fv 2) (fv 3)))) fa_nil))))
theorem ok_law (T : Txt K mg) : FnOk P w K mg base (L2.CX P w) 9 (A_law K) T.d_law p_law (spF K (Ly K) S_law) := by
  have c_Cutting___init__ := ok_Cutting___init__ (P := P) (w := w) (base := base) T
  have c_Cutting_good := ok_Cutting_good (P := P) (w := w) (base := base) T
  have c_Cutting_sign := ok_Cutting_sign (P := P) (w := w) (base := base) T
  have c_Cutting_signers_of := ok_Cutting_signers_of (P := P) (w := w) (base := base) T
  have c_World___init__ := ok_World___init__ (P := P) (w := w) (base := base) T
  have c_World_ask := ok_World_ask (P := P) (w := w) (base := base) T
  have c_World_come := ok_World_come (P := P) (w := w) (base := base) T
  have c_World_letters := ok_World_letters (P := P) (w := w) (base := base) T
  have c_World_sums := ok_World_sums (P := P) (w := w) (base := base) T
  have c__law_asked := ok__law_asked (P := P) (w := w) (base := base) T
  have c__law_pick := ok__law_pick (P := P) (w := w) (base := base) T
  have c__law_town := ok__law_town (P := P) (w := w) (base := base) T
  have c_cut_of := ok_cut_of (P := P) (w := w) (base := base) T
  have c_is_behind := ok_is_behind (P := P) (w := w) (base := base) T
  obtain ⟨g_Cutting___init___p, b_Cutting___init___p⟩ := kb_Cutting___init___p T
  obtain ⟨g_Cutting_good_p, b_Cutting_good_p⟩ := kb_Cutting_good_p T
  obtain ⟨g_Cutting_sign_p, b_Cutting_sign_p⟩ := kb_Cutting_sign_p T
  obtain ⟨g_Cutting_signers_of_p, b_Cutting_signers_of_p⟩ := kb_Cutting_signers_of_p T
  obtain ⟨g_World___init___e, b_World___init___e⟩ := kb_World___init___e T
  obtain ⟨g_World_ask_p, b_World_ask_p⟩ := kb_World_ask_p T
  obtain ⟨g_World_come_p, b_World_come_p⟩ := kb_World_come_p T
  obtain ⟨g_World_letters_p, b_World_letters_p⟩ := kb_World_letters_p T
  obtain ⟨g_World_sums_p, b_World_sums_p⟩ := kb_World_sums_p T
  obtain ⟨g__law_asked_p, b__law_asked_p⟩ := kb__law_asked_p T
  obtain ⟨g__law_pick_p, b__law_pick_p⟩ := kb__law_pick_p T
  obtain ⟨g__law_town_p, b__law_town_p⟩ := kb__law_town_p T
  obtain ⟨g_cut_of_p, b_cut_of_p⟩ := kb_cut_of_p T
  obtain ⟨g_is_behind_p, b_is_behind_p⟩ := kb_is_behind_p T
  refine def_ok T.F_law sc_law (fun ds M h => by unfold S_law; rw [decide_eq_false (show ¬ ds.length = 1 from h)]) (fun cdv A outer s H E hr tk hp => ?_) (fun ds M h => by unfold S_law; rw [decide_eq_true (show ds.length = 1 from h)]; rfl)
  have hu := hu70 hr
  exact (fss_cons (fs_set sc_law.nd rfl (by first | exact Or.inl rfl | exact Or.inr rfl) (fe_call c__law_town (hr.mono (by decide : 1 ≤ 8)) tk (by rfl) T.m__law_town T.F__law_town.kp b__law_town_p gr_plain (fa_cons (fv 0) fa_nil))) (fss_cons (fs_set sc_law.nd rfl (by first | exact Or.inl rfl | exact Or.inr rfl) (fe_makeK (c := 0) (ks := ["few", "sums", "liars"]) (show 0 < 6 by decide) T.mk_World c_World___init__ (hr.mono (by decide : 4 ≤ 8)) tk (by rfl) T.c_World b_World___init___e (gr_dfe (fun _ _ => reps_cons (empty_rep T.et_World___init___cheats _ _) (reps_nil))) (fa_cons fe_int fa_nil) (fk_cons fe_int (fk_cons (fe_lst (fa_cons fe_int (fa_cons fe_int fa_nil))) (fk_cons (fe_lst (fa_cons fe_int fa_nil)) fk_nil))))) (fss_cons (fs_set sc_law.nd rfl (by first | exact Or.inl rfl | exact Or.inr rfl) (fe_make (c := 3) (show 3 < 6 by decide) T.mk_Cutting c_Cutting___init__ (hr.mono (by decide : 3 ≤ 8)) tk (by rfl) T.c_Cutting b_Cutting___init___p gr_plain (fa_cons (fv 2) fa_nil))) (fss_cons (fs_for (is := [4]) hp rfl (fi_seq (fe_lst (fa_cons fe_non (fa_cons fe_int (fa_cons (fv 3) (fa_cons (fe_lst (fa_cons fe_int (fa_cons fe_int fa_nil))) (fa_cons fe_str fa_nil))))))) (fg_name (by decide) sc_law.nd rfl (by first | exact Or.inl rfl | exact Or.inr rfl)) (fss_one (fs_if (ft_cmp (o_ne hu) (fe_lc (own := [("_law_kind", 11)]) rfl sc_law.nd  (fi_seq (fe_lst (fa_cons fe_int (fa_cons fe_int (fa_cons fe_int (fa_cons fe_int (fa_cons fe_int (fa_cons fe_int fa_nil)))))))) (blkOk_by (N := N_law) (sc := defScope s_law) (by decide +kernel)) rfl (fun _ _ _ _ _ => (fg_name (by decide) sc_law.nd rfl (by first | exact Or.inl rfl | exact Or.inr rfl))) (fun _ _ _ _ _ => fts_nil) (fun _ _ _ _ _ => (fe_call c__law_asked (hr.mono (by decide : 8 ≤ 8)) takes0 (by rfl) T.m__law_asked T.F__law_asked.kp b__law_asked_p gr_plain (fa_cons (fv 11) (fa_cons (fv 4) (fa_cons fe_int (fa_cons fe_int fa_nil))))))) (fe_op o_mulX (fe_lst (fa_cons fe_str fa_nil)) fe_int)) (fss_one (fs_ret fe_bl)) fss_nil))) (fss_cons (fs_set sc_law.nd rfl (by first | exact Or.inl rfl | exact Or.inr rfl) (fe_tup (fa_cons (fe_tup (fa_cons fe_int (fa_cons fe_int fa_nil))) (fa_cons (fe_tup (fa_cons fe_int (fa_cons fe_int fa_nil))) fa_nil)))) (fss_cons (fs_set sc_law.nd rfl (by first | exact Or.inl rfl | exact Or.inr rfl) (fe_lst (fa_cons fe_non (fa_cons fe_int (fa_cons (fe_tup fa_nil) (fa_cons (fe_sl (fv 5) fo_none (fo_some fe_int)) (fa_cons (fe_lst (fa_cons (fe_tup (fa_cons fe_int (fa_cons fe_int fa_nil))) (fa_cons (fe_tup (fa_cons fe_int (fa_cons fe_int fa_nil))) fa_nil))) (fa_cons (fe_tup (fa_cons (fe_tup (fa_cons fe_int (fa_cons fe_int fa_nil))) (fa_cons (fe_tup (fa_cons fe_int (fa_cons fe_int fa_nil))) fa_nil))) (fa_cons (fe_tup (fa_cons (fe_tup (fa_cons fe_int (fa_cons fe_int fa_nil))) (fa_cons (fe_lst (fa_cons fe_int (fa_cons fe_int fa_nil))) fa_nil))) (fa_cons (fe_tup (fa_cons (fe_tup (fa_cons fe_int fa_nil)) (fa_cons (fe_tup (fa_cons fe_int (fa_cons fe_int fa_nil))) fa_nil))) (fa_cons (fe_tup (fa_cons (fe_tup (fa_cons fe_int (fa_cons fe_int fa_nil))) (fa_cons (fe_tup (fa_cons fe_int (fa_cons (fe_op o_sub fe_int fe_int) fa_nil))) fa_nil))) fa_nil))))))))))) (fss_cons (fs_set sc_law.nd rfl (by first | exact Or.inl rfl | exact Or.inr rfl) (fe_op o_add (fv 6) (fe_lst (fa_cons (fe_tup (fa_cons (fe_tup (fa_cons fe_int (fa_cons fe_bl fa_nil))) (fa_cons (fe_tup (fa_cons fe_int (fa_cons fe_int fa_nil))) fa_nil))) (fa_cons (fe_tup (fa_cons (fe_tup (fa_cons fe_int (fa_cons (fe_op o_sub fe_int fe_int) fa_nil))) (fa_cons (fe_tup (fa_cons fe_int (fa_cons fe_int fa_nil))) fa_nil))) (fa_cons (fe_tup (fa_cons (fe_tup (fa_cons fe_int (fa_cons fe_int (fa_cons fe_int fa_nil)))) (fa_cons (fe_tup (fa_cons fe_int (fa_cons fe_int fa_nil))) fa_nil))) (fa_cons (fe_tup (fa_cons (fe_tup (fa_cons fe_int (fa_cons fe_non fa_nil))) (fa_cons (fe_tup (fa_cons fe_int (fa_cons fe_int fa_nil))) fa_nil))) (fa_cons (fe_tup (fa_cons (fe_tup (fa_cons fe_int (fa_cons fe_int fa_nil))) (fa_cons (fe_tup (fa_cons fe_int (fa_cons fe_int fa_nil))) fa_nil))) fa_nil)))))))) (fss_cons (fs_for (is := [7]) hp rfl (fi_rng1 (by rfl) T.fr_range (fa_cons fe_int fa_nil)) (fg_name (by decide) sc_law.nd rfl (by first | exact Or.inl rfl | exact Or.inr rfl)) (fss_cons (fs_set sc_law.nd rfl (by first | exact Or.inl rfl | exact Or.inr rfl) (fe_call c__law_pick (hr.mono (by decide : 2 ≤ 8)) tk (by rfl) T.m__law_pick T.F__law_pick.kp b__law_pick_p gr_plain (fa_cons (fv 1) (fa_cons (fv 6) fa_nil)))) (fss_cons (fs_for (is := [9]) hp rfl (fi_seq (fe_lst (fa_cons fe_int (fa_cons (fe_op o_sub fe_int fe_int) (fa_cons fe_bl (fa_cons fe_non (fa_cons fe_str (fa_cons fe_int fa_nil)))))))) (fg_name (by decide) sc_law.nd rfl (by first | exact Or.inl rfl | exact Or.inr rfl)) (fss_one (fs_if (fw_t (fw_or (ft_cmp (o_ne hu) (fe_call c__law_asked (hr.mono (by decide : 8 ≤ 8)) tk (by rfl) T.m__law_asked T.F__law_asked.kp b__law_asked_p gr_plain (fa_cons fe_int (fa_cons (fv 3) (fa_cons (fv 9) (fa_cons fe_int fa_nil))))) (fe_tup (fa_cons fe_str (fa_cons (fv 9) fa_nil)))) (fw_or1 (ft_cmp (o_ne hu) (fe_call c__law_asked (hr.mono (by decide : 8 ≤ 8)) tk (by rfl) T.m__law_asked T.F__law_asked.kp b__law_asked_p gr_plain (fa_cons fe_int (fa_cons (fv 3) (fa_cons (fv 9) (fa_cons (fv 8) fa_nil))))) (fe_tup (fa_cons fe_str (fa_cons (fv 9) fa_nil))))))) (fss_one (fs_ret fe_bl)) fss_nil))) (fss_cons (fs_for (is := [9]) hp rfl (fi_seq (fe_lst (fa_cons fe_int (fa_cons fe_int (fa_cons fe_bl (fa_cons fe_non fa_nil)))))) (fg_name (by decide) sc_law.nd rfl (by first | exact Or.inl rfl | exact Or.inr rfl)) (fss_one (fs_if (ft_cmp (o_ne hu) (fe_call c__law_asked (hr.mono (by decide : 8 ≤ 8)) tk (by rfl) T.m__law_asked T.F__law_asked.kp b__law_asked_p gr_plain (fa_cons fe_int (fa_cons (fv 3) (fa_cons (fv 9) (fa_cons (fv 8) fa_nil))))) (fe_tup (fa_cons fe_str (fa_cons (fv 9) fa_nil)))) (fss_one (fs_ret fe_bl)) fss_nil))) (fss_one (fs_if (ft_cmp (o_ne hu) (fe_lc (own := [("_law_kind", 11)]) rfl sc_law.nd  (fi_seq (fe_lst (fa_cons fe_int (fa_cons fe_int (fa_cons fe_int fa_nil))))) (blkOk_by (N := N_law) (sc := defScope s_law) (by decide +kernel)) rfl (fun _ _ _ _ _ => (fg_name (by decide) sc_law.nd rfl (by first | exact Or.inl rfl | exact Or.inr rfl))) (fun _ _ _ _ _ => fts_nil) (fun _ _ _ _ _ => (fe_call c__law_asked (hr.mono (by decide : 8 ≤ 8)) takes0 (by rfl) T.m__law_asked T.F__law_asked.kp b__law_asked_p gr_plain (fa_cons (fv 11) (fa_cons (fv 3) (fa_cons (fe_if (ft_cmp (o_eq hu) (fv 11) fe_int) fe_int fe_int) (fa_cons (fv 8) fa_nil))))))) (fe_op o_mulX (fe_lst (fa_cons fe_str fa_nil)) fe_int)) (fss_one (fs_ret fe_bl)) fss_nil)))))) (fss_cons (fs_if (fw_t (fw_or (ft_cmp (o_ne hu) (fe_call c__law_asked (hr.mono (by decide : 8 ≤ 8)) tk (by rfl) T.m__law_asked T.F__law_asked.kp b__law_asked_p gr_plain (fa_cons fe_int (fa_cons (fv 3) (fa_cons fe_int (fa_cons (fv 5) fa_nil))))) fe_str) (fw_or (ft_cmp (o_ne hu) (fe_meth0 (c := 3) (T.clAll.cl 3) (by rfl) T.me_Cutting_good c_Cutting_good (hr.mono (by decide : 2 ≤ 8)) tk b_Cutting_good_p gr_plain (fv 3)) (fe_lst fa_nil)) (fw_or1 (ft_cmp (o_ne hu) (fe_meth (c := 3) (T.clAll.cl 3) (by rfl) T.me_Cutting_signers_of c_Cutting_signers_of (hr.mono (by decide : 3 ≤ 8)) tk b_Cutting_signers_of_p gr_plain (fv 3) (fa_cons (fv 5) fa_nil)) (fe_lst fa_nil)))))) (fss_one (fs_ret fe_bl)) fss_nil) (fss_cons (fs_for (is := [10]) hp rfl (fi_seq (fe_lst (fa_cons fe_int (fa_cons fe_int fa_nil)))) (fg_name (by decide) sc_law.nd rfl (by first | exact Or.inl rfl | exact Or.inr rfl)) (fss_one (fs_expr (fe_meth (c := 3) (T.clAll.cl 3) (by rfl) T.me_Cutting_sign c_Cutting_sign (hr.mono (by decide : 5 ≤ 8)) tk b_Cutting_sign_p gr_plain (fv 3) (fa_cons (fv 10) fa_nil))))) (fss_cons (fs_if (fw_t (fw_or (ft_cmp (o_ne hu) (fe_call c__law_asked (hr.mono (by decide : 8 ≤ 8)) tk (by rfl) T.m__law_asked T.F__law_asked.kp b__law_asked_p gr_plain (fa_cons fe_int (fa_cons (fv 3) (fa_cons fe_int (fa_cons (fv 5) fa_nil))))) fe_str) (fw_or (ft_cmp (o_ne hu) (fe_call c__law_asked (hr.mono (by decide : 8 ≤ 8)) tk (by rfl) T.m__law_asked T.F__law_asked.kp b__law_asked_p gr_plain (fa_cons fe_int (fa_cons (fv 3) (fa_cons fe_int (fa_cons (fv 5) fa_nil))))) fe_str) (fw_or1 (ft_cmp (o_ne hu) (fe_meth0 (c := 3) (T.clAll.cl 3) (by rfl) T.me_Cutting_good c_Cutting_good (hr.mono (by decide : 2 ≤ 8)) tk b_Cutting_good_p gr_plain (fv 3)) (fe_lst (fa_cons (fv 5) fa_nil))))))) (fss_one (fs_ret fe_bl)) fss_nil) (fss_cons (fs_expr (fe_meth (c := 0) (T.clAll.cl 0) (by rfl) T.me_World_ask c_World_ask (hr.mono (by decide : 5 ≤ 8)) tk b_World_ask_p gr_plain (fv 2) (fa_cons fe_int (fa_cons fe_int (fa_cons fe_int fa_nil))))) (fss_cons (fs_while 100000 hp (ft_cmp (o_ne hu) (fe_meth0 (c := 0) (T.clAll.cl 0) (by rfl) T.me_World_letters c_World_letters (hr.mono (by decide : 1 ≤ 8)) tk b_World_letters_p gr_plain (fv 2)) (fe_lst fa_nil)) (fss_one (fs_expr (fe_meth (c := 0) (T.clAll.cl 0) (by rfl) T.me_World_come c_World_come (hr.mono (by decide : 6 ≤ 8)) tk b_World_come_p gr_plain (fv 2) (fa_cons fe_int fa_nil))))) (fss_cons (fs_if (fw_t (fw_or (ft_cmp (o_ne hu) (fe_call c__law_asked (hr.mono (by decide : 8 ≤ 8)) tk (by rfl) T.m__law_asked T.F__law_asked.kp b__law_asked_p gr_plain (fa_cons fe_int (fa_cons (fv 3) (fa_cons fe_int (fa_cons (fv 5) fa_nil))))) fe_str) (fw_or (ft_cmp (o_ne hu) (fe_meth (c := 0) (T.clAll.cl 0) (by rfl) T.me_World_sums c_World_sums (hr.mono (by decide : 4 ≤ 8)) tk b_World_sums_p gr_plain (fv 2) (fa_cons fe_int fa_nil)) (fe_lst (fa_cons fe_int (fa_cons fe_int fa_nil)))) (fw_or1 (ft_cmp o_isNot (fe_call c_is_behind (hr.mono (by decide : 1 ≤ 8)) tk (by rfl) T.m_is_behind T.F_is_behind.kp b_is_behind_p gr_plain (fa_cons (fv 5) (fa_cons (fe_call c_cut_of (hr.mono (by decide : 4 ≤ 8)) tk (by rfl) T.m_cut_of T.F_cut_of.kp b_cut_of_p gr_plain (fa_cons (fv 2) (fa_cons fe_int fa_nil))) fa_nil))) fe_bl))))) (fss_one (fs_ret fe_bl)) fss_nil) (fss_one (fs_ret (fe_and (fe_cmp o_is (fe_call c_is_behind (hr.mono (by decide : 1 ≤ 8)) tk (by rfl) T.m_is_behind T.F_is_behind.kp b_is_behind_p gr_plain (fa_cons (fe_call c_cut_of (hr.mono (by decide : 4 ≤ 8)) tk (by rfl) T.m_cut_of T.F_cut_of.kp b_cut_of_p gr_plain (fa_cons (fv 2) (fa_cons fe_int fa_nil))) (fa_cons (fv 5) fa_nil))) fe_bl) (fe_one (fe_cmp (o_eq hu) (fe_meth (c := 3) (T.clAll.cl 3) (by rfl) T.me_Cutting_signers_of c_Cutting_signers_of (hr.mono (by decide : 3 ≤ 8)) tk b_Cutting_signers_of_p gr_plain (fv 3) (fa_cons (fv 5) fa_nil)) (fe_lst (fa_cons fe_int (fa_cons fe_int (fa_cons fe_int fa_nil)))))))))))))))))))))))
end
theorem txt_of {K : PySem.W.Frag} {mg : Str → Option Value} {h : Heap} (X : K.In h) (G : h.Ns mainGlobals mg) (c : SaysX fa fn xs K) : Nonempty (Txt K mg) := by
  obtain ⟨e__law_town, f__law_town⟩ := c.1.def_ 0 (d := d__law_town) rfl
  obtain ⟨e_is_whole, f_is_whole⟩ := c.1.def_ 1 (d := d_is_whole) rfl
  obtain ⟨e_look_number, f_look_number⟩ := c.1.def_ 2 (d := d_look_number) rfl
  obtain ⟨e_look_liars, f_look_liars⟩ := c.1.def_ 3 (d := d_look_liars) rfl
  obtain ⟨e_Board___init__, f_Board___init__⟩ := c.1.def_ 4 (d := d_Board___init__) rfl
  obtain ⟨e_House___init__, f_House___init__⟩ := c.1.def_ 5 (d := d_House___init__) rfl
  obtain ⟨e_World___init__, f_World___init__⟩ := c.1.def_ 6 (d := d_World___init__) rfl
  obtain ⟨e_look_world, f_look_world⟩ := c.1.def_ 7 (d := d_look_world) rfl
  obtain ⟨e_Cutting___init__, f_Cutting___init__⟩ := c.1.def_ 8 (d := d_Cutting___init__) rfl
  obtain ⟨e_World_look_purse, f_World_look_purse⟩ := c.1.def_ 9 (d := d_World_look_purse) rfl
  obtain ⟨e_World_next_number, f_World_next_number⟩ := c.1.def_ 10 (d := d_World_next_number) rfl
  obtain ⟨e_World_honest, f_World_honest⟩ := c.1.def_ 11 (d := d_World_honest) rfl
  obtain ⟨e_World_order_to_all, f_World_order_to_all⟩ := c.1.def_ 12 (d := d_World_order_to_all) rfl
  obtain ⟨e_enough, f_enough⟩ := c.1.def_ 13 (d := d_enough) rfl
  obtain ⟨e_Board_is_paper, f_Board_is_paper⟩ := c.1.def_ 14 (d := d_Board_is_paper) rfl
  obtain ⟨e_World_left_at, f_World_left_at⟩ := c.1.def_ 15 (d := d_World_left_at) rfl
  obtain ⟨e_World_ask, f_World_ask⟩ := c.1.def_ 16 (d := d_World_ask) rfl
  obtain ⟨e__law_draw, f__law_draw⟩ := c.1.def_ 17 (d := d__law_draw) rfl
  obtain ⟨e__law_pick, f__law_pick⟩ := c.1.def_ 18 (d := d__law_pick) rfl
  obtain ⟨e_House_state, f_House_state⟩ := c.1.def_ 19 (d := d_House_state) rfl
  obtain ⟨e_World_room, f_World_room⟩ := c.1.def_ 20 (d := d_World_room) rfl
  obtain ⟨e_cut_of, f_cut_of⟩ := c.1.def_ 21 (d := d_cut_of) rfl
  obtain ⟨e_Cutting_add, f_Cutting_add⟩ := c.1.def_ 22 (d := d_Cutting_add) rfl
  obtain ⟨e_Cutting_sign, f_Cutting_sign⟩ := c.1.def_ 23 (d := d_Cutting_sign) rfl
  obtain ⟨e_World_letters, f_World_letters⟩ := c.1.def_ 24 (d := d_World_letters) rfl
  obtain ⟨e_is_order, f_is_order⟩ := c.1.def_ 25 (d := d_is_order) rfl
  obtain ⟨e_look_order, f_look_order⟩ := c.1.def_ 26 (d := d_look_order) rfl
  obtain ⟨e_House_may_vote, f_House_may_vote⟩ := c.1.def_ 27 (d := d_House_may_vote) rfl
  obtain ⟨e_House_new_votes, f_House_new_votes⟩ := c.1.def_ 28 (d := d_House_new_votes) rfl
  obtain ⟨e_House_hear, f_House_hear⟩ := c.1.def_ 29 (d := d_House_hear) rfl
  obtain ⟨e_Board_sign, f_Board_sign⟩ := c.1.def_ 30 (d := d_Board_sign) rfl
  obtain ⟨e_World_paper_to_all, f_World_paper_to_all⟩ := c.1.def_ 31 (d := d_World_paper_to_all) rfl
  obtain ⟨e_World_signed, f_World_signed⟩ := c.1.def_ 32 (d := d_World_signed) rfl
  obtain ⟨e_House_settle, f_House_settle⟩ := c.1.def_ 33 (d := d_House_settle) rfl
  obtain ⟨e_House_can_settle, f_House_can_settle⟩ := c.1.def_ 34 (d := d_House_can_settle) rfl
  obtain ⟨e_House_go_on, f_House_go_on⟩ := c.1.def_ 35 (d := d_House_go_on) rfl
  obtain ⟨e_House_take, f_House_take⟩ := c.1.def_ 36 (d := d_House_take) rfl
  obtain ⟨e_World_come, f_World_come⟩ := c.1.def_ 37 (d := d_World_come) rfl
  obtain ⟨e_World_look_liar, f_World_look_liar⟩ := c.1.def_ 38 (d := d_World_look_liar) rfl
  obtain ⟨e_is_cut, f_is_cut⟩ := c.1.def_ 39 (d := d_is_cut) rfl
  obtain ⟨e_Cutting_lie, f_Cutting_lie⟩ := c.1.def_ 40 (d := d_Cutting_lie) rfl
  obtain ⟨e_House_load, f_House_load⟩ := c.1.def_ 41 (d := d_House_load) rfl
  obtain ⟨e_Cutting_good, f_Cutting_good⟩ := c.1.def_ 42 (d := d_Cutting_good) rfl
  obtain ⟨e_Cutting_take, f_Cutting_take⟩ := c.1.def_ 43 (d := d_Cutting_take) rfl
  obtain ⟨e_Cutting_signers_of, f_Cutting_signers_of⟩ := c.1.def_ 44 (d := d_Cutting_signers_of) rfl
  obtain ⟨e_seen_orders, f_seen_orders⟩ := c.1.def_ 45 (d := d_seen_orders) rfl
  obtain ⟨e_false_owners, f_false_owners⟩ := c.1.def_ 46 (d := d_false_owners) rfl
  obtain ⟨e_false_houses, f_false_houses⟩ := c.1.def_ 47 (d := d_false_houses) rfl
  obtain ⟨e_stuck_purses, f_stuck_purses⟩ := c.1.def_ 48 (d := d_stuck_purses) rfl
  obtain ⟨e_lost_nothing, f_lost_nothing⟩ := c.1.def_ 49 (d := d_lost_nothing) rfl
  obtain ⟨e__law_did, f__law_did⟩ := c.1.def_ 50 (d := d__law_did) rfl
  obtain ⟨e__law_refusal, f__law_refusal⟩ := c.1.def_ 51 (d := d__law_refusal) rfl
  obtain ⟨e__law_asked, f__law_asked⟩ := c.1.def_ 52 (d := d__law_asked) rfl
  obtain ⟨e_World_sums, f_World_sums⟩ := c.1.def_ 53 (d := d_World_sums) rfl
  obtain ⟨e_is_behind, f_is_behind⟩ := c.1.def_ 54 (d := d_is_behind) rfl
  obtain ⟨e_law, f_law⟩ := c.1.def_ 55 (d := d_law) rfl
  obtain ⟨e_NoHouse___init__, f_NoHouse___init__⟩ := c.1.def_ 56 (d := d_NoHouse___init__) rfl
  obtain ⟨e_NoPurse___init__, f_NoPurse___init__⟩ := c.1.def_ 57 (d := d_NoPurse___init__) rfl
  exact ⟨{ m__law_town := He.glo_ok X G (c.1.fact 0 (f := .glo "_law_town") rfl), m_is_whole := He.glo_ok X G (c.1.fact 1 (f := .glo "is_whole") rfl), m_look_number := He.glo_ok X G (c.1.fact 2 (f := .glo "look_number") rfl), m_look_liars := He.glo_ok X G (c.1.fact 3 (f := .glo "look_liars") rfl), m_look_world := He.glo_ok X G (c.1.fact 4 (f := .glo "look_world") rfl), m_enough := He.glo_ok X G (c.1.fact 5 (f := .glo "enough") rfl), m__law_draw := He.glo_ok X G (c.1.fact 6 (f := .glo "_law_draw") rfl), m__law_pick := He.glo_ok X G (c.1.fact 7 (f := .glo "_law_pick") rfl), m_cut_of := He.glo_ok X G (c.1.fact 8 (f := .glo "cut_of") rfl), m_is_order := He.glo_ok X G (c.1.fact 9 (f := .glo "is_order") rfl), m_look_order := He.glo_ok X G (c.1.fact 10 (f := .glo "look_order") rfl), m_is_cut := He.glo_ok X G (c.1.fact 11 (f := .glo "is_cut") rfl), m_seen_orders := He.glo_ok X G (c.1.fact 12 (f := .glo "seen_orders") rfl), m_false_owners := He.glo_ok X G (c.1.fact 13 (f := .glo "false_owners") rfl), m_false_houses := He.glo_ok X G (c.1.fact 14 (f := .glo "false_houses") rfl), m_stuck_purses := He.glo_ok X G (c.1.fact 15 (f := .glo "stuck_purses") rfl), m_lost_nothing := He.glo_ok X G (c.1.fact 16 (f := .glo "lost_nothing") rfl), m__law_did := He.glo_ok X G (c.1.fact 17 (f := .glo "_law_did") rfl), m__law_refusal := He.glo_ok X G (c.1.fact 18 (f := .glo "_law_refusal") rfl), m__law_asked := He.glo_ok X G (c.1.fact 19 (f := .glo "_law_asked") rfl), m_is_behind := He.glo_ok X G (c.1.fact 20 (f := .glo "is_behind") rfl), m_law := He.glo_ok X G (c.1.fact 21 (f := .glo "law") rfl), fr_ValueError := He.free_ok X G (c.1.fact 22 (f := .free "ValueError") rfl), fr_all := He.free_ok X G (c.1.fact 23 (f := .free "all") rfl), fr_any := He.free_ok X G (c.1.fact 24 (f := .free "any") rfl), fr_bool := He.free_ok X G (c.1.fact 25 (f := .free "bool") rfl), fr_int := He.free_ok X G (c.1.fact 26 (f := .free "int") rfl), fr_isinstance := He.free_ok X G (c.1.fact 27 (f := .free "isinstance") rfl), fr_len := He.free_ok X G (c.1.fact 28 (f := .free "len") rfl), fr_list := He.free_ok X G (c.1.fact 29 (f := .free "list") rfl), fr_max := He.free_ok X G (c.1.fact 30 (f := .free "max") rfl), fr_min := He.free_ok X G (c.1.fact 31 (f := .free "min") rfl), fr_range := He.free_ok X G (c.1.fact 32 (f := .free "range") rfl), fr_set := He.free_ok X G (c.1.fact 33 (f := .free "set") rfl), fr_sorted := He.free_ok X G (c.1.fact 34 (f := .free "sorted") rfl), fr_sum := He.free_ok X G (c.1.fact 35 (f := .free "sum") rfl), fr_tuple := He.free_ok X G (c.1.fact 36 (f := .free "tuple") rfl), fr_zip := He.free_ok X G (c.1.fact 37 (f := .free "zip") rfl), i_MOST_FEW := He.int_ok X G (c.1.fact 38 (f := .int "MOST_FEW" 5) rfl), i_MOST_HOUSES := He.int_ok X G (c.1.fact 39 (f := .int "MOST_HOUSES" 16) rfl), i_MOST_NUMBER := He.int_ok X G (c.1.fact 40 (f := .int "MOST_NUMBER" 99) rfl), i_MOST_PURSES := He.int_ok X G (c.1.fact 41 (f := .int "MOST_PURSES" 8) rfl), i_MOST_SUM := He.int_ok X G (c.1.fact 42 (f := .int "MOST_SUM" 1000) rfl), c_BadCut := He.glo_ok X G (c.1.fact 43 (f := .glo "BadCut") rfl), c_BadHouses := He.glo_ok X G (c.1.fact 44 (f := .glo "BadHouses") rfl), c_BadNumber := He.glo_ok X G (c.1.fact 45 (f := .glo "BadNumber") rfl), c_BadOrder := He.glo_ok X G (c.1.fact 46 (f := .glo "BadOrder") rfl), c_BadPaper := He.glo_ok X G (c.1.fact 47 (f := .glo "BadPaper") rfl), c_BadText := He.glo_ok X G (c.1.fact 48 (f := .glo "BadText") rfl), c_NoHouse := He.glo_ok X G (c.1.fact 49 (f := .glo "NoHouse") rfl), c_NoLetter := He.glo_ok X G (c.1.fact 50 (f := .glo "NoLetter") rfl), c_NoPurse := He.glo_ok X G (c.1.fact 51 (f := .glo "NoPurse") rfl), c_NotNow := He.glo_ok X G (c.1.fact 52 (f := .glo "NotNow") rfl), c_PurseError := He.glo_ok X G (c.1.fact 53 (f := .glo "PurseError") rfl), c_TooMuch := He.glo_ok X G (c.1.fact 54 (f := .glo "TooMuch") rfl), x_BadCut := exk_of (He.glo_ok X G (c.1.fact 43 (f := .glo "BadCut") rfl)) (c.1.fact 55 (f := .exc "BadCut") rfl), x_BadHouses := exk_of (He.glo_ok X G (c.1.fact 44 (f := .glo "BadHouses") rfl)) (c.1.fact 56 (f := .exc "BadHouses") rfl), x_BadNumber := exk_of (He.glo_ok X G (c.1.fact 45 (f := .glo "BadNumber") rfl)) (c.1.fact 57 (f := .exc "BadNumber") rfl), x_BadOrder := exk_of (He.glo_ok X G (c.1.fact 46 (f := .glo "BadOrder") rfl)) (c.1.fact 58 (f := .exc "BadOrder") rfl), x_BadPaper := exk_of (He.glo_ok X G (c.1.fact 47 (f := .glo "BadPaper") rfl)) (c.1.fact 59 (f := .exc "BadPaper") rfl), x_NoLetter := exk_of (He.glo_ok X G (c.1.fact 50 (f := .glo "NoLetter") rfl)) (c.1.fact 60 (f := .exc "NoLetter") rfl), x_NotNow := exk_of (He.glo_ok X G (c.1.fact 52 (f := .glo "NotNow") rfl)) (c.1.fact 61 (f := .exc "NotNow") rfl), x_TooMuch := exk_of (He.glo_ok X G (c.1.fact 54 (f := .glo "TooMuch") rfl)) (c.1.fact 62 (f := .exc "TooMuch") rfl), mk_Board := He.mkr_ok (c.1.fact 63 (f := .mkr "Board") rfl), c_Board := He.glo_ok X G (c.1.fact 64 (f := .glo "Board") rfl), mk_Cutting := He.mkr_ok (c.1.fact 65 (f := .mkr "Cutting") rfl), c_Cutting := He.glo_ok X G (c.1.fact 66 (f := .glo "Cutting") rfl), mk_House := He.mkr_ok (c.1.fact 67 (f := .mkr "House") rfl), c_House := He.glo_ok X G (c.1.fact 68 (f := .glo "House") rfl), mk_World := He.mkr_ok (c.1.fact 69 (f := .mkr "World") rfl), c_World := He.glo_ok X G (c.1.fact 70 (f := .glo "World") rfl), me_Board_is_paper := He.meth_ok (c.1.fact 71 (f := .meth "Board" "is_paper") rfl), me_Board_sign := He.meth_ok (c.1.fact 72 (f := .meth "Board" "sign") rfl), me_Cutting_add := He.meth_ok (c.1.fact 73 (f := .meth "Cutting" "add") rfl), me_Cutting_good := He.meth_ok (c.1.fact 74 (f := .meth "Cutting" "good") rfl), me_Cutting_lie := He.meth_ok (c.1.fact 75 (f := .meth "Cutting" "lie") rfl), me_Cutting_sign := He.meth_ok (c.1.fact 76 (f := .meth "Cutting" "sign") rfl), me_Cutting_signers_of := He.meth_ok (c.1.fact 77 (f := .meth "Cutting" "signers_of") rfl), me_Cutting_take := He.meth_ok (c.1.fact 78 (f := .meth "Cutting" "take") rfl), me_House_can_settle := He.meth_ok (c.1.fact 79 (f := .meth "House" "can_settle") rfl), me_House_go_on := He.meth_ok (c.1.fact 80 (f := .meth "House" "go_on") rfl), me_House_hear := He.meth_ok (c.1.fact 81 (f := .meth "House" "hear") rfl), me_House_load := He.meth_ok (c.1.fact 82 (f := .meth "House" "load") rfl), me_House_may_vote := He.meth_ok (c.1.fact 83 (f := .meth "House" "may_vote") rfl), me_House_new_votes := He.meth_ok (c.1.fact 84 (f := .meth "House" "new_votes") rfl), me_House_settle := He.meth_ok (c.1.fact 85 (f := .meth "House" "settle") rfl), me_House_state := He.meth_ok (c.1.fact 86 (f := .meth "House" "state") rfl), me_House_take := He.meth_ok (c.1.fact 87 (f := .meth "House" "take") rfl), me_World_ask := He.meth_ok (c.1.fact 88 (f := .meth "World" "ask") rfl), me_World_come := He.meth_ok (c.1.fact 89 (f := .meth "World" "come") rfl), me_World_honest := He.meth_ok (c.1.fact 90 (f := .meth "World" "honest") rfl), me_World_left_at := He.meth_ok (c.1.fact 91 (f := .meth "World" "left_at") rfl), me_World_letters := He.meth_ok (c.1.fact 92 (f := .meth "World" "letters") rfl), me_World_look_liar := He.meth_ok (c.1.fact 93 (f := .meth "World" "look_liar") rfl), me_World_look_purse := He.meth_ok (c.1.fact 94 (f := .meth "World" "look_purse") rfl), me_World_next_number := He.meth_ok (c.1.fact 95 (f := .meth "World" "next_number") rfl), me_World_order_to_all := He.meth_ok (c.1.fact 96 (f := .meth "World" "order_to_all") rfl), me_World_paper_to_all := He.meth_ok (c.1.fact 97 (f := .meth "World" "paper_to_all") rfl), me_World_room := He.meth_ok (c.1.fact 98 (f := .meth "World" "room") rfl), me_World_signed := He.meth_ok (c.1.fact 99 (f := .meth "World" "signed") rfl), me_World_sums := He.meth_ok (c.1.fact 100 (f := .meth "World" "sums") rfl), xf_NoHouse := exfB_ok (c.2 _ (List.mem_of_getElem? (i := 0) rfl)), xr_NoHouse := xrB_ok (c.2 _ (List.mem_of_getElem? (i := 1) rfl)), xf_NoPurse := exfB_ok (c.2 _ (List.mem_of_getElem? (i := 2) rfl)), wAll := wB_ok rfl (c.2 _ (List.mem_of_getElem? (i := 3) rfl)), et_World___init___cheats := emptyB_ok (c.2 _ (List.mem_of_getElem? (i := 4) rfl)), et_World___init___liars := emptyB_ok (c.2 _ (List.mem_of_getElem? (i := 5) rfl)), clAll := clB_ok rfl rfl rfl (c.2 _ (List.mem_of_getElem? (i := 6) rfl)), exAll := exB_ok rfl (c.2 _ (List.mem_of_getElem? (i := 7) rfl)), d__law_town := e__law_town, d_is_whole := e_is_whole, d_look_number := e_look_number, d_look_liars := e_look_liars, d_Board___init__ := e_Board___init__, d_House___init__ := e_House___init__, d_World___init__ := e_World___init__, d_look_world := e_look_world, d_Cutting___init__ := e_Cutting___init__, d_World_look_purse := e_World_look_purse, d_World_next_number := e_World_next_number, d_World_honest := e_World_honest, d_World_order_to_all := e_World_order_to_all, d_enough := e_enough, d_Board_is_paper := e_Board_is_paper, d_World_left_at := e_World_left_at, d_World_ask := e_World_ask, d__law_draw := e__law_draw, d__law_pick := e__law_pick, d_House_state := e_House_state, d_World_room := e_World_room, d_cut_of := e_cut_of, d_Cutting_add := e_Cutting_add, d_Cutting_sign := e_Cutting_sign, d_World_letters := e_World_letters, d_is_order := e_is_order, d_look_order := e_look_order, d_House_may_vote := e_House_may_vote, d_House_new_votes := e_House_new_votes, d_House_hear := e_House_hear, d_Board_sign := e_Board_sign, d_World_paper_to_all := e_World_paper_to_all, d_World_signed := e_World_signed, d_House_settle := e_House_settle, d_House_can_settle := e_House_can_settle, d_House_go_on := e_House_go_on, d_House_take := e_House_take, d_World_come := e_World_come, d_World_look_liar := e_World_look_liar, d_is_cut := e_is_cut, d_Cutting_lie := e_Cutting_lie, d_House_load := e_House_load, d_Cutting_good := e_Cutting_good, d_Cutting_take := e_Cutting_take, d_Cutting_signers_of := e_Cutting_signers_of, d_seen_orders := e_seen_orders, d_false_owners := e_false_owners, d_false_houses := e_false_houses, d_stuck_purses := e_stuck_purses, d_lost_nothing := e_lost_nothing, d__law_did := e__law_did, d__law_refusal := e__law_refusal, d__law_asked := e__law_asked, d_World_sums := e_World_sums, d_is_behind := e_is_behind, d_law := e_law, d_NoHouse___init__ := e_NoHouse___init__, d_NoPurse___init__ := e_NoPurse___init__, F__law_town := f__law_town, F_is_whole := f_is_whole, F_look_number := f_look_number, F_look_liars := f_look_liars, F_Board___init__ := f_Board___init__, F_House___init__ := f_House___init__, F_World___init__ := f_World___init__, F_look_world := f_look_world, F_Cutting___init__ := f_Cutting___init__, F_World_look_purse := f_World_look_purse, F_World_next_number := f_World_next_number, F_World_honest := f_World_honest, F_World_order_to_all := f_World_order_to_all, F_enough := f_enough, F_Board_is_paper := f_Board_is_paper, F_World_left_at := f_World_left_at, F_World_ask := f_World_ask, F__law_draw := f__law_draw, F__law_pick := f__law_pick, F_House_state := f_House_state, F_World_room := f_World_room, F_cut_of := f_cut_of, F_Cutting_add := f_Cutting_add, F_Cutting_sign := f_Cutting_sign, F_World_letters := f_World_letters, F_is_order := f_is_order, F_look_order := f_look_order, F_House_may_vote := f_House_may_vote, F_House_new_votes := f_House_new_votes, F_House_hear := f_House_hear, F_Board_sign := f_Board_sign, F_World_paper_to_all := f_World_paper_to_all, F_World_signed := f_World_signed, F_House_settle := f_House_settle, F_House_can_settle := f_House_can_settle, F_House_go_on := f_House_go_on, F_House_take := f_House_take, F_World_come := f_World_come, F_World_look_liar := f_World_look_liar, F_is_cut := f_is_cut, F_Cutting_lie := f_Cutting_lie, F_House_load := f_House_load, F_Cutting_good := f_Cutting_good, F_Cutting_take := f_Cutting_take, F_Cutting_signers_of := f_Cutting_signers_of, F_seen_orders := f_seen_orders, F_false_owners := f_false_owners, F_false_houses := f_false_houses, F_stuck_purses := f_stuck_purses, F_lost_nothing := f_lost_nothing, F__law_did := f__law_did, F__law_refusal := f__law_refusal, F__law_asked := f__law_asked, F_World_sums := f_World_sums, F_is_behind := f_is_behind, F_law := f_law, F_NoHouse___init__ := f_NoHouse___init__, F_NoPurse___init__ := f_NoPurse___init__ }⟩
def spLaw (K : PySem.W.Frag) : Sp := spF K (Ly K) S_law
theorem facts {P : Program} {w : World} {K : PySem.W.Frag} {h : Heap} {mg : Str → Option Value} {f : Addr} (X : K.In h) (G : h.Ns mainGlobals mg) (hfa : mg ("law" : Str) = some (.ref f)) (c : SaysX fa fn xs K) :
    ∃ fd : FuncData, (∀ (s : Shared) (v : Value), BindsTo s fd ⟨[v], []⟩ [("_law_script", v)]) ∧ ∀ base : Heap, K.In base → base.Ns mainGlobals mg → FnOk P w K mg base (CXA P) 9 f fd ["_law_script"] (spLaw K) := by
  obtain ⟨T⟩ := txt_of X G c
  have e := hfa.symm.trans T.m_law
  cases e
  have b := L2.FunD.bindsA (ps := ["_law_script"]) T.F_law fun _ _ _ _ _ _ us hl => match us, hl with | [_], _ => rfl
  exact ⟨T.d_law, fun s v => b s [v] rfl, fun base _ _ => Fl.FnOk.anyW (ok_law T)⟩
end Wk
open PySem PySem.W PySem.Calls PyProof.Rows
set_option maxRecDepth 100000 in
set_option maxHeartbeats 0 in
theorem PySem.Challenge.cw_manypurses_k15_cuts_refused_holds : PySem.Challenge.rw_manypurses_k15_cuts_refused.Holds := by
  w_on; o_law
  refine HandSHeadRun.head_any (r := OpenLaw.row PySem.Challenge.rw_manypurses_k15_cuts_refused) (q := view (OpenLaw.row PySem.Challenge.rw_manypurses_k15_cuts_refused).prog [51]) (H := Wk.hk) (ob := Wk.ob) (M := 40000) (loose := Wk.loose) (d := HandSHeadRun.topDef (OpenLaw.row PySem.Challenge.rw_manypurses_k15_cuts_refused).prog 51) (kwd := []) Wk.ob_eq
    (by kernel_rfl) (fun s => by kernel_rfl) Wk.run (by kernel_rfl) (by kernel_rfl) (by kernel_rfl) (by rfl) (by first | assumption | decide +kernel) (by decide +kernel) ⟨rfl, rfl, rfl, rfl, rfl, by decide +kernel⟩ ?hw ?hc
  case hw => w_witness2
  case hc =>
    refine L2.walk_ofE (l := PySem.Challenge.rw_manypurses_k15_cuts_refused) (n := 63) (k := 9) (x := "_law_script") (CX := Fl.CXA (PySem.Challenge.rw_manypurses_k15_cuts_refused).prog) rfl (by decide) (by kernel_rfl) ⟨rfl, by decide, by decide⟩ ?F ?X
    case F =>
      intro w mg fa h Y G hmg0
      obtain ⟨K, KX, c⟩ := Y
      have hmg : mg ("law" : PySem.Str) = some (.ref fa) := by
        have e : (HandSHeadRun.topDef (OpenLaw.row PySem.Challenge.rw_manypurses_k15_cuts_refused).prog 51).name = ("law" : PySem.Str) := by kernel_rfl
        rw [← e]
        exact hmg0
      obtain ⟨fd, hb, hF⟩ := Wk.facts (P := (PySem.Challenge.rw_manypurses_k15_cuts_refused).prog) (w := w) KX G hmg c
      exact ⟨K, fd, Wk.spLaw K, KX, hb, fun H a ns hl hO hS => Fl.law_end (Fl.plain ns hl) hO hS, hF⟩
    case X => exact Fl.cxa_none
