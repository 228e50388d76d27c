import PyProof.Rows.All
import Wide.All
import OpenK.AllK
import Wide.FinOn
import HandS.ForMost
import HandS.Exc
import HandS.ForExc
import HandS.TryMany
import HandS.TryOnly
import HandS.ExcOwn
import HandS.CallSlots
import HandS.Conv
import HandS.Lambda
import HandS.Flow
import HandS.Deep
import HandS.Strs
import HandS.TupLen
import HandS.WordsDict
import HandS.Rev
import HandS.DictTup
import KE.SortData
import KE.GoesMore
import HandS.Defaults
import HandS.HeadWalk
import HandS.HeadHook4
import HandS.Ends
import HandS.Head0
import HandS.Head1
import HandS.Head2
import HandS.HeadEnd
import KE.KStateDown
import PySem.Challenge.RW_dancehall_k06_rings
set_option Elab.async false
set_option linter.all false
set_option maxRecDepth 100000
set_option maxHeartbeats 0
/-! Data that no heap bears, a store of things that change, and what relates them to the layer's heap. -/
namespace DH
open PySem PySem.Spec PyProof.Rows L2

/-- a value as data (a tuple's flag: false, it may be a dict's key; true, its methods may be called): tuples, lists, dicts and objects that nobody changes any more are told by what they hold -/
inductive D where
  | non | bl (b : Bool) | int (i : Int) | str (cs : List Nat)
  | tup (f : Bool) (xs : List D) | lst (xs : List D)
  | dct (t : Bool) (kvs : List (D × D))
  | obj (c : Nat) (fs : List (Nat × D))
/-- data, or a place of the store -/
inductive X where
  | d (x : D) | loc (l : Nat)
/-- what may still be changed -/
inductive MO where
  | lst (xs : List D) | dct (t : Bool) (kvs : List (D × D)) | ins (c : Nat) (fs : List (Nat × D))
abbrev Store := List MO
abbrev Slots := List (Option X)
/-- an outcome -/
inductive O (α : Type) where
  | ok (a : α) (st : Store) | exn (c : Nat) (fs : List (Nat × D)) (st : Store) | bad
def O.bind {α β : Type} (o : O α) (k : α → Store → O β) : O β := match o with
  | .ok a st => k a st
  | .exn c fs st => .exn c fs st
  | .bad => .bad
abbrev EM (α : Type) := Slots → Store → O α
abbrev Fn := List X → Store → O X

/-- what is fixed: the written part, classes by number, field names by number, the tables of code objects -/
structure Gm where
  K : PySem.W.Frag
  ca : Nat → Addr
  fn : Nat → Str
  T : List (Addr × Str)

/-- never a table -/
def NT (o : HO) : Prop := ∀ ps, o ≠ .tbl ps
def FzT (G : Gm) (N : Addr → Prop) (H : Hp) (f : Bool) (a : Addr) (vs : List V) : Prop := match f with
  | false => H a = some (.tup vs) ∧ ¬ N a
  | true => (∃ o, H a = some (.frz o (.tup vs)) ∧ o.dict = none ∧ ¬ N a) ∨ ∃ (o : Obj) (its : Array Value) (n : Nat), G.K.lookup a = some o ∧ o.dict = none ∧ o.cls = .type "tuple" ∧ o.data = .seq its n ∧ its.size ≤ sizeLine ∧ Vals vs its.toList
def FzL (G : Gm) (N : Addr → Prop) (H : Hp) (a : Addr) (vs : List V) : Prop := H a = some (.lst vs) ∧ ¬ N a
theorem FzT.sq {G : Gm} {N : Addr → Prop} {H : Hp} {f : Bool} {a : Addr} {vs : List V} (h : FzT G N H f a vs) : SqT G.K H a vs := by
  cases f with
  | false => exact .inl (.inl h.1)
  | true =>
    rcases h with ⟨o, h, _⟩ | ⟨o, its, n, h1, _, h2⟩
    · exact .inl (.inr ⟨o, h⟩)
    · exact .inr ⟨o, its, n, h1, h2⟩
theorem FzL.sq {G : Gm} {N : Addr → Prop} {H : Hp} {a : Addr} {vs : List V} (h : FzL G N H a vs) : SqL G.K H a vs := .inl (.inl h.1)

def strOf (cs : List Nat) : Str := ⟨cs.toArray⟩
/-- a dict's key -/
def keyOf : D → Option Key
  | .int i => some (.inl i)
  | .str cs => some (.inr (strOf cs))
  | _ => none
def keysOf : List D → Option (List Key)
  | [] => some []
  | x :: r => match keyOf x, keysOf r with
    | some k, some ks => some (k :: ks)
    | _, _ => none

mutual
def RelD (G : Gm) (N : Addr → Prop) (H : Hp) : D → V → Prop
  | .non, v => v = .non
  | .bl b, v => v = .bl b
  | .int i, v => v = .int i
  | .str cs, v => v = .str (strOf cs)
  | .tup f xs, v => ∃ a vs, v = .ref a ∧ FzT G N H f a vs ∧ RelDs G N H xs vs
  | .lst xs, v => ∃ a vs, v = .ref a ∧ FzL G N H a vs ∧ RelDs G N H xs vs
  | .dct t kvs, v => ∃ a, v = .ref a ∧ ¬ N a ∧ ((∃ ps : List (Key × V), H a = some (.dK ps) ∧ t = false ∧ RelK G N H kvs ps) ∨ (∃ ps : List (List Key × V), H a = some (.dT ps) ∧ t = true ∧ RelT G N H kvs ps))
  | .obj c fs, v => ∃ a dx ps, v = .ref a ∧ ¬ N a ∧ H a = some (.ins (G.ca c) dx ps) ∧ RelF G N H fs ps
def RelDs (G : Gm) (N : Addr → Prop) (H : Hp) : List D → List V → Prop
  | [], vs => vs = []
  | x :: xs, vs => ∃ v r, vs = v :: r ∧ RelD G N H x v ∧ RelDs G N H xs r
def RelK (G : Gm) (N : Addr → Prop) (H : Hp) : List (D × D) → List (Key × V) → Prop
  | [], ps => ps = []
  | (k, x) :: xs, ps => ∃ q v r, ps = (q, v) :: r ∧ keyOf k = some q ∧ RelD G N H x v ∧ RelK G N H xs r
def RelT (G : Gm) (N : Addr → Prop) (H : Hp) : List (D × D) → List (List Key × V) → Prop
  | [], ps => ps = []
  | (k, x) :: xs, ps => ∃ q v r, ps = (q, v) :: r ∧ (∃ ks, k = .tup false ks ∧ keysOf ks = some q) ∧ RelD G N H x v ∧ RelT G N H xs r
def RelF (G : Gm) (N : Addr → Prop) (H : Hp) : List (Nat × D) → List (Str × V) → Prop
  | [], ps => ps = []
  | (n, x) :: xs, ps => ∃ v r, ps = (G.fn n, v) :: r ∧ RelD G N H x v ∧ RelF G N H xs r
end

section
variable {G : Gm} {N N' : Addr → Prop} {H H' : Hp}
/-- all that is not N's stays -/
def Keeps (N : Addr → Prop) (H : Hp) (N' : Addr → Prop) (H' : Hp) : Prop := ∀ a o, H a = some o → NT o → ¬ N a → H' a = some o ∧ ¬ N' a
theorem Keeps.fzT (k : Keeps N H N' H') {f : Bool} {a : Addr} {vs : List V} (h : FzT G N H f a vs) : FzT G N' H' f a vs := by
  cases f with
  | false => exact k a _ h.1 (fun ps z => by cases z) h.2
  | true =>
    rcases h with ⟨o, h, d, n⟩ | h
    · obtain ⟨e, n'⟩ := k a _ h (fun ps z => by cases z) n
      exact .inl ⟨o, e, d, n'⟩
    · exact .inr h
theorem Keeps.fzL (k : Keeps N H N' H') {a : Addr} {vs : List V} (h : FzL G N H a vs) : FzL G N' H' a vs := k a _ h.1 (fun ps z => by cases z) h.2
mutual
theorem RelD.mono (k : Keeps N H N' H') : ∀ (x : D) {v : V}, RelD G N H x v → RelD G N' H' x v
  | .non, v, h => h
  | .bl b, v, h => h
  | .int i, v, h => h
  | .str cs, v, h => h
  | .tup f xs, v, h => by
    obtain ⟨a, vs, e, f, r⟩ := h
    exact ⟨a, vs, e, k.fzT f, RelDs.mono k xs r⟩
  | .lst xs, v, h => by
    obtain ⟨a, vs, e, f, r⟩ := h
    exact ⟨a, vs, e, k.fzL f, RelDs.mono k xs r⟩
  | .dct t kvs, v, h => by
    obtain ⟨a, e, n, h⟩ := h
    rcases h with ⟨ps, h, tt, r⟩ | ⟨ps, h, tt, r⟩
    · obtain ⟨h', n'⟩ := k a _ h (fun ps z => by cases z) n
      exact ⟨a, e, n', .inl ⟨ps, h', tt, RelK.mono k kvs r⟩⟩
    · obtain ⟨h', n'⟩ := k a _ h (fun ps z => by cases z) n
      exact ⟨a, e, n', .inr ⟨ps, h', tt, RelT.mono k kvs r⟩⟩
  | .obj c fs, v, h => by
    obtain ⟨a, dx, ps, e, n, h, r⟩ := h
    obtain ⟨h', n'⟩ := k a _ h (fun ps z => by cases z) n
    exact ⟨a, dx, ps, e, n', h', RelF.mono k fs r⟩
theorem RelDs.mono (k : Keeps N H N' H') : ∀ (xs : List D) {vs : List V}, RelDs G N H xs vs → RelDs G N' H' xs vs
  | [], vs, h => h
  | x :: xs, vs, h => by
    obtain ⟨v, r, e, h1, h2⟩ := h
    exact ⟨v, r, e, RelD.mono k x h1, RelDs.mono k xs h2⟩
theorem RelK.mono (k : Keeps N H N' H') : ∀ (xs : List (D × D)) {ps : List (Key × V)}, RelK G N H xs ps → RelK G N' H' xs ps
  | [], vs, h => h
  | (q, x) :: xs, vs, h => by
    obtain ⟨p, v, r, e, h0, h1, h2⟩ := h
    exact ⟨p, v, r, e, h0, RelD.mono k x h1, RelK.mono k xs h2⟩
theorem RelT.mono (k : Keeps N H N' H') : ∀ (xs : List (D × D)) {ps : List (List Key × V)}, RelT G N H xs ps → RelT G N' H' xs ps
  | [], vs, h => h
  | (q, x) :: xs, vs, h => by
    obtain ⟨p, v, r, e, h0, h1, h2⟩ := h
    exact ⟨p, v, r, e, h0, RelD.mono k x h1, RelT.mono k xs h2⟩
theorem RelF.mono (k : Keeps N H N' H') : ∀ (xs : List (Nat × D)) {ps : List (Str × V)}, RelF G N H xs ps → RelF G N' H' xs ps
  | [], vs, h => h
  | (q, x) :: xs, vs, h => by
    obtain ⟨v, r, e, h1, h2⟩ := h
    exact ⟨v, r, e, RelD.mono k x h1, RelF.mono k xs h2⟩
end
theorem RelDs.length : ∀ {xs : List D} {vs : List V}, RelDs G N H xs vs → vs.length = xs.length
  | [], vs, h => by
    have e : vs = [] := h
    rw [e]; rfl
  | x :: xs, vs, h => by
    obtain ⟨v, r, e, h1, h2⟩ := h
    rw [e, List.length_cons, List.length_cons, RelDs.length h2]
theorem RelDs.get : ∀ {xs : List D} {vs : List V} {i : Nat} {x : D}, RelDs G N H xs vs → xs[i]? = some x → ∃ v, vs[i]? = some v ∧ RelD G N H x v
  | [], vs, i, x, h, e => by simp at e
  | y :: xs, vs, 0, x, h, e => by
    obtain ⟨v, r, e1, h1, h2⟩ := h
    simp at e
    subst e
    exact ⟨v, by rw [e1]; rfl, h1⟩
  | y :: xs, vs, i + 1, x, h, e => by
    obtain ⟨v, r, e1, h1, h2⟩ := h
    obtain ⟨w, e2, h3⟩ := RelDs.get (i := i) h2 (by simpa using e)
    exact ⟨w, by rw [e1]; simpa using e2, h3⟩
theorem RelDs.append : ∀ {xs ys : List D} {vs ws : List V}, RelDs G N H xs vs → RelDs G N H ys ws → RelDs G N H (xs ++ ys) (vs ++ ws)
  | [], ys, vs, ws, h, k => by
    have e : vs = [] := h
    rw [e]; exact k
  | x :: xs, ys, vs, ws, h, k => by
    obtain ⟨v, r, e, h1, h2⟩ := h
    exact ⟨v, r ++ ws, by rw [e]; rfl, h1, RelDs.append h2 k⟩
theorem RelDs.set : ∀ {xs : List D} {vs : List V} {x : D} {v : V} (i : Nat), RelDs G N H xs vs → RelD G N H x v → RelDs G N H (xs.set i x) (vs.set i v)
  | [], vs, x, v, i, h, k => by
    have e : vs = [] := h
    rw [e]; exact rfl
  | y :: xs, vs, x, v, 0, h, k => by
    obtain ⟨w, r, e, h1, h2⟩ := h
    exact ⟨v, r, by rw [e]; rfl, k, h2⟩
  | y :: xs, vs, x, v, i + 1, h, k => by
    obtain ⟨w, r, e, h1, h2⟩ := h
    exact ⟨w, r.set i v, by rw [e]; rfl, h1, RelDs.set i h2 k⟩
theorem RelDs.drop : ∀ {xs : List D} {vs : List V} (i : Nat), RelDs G N H xs vs → RelDs G N H (xs.drop i) (vs.drop i)
  | xs, vs, 0, h => h
  | [], vs, i + 1, h => by
    have e : vs = [] := h
    rw [e]; exact rfl
  | y :: xs, vs, i + 1, h => by
    obtain ⟨w, r, e, h1, h2⟩ := h
    rw [e]; exact RelDs.drop i h2
theorem RelDs.take : ∀ {xs : List D} {vs : List V} (i : Nat), RelDs G N H xs vs → RelDs G N H (xs.take i) (vs.take i)
  | xs, vs, 0, h => rfl
  | [], vs, i + 1, h => by
    have e : vs = [] := h
    rw [e]; exact rfl
  | y :: xs, vs, i + 1, h => by
    obtain ⟨w, r, e, h1, h2⟩ := h
    rw [e]; exact ⟨w, r.take i, rfl, h1, RelDs.take i h2⟩
theorem RelDs.reverse : ∀ {xs : List D} {vs : List V}, RelDs G N H xs vs → RelDs G N H xs.reverse vs.reverse
  | [], vs, h => by
    have e : vs = [] := h
    rw [e]; exact rfl
  | y :: xs, vs, h => by
    obtain ⟨w, r, e, h1, h2⟩ := h
    rw [e, List.reverse_cons, List.reverse_cons]
    exact RelDs.append (RelDs.reverse h2) ⟨w, [], rfl, h1, rfl⟩
theorem RelDs.eraseIdx : ∀ {xs : List D} {vs : List V} (i : Nat), RelDs G N H xs vs → RelDs G N H (xs.eraseIdx i) (vs.eraseIdx i)
  | [], vs, i, h => by
    have e : vs = [] := h
    rw [e]; exact rfl
  | y :: xs, vs, 0, h => by
    obtain ⟨w, r, e, h1, h2⟩ := h
    rw [e]; exact h2
  | y :: xs, vs, i + 1, h => by
    obtain ⟨w, r, e, h1, h2⟩ := h
    rw [e]; exact ⟨w, r.eraseIdx i, rfl, h1, RelDs.eraseIdx i h2⟩
theorem RelDs.one {x : D} {v : V} (h : RelD G N H x v) : RelDs G N H [x] [v] := ⟨v, [], rfl, h, rfl⟩
end

/-- N: the owner's F, and the store's own places -/
def Nn (F : Addr → Prop) (ρ : List Addr) : Addr → Prop := fun a => F a ∨ a ∈ ρ
def RelM (G : Gm) (N : Addr → Prop) (H : Hp) (o : MO) (a : Addr) : Prop := match o with
  | .lst xs => ∃ vs, H a = some (.lst vs) ∧ RelDs G N H xs vs
  | .dct t kvs => (∃ ps, H a = some (.dK ps) ∧ t = false ∧ RelK G N H kvs ps) ∨ (∃ ps, H a = some (.dT ps) ∧ t = true ∧ RelT G N H kvs ps)
  | .ins c fs => ∃ dx ps, H a = some (.ins (G.ca c) dx ps) ∧ RelF G N H fs ps
def RelX (G : Gm) (F : Addr → Prop) (ρ : List Addr) (H : Hp) (x : X) (v : V) : Prop := match x with
  | .d y => RelD G (Nn F ρ) H y v
  | .loc l => ∃ a, ρ[l]? = some a ∧ v = .ref a
def RelXs (G : Gm) (F : Addr → Prop) (ρ : List Addr) (H : Hp) : List X → List V → Prop
  | [], vs => vs = []
  | x :: xs, vs => ∃ v r, vs = v :: r ∧ RelX G F ρ H x v ∧ RelXs G F ρ H xs r
structure Rep (G : Gm) (F : Addr → Prop) (ρ : List Addr) (st : Store) (H : Hp) : Prop where
  len : ρ.length = st.length
  nd : ρ.Nodup
  dis : ∀ a ∈ ρ, ¬ F a
  fin : ∀ a, F a → ∃ o, H a = some o ∧ ∃ vs, o = .lst vs
  obj : ∀ (l : Nat) a o, ρ[l]? = some a → st[l]? = some o → RelM G (Nn F ρ) H o a
  tab : LamX.Tabs G.T H
/-- from (ρ, H) to (ρ', H') -/
structure Stp (ρ : List Addr) (H : Hp) (ρ' : List Addr) (H' : Hp) : Prop where
  keep : ∀ a o, H a = some o → NT o → a ∉ ρ → H' a = some o
  pre : ∃ m, ρ' = ρ ++ m
  new : ∀ a ∈ ρ', a ∈ ρ ∨ ∀ o, H a = some o → ¬ NT o
  some : ∀ a o, H a = some o → NT o → ∃ o', H' a = some o' ∧ NT o'
def SlOk (G : Gm) (F : Addr → Prop) (ρ : List Addr) (H : Hp) (sl : Slots) (σ : L2.St) : Prop :=
  sl.length = σ.length ∧ ∀ (i : Nat) x, sl[i]? = some (some x) → ∃ v, σ[i]? = some (some v) ∧ RelX G F ρ H x v

section
variable {G : Gm} {F : Addr → Prop} {ρ ρ' ρ1 : List Addr} {H H' H1 : Hp} {st st' : Store}
theorem Stp.refl (ρ : List Addr) (H : Hp) : Stp ρ H ρ H := ⟨fun _ _ h _ _ => h, ⟨[], by simp⟩, fun _ h => .inl h, fun _ o h n => ⟨o, h, n⟩⟩
theorem Stp.trans (a : Stp ρ H ρ1 H1) (b : Stp ρ1 H1 ρ' H') : Stp ρ H ρ' H' := by
  refine ⟨fun c o h n hc => ?_, ?_, fun c hc => ?_, fun c o h n => by
    obtain ⟨o', e', n'⟩ := a.some c o h n
    exact b.some c o' e' n'⟩
  · refine b.keep c o (a.keep c o h n hc) n fun z => ?_
    rcases a.new c z with y | y
    · exact hc y
    · exact y o h n
  · obtain ⟨m, e⟩ := a.pre
    obtain ⟨m', e'⟩ := b.pre
    exact ⟨m ++ m', by rw [e', e, List.append_assoc]⟩
  · rcases b.new c hc with y | y
    · exact a.new c y
    · refine .inr fun o e n => ?_
      obtain ⟨o', e', n'⟩ := a.some c o e n
      exact y o' e' n'
theorem Stp.keeps (s : Stp ρ H ρ' H') : Keeps (Nn F ρ) H (Nn F ρ') H' := fun a o h n k => by
  refine ⟨s.keep a o h n fun z => k (.inr z), fun z => ?_⟩
  rcases z with z | z
  · exact k (.inl z)
  · rcases s.new a z with y | y
    · exact k (.inr y)
    · exact y o h n
theorem RelX.mono (s : Stp ρ H ρ' H') {x : X} {v : V} (h : RelX G F ρ H x v) : RelX G F ρ' H' x v := by
  cases x with
  | d y => exact RelD.mono s.keeps y h
  | loc l =>
    obtain ⟨a, e, r⟩ := h
    obtain ⟨m, q⟩ := s.pre
    refine ⟨a, ?_, r⟩
    rw [q, List.getElem?_append_left (List.getElem?_eq_some_iff.mp e).1]
    exact e
theorem RelXs.mono (s : Stp ρ H ρ' H') : ∀ {xs : List X} {vs : List V}, RelXs G F ρ H xs vs → RelXs G F ρ' H' xs vs
  | [], vs, h => h
  | x :: xs, vs, h => by
    obtain ⟨v, r, e, h1, h2⟩ := h
    exact ⟨v, r, e, h1.mono s, RelXs.mono s h2⟩
theorem SlOk.mono (s : Stp ρ H ρ' H') {sl : Slots} {σ : L2.St} (h : SlOk G F ρ H sl σ) : SlOk G F ρ' H' sl σ :=
  ⟨h.1, fun i x e => by
    obtain ⟨v, q, r⟩ := h.2 i x e
    exact ⟨v, q, r.mono s⟩⟩
theorem SlOk.set {sl : Slots} {σ : L2.St} {x : X} {v : V} (h : SlOk G F ρ H sl σ) (i : Nat) (r : RelX G F ρ H x v) : SlOk G F ρ H (sl.set i (some x)) (σ.set i (some v)) := by
  refine ⟨by rw [List.length_set, List.length_set, h.1], fun j y e => ?_⟩
  by_cases hj : i = j
  · subst hj
    by_cases hl : i < sl.length
    · rw [List.getElem?_set_self hl] at e
      injection e with e
      injection e with e
      subst e
      exact ⟨v, by rw [List.getElem?_set_self (by rw [← h.1]; exact hl)], r⟩
    · rw [List.getElem?_eq_none (by simpa using hl)] at e
      cases e
  · rw [List.getElem?_set_ne hj] at e ⊢
    exact h.2 j y e
theorem Rep.fresh (R : Rep G F ρ st H) {p : Addr} (h : H p = none) : ¬ Nn F ρ p := fun z => by
  rcases z with z | z
  · obtain ⟨o, e, _⟩ := R.fin p z
    rw [h] at e; cases e
  · obtain ⟨l, hl, e⟩ := List.mem_iff_getElem.mp z
    have hs : l < st.length := by rw [← R.len]; exact hl
    have q := R.obj l p st[l] (by rw [List.getElem?_eq_getElem hl, e]) (List.getElem?_eq_getElem hs)
    cases ho : st[l] with
    | lst xs =>
      rw [ho] at q
      obtain ⟨vs, e, _⟩ := q
      rw [h] at e; cases e
    | dct t kvs =>
      rw [ho] at q
      rcases q with ⟨ps, e, _⟩ | ⟨ps, e, _⟩ <;> (rw [h] at e; cases e)
    | ins c fs =>
      rw [ho] at q
      obtain ⟨dx, ps, e, _⟩ := q
      rw [h] at e; cases e
/-- a new thing laid, which the store does not hold -/
theorem stp_new {p : Addr} {o : HO} (h : H p = none) : Stp ρ H ρ (upd H p o) :=
  ⟨fun a u e _ _ => by rw [upd_ne (ne_of_none e h)]; exact e, ⟨[], by simp⟩, fun _ z => .inl z, fun a u e n => ⟨u, by rw [upd_ne (ne_of_none e h)]; exact e, n⟩⟩
theorem RelM.mono {N N' : Addr → Prop} (k : Keeps N H N' H') {o : MO} {a : Addr} (h : RelM G N H o a) (e : H' a = H a) : RelM G N' H' o a := by
  cases o with
  | lst xs =>
    obtain ⟨vs, q, r⟩ := h
    exact ⟨vs, by rw [e]; exact q, RelDs.mono k xs r⟩
  | dct t kvs =>
    rcases h with ⟨ps, q, tt, r⟩ | ⟨ps, q, tt, r⟩
    · exact .inl ⟨ps, by rw [e]; exact q, tt, RelK.mono k kvs r⟩
    · exact .inr ⟨ps, by rw [e]; exact q, tt, RelT.mono k kvs r⟩
  | ins c fs =>
    obtain ⟨dx, ps, q, r⟩ := h
    exact ⟨dx, ps, by rw [e]; exact q, RelF.mono k fs r⟩
theorem tabs_new {T : List (Addr × Str)} {p : Addr} {o : HO} (h : H p = none) (t : LamX.Tabs T H) : LamX.Tabs T (upd H p o) :=
  t.ext fun b u e => by rw [upd_ne (ne_of_none e h)]; exact e
theorem Rep.new (R : Rep G F ρ st H) {p : Addr} {o : HO} (h : H p = none) : Rep G F ρ st (upd H p o) := by
  have s : Stp ρ H ρ (upd H p o) := stp_new h
  refine ⟨R.len, R.nd, R.dis, fun a z => ?_, fun l a m e1 e2 => ?_, tabs_new h R.tab⟩
  · obtain ⟨u, e, n⟩ := R.fin a z
    exact ⟨u, by rw [upd_ne (ne_of_none e h)]; exact e, n⟩
  · refine (R.obj l a m e1 e2).mono s.keeps ?_
    rw [upd_ne]
    rintro rfl
    exact R.fresh h (.inr (List.mem_of_getElem? e1))
/-- a new thing laid, which the store holds -/
theorem stp_more {p : Addr} {o : HO} (h : H p = none) : Stp ρ H (ρ ++ [p]) (upd H p o) :=
  ⟨fun a u e _ _ => by rw [upd_ne (ne_of_none e h)]; exact e, ⟨[p], rfl⟩, fun a z => by
    rcases List.mem_append.mp z with z | z
    · exact .inl z
    · have e : a = p := by simpa using z
      rw [e]; exact .inr (fun o q => by rw [h] at q; cases q), fun a u e n => ⟨u, by rw [upd_ne (ne_of_none e h)]; exact e, n⟩⟩
theorem Rep.more (R : Rep G F ρ st H) {p : Addr} {o : HO} {m : MO} (h : H p = none) (hm : RelM G (Nn F (ρ ++ [p])) (upd H p o) m p) : Rep G F (ρ ++ [p]) (st ++ [m]) (upd H p o) := by
  have s : Stp ρ H (ρ ++ [p]) (upd H p o) := stp_more h
  have np : p ∉ ρ := fun z => R.fresh h (.inr z)
  refine ⟨by rw [List.length_append, List.length_append, R.len]; rfl, ?_, fun a z => ?_, fun a z => ?_, fun l a u e1 e2 => ?_, tabs_new h R.tab⟩
  · rw [List.nodup_append]
    exact ⟨R.nd, by simp, fun a ha b hb => by
      have e : b = p := by simpa using hb
      rw [e]; rintro rfl; exact np ha⟩
  · rcases List.mem_append.mp z with z | z
    · exact R.dis a z
    · have e : a = p := by simpa using z
      rw [e]; exact fun y => R.fresh h (.inl y)
  · obtain ⟨u, e, n⟩ := R.fin a z
    exact ⟨u, by rw [upd_ne (ne_of_none e h)]; exact e, n⟩
  · by_cases hl : l < ρ.length
    · rw [List.getElem?_append_left hl] at e1
      rw [List.getElem?_append_left (by rw [← R.len]; exact hl)] at e2
      refine (R.obj l a u e1 e2).mono s.keeps ?_
      rw [upd_ne]
      rintro rfl
      exact np (List.mem_of_getElem? e1)
    · have e : l = ρ.length := by
        have := (List.getElem?_eq_some_iff.mp e1).1
        rw [List.length_append] at this
        simp at this
        omega
      subst e
      rw [List.getElem?_append_right (Nat.le_refl _)] at e1
      rw [List.getElem?_append_right (by rw [R.len]; exact Nat.le_refl _), R.len] at e2
      simp at e1 e2
      rw [← e1, ← e2]; exact hm
/-- a thing of the store changed -/
theorem stp_set {l : Nat} {a : Addr} {o : HO} (e : ρ[l]? = some a) (no : NT o := by intro ps z; cases z) : Stp ρ H ρ (upd H a o) :=
  ⟨fun b u q _ hb => by
    rw [upd_ne]
    · exact q
    · rintro rfl; exact hb (List.mem_of_getElem? e), ⟨[], by simp⟩, fun _ z => .inl z, fun b u z n => by
    by_cases q : b = a
    · exact ⟨o, by rw [q, upd_same], no⟩
    · exact ⟨u, by rw [upd_ne q]; exact z, n⟩⟩
theorem Rep.set (R : Rep G F ρ st H) {l : Nat} {a : Addr} {u o : HO} {m : MO} (e : ρ[l]? = some a) (hu : H a = some u) (nu : NT u) (hc : ∀ q, u ≠ LamX.CodeO a q) (hm : RelM G (Nn F ρ) (upd H a o) m a) : Rep G F ρ (st.set l m) (upd H a o) := by
  have no : NT o := by
    cases m with
    | lst xs =>
      obtain ⟨vs, q, _⟩ := hm
      rw [upd_same] at q
      cases q
      intro ps z; cases z
    | dct t kvs =>
      rcases hm with ⟨vs, q, _⟩ | ⟨vs, q, _⟩ <;> (rw [upd_same] at q; cases q; intro ps z; cases z)
    | ins c fs =>
      obtain ⟨dx, ps, q, _⟩ := hm
      rw [upd_same] at q
      cases q
      intro ps z; cases z
  have s : Stp ρ H ρ (upd H a o) := stp_set e no
  refine ⟨by rw [List.length_set]; exact R.len, R.nd, R.dis, fun b z => ?_, fun j b w e1 e2 => ?_, fun p hp => ?_⟩
  · obtain ⟨v, q, n⟩ := R.fin b z
    refine ⟨v, ?_, n⟩
    rw [upd_ne]
    · exact q
    · rintro rfl; exact R.dis _ (List.mem_of_getElem? e) z
  · by_cases hj : l = j
    · subst hj
      rw [e] at e1
      injection e1 with e1
      subst e1
      have hl : l < st.length := by rw [← R.len]; exact (List.getElem?_eq_some_iff.mp e).1
      rw [List.getElem?_set_self hl] at e2
      injection e2 with e2
      rw [← e2]; exact hm
    · rw [List.getElem?_set_ne hj] at e2
      refine (R.obj j b w e1 e2).mono s.keeps ?_
      rw [upd_ne]
      rintro rfl
      obtain ⟨h1, q1⟩ := List.getElem?_eq_some_iff.mp e
      obtain ⟨h2, q2⟩ := List.getElem?_eq_some_iff.mp e1
      exact hj ((List.getElem_inj R.nd).mp (q1.trans q2.symm))
  · obtain ⟨ps, h1, h2, h3⟩ := R.tab p hp
    refine ⟨ps, ?_, h2, fun pos cv hcv => ?_⟩
    · rw [upd_ne]
      · exact h1
      · rintro rfl
        rw [h1] at hu
        exact nu ps (Option.some.inj hu).symm
    · obtain ⟨c, e1, e2⟩ := h3 pos cv hcv
      refine ⟨c, e1, ?_⟩
      rw [upd_ne]
      · exact e2
      · rintro rfl
        rw [e2] at hu
        exact hc _ (Option.some.inj hu).symm
/-- what a def has made falls from the store -/
theorem Rep.back (R : Rep G F ρ' st' H') (s : Stp ρ H ρ' H') : Rep G F ρ (st'.take ρ.length) H' := by
  obtain ⟨m, e⟩ := s.pre
  have ke : Keeps (Nn F ρ') H' (Nn F ρ) H' := fun a o h n k => ⟨h, fun z => k (z.elim .inl fun z => .inr (by rw [e]; exact List.mem_append_left _ z))⟩
  have hl : ρ.length ≤ st'.length := by rw [← R.len, e, List.length_append]; omega
  refine ⟨by rw [List.length_take]; omega, ?_, fun a z => R.dis a (by rw [e]; exact List.mem_append_left _ z), R.fin, fun l a o e1 e2 => ?_, R.tab⟩
  · have := R.nd
    rw [e, List.nodup_append] at this
    exact this.1
  · have hlt := (List.getElem?_eq_some_iff.mp e1).1
    rw [List.getElem?_take_of_lt hlt] at e2
    exact (R.obj l a o (by rw [e, List.getElem?_append_left hlt]; exact e1) e2).mono ke rfl
theorem RelD.back (s : Stp ρ H ρ' H') {x : D} {v : V} (h : RelD G (Nn F ρ') H' x v) : RelD G (Nn F ρ) H' x v := by
  obtain ⟨m, e⟩ := s.pre
  exact RelD.mono (fun a o h n k => ⟨h, fun z => k (z.elim .inl fun z => .inr (by rw [e]; exact List.mem_append_left _ z))⟩) x h
theorem Stp.cut (s : Stp ρ H ρ' H') : Stp ρ H ρ H' := ⟨s.keep, ⟨[], by simp⟩, fun _ z => .inl z, s.some⟩
end
end DH
namespace DH
open PySem PySem.Spec PyProof.Rows L2
/-! ### readings by outcomes -/
/-- an exception's own fields -/
def RelE (G : Gm) (F : Addr → Prop) (ρ : List Addr) (H : Hp) (fs : List (Nat × D)) (d : Option Addr) : Prop := match fs with
  | [] => d = none
  | f :: r => ∃ a ps, d = some a ∧ ¬ Nn F ρ a ∧ H a = some (.xd ps) ∧ RelF G (Nn F ρ) H (f :: r) ps
abbrev Rl (α β : Type) := (Addr → Prop) → List Addr → Hp → α → β → Prop
def PostG {α β : Type} (G : Gm) (E : XK) (R : Rl α β) (F : Addr → Prop) (ρ : List Addr) (H : Hp) (o : O α) (Q : β → Hp → Prop) : Prop := match o with
  | .ok a st' => ∀ ρ' H' b, Stp ρ H ρ' H' → Rep G F ρ' st' H' → R F ρ' H' a b → Q b H'
  | .exn c fs st' => ∀ ρ' H' d, Stp ρ H ρ' H' → Rep G F ρ' st' H' → RelE G F ρ' H' fs d → E (.ref (G.ca c)) d H'
  | .bad => False
def rd {α β : Type} (G : Gm) (E : XK) (R : Rl α β) (m : EM α) : L2.St → Hp → (β → Hp → Prop) → Prop := fun σ H Q =>
  ∃ F ρ sl st, SlOk G F ρ H sl σ ∧ Rep G F ρ st H ∧ PostG G E R F ρ H (m sl st) Q
abbrev rX (G : Gm) : Rl X V := RelX G
abbrev rXs (G : Gm) : Rl (List X) (List V) := RelXs G
def rB : Rl Bool Bool := fun _ _ _ a b => a = b
abbrev rdE (G : Gm) (E : XK) (m : EM X) : TE := rd G E (rX G) m
abbrev rdT (G : Gm) (E : XK) (m : EM Bool) : TT := rd G E rB m
abbrev rdA (G : Gm) (E : XK) (m : EM (List X)) : TA := rd G E (rXs G) m
section
variable {α β γ δ : Type} {G : Gm} {E : XK} {R : Rl α β} {R' : Rl γ δ} {F : Addr → Prop} {ρ ρ1 : List Addr} {H H1 : Hp}
theorem PostG.mono {o : O α} {Q Q' : β → Hp → Prop} (h : PostG G E R F ρ H o Q) (k : ∀ b H', Q b H' → Q' b H') : PostG G E R F ρ H o Q' := by
  cases o with
  | ok a st => exact fun ρ' H' b s r x => k b H' (h ρ' H' b s r x)
  | exn c fs st => exact h
  | bad => exact h
theorem PostG.later {o : O α} {Q : β → Hp → Prop} (s : Stp ρ H ρ1 H1) (h : PostG G E R F ρ H o Q) : PostG G E R F ρ1 H1 o Q := by
  cases o with
  | ok a st => exact fun ρ' H' b s' r x => h ρ' H' b (s.trans s') r x
  | exn c fs st => exact fun ρ' H' d s' r x => h ρ' H' d (s.trans s') r x
  | bad => exact h
/-- what is left behind a part -/
def Went (G : Gm) (E : XK) (R : Rl α β) (R' : Rl γ δ) (F : Addr → Prop) (ρ : List Addr) (H : Hp) (k : α → Store → O γ) (Q : δ → Hp → Prop) (b : β) (H1 : Hp) : Prop :=
  ∃ a st1 ρ1, Stp ρ H ρ1 H1 ∧ Rep G F ρ1 st1 H1 ∧ R F ρ1 H1 a b ∧ PostG G E R' F ρ1 H1 (k a st1) Q
theorem PostG.bind {o : O α} {k : α → Store → O γ} {Q : δ → Hp → Prop} (h : PostG G E R' F ρ H (o.bind k) Q) : PostG G E R F ρ H o (Went G E R R' F ρ H k Q) := by
  cases o with
  | ok a st => exact fun ρ' H' b s r x => ⟨a, st, ρ', s, r, x, h.later s⟩
  | exn c fs st => exact h
  | bad => exact h
theorem PostG.now {a : α} {b : β} {st : Store} {Q : β → Hp → Prop} (h : PostG G E R F ρ H (.ok a st) Q) (r : Rep G F ρ st H) (x : R F ρ H a b) : Q b H := h ρ H b (Stp.refl _ _) r x
end
section
variable {X : Cx} {e a b c : Expr} {pos : Pos}
theorem PE.imp {t t' : TE} (h : PE X e t) (k : ∀ σ H Q, t' σ H Q → t σ H Q) : PE X e t' := ⟨fun p s σ H Q I q => h.run p s σ H Q I (k σ H Q q)⟩
theorem PT.imp {t t' : TT} (h : PT X e t) (k : ∀ σ H Q, t' σ H Q → t σ H Q) : PT X e t' := ⟨fun p s σ H Q I q => h.run p s σ H Q I (k σ H Q q)⟩
theorem PW.imp {t t' : TT} (h : PW X e t) (k : ∀ σ H Q, t' σ H Q → t σ H Q) : PW X e t' := ⟨fun w p s σ H Q I q => h.run w p s σ H Q I (k σ H Q q)⟩
theorem PA.imp {es : List Expr} {t t' : TA} (h : PA X es t) (k : ∀ σ H Q, t' σ H Q → t σ H Q) : PA X es t' := ⟨fun o p s σ H Q I q => h.run o p s σ H Q I (k σ H Q q)⟩
theorem PS.imp {st : Stmt} {t t' : TS} (h : PS X st t) (k : ∀ D σ H, t' D σ H → t D σ H) : PS X st t' := ⟨fun p s σ H D I q => h.run p s σ H D I (k D σ H q)⟩
theorem PSs.imp {st : List Stmt} {t t' : TS} (h : PSs X st t) (k : ∀ D σ H, t' D σ H → t D σ H) : PSs X st t' := ⟨fun p s σ H D I q => h.run p s σ H D I (k D σ H q)⟩
variable {G : Gm} {E : XK}
/-! ### names, constants -/
def eVar (i : Nat) : EM DH.X := fun sl st => match sl[i]? with
  | some (some x) => .ok x st
  | _ => .bad
def eC (x : D) : EM DH.X := fun _ st => .ok (.d x) st
theorem q_var {i : Nat} {x : Str} (hN : X.N[i]? = some x) (hv : Vis X.env.scope x) (hd : (x == ("__debug__" : Str)) = false) (hcd : (x == ("__classdict__" : Str)) = false) : PE X (.Name x pos) (rdE G E (eVar i)) := by
  refine PE.imp (pe_var hN hv hd hcd) fun σ H Q h => ?_
  obtain ⟨F, ρ, sl, st, sk, R, h⟩ := h
  unfold eVar at h
  cases q : sl[i]? with
  | none =>
    rw [q] at h
    exact h.elim
  | some o =>
    cases o with
    | none =>
      rw [q] at h
      exact h.elim
    | some y =>
      rw [q] at h
      obtain ⟨v, e, r⟩ := sk.2 i y q
      exact ⟨v, e, h.now R r⟩
theorem q_c {x : D} {v : V} (hv : PE X e (tC v)) (r : ∀ N H, RelD G N H x v) : PE X e (rdE G E (eC x)) := by
  refine PE.imp hv fun σ H Q h => ?_
  obtain ⟨F, ρ, sl, st, sk, R, h⟩ := h
  exact PostG.now (R := rX G) h R (show RelD G (Nn F ρ) H x v from r _ _)
theorem q_int {i : Int} {j : Nat} : PE X (.Constant (.int i) j pos) (rdE G E (eC (.int i))) := q_c pe_int fun _ _ => rfl
theorem q_bl {i : Bool} {j : Nat} : PE X (.Constant (.bool i) j pos) (rdE G E (eC (.bl i))) := q_c pe_bl fun _ _ => rfl
theorem q_non {j : Nat} : PE X (.Constant .none j pos) (rdE G E (eC .non)) := q_c pe_non fun _ _ => rfl
theorem q_str {x : Str} {cs : List Nat} {j : Nat} (e : x = strOf cs) : PE X (.Constant (.str x) j pos) (rdE G E (eC (.str cs))) := q_c pe_str fun _ _ => by rw [e]; rfl
/-! ### two parts -/
def eBin (f : DH.X → DH.X → Store → O DH.X) (a b : EM DH.X) : EM DH.X := fun sl st => (a sl st).bind fun x st1 => (b sl st1).bind fun y st2 => f x y st2
def OpV (G : Gm) (r : R2) (f : DH.X → DH.X → Store → O DH.X) : Prop :=
  ∀ (E : XK) (F : Addr → Prop) (ρ : List Addr) (H : Hp) (st : Store) (x y : DH.X) (v w : V) (Q : VK), Rep G F ρ st H → RelX G F ρ H x v → RelX G F ρ H y w → PostG G E (rX G) F ρ H (f x y st) Q → r v w H Q
theorem rd_bin {r : R2} {f : DH.X → DH.X → Store → O DH.X} {ma mb : EM DH.X} (hv : OpV G r f) {σ : L2.St} {H : Hp} {Q : VK} (h : rdE G E (eBin f ma mb) σ H Q) : tOp r (rdE G E ma) (rdE G E mb) σ H Q := by
  obtain ⟨F, ρ, sl, st, sk, R, h⟩ := h
  refine ⟨F, ρ, sl, st, sk, R, PostG.mono (PostG.bind (R := rX G) h) fun v H1 h1 => ?_⟩
  obtain ⟨x, st1, ρ1, s1, R1, r1, h1⟩ := h1
  refine ⟨F, ρ1, sl, st1, sk.mono s1, R1, PostG.mono (PostG.bind (R := rX G) h1) fun w H2 h2 => ?_⟩
  obtain ⟨y, st2, ρ2, s2, R2, r2, h2⟩ := h2
  exact hv E F ρ2 H2 st2 x y v w Q R2 (r1.mono s2) r2 h2
theorem q_op {op : Operator} {r : R2} {f : DH.X → DH.X → Store → O DH.X} {ma mb : EM DH.X} (ho : OpR X (binaryOp op) r) (hv : OpV G r f) (ha : PE X a (rdE G E ma)) (hb : PE X b (rdE G E mb)) : PE X (.BinOp a op b pos) (rdE G E (eBin f ma mb)) :=
  PE.imp (pe_op ho ha hb) fun _ _ _ h => rd_bin hv h
theorem q_cmp {op : CmpOp} {r : R2} {f : DH.X → DH.X → Store → O DH.X} {ma mb : EM DH.X} (ho : OpR X (compareOp op) r) (hv : OpV G r f) (ha : PE X a (rdE G E ma)) (hb : PE X b (rdE G E mb)) (hm : behindInMarks op b = false) : PE X (.Compare a [op] [b] pos) (rdE G E (eBin f ma mb)) :=
  PE.imp (pe_cmpR ho ha hb hm) fun _ _ _ h => rd_bin hv h
theorem q_ix {r : R2} {f : DH.X → DH.X → Store → O DH.X} {ma mb : EM DH.X} (ho : IxR X r) (hv : OpV G r f) (ha : PE X a (rdE G E ma)) (hb : PE X b (rdE G E mb)) (hs : PlainIx b) : PE X (.Subscript a b pos) (rdE G E (eBin f ma mb)) :=
  PE.imp (pe_ix ho ha hb hs) fun _ _ _ h => rd_bin hv h
/-! ### tests -/
/-- a value that must be a bool -/
def eTest (m : EM DH.X) : EM Bool := fun sl st => (m sl st).bind fun x st1 => match x with
  | .d (.bl b) => .ok b st1
  | _ => .bad
theorem rd_test {m : EM DH.X} {σ : L2.St} {H : Hp} {Q : Bool → Hp → Prop} (h : rdT G E (eTest m) σ H Q) : tTest (rdE G E m) σ H Q := by
  obtain ⟨F, ρ, sl, st, sk, R, h⟩ := h
  refine ⟨F, ρ, sl, st, sk, R, PostG.mono (PostG.bind (R := rX G) h) fun v H1 h1 => ?_⟩
  obtain ⟨x, st1, ρ1, s1, R1, r1, h1⟩ := h1
  cases x with
  | loc l => exact h1.elim
  | d y =>
    cases y with
    | bl k => exact ⟨k, r1, PostG.now (R := rB) h1 R1 rfl⟩
    | _ => exact h1.elim
theorem q_tval {m : EM DH.X} (h : PE X e (rdE G E m)) (he : ∀ whole, isTrue e X.env whole = (do let v ← whole; standAt e.pos; holding [v] (truthy v))) : PT X e (rdT G E (eTest m)) :=
  PT.imp (pt_val h he) fun _ _ _ h => rd_test h
theorem q_tcmp {op : CmpOp} {r : R2} {f : DH.X → DH.X → Store → O DH.X} {ma mb : EM DH.X} (ho : OpR X (compareOp op) r) (hv : OpV G r f) (ha : PE X a (rdE G E ma)) (hb : PE X b (rdE G E mb)) (hm : behindInMarks op b = false) : PT X (.Compare a [op] [b] pos) (rdT G E (eTest (eBin f ma mb))) := by
  refine PT.imp (pt_cmpR ho ha hb hm) fun σ H Q h => ?_
  obtain ⟨F, ρ, sl, st, sk, R, h⟩ := rd_test h
  exact rd_bin hv ⟨F, ρ, sl, st, sk, R, h⟩
def tNotM (m : EM Bool) : EM Bool := fun sl st => (m sl st).bind fun x st1 => .ok (!x) st1
def tAndM (m n : EM Bool) : EM Bool := fun sl st => (m sl st).bind fun x st1 => match x with
  | true => n sl st1
  | false => .ok false st1
def tOrM (m n : EM Bool) : EM Bool := fun sl st => (m sl st).bind fun x st1 => match x with
  | true => .ok true st1
  | false => n sl st1
theorem q_tnot {m : EM Bool} (h : PT X a (rdT G E m)) : PT X (.UnaryOp .Not a pos) (rdT G E (tNotM m)) := by
  refine PT.imp (pt_not h) fun σ H Q h => ?_
  obtain ⟨F, ρ, sl, st, sk, R, h⟩ := h
  refine ⟨F, ρ, sl, st, sk, R, PostG.mono (PostG.bind (R := rB) h) fun v H1 h1 => ?_⟩
  obtain ⟨x, st1, ρ1, s1, R1, r1, h1⟩ := h1
  obtain rfl : x = v := r1
  exact PostG.now (R := rB) h1 R1 rfl
theorem q_wand1 {m : EM Bool} (h : PT X a (rdT G E m)) : PW X (.BoolOp .And [a] pos) (rdT G E m) := pw_and1 h
theorem q_wor1 {m : EM Bool} (h : PT X a (rdT G E m)) : PW X (.BoolOp .Or [a] pos) (rdT G E m) := pw_or1 h
theorem q_wand {rest : List Expr} {m n : EM Bool} (h : PT X a (rdT G E m)) (k : PW X (.BoolOp .And (b :: rest) pos) (rdT G E n)) : PW X (.BoolOp .And (a :: b :: rest) pos) (rdT G E (tAndM m n)) := by
  refine PW.imp (pw_and h k) fun σ H Q h => ?_
  obtain ⟨F, ρ, sl, st, sk, R, h⟩ := h
  refine ⟨F, ρ, sl, st, sk, R, PostG.mono (PostG.bind (R := rB) h) fun v H1 h1 => ?_⟩
  obtain ⟨x, st1, ρ1, s1, R1, r1, h1⟩ := h1
  obtain rfl : x = v := r1
  cases x with
  | true => exact iteT ⟨F, ρ1, sl, st1, sk.mono s1, R1, h1⟩
  | false => exact iteF (PostG.now (R := rB) h1 R1 rfl)
theorem q_wor {rest : List Expr} {m n : EM Bool} (h : PT X a (rdT G E m)) (k : PW X (.BoolOp .Or (b :: rest) pos) (rdT G E n)) : PW X (.BoolOp .Or (a :: b :: rest) pos) (rdT G E (tOrM m n)) := by
  refine PW.imp (pw_or h k) fun σ H Q h => ?_
  obtain ⟨F, ρ, sl, st, sk, R, h⟩ := h
  refine ⟨F, ρ, sl, st, sk, R, PostG.mono (PostG.bind (R := rB) h) fun v H1 h1 => ?_⟩
  obtain ⟨x, st1, ρ1, s1, R1, r1, h1⟩ := h1
  obtain rfl : x = v := r1
  cases x with
  | true => exact iteT (PostG.now (R := rB) h1 R1 rfl)
  | false => exact iteF ⟨F, ρ1, sl, st1, sk.mono s1, R1, h1⟩
def eIf (t : EM Bool) (m n : EM DH.X) : EM DH.X := fun sl st => (t sl st).bind fun x st1 => match x with
  | true => m sl st1
  | false => n sl st1
theorem q_ifE {t : EM Bool} {m n : EM DH.X} (h : PT X c (rdT G E t)) (ha : PE X a (rdE G E m)) (hb : PE X b (rdE G E n)) : PE X (.IfExp c a b pos) (rdE G E (eIf t m n)) := by
  refine PE.imp (pe_ifExp h ha hb) fun σ H Q h => ?_
  obtain ⟨F, ρ, sl, st, sk, R, h⟩ := h
  refine ⟨F, ρ, sl, st, sk, R, PostG.mono (PostG.bind (R := rB) h) fun v H1 h1 => ?_⟩
  obtain ⟨x, st1, ρ1, s1, R1, r1, h1⟩ := h1
  obtain rfl : x = v := r1
  cases x with
  | true => exact iteT ⟨F, ρ1, sl, st1, sk.mono s1, R1, h1⟩
  | false => exact iteF ⟨F, ρ1, sl, st1, sk.mono s1, R1, h1⟩
/-! ### arguments -/
def aNil : EM (List DH.X) := fun _ st => .ok [] st
def aCons (m : EM DH.X) (r : EM (List DH.X)) : EM (List DH.X) := fun sl st => (m sl st).bind fun x st1 => (r sl st1).bind fun xs st2 => .ok (x :: xs) st2
theorem q_anil : PA X [] (rdA G E aNil) := by
  refine PA.imp pa_nil fun σ H Q h => ?_
  obtain ⟨F, ρ, sl, st, sk, R, h⟩ := h
  exact PostG.now (R := rXs G) h R rfl
theorem q_acons {es : List Expr} {m : EM DH.X} {r : EM (List DH.X)} (h : PE X e (rdE G E m)) (k : PA X es (rdA G E r)) (hs : starEach (e :: es) X.env = (false, eval e X.env) :: starEach es X.env) : PA X (e :: es) (rdA G E (aCons m r)) := by
  refine PA.imp (pa_cons h k hs) fun σ H Q h => ?_
  obtain ⟨F, ρ, sl, st, sk, R, h⟩ := h
  refine ⟨F, ρ, sl, st, sk, R, PostG.mono (PostG.bind (R := rX G) h) fun v H1 h1 => ?_⟩
  obtain ⟨x, st1, ρ1, s1, R1, r1, h1⟩ := h1
  refine ⟨F, ρ1, sl, st1, sk.mono s1, R1, PostG.mono (PostG.bind (R := rXs G) h1) fun w H2 h2 => ?_⟩
  obtain ⟨y, st2, ρ2, s2, R2, r2, h2⟩ := h2
  exact PostG.now (R := rXs G) h2 R2 ⟨v, w, rfl, r1.mono s2, r2⟩
/-- a part, then what is done with its values -/
def eApp (f : List DH.X → Store → O DH.X) (m : EM (List DH.X)) : EM DH.X := fun sl st => (m sl st).bind f
def CallV (G : Gm) (r : List V → Hp → VK → Prop) (f : List DH.X → Store → O DH.X) : Prop :=
  ∀ (E : XK) (F : Addr → Prop) (ρ : List Addr) (H : Hp) (st : Store) (xs : List DH.X) (vs : List V) (Q : VK), Rep G F ρ st H → RelXs G F ρ H xs vs → PostG G E (rX G) F ρ H (f xs st) Q → r vs H Q
theorem rd_app {r : List V → Hp → VK → Prop} {f : List DH.X → Store → O DH.X} {m : EM (List DH.X)} (hv : CallV G r f) {σ : L2.St} {H : Hp} {Q : VK} (h : rdE G E (eApp f m) σ H Q) : rdA G E m σ H fun vs H1 => r vs H1 Q := by
  obtain ⟨F, ρ, sl, st, sk, R, h⟩ := h
  refine ⟨F, ρ, sl, st, sk, R, PostG.mono (PostG.bind (R := rXs G) h) fun v H1 h1 => ?_⟩
  obtain ⟨x, st1, ρ1, s1, R1, r1, h1⟩ := h1
  exact hv E F ρ1 H1 st1 x v Q R1 r1 h1
theorem q_callB {es : List Expr} {id : String} {x : Str} {p : Pos} {r : List V → Hp → VK → Prop} {f : List DH.X → Store → O DH.X} {m : EM (List DH.X)} (hc : CallR X (.builtin id) r) (hv : CallV G r f) (hg : Gl X x) (hm : X.mg x = none) (hb : bootBuiltins x = some (.builtin id)) (ha : PA X (e :: es) (rdA G E m))
    (hn : x ≠ "__name__") (hdb : (x == ("__debug__" : Str)) = false) (he : starEach (e :: es) X.env = (false, eval e X.env) :: starEach es X.env) (hpl : ((backTo pos (starEach es X.env)).any fun x => x.fst) = false) : PE X (.Call (.Name x p) (e :: es) [] pos) (rdE G E (eApp f m)) :=
  PE.imp (pe_callB hc hg hm hb ha hn hdb he hpl) fun _ _ _ h => rd_app hv h
theorem q_callTy {es : List Expr} {T : String} {x : Str} {p : Pos} {r : List V → Hp → VK → Prop} {f : List DH.X → Store → O DH.X} {m : EM (List DH.X)} (hc : CallR X (.type T) r) (hv : CallV G r f) (hg : Gl X x) (hm : X.mg x = none) (hb : bootBuiltins x = some (.type T)) (ha : PA X (e :: es) (rdA G E m))
    (hn : x ≠ "__name__") (hdb : (x == ("__debug__" : Str)) = false) (he : starEach (e :: es) X.env = (false, eval e X.env) :: starEach es X.env) (hpl : ((backTo pos (starEach es X.env)).any fun x => x.fst) = false) : PE X (.Call (.Name x p) (e :: es) [] pos) (rdE G E (eApp f m)) :=
  PE.imp (pe_callTy hc hg hm hb ha hn hdb he hpl) fun _ _ _ h => rd_app hv h
/-! ### new things -/
/-- a new list: a thing of the store, or data -/
def newL (mu : Bool) (xs : List D) (st : Store) : O DH.X := match mu with
  | true => .ok (.loc st.length) (st ++ [.lst xs])
  | false => .ok (.d (.lst xs)) st
def newT (xs : List D) (st : Store) : O DH.X := .ok (.d (.tup false xs)) st
/-- the data that values are; a thing of the store is none -/
def datas : List DH.X → Option (List D)
  | [] => some []
  | .d x :: r => (datas r).map (x :: ·)
  | .loc _ :: _ => none
theorem datas_rel {F : Addr → Prop} {ρ : List Addr} {H : Hp} : ∀ {xs : List DH.X} {ds : List D} {vs : List V}, datas xs = some ds → RelXs G F ρ H xs vs → RelDs G (Nn F ρ) H ds vs
  | [], ds, vs, e, h => by
    have e' : ds = [] := by simpa [datas] using e.symm
    rw [e']; exact h
  | .d x :: r, ds, vs, e, h => by
    obtain ⟨v, r', e1, h1, h2⟩ := h
    unfold datas at e
    cases q : datas r with
    | none => rw [q] at e; cases e
    | some ds' =>
      rw [q] at e
      have e' : x :: ds' = ds := Option.some.inj e
      rw [← e']
      exact ⟨v, r', e1, h1, datas_rel q h2⟩
  | .loc l :: r, ds, vs, e, h => by cases e
theorem newL_ok {F : Addr → Prop} {ρ : List Addr} {H : Hp} {st : Store} {mu : Bool} {xs : List D} {vs : List V} {Q : VK} {p : Addr} (R : Rep G F ρ st H) (r : RelDs G (Nn F ρ) H xs vs) (hp : H p = none) (h : PostG G E (rX G) F ρ H (newL mu xs st) Q) : Q (.ref p) (upd H p (.lst vs)) := by
  cases mu with
  | true =>
    have s : Stp ρ H (ρ ++ [p]) (upd H p (.lst vs)) := stp_more hp
    exact h (ρ ++ [p]) (upd H p (.lst vs)) (.ref p) s (R.more hp ⟨vs, upd_same, RelDs.mono s.keeps xs r⟩) ⟨p, by rw [← R.len]; simp, rfl⟩
  | false =>
    have s : Stp ρ H ρ (upd H p (.lst vs)) := stp_new hp
    exact h ρ (upd H p (.lst vs)) (.ref p) s (R.new hp) ⟨p, vs, rfl, ⟨upd_same, R.fresh hp⟩, RelDs.mono s.keeps xs r⟩
theorem newT_ok {F : Addr → Prop} {ρ : List Addr} {H : Hp} {st : Store} {xs : List D} {vs : List V} {Q : VK} {p : Addr} (R : Rep G F ρ st H) (r : RelDs G (Nn F ρ) H xs vs) (hp : H p = none) (h : PostG G E (rX G) F ρ H (newT xs st) Q) : Q (.ref p) (upd H p (.tup vs)) := by
  have s : Stp ρ H ρ (upd H p (.tup vs)) := stp_new hp
  exact h ρ (upd H p (.tup vs)) (.ref p) s (R.new hp) ⟨p, vs, rfl, ⟨upd_same, R.fresh hp⟩, RelDs.mono s.keeps xs r⟩
def small (n : Nat) : Bool := Nat.ble n 16777216
theorem small_ok {n : Nat} (h : small n = true) : n ≤ sizeLine := by
  have := Nat.le_of_ble_eq_true h
  have e : sizeLine = 16777216 := by decide
  omega
def fTup (xs : List DH.X) (st : Store) : O DH.X := match datas xs with
  | some ds => (match small ds.length with
    | true => newT ds st
    | false => .bad)
  | none => .bad
def fLst (mu : Bool) (xs : List DH.X) (st : Store) : O DH.X := match datas xs with
  | some ds => (match small ds.length with
    | true => newL mu ds st
    | false => .bad)
  | none => .bad
theorem q_tup {es : List Expr} {k : Nat} {m : EM (List DH.X)} (h : PA X es (rdA G E m)) : PE X (.Tuple es k pos) (rdE G E (eApp fTup m)) := by
  refine PE.imp (pe_tup h) fun σ H Q h => ?_
  refine rd_app (r := fun vs H1 Q => vs.length ≤ sizeLine ∧ ∀ p, H1 p = none → Q (.ref p) (upd H1 p (.tup vs))) (fun E F ρ H st xs vs Q R rs h => ?_) h
  unfold fTup at h
  cases q : datas xs with
  | none => rw [q] at h; exact h.elim
  | some ds =>
    rw [q] at h
    have rr := datas_rel q rs
    cases z : small ds.length with
    | false => simp only [z] at h; exact h.elim
    | true =>
      simp only [z] at h
      exact ⟨by rw [rr.length]; exact small_ok z, fun p hp => newT_ok R rr hp h⟩
theorem q_lst {es : List Expr} {mu : Bool} {m : EM (List DH.X)} (h : PA X es (rdA G E m)) : PE X (.List es pos) (rdE G E (eApp (fLst mu) m)) := by
  refine PE.imp (pe_lst h) fun σ H Q h => ?_
  refine rd_app (r := fun vs H1 Q => vs.length ≤ sizeLine ∧ ∀ p, H1 p = none → Q (.ref p) (upd H1 p (.lst vs))) (fun E F ρ H st xs vs Q R rs h => ?_) h
  unfold fLst at h
  cases q : datas xs with
  | none => rw [q] at h; exact h.elim
  | some ds =>
    rw [q] at h
    have rr := datas_rel q rs
    cases z : small ds.length with
    | false => simp only [z] at h; exact h.elim
    | true =>
      simp only [z] at h
      exact ⟨by rw [rr.length]; exact small_ok z, fun p hp => newL_ok R rr hp h⟩
end
end DH
namespace DH
open PySem PySem.Spec PyProof.Rows L2
/-! ### statements -/
inductive SO where
  | nx (sl : Slots) (st : Store) | rt (x : X) (st : Store) | bk (sl : Slots) (st : Store) | ct (sl : Slots) (st : Store)
  | exn (c : Nat) (fs : List (Nat × D)) (st : Store) | bad
abbrev SM := Slots → Store → SO
def O.s {α : Type} (o : O α) (k : α → Store → SO) : SO := match o with
  | .ok a st => k a st
  | .exn c fs st => .exn c fs st
  | .bad => .bad
def PostS (G : Gm) (E : XK) (F : Addr → Prop) (ρ : List Addr) (H : Hp) (o : SO) (D : Ends) : Prop := match o with
  | .nx sl st => ∀ ρ' H' σ', Stp ρ H ρ' H' → Rep G F ρ' st H' → SlOk G F ρ' H' sl σ' → D.nx σ' H'
  | .rt x st => ∀ ρ' H' v, Stp ρ H ρ' H' → Rep G F ρ' st H' → RelX G F ρ' H' x v → D.rt v H'
  | .bk sl st => ∀ ρ' H' σ', Stp ρ H ρ' H' → Rep G F ρ' st H' → SlOk G F ρ' H' sl σ' → D.bk σ' H'
  | .ct sl st => ∀ ρ' H' σ', Stp ρ H ρ' H' → Rep G F ρ' st H' → SlOk G F ρ' H' sl σ' → D.ct σ' H'
  | .exn c fs st => ∀ ρ' H' d, Stp ρ H ρ' H' → Rep G F ρ' st H' → RelE G F ρ' H' fs d → E (.ref (G.ca c)) d H'
  | .bad => False
def rdS (G : Gm) (E : XK) (m : SM) : TS := fun D σ H => ∃ F ρ sl st, SlOk G F ρ H sl σ ∧ Rep G F ρ st H ∧ PostS G E F ρ H (m sl st) D
section
variable {G : Gm} {E : XK} {F : Addr → Prop} {ρ ρ1 : List Addr} {H H1 : Hp}
theorem PostS.later {o : SO} {D : Ends} (s : Stp ρ H ρ1 H1) (h : PostS G E F ρ H o D) : PostS G E F ρ1 H1 o D := by
  cases o with
  | nx sl st => exact fun ρ' H' b s' r x => h ρ' H' b (s.trans s') r x
  | rt sl st => exact fun ρ' H' b s' r x => h ρ' H' b (s.trans s') r x
  | bk sl st => exact fun ρ' H' b s' r x => h ρ' H' b (s.trans s') r x
  | ct sl st => exact fun ρ' H' b s' r x => h ρ' H' b (s.trans s') r x
  | exn c fs st => exact fun ρ' H' d s' r x => h ρ' H' d (s.trans s') r x
  | bad => exact h
/-- what is left of a statement behind an expression of it -/
def WentS {α β : Type} (G : Gm) (E : XK) (R : Rl α β) (F : Addr → Prop) (ρ : List Addr) (H : Hp) (k : α → Store → SO) (D : Ends) (b : β) (H1 : Hp) : Prop :=
  ∃ a st1 ρ1, Stp ρ H ρ1 H1 ∧ Rep G F ρ1 st1 H1 ∧ R F ρ1 H1 a b ∧ PostS G E F ρ1 H1 (k a st1) D
theorem PostS.part {α β : Type} {R : Rl α β} {o : O α} {k : α → Store → SO} {D : Ends} (h : PostS G E F ρ H (o.s k) D) : PostG G E R F ρ H o (WentS G E R F ρ H k D) := by
  cases o with
  | ok a st => exact fun ρ' H' b s r x => ⟨a, st, ρ', s, r, x, h.later s⟩
  | exn c fs st => exact h
  | bad => exact h
end
section
variable {X : Cx} {st : Stmt} {rest : List Stmt} {e c : Expr} {pos : Pos} {G : Gm} {E : XK}
def sNx : SM := fun sl st => .nx sl st
def sSeq (m n : SM) : SM := fun sl st => match m sl st with
  | .nx sl' st' => n sl' st'
  | o => o
theorem q_nil : PSs X [] (rdS G E sNx) := PSs.imp pss_nil fun D σ H h => by
  obtain ⟨F, ρ, sl, st, sk, R, h⟩ := h
  exact h ρ H σ (Stp.refl _ _) R sk
theorem q_one {m : SM} (h : PS X st (rdS G E m)) : PSs X [st] (rdS G E m) := pss_one h
theorem q_cons {m n : SM} (h : PS X st (rdS G E m)) (k : PSs X rest (rdS G E n)) : PSs X (st :: rest) (rdS G E (sSeq m n)) := by
  refine PSs.imp (pss_cons h k) fun D σ H h => ?_
  obtain ⟨F, ρ, sl, st, sk, R, h⟩ := h
  refine ⟨F, ρ, sl, st, sk, R, ?_⟩
  unfold sSeq at h
  cases q : m sl st with
  | nx sl' st' =>
    rw [q] at h
    exact fun ρ' H' σ' s' R' sk' => ⟨F, ρ', sl', st', sk', R', PostS.later s' h⟩
  | rt x st' => rw [q] at h; exact h
  | bk sl' st' => rw [q] at h; exact h
  | ct sl' st' => rw [q] at h; exact h
  | exn c fs st' => rw [q] at h; exact h
  | bad => rw [q] at h; exact h
def sSet (i : Nat) (m : EM DH.X) : SM := fun sl st => (m sl st).s fun x st1 => .nx (sl.set i (some x)) st1
theorem rd_set {i : Nat} {m : EM DH.X} {D : Ends} {σ : L2.St} {H : Hp} (h : rdS G E (sSet i m) D σ H) : tAsg (rdE G E m) (gName i) D σ H := by
  obtain ⟨F, ρ, sl, st, sk, R, h⟩ := h
  refine ⟨F, ρ, sl, st, sk, R, PostG.mono (PostS.part (R := rX G) h) fun v H1 h1 => ?_⟩
  obtain ⟨x, st1, ρ1, s1, R1, r1, h1⟩ := h1
  exact h1 ρ1 H1 _ (Stp.refl _ _) R1 ((sk.mono s1).set i r1)
theorem q_set {i : Nat} {x : Str} {px : Pos} {m : EM DH.X} (hN : X.N.Nodup) (hi : X.N[i]? = some x) (hx : Loc X.env.scope x) (hf : X.fn x = true ∨ X.env.scope.names.lookup x = some .local) (he : PE X e (rdE G E m))
    (hs : swapsWithSole [.Name x px] e pos.line X.env = pure false) (hw : swappedStores [.Name x px] e X.env = pure none) : PS X (.Assign [.Name x px] e pos) (rdS G E (sSet i m)) :=
  PS.imp (ps_asg he (pg_name hN hi hx hf) hs hw rfl) fun _ _ _ h => rd_set h
def sExpr (m : EM DH.X) : SM := fun sl st => (m sl st).s fun _ st1 => .nx sl st1
theorem q_expr {m : EM DH.X} (he : PE X e (rdE G E m)) (hs : swapsWith e none pos.line X.env = pure false) : PS X (.Expr e pos) (rdS G E (sExpr m)) := by
  refine PS.imp (ps_expr he hs) fun D σ H h => ?_
  obtain ⟨F, ρ, sl, st, sk, R, h⟩ := h
  refine ⟨F, ρ, sl, st, sk, R, PostG.mono (PostS.part (R := rX G) h) fun v H1 h1 => ?_⟩
  obtain ⟨x, st1, ρ1, s1, R1, r1, h1⟩ := h1
  exact h1 ρ1 H1 _ (Stp.refl _ _) R1 (sk.mono s1)
def sRet (m : EM DH.X) : SM := fun sl st => (m sl st).s fun x st1 => .rt x st1
theorem q_ret {m : EM DH.X} (he : PE X e (rdE G E m)) : PS X (.Return (some e) pos) (rdS G E (sRet m)) := by
  refine PS.imp (ps_ret he) fun D σ H h => ?_
  obtain ⟨F, ρ, sl, st, sk, R, h⟩ := h
  refine ⟨F, ρ, sl, st, sk, R, PostG.mono (PostS.part (R := rX G) h) fun v H1 h1 => ?_⟩
  obtain ⟨x, st1, ρ1, s1, R1, r1, h1⟩ := h1
  exact h1 ρ1 H1 _ (Stp.refl _ _) R1 r1
def sIf (t : EM Bool) (m n : SM) : SM := fun sl st => (t sl st).s fun b st1 => match b with
  | true => m sl st1
  | false => n sl st1
theorem q_if {a b : List Stmt} {t : EM Bool} {m n : SM} (hc : PT X c (rdT G E t)) (ha : PSs X a (rdS G E m)) (hb : PSs X b (rdS G E n)) : PS X (.If c a b pos) (rdS G E (sIf t m n)) := by
  refine PS.imp (ps_if hc ha hb) fun D σ H h => ?_
  obtain ⟨F, ρ, sl, st, sk, R, h⟩ := h
  refine ⟨F, ρ, sl, st, sk, R, PostG.mono (PostS.part (R := rB) h) fun v H1 h1 => ?_⟩
  obtain ⟨x, st1, ρ1, s1, R1, r1, h1⟩ := h1
  obtain rfl : x = v := r1
  cases x with
  | true => exact iteT ⟨F, ρ1, sl, st1, sk.mono s1, R1, h1⟩
  | false => exact iteF ⟨F, ρ1, sl, st1, sk.mono s1, R1, h1⟩
/-- raise C('..'), C without an __init__ of its own -/
def sRaise (c : Nat) : SM := fun _ st => .exn c [] st
theorem q_raise {c : Nat} {t : L2.St → Hp → XK → Prop} (hc : X.calm = true) (tk : Takes X (fun cls d _ H => E cls d H)) (he : PMk X e t) (ht : ∀ σ H Q, Q (.ref (G.ca c)) none H → t σ H Q) : PS X (.Raise (some e) none pos) (rdS G E (sRaise c)) := by
  refine PS.imp (ps_raise hc tk he) fun D σ H h => ?_
  obtain ⟨F, ρ, sl, st, sk, R, h⟩ := h
  exact ht σ H _ (h ρ H none (Stp.refl _ _) R rfl)
/-- while, by fuel -/
def wLoop (t : EM Bool) (b : SM) : Nat → SM
  | 0, _, _ => .bad
  | n + 1, sl, st => (t sl st).s fun k st1 => match k with
    | false => .nx sl st1
    | true => (match b sl st1 with
      | .nx sl' st' => wLoop t b n sl' st'
      | .ct sl' st' => wLoop t b n sl' st'
      | .bk sl' st' => .nx sl' st'
      | o => o)
theorem q_while {body : List Stmt} {t : EM Bool} {b : SM} {n : Nat} (hp : PassesOwn (model X.prog X.w) X.A X.env X.xe) (hc : PT X c (rdT G E t)) (hb : PSs X body (rdS G E b)) : PS X (.While c body [] pos) (rdS G E (wLoop t b n)) := by
  refine PS.imp (ps_while hp hc hb) fun D σ H h => ?_
  refine ⟨fun m σ H => rdS G E (wLoop t b m) D σ H, ⟨n, h⟩, fun m σ H h => ?_⟩
  obtain ⟨F, ρ, sl, st, sk, R, h⟩ := h
  cases m with
  | zero => exact h.elim
  | succ m =>
    refine ⟨F, ρ, sl, st, sk, R, PostG.mono (PostS.part (R := rB) (k := fun k st1 => match k with
    | false => .nx sl st1
    | true => (match b sl st1 with
      | .nx sl' st' => wLoop t b m sl' st'
      | .ct sl' st' => wLoop t b m sl' st'
      | .bk sl' st' => .nx sl' st'
      | o => o)) h) fun v H1 h1 => ?_⟩
    obtain ⟨x, st1, ρ1, s1, R1, r1, h1⟩ := h1
    obtain rfl : x = v := r1
    cases x with
    | false => exact iteF (h1 ρ1 H1 σ (Stp.refl _ _) R1 (sk.mono s1))
    | true =>
      refine iteT ⟨rdS G E (wLoop t b m) D, fun σ' H' z => ⟨m, Nat.lt_succ_self m, z⟩, F, ρ1, sl, st1, sk.mono s1, R1, ?_⟩
      have h2 : PostS G E F ρ1 H1 (match b sl st1 with
        | .nx sl' st' => wLoop t b m sl' st'
        | .ct sl' st' => wLoop t b m sl' st'
        | .bk sl' st' => .nx sl' st'
        | o => o) D := h1
      cases q : b sl st1 with
      | nx sl' st' =>
        rw [q] at h2
        exact fun ρ' H' σ' s' R' sk' => ⟨F, ρ', sl', st', sk', R', PostS.later s' h2⟩
      | ct sl' st' =>
        rw [q] at h2
        exact fun ρ' H' σ' s' R' sk' => ⟨F, ρ', sl', st', sk', R', PostS.later s' h2⟩
      | bk sl' st' => rw [q] at h2; exact h2
      | rt x st' => rw [q] at h2; exact h2
      | exn c fs st' => rw [q] at h2; exact h2
      | bad => rw [q] at h2; exact h2
end
/-! ### defs -/
section
variable {G : Gm} {E : XK}
def spF (G : Gm) (f : Fn) : Sp := fun vs H Q E => ∃ F ρ xs st, RelXs G F ρ H xs vs ∧ Rep G F ρ st H ∧ PostG G E (rX G) F ρ H (f xs st) Q
/-- what a def hands back: a thing of its own is data from then on -/
def backX (x : X) (st : Store) (n : Nat) : O X := match x with
  | .d y => .ok (.d y) (st.take n)
  | .loc l => match Nat.blt l n with
    | true => .ok (.loc l) (st.take n)
    | false => (match st[l]? with
      | some (.lst ys) => .ok (.d (.lst ys)) (st.take n)
      | some (.dct t ys) => .ok (.d (.dct t ys)) (st.take n)
      | some (.ins c fs) => .ok (.d (.obj c fs)) (st.take n)
      | none => .bad)
def endF (o : SO) (n : Nat) : O X := match o with
  | .nx _ st => .ok (.d .non) (st.take n)
  | .rt x st => backX x st n
  | .exn c fs st => .exn c fs (st.take n)
  | _ => .bad
/-- a def of k slots -/
def mkF (k : Nat) (b : SM) : Fn := fun xs st => endF (b (xs.map some ++ List.replicate (k - xs.length) none) st) st.length
theorem RelXs.length {F : Addr → Prop} {ρ : List Addr} {H : Hp} : ∀ {xs : List X} {vs : List V}, RelXs G F ρ H xs vs → vs.length = xs.length
  | [], vs, h => by
    have e : vs = [] := h
    rw [e]; rfl
  | x :: xs, vs, h => by
    obtain ⟨v, r, e, h1, h2⟩ := h
    rw [e, List.length_cons, List.length_cons, RelXs.length h2]
theorem RelXs.get {F : Addr → Prop} {ρ : List Addr} {H : Hp} : ∀ {xs : List X} {vs : List V} {i : Nat} {x : X}, RelXs G F ρ H xs vs → xs[i]? = some x → ∃ v, vs[i]? = some v ∧ RelX G F ρ H x v
  | [], vs, i, x, h, e => by simp at e
  | y :: xs, vs, 0, x, h, e => by
    obtain ⟨v, r, e1, h1, h2⟩ := h
    simp at e
    subst e
    exact ⟨v, by rw [e1]; rfl, h1⟩
  | y :: xs, vs, i + 1, x, h, e => by
    obtain ⟨v, r, e1, h1, h2⟩ := h
    obtain ⟨w, e2, h3⟩ := RelXs.get (i := i) h2 (by simpa using e)
    exact ⟨w, by rw [e1]; simpa using e2, h3⟩
theorem sl_start {F : Addr → Prop} {ρ : List Addr} {H : Hp} {xs : List X} {vs : List V} {N : List Str} {k : Nat} (h : RelXs G F ρ H xs vs) (hk : N.length = k) : SlOk G F ρ H (xs.map some ++ List.replicate (k - xs.length) none) (L2.start N vs) := by
  have hl := h.length
  unfold L2.start
  refine ⟨by simp [hl, hk], fun i x e => ?_⟩
  by_cases hi : i < xs.length
  · rw [List.getElem?_append_left (by simpa using hi), List.getElem?_map] at e
    cases q : xs[i]? with
    | none => rw [q] at e; cases e
    | some y =>
      rw [q] at e
      have e' : y = x := by simpa using e
      subst e'
      obtain ⟨v, e1, r⟩ := h.get q
      refine ⟨v, ?_, r⟩
      rw [List.getElem?_append_left (by rw [List.length_map, hl]; exact hi), List.getElem?_map, e1]
      rfl
  · rw [List.getElem?_append_right (by simpa using hi)] at e
    rw [List.getElem?_replicate] at e
    split at e
    · cases e
    · cases e
theorem RelF.back {F : Addr → Prop} {ρ ρ' : List Addr} {H H' : Hp} (s : Stp ρ H ρ' H') {fs : List (Nat × D)} {ps : List (Str × V)} (h : RelF G (Nn F ρ') H' fs ps) : RelF G (Nn F ρ) H' fs ps := by
  obtain ⟨m, e⟩ := s.pre
  exact RelF.mono (fun a o h n k => ⟨h, fun z => k (z.elim .inl fun z => .inr (by rw [e]; exact List.mem_append_left _ z))⟩) fs h
theorem RelE.back {F : Addr → Prop} {ρ ρ' : List Addr} {H H' : Hp} (s : Stp ρ H ρ' H') {fs : List (Nat × D)} {d : Option Addr} (h : RelE G F ρ' H' fs d) : RelE G F ρ H' fs d := by
  cases fs with
  | nil => exact h
  | cons f r =>
    obtain ⟨a, ps, e, n, h1, h2⟩ := h
    obtain ⟨m, e'⟩ := s.pre
    exact ⟨a, ps, e, fun z => n (z.elim .inl fun z => .inr (by rw [e']; exact List.mem_append_left _ z)), h1, RelF.back s h2⟩
theorem len_pre {F : Addr → Prop} {ρ : List Addr} {st : Store} {H : Hp} (R : Rep G F ρ st H) : ρ.length = st.length := R.len
theorem endF_ok {F : Addr → Prop} {ρ : List Addr} {st : Store} {H : Hp} {o : SO} {Q : VK} (R : Rep G F ρ st H) (h : PostG G E (rX G) F ρ H (endF o st.length) Q) : PostS G E F ρ H o { nx := fun _ H' => Q .non H', rt := Q } := by
  rw [← R.len] at h
  cases o with
  | nx sl st' => exact fun ρ' H' σ' s r _ => h ρ H' .non s.cut (r.back s) rfl
  | exn c fs st' => exact fun ρ' H' d s r x => h ρ H' d s.cut (r.back s) (x.back s)
  | bk sl st' => exact h.elim
  | ct sl st' => exact h.elim
  | bad => exact h.elim
  | rt x st' =>
    intro ρ' H' v s r rx
    cases x with
    | d y => exact h ρ H' v s.cut (r.back s) (RelD.back s rx)
    | loc l =>
      obtain ⟨a, e1, e2⟩ := rx
      subst e2
      have h' : PostG G E (rX G) F ρ H (backX (.loc l) st' ρ.length) Q := h
      unfold backX at h'
      obtain ⟨m, em⟩ := s.pre
      cases q : Nat.blt l ρ.length with
      | true =>
        simp only [q] at h'
        have hl : l < ρ.length := Nat.le_of_ble_eq_true q
        exact h' ρ H' (.ref a) s.cut (r.back s) ⟨a, by rw [em, List.getElem?_append_left hl] at e1; exact e1, rfl⟩
      | false =>
        simp only [q] at h'
        have hl : ρ.length ≤ l := by
          refine Nat.le_of_not_lt fun z => ?_
          rw [show Nat.blt l ρ.length = true from Nat.ble_eq_true_of_le z] at q
          cases q
        have am : a ∈ ρ' := List.mem_of_getElem? e1
        have na : ¬ Nn F ρ a := fun z => by
          rcases z with z | z
          · exact r.dis a am z
          · obtain ⟨i, hi, ei⟩ := List.mem_iff_getElem.mp z
            have e3 : ρ'[i]? = some a := by rw [em, List.getElem?_append_left hi, List.getElem?_eq_getElem hi, ei]
            obtain ⟨h1, q1⟩ := List.getElem?_eq_some_iff.mp e1
            obtain ⟨h2, q2⟩ := List.getElem?_eq_some_iff.mp e3
            have := (List.getElem_inj r.nd).mp (q1.trans q2.symm)
            omega
        have ke : Keeps (Nn F ρ') H' (Nn F ρ) H' := fun a o h n k => ⟨h, fun z => k (z.elim .inl fun z => .inr (by rw [em]; exact List.mem_append_left _ z))⟩
        cases qs : st'[l]? with
        | none => simp only [qs] at h'; exact h'.elim
        | some mo =>
          have rm := r.obj l a mo e1 qs
          cases mo with
          | lst ys =>
            simp only [qs] at h'
            obtain ⟨vs, e4, r4⟩ := rm
            exact h' ρ H' (.ref a) s.cut (r.back s) ⟨a, vs, rfl, ⟨e4, na⟩, RelDs.mono ke ys r4⟩
          | dct tk ys =>
            simp only [qs] at h'
            refine h' ρ H' (.ref a) s.cut (r.back s) ⟨a, rfl, na, ?_⟩
            rcases rm with ⟨ps, e4, tt, r4⟩ | ⟨ps, e4, tt, r4⟩
            · exact .inl ⟨ps, e4, tt, RelK.mono ke ys r4⟩
            · exact .inr ⟨ps, e4, tt, RelT.mono ke ys r4⟩
          | ins c fs =>
            simp only [qs] at h'
            obtain ⟨dx, ps, e4, r4⟩ := rm
            exact h' ρ H' (.ref a) s.cut (r.back s) ⟨a, dx, ps, rfl, na, e4, RelF.mono ke fs r4⟩
end
section
variable {P : Program} {w : World} {K : PySem.W.Frag} {mg : Str → Option Value} {base : Heap} {G : Gm}
/-- a def keeps its mirror -/
theorem def_ok {x qual : Str} {st : Stmt} {f : Addr} {fd : FuncData} {N ps : List Str} {k n : Nat} {b : SM} (F : Fun K x qual st f fd) (S : FnScope N ps (defScope st)) (hn : N.length = n) (hp : ∀ xs st o, mkF n b xs st = o → o ≠ .bad → xs.length = ps.length)
    (hbody : ∀ (cdv : Value) (A : Around) (outer : List Env) (s : Shared) (H : Hp) (E : XK), Room k (A.deeper (envOfC qual (defScope st) s.heap.objs.size f cdv)) →
      PSs (cxOf (L2.CX P w) P w K mg base N qual (defScope st) f cdv A outer s H E) (defBody st) (rdS G E b)) : FnOk P w K mg base (L2.CX P w) (k + 1) f fd ps (spF G (mkF n b)) := by
  refine F.okX S (fun vs H Q E h => ?_) (fun cdv A outer s H vs Q E hr h => ?_)
  · obtain ⟨F, ρ, xs, st, rx, R, h⟩ := h
    rw [rx.length]
    exact hp xs st _ rfl fun z => by rw [z] at h; exact h
  · obtain ⟨F, ρ, xs, st, rx, R, h⟩ := h
    exact ⟨_, hbody cdv A outer s H E hr, F, ρ, _, st, sl_start rx hn, R, endF_ok R h⟩
end
section
variable {X : Cx} {e : Expr} {es : List Expr} {pos p : Pos} {G : Gm} {E : XK} {k : Nat} {f : Addr} {fd : FuncData} {ps : List Str} {x : Str} {g : Fn}
theorem q_call {m : EM (List DH.X)} (F : FnOk X.prog X.w X.K X.mg X.base (L2.CX X.prog X.w) k f fd ps (spF G g)) (hr : Room k X.A) (hg : Gl X x) (hm : X.mg x = some (.ref f)) (hk : PySem.W.keepIn X.K (.ref f) = true) (hb : Binds X.K fd ps []) (tk : Takes X (fun cls d _ H => E cls d H))
    (ha : PA X (e :: es) (rdA G E m)) (hdb : (x == ("__debug__" : Str)) = false) (he : starEach (e :: es) X.env = (false, eval e X.env) :: starEach es X.env) (hpl : (backTo pos (starEach es X.env)).any (·.1) = false) :
    PE X (.Call (.Name x p) (e :: es) [] pos) (rdE G E (eApp g m)) := by
  refine PE.imp (pe_call (E := E) F hr hg hm hk hb .nil (passes_call tk fun _ _ _ _ h => h) ha hdb he hpl) fun σ H Q h => ?_
  obtain ⟨F, ρ, sl, st, sk, R, h⟩ := h
  refine ⟨F, ρ, sl, st, sk, R, PostG.mono (PostG.bind (R := rXs G) h) fun v H1 h1 => ?_⟩
  obtain ⟨y, st1, ρ1, s1, R1, r1, h1⟩ := h1
  rw [List.append_nil]
  exact ⟨F, ρ1, y, st1, r1, R1, h1⟩
theorem q_call0 (F : FnOk X.prog X.w X.K X.mg X.base (L2.CX X.prog X.w) k f fd ps (spF G g)) (hr : Room k X.A) (hg : Gl X x) (hm : X.mg x = some (.ref f)) (hk : PySem.W.keepIn X.K (.ref f) = true) (hb : Binds X.K fd ps []) (tk : Takes X (fun cls d _ H => E cls d H))
    (hdb : (x == ("__debug__" : Str)) = false) : PE X (.Call (.Name x p) [] [] pos) (rdE G E (eApp g aNil)) := by
  refine PE.imp (pe_call0 (E := E) F hr hg hm hk hb .nil (passes_call tk fun _ _ _ _ h => h) hdb) fun σ H Q h => ?_
  obtain ⟨F, ρ, sl, st, sk, R, h⟩ := h
  exact ⟨F, ρ, [], st, rfl, R, h⟩
end
end DH
namespace DH
open PySem PySem.Spec PyProof.Rows L2
/-! ### what a value is now -/
def deref (st : Store) : X → Option D
  | .d x => some x
  | .loc l => match st[l]? with
    | some (.lst xs) => some (.lst xs)
    | some (.dct t kvs) => some (.dct t kvs)
    | some (.ins c fs) => some (.obj c fs)
    | none => none
/-- as RelD, whoever may change the thing itself -/
def RelW (G : Gm) (N : Addr → Prop) (H : Hp) (x : D) (v : V) : Prop := match x with
  | .tup f xs => ∃ a vs, v = .ref a ∧ SqT G.K H a vs ∧ RelDs G N H xs vs
  | .lst xs => ∃ a vs, v = .ref a ∧ H a = some (.lst vs) ∧ RelDs G N H xs vs
  | .dct t kvs => ∃ a, v = .ref a ∧ ((∃ ps : List (Key × V), H a = some (.dK ps) ∧ t = false ∧ RelK G N H kvs ps) ∨ (∃ ps : List (List Key × V), H a = some (.dT ps) ∧ t = true ∧ RelT G N H kvs ps))
  | .obj c fs => ∃ a dx ps, v = .ref a ∧ H a = some (.ins (G.ca c) dx ps) ∧ RelF G N H fs ps
  | x => RelD G N H x v
section
variable {G : Gm} {F : Addr → Prop} {ρ : List Addr} {H : Hp} {st : Store}
theorem RelD.w {N : Addr → Prop} {x : D} {v : V} (h : RelD G N H x v) : RelW G N H x v := by
  cases x with
  | tup f xs =>
    obtain ⟨a, vs, e, f, r⟩ := h
    exact ⟨a, vs, e, f.sq, r⟩
  | lst xs =>
    obtain ⟨a, vs, e, f, r⟩ := h
    exact ⟨a, vs, e, f.1, r⟩
  | dct t kvs =>
    obtain ⟨a, e, n, r⟩ := h
    exact ⟨a, e, r⟩
  | obj c fs =>
    obtain ⟨a, dx, ps, e, n, r⟩ := h
    exact ⟨a, dx, ps, e, r⟩
  | _ => exact h
theorem view {x : X} {v : V} {d : D} (R : Rep G F ρ st H) (h : RelX G F ρ H x v) (e : deref st x = some d) : RelW G (Nn F ρ) H d v := by
  cases x with
  | d y =>
    have e' : y = d := Option.some.inj e
    rw [← e']
    exact RelD.w h
  | loc l =>
    obtain ⟨a, e1, e2⟩ := h
    unfold deref at e
    cases q : st[l]? with
    | none => simp only [q] at e; cases e
    | some m =>
      have rm := R.obj l a m e1 q
      cases m with
      | lst xs =>
        simp only [q] at e
        have e' : D.lst xs = d := Option.some.inj e
        rw [← e']
        obtain ⟨vs, h1, h2⟩ := rm
        exact ⟨a, vs, e2, h1, h2⟩
      | dct t xs =>
        simp only [q] at e
        have e' : D.dct t xs = d := Option.some.inj e
        rw [← e']
        exact ⟨a, e2, rm⟩
      | ins c fs =>
        simp only [q] at e
        have e' : D.obj c fs = d := Option.some.inj e
        rw [← e']
        obtain ⟨dx, ps, h1, h2⟩ := rm
        exact ⟨a, dx, ps, e2, h1, h2⟩
end
/-- two values as data -/
def f2 (g : D → D → Store → O X) : X → X → Store → O X := fun x y st => match deref st x, deref st y with
  | some a, some b => g a b st
  | _, _ => .bad
def f1 (g : D → Store → O X) : List X → Store → O X := fun xs st => match xs with
  | [x] => (match deref st x with
    | some a => g a st
    | none => .bad)
  | _ => .bad
def f11 (g : D → D → Store → O X) : List X → Store → O X := fun xs st => match xs with
  | [x, y] => f2 g x y st
  | _ => .bad
section
variable {G : Gm} {E : XK}
theorem op2 {r : R2} {g : D → D → Store → O X} (h : ∀ (E : XK) (F : Addr → Prop) (ρ : List Addr) (H : Hp) (st : Store) (a b : D) (v w : V) (Q : VK), Rep G F ρ st H → RelW G (Nn F ρ) H a v → RelW G (Nn F ρ) H b w → PostG G E (rX G) F ρ H (g a b st) Q → r v w H Q) : OpV G r (f2 g) := by
  intro E F ρ H st x y v w Q R rx ry h'
  unfold f2 at h'
  cases q : deref st x with
  | none => rw [q] at h'; exact h'.elim
  | some a =>
    cases q2 : deref st y with
    | none => rw [q, q2] at h'; exact h'.elim
    | some b =>
      rw [q, q2] at h'
      exact h E F ρ H st a b v w Q R (view R rx q) (view R ry q2) h'
theorem cal1 {r : List V → Hp → VK → Prop} {g : D → Store → O X} (h : ∀ (E : XK) (F : Addr → Prop) (ρ : List Addr) (H : Hp) (st : Store) (a : D) (v : V) (Q : VK), Rep G F ρ st H → RelW G (Nn F ρ) H a v → PostG G E (rX G) F ρ H (g a st) Q → r [v] H Q) : CallV G r (f1 g) := by
  intro E F ρ H st xs vs Q R rs h'
  unfold f1 at h'
  cases xs with
  | nil => exact h'.elim
  | cons x t =>
    cases t with
    | cons _ _ => exact h'.elim
    | nil =>
      obtain ⟨v, r', e, rx, e2⟩ := rs
      have e2' : r' = [] := e2
      subst e2'
      subst e
      cases q : deref st x with
      | none => simp only [q] at h'; exact h'.elim
      | some a =>
        simp only [q] at h'
        exact h E F ρ H st a v Q R (view R rx q) h'
theorem cal2 {r : List V → Hp → VK → Prop} {g : D → D → Store → O X} (h : ∀ (E : XK) (F : Addr → Prop) (ρ : List Addr) (H : Hp) (st : Store) (a b : D) (v w : V) (Q : VK), Rep G F ρ st H → RelW G (Nn F ρ) H a v → RelW G (Nn F ρ) H b w → PostG G E (rX G) F ρ H (g a b st) Q → r [v, w] H Q) : CallV G r (f11 g) := by
  intro E F ρ H st xs vs Q R rs h'
  unfold f11 at h'
  cases xs with
  | nil => exact h'.elim
  | cons x t =>
    cases t with
    | nil => exact h'.elim
    | cons y t =>
      cases t with
      | cons _ _ => exact h'.elim
      | nil =>
        obtain ⟨v, r', e, rx, w, r2, e2, ry, e3⟩ := rs
        have e3' : r2 = [] := e3
        subst e3'
        subst e2
        subst e
        exact op2 (G := G) (r := fun v w H Q => r [v, w] H Q) h E F ρ H st x y v w Q R rx ry h'
/-- data that is no thing -/
theorem now1 {F : Addr → Prop} {ρ : List Addr} {H : Hp} {st : Store} {x : D} {v : V} {Q : VK} (R : Rep G F ρ st H) (h : PostG G E (rX G) F ρ H (.ok (.d x) st) Q) (r : RelD G (Nn F ρ) H x v) : Q v H := PostG.now (R := rX G) h R r

/-! ### arithmetic -/
def gAdd (mu : Bool) : D → D → Store → O X
  | .int i, .int j, st => .ok (.d (.int (i + j))) st
  | .str a, .str b, st => (match small (a.length + b.length) with
    | true => .ok (.d (.str (a ++ b))) st
    | false => .bad)
  | .tup _ (x :: a), .tup _ (y :: b), st => (match small ((x :: a).length + (y :: b).length) with
    | true => newT ((x :: a) ++ (y :: b)) st
    | false => .bad)
  | .lst a, .lst b, st => (match small (a.length + b.length) with
    | true => newL mu (a ++ b) st
    | false => .bad)
  | _, _, _ => .bad
theorem str_append (a b : List Nat) : strOf a ++ strOf b = strOf (a ++ b) := by
  show (⟨a.toArray ++ b.toArray⟩ : Str) = ⟨(a ++ b).toArray⟩
  simp
theorem str_len (a : List Nat) : (strOf a).length = a.length := by
  show a.toArray.size = a.length
  simp
abbrev rAddAll (K : PySem.W.Frag) : R2 := fun x y H Q => (rI0 fun i j => .int (i + j)) x y H Q ∨ (∃ i j, x = .str i ∧ y = .str j ∧ i.length + j.length ≤ sizeLine ∧ Q (.str (i ++ j)) H) ∨ rCatT K x y H Q ∨ rCat x y H Q
theorem add_all {X : Cx} : OpR X (binaryOp .Add) (rAddAll X.K) := op_add.or (op_add_str.or (op_catT.or op_cat))
theorem add_v {mu : Bool} : OpV G (rAddAll G.K) (f2 (gAdd mu)) := op2 fun E F ρ H st a b v w Q R ra rb h => by
  cases a with
  | int i =>
    cases b with
    | int j => exact .inl ⟨i, j, ra, rb, now1 R h rfl⟩
    | _ => exact h.elim
  | str i =>
    cases b with
    | str j =>
      unfold gAdd at h
      cases z : small (i.length + j.length) with
      | false => simp only [z] at h; exact h.elim
      | true =>
        simp only [z] at h
        refine .inr (.inl ⟨strOf i, strOf j, ra, rb, by rw [str_len, str_len]; exact small_ok z, ?_⟩)
        rw [str_append]
        exact now1 R h rfl
    | _ => exact h.elim
  | tup f1 i =>
    cases i with
    | nil => exact h.elim
    | cons x i =>
      cases b with
      | tup f2 j =>
        cases j with
        | nil => exact h.elim
        | cons y j =>
          unfold gAdd at h
          cases z : small ((x :: i).length + (y :: j).length) with
          | false => simp only [z] at h; exact h.elim
          | true =>
            simp only [z] at h
            obtain ⟨p, vs, e1, f1, r1⟩ := ra
            obtain ⟨q, ws, e2, f2, r2⟩ := rb
            have l1 := r1.length
            have l2 := r2.length
            refine .inr (.inr (.inl ⟨p, q, vs, ws, e1, e2, f1, f2, ?_, by rw [l1, l2]; exact small_ok z, ?_⟩))
            · rintro rfl; cases l1
            · refine ⟨?_, ?_⟩
              · rintro rfl; cases l2
              · exact fun _ a ha => newT_ok R (r1.append r2) ha h
      | _ => exact h.elim
  | lst i =>
    cases b with
    | lst j =>
      unfold gAdd at h
      cases z : small (i.length + j.length) with
      | false => simp only [z] at h; exact h.elim
      | true =>
        simp only [z] at h
        obtain ⟨p, vs, e1, f1, r1⟩ := ra
        obtain ⟨q, ws, e2, f2, r2⟩ := rb
        exact .inr (.inr (.inr ⟨p, q, vs, ws, e1, e2, f1, f2, by rw [r1.length, r2.length]; exact small_ok z, fun a ha => newL_ok R (r1.append r2) ha h⟩))
    | _ => exact h.elim
  | _ => exact h.elim
def gSub : D → D → Store → O X
  | .int i, .int j, st => .ok (.d (.int (i - j))) st
  | _, _, _ => .bad
theorem sub_v : OpV G (rI0 fun i j => .int (i - j)) (f2 gSub) := op2 fun E F ρ H st a b v w Q R ra rb h => by
  cases a with
  | int i =>
    cases b with
    | int j => exact ⟨i, j, ra, rb, now1 R h rfl⟩
    | _ => exact h.elim
  | _ => exact h.elim
def lowI (i : Int) : Bool := Nat.blt i.natAbs 18446744073709551616
theorem lowI_ok {i : Int} (h : lowI i = true) : -(2 ^ 64) < i ∧ i < 2 ^ 64 := by
  have h' : i.natAbs < 18446744073709551616 := Nat.le_of_ble_eq_true h
  omega
def repL {α : Type} : Nat → List α → List α
  | 0, _ => []
  | n + 1, xs => xs ++ repL n xs
def gMul (mu : Bool) : D → D → Store → O X
  | .int i, .int j, st => (match lowI j || lowI i with
    | true => .ok (.d (.int (i * j))) st
    | false => .bad)
  | .lst a, .int k, st => (match Nat.blt k.natAbs 9223372036854775808 && small (a.length * k.toNat) with
    | true => newL mu (repL k.toNat a) st
    | false => .bad)
  | _, _, _ => .bad
abbrev rMulAll : R2 := fun x y H Q => (rI CMul fun i j => .int (i * j)) x y H Q ∨ rRep x y H Q
theorem mul_all {X : Cx} : OpR X (binaryOp .Mult) rMulAll := op_mul.or op_rep
theorem repL_eq {α : Type} (xs : List α) : ∀ n : Nat, repL n xs = (List.replicate n xs).flatten
  | 0 => rfl
  | n + 1 => by rw [List.replicate_succ, List.flatten_cons, repL, repL_eq xs n]
theorem rel_rep {N : Addr → Prop} {H : Hp} {xs : List D} {vs : List V} (h : RelDs G N H xs vs) : ∀ n : Nat, RelDs G N H (repL n xs) (repL n vs)
  | 0 => rfl
  | n + 1 => h.append (rel_rep h n)
theorem mul_v {mu : Bool} : OpV G rMulAll (f2 (gMul mu)) := op2 fun E F ρ H st a b v w Q R ra rb h => by
  cases a with
  | int i =>
    cases b with
    | int j =>
      unfold gMul at h
      cases z : (lowI j || lowI i) with
      | false => simp only [z] at h; exact h.elim
      | true =>
        simp only [z] at h
        refine .inl ⟨i, j, ra, rb, ?_, now1 R h rfl⟩
        rcases Bool.or_eq_true_iff.mp z with z | z
        · exact .inr (lowI_ok z)
        · exact .inl (lowI_ok z)
    | _ => exact h.elim
  | lst xs =>
    cases b with
    | int k =>
      unfold gMul at h
      cases z : (Nat.blt k.natAbs 9223372036854775808 && small (xs.length * k.toNat)) with
      | false => simp only [z] at h; exact h.elim
      | true =>
        simp only [z] at h
        obtain ⟨z1, z2⟩ := Bool.and_eq_true_iff.mp z
        have z1' : k.natAbs < 9223372036854775808 := Nat.le_of_ble_eq_true z1
        obtain ⟨p, vs, e1, f1, r1⟩ := ra
        refine .inr ⟨p, k, vs, e1, rb, f1, by omega, by omega, by rw [r1.length]; exact small_ok z2, fun a ha => ?_⟩
        have := newL_ok R (rel_rep r1 k.toNat) ha h
        rw [repL_eq] at this
        exact this
    | _ => exact h.elim
  | _ => exact h.elim
def gDiv : D → D → Store → O X
  | .int i, .int j, st => (match Nat.blt 0 j.natAbs && Nat.blt j.natAbs 1073741824 with
    | true => .ok (.d (.int (i.fdiv j))) st
    | false => .bad)
  | _, _, _ => .bad
theorem div_v : OpV G (rI CDivN fun i j => .int (i.fdiv j)) (f2 gDiv) := op2 fun E F ρ H st a b v w Q R ra rb h => by
  cases a with
  | int i =>
    cases b with
    | int j =>
      unfold gDiv at h
      cases z : (Nat.blt 0 j.natAbs && Nat.blt j.natAbs 1073741824) with
      | false => simp only [z] at h; exact h.elim
      | true =>
        simp only [z] at h
        obtain ⟨z1, z2⟩ := Bool.and_eq_true_iff.mp z
        have z1' : 0 < j.natAbs := Nat.le_of_ble_eq_true z1
        have z2' : j.natAbs < 1073741824 := Nat.le_of_ble_eq_true z2
        exact ⟨i, j, ra, rb, ⟨by omega, z2'⟩, now1 R h rfl⟩
    | _ => exact h.elim
  | _ => exact h.elim
def gMod : D → D → Store → O X
  | .int i, .int j, st => (match Nat.blt 0 j.natAbs with
    | true => .ok (.d (.int (i.fmod j))) st
    | false => .bad)
  | _, _, _ => .bad
theorem mod_v : OpV G (rI (fun _ j => j ≠ 0) fun i j => .int (i.fmod j)) (f2 gMod) := op2 fun E F ρ H st a b v w Q R ra rb h => by
  cases a with
  | int i =>
    cases b with
    | int j =>
      unfold gMod at h
      cases z : (Nat.blt 0 j.natAbs) with
      | false => simp only [z] at h; exact h.elim
      | true =>
        simp only [z] at h
        have z1' : 0 < j.natAbs := Nat.le_of_ble_eq_true z
        exact ⟨i, j, ra, rb, by omega, now1 R h rfl⟩
    | _ => exact h.elim
  | _ => exact h.elim
def gPow : D → D → Store → O X
  | .int i, .int (.ofNat j), st => (match Nat.ble j 1000 && lowI i with
    | true => .ok (.d (.int (i ^ j))) st
    | false => .bad)
  | _, _, _ => .bad
theorem pow_v : OpV G (rI CPow fun i j => .int (i ^ j.toNat)) (f2 gPow) := op2 fun E F ρ H st a b v w Q R ra rb h => by
  cases a with
  | int i =>
    cases b with
    | int j =>
      cases j with
      | negSucc j => exact h.elim
      | ofNat j =>
        unfold gPow at h
        cases z : (Nat.ble j 1000 && lowI i) with
        | false => simp only [z] at h; exact h.elim
        | true =>
          simp only [z] at h
          obtain ⟨z1, z2⟩ := Bool.and_eq_true_iff.mp z
          have z1' : j ≤ 1000 := Nat.le_of_ble_eq_true z1
          have z2' : i.natAbs < 18446744073709551616 := Nat.le_of_ble_eq_true z2
          exact ⟨i, Int.ofNat j, ra, rb, ⟨Int.natCast_nonneg j, by show (j : Int) ≤ 1000000; omega, z2'⟩, now1 R h rfl⟩
    | _ => exact h.elim
  | _ => exact h.elim
/-! ### comparisons of ints and texts -/
def ltI (i j : Int) : Bool := match i, j with
  | .ofNat a, .ofNat b => Nat.blt a b
  | .negSucc a, .negSucc b => Nat.blt b a
  | .negSucc _, .ofNat _ => true
  | .ofNat _, .negSucc _ => false
theorem blt_eq (a b : Nat) : Nat.blt a b = decide (a < b) := by
  cases q : Nat.blt a b with
  | true => exact (decide_eq_true (Nat.le_of_ble_eq_true q)).symm
  | false =>
    symm
    refine decide_eq_false fun z => ?_
    have : Nat.blt a b = true := Nat.ble_eq_true_of_le z
    rw [this] at q; cases q
theorem ltI_eq (i j : Int) : ltI i j = decide (i < j) := by
  cases i with
  | ofNat a =>
    cases j with
    | ofNat b =>
      show Nat.blt a b = _
      rw [blt_eq]
      have : ((Int.ofNat a < Int.ofNat b) = (a < b)) := by simp
      simp [this]
    | negSucc b =>
      show false = _
      symm
      refine decide_eq_false fun z => ?_
      have := Int.negSucc_lt_zero b
      have h2 : (0 : Int) ≤ Int.ofNat a := Int.natCast_nonneg a
      omega
  | negSucc a =>
    cases j with
    | ofNat b =>
      show true = _
      symm
      refine decide_eq_true ?_
      have := Int.negSucc_lt_zero a
      have h2 : (0 : Int) ≤ Int.ofNat b := Int.natCast_nonneg b
      omega
    | negSucc b =>
      show Nat.blt b a = _
      rw [blt_eq]
      have e : (Int.negSucc a < Int.negSucc b) ↔ b < a := by
        rw [Int.negSucc_eq, Int.negSucc_eq]
        omega
      rw [decide_eq_decide.mpr e]
def gLt : D → D → Store → O X
  | .int i, .int j, st => .ok (.d (.bl (ltI i j))) st
  | _, _, _ => .bad
def gLe : D → D → Store → O X
  | .int i, .int j, st => .ok (.d (.bl (!ltI j i))) st
  | _, _, _ => .bad
def gGt : D → D → Store → O X
  | .int i, .int j, st => .ok (.d (.bl (ltI j i))) st
  | _, _, _ => .bad
def gGe : D → D → Store → O X
  | .int i, .int j, st => .ok (.d (.bl (!ltI i j))) st
  | _, _, _ => .bad
theorem leI_eq (i j : Int) : decide (i ≤ j) = !decide (j < i) := by
  by_cases h : i ≤ j
  · rw [decide_eq_true h, decide_eq_false (by omega)]; rfl
  · rw [decide_eq_false h, decide_eq_true (by omega)]; rfl
theorem lt_v : OpV G (rI0 fun i j => .bl (decide (i < j))) (f2 gLt) := op2 fun E F ρ H st a b v w Q R ra rb h => by
  cases a with
  | int i =>
    cases b with
    | int j => exact ⟨i, j, ra, rb, now1 R h (by show V.bl _ = V.bl _; rw [ltI_eq])⟩
    | _ => exact h.elim
  | _ => exact h.elim
theorem le_v : OpV G (rI0 fun i j => .bl (decide (i ≤ j))) (f2 gLe) := op2 fun E F ρ H st a b v w Q R ra rb h => by
  cases a with
  | int i =>
    cases b with
    | int j => exact ⟨i, j, ra, rb, now1 R h (by show V.bl _ = V.bl _; rw [ltI_eq, leI_eq])⟩
    | _ => exact h.elim
  | _ => exact h.elim
theorem gt_v : OpV G (rI0 fun i j => .bl (decide (j < i))) (f2 gGt) := op2 fun E F ρ H st a b v w Q R ra rb h => by
  cases a with
  | int i =>
    cases b with
    | int j => exact ⟨i, j, ra, rb, now1 R h (by show V.bl _ = V.bl _; rw [ltI_eq])⟩
    | _ => exact h.elim
  | _ => exact h.elim
theorem ge_v : OpV G (rI0 fun i j => .bl (decide (j ≤ i))) (f2 gGe) := op2 fun E F ρ H st a b v w Q R ra rb h => by
  cases a with
  | int i =>
    cases b with
    | int j => exact ⟨i, j, ra, rb, now1 R h (by show V.bl _ = V.bl _; rw [ltI_eq, leI_eq])⟩
    | _ => exact h.elim
  | _ => exact h.elim
end
end DH
namespace DH
open PySem PySem.Spec PyProof.Rows L2
/-! ### equality of data -/
def eqN : List Nat → List Nat → Bool
  | [], [] => true
  | x :: xs, y :: ys => (match Nat.beq x y with
    | true => eqN xs ys
    | false => false)
  | _, _ => false
theorem eqN_eq : ∀ a b : List Nat, eqN a b = decide (a = b)
  | [], [] => rfl
  | [], y :: ys => rfl
  | x :: xs, [] => rfl
  | x :: xs, y :: ys => by
    unfold eqN
    cases q : Nat.beq x y with
    | true =>
      have e := Nat.eq_of_beq_eq_true q
      subst e
      simp only [eqN_eq xs ys, List.cons.injEq, true_and]
    | false =>
      have e := Nat.ne_of_beq_eq_false q
      simp [e]
def eqI (i j : Int) : Bool := match i, j with
  | .ofNat a, .ofNat b => Nat.beq a b
  | .negSucc a, .negSucc b => Nat.beq a b
  | _, _ => false
theorem eqI_eq (i j : Int) : eqI i j = (i == j) := by
  cases i with
  | ofNat a =>
    cases j with
    | ofNat b =>
      show Nat.beq a b = _
      cases q : Nat.beq a b with
      | true =>
        have e := Nat.eq_of_beq_eq_true q
        subst e
        simp
      | false =>
        have e := Nat.ne_of_beq_eq_false q
        symm
        rw [beq_eq_false_iff_ne]
        intro z
        cases z
        exact e rfl
    | negSucc b =>
      symm
      show ((Int.ofNat a) == (Int.negSucc b)) = false
      rw [beq_eq_false_iff_ne]
      intro z
      cases z
  | negSucc a =>
    cases j with
    | ofNat b =>
      symm
      show ((Int.negSucc a) == (Int.ofNat b)) = false
      rw [beq_eq_false_iff_ne]
      intro z
      cases z
    | negSucc b =>
      show Nat.beq a b = _
      cases q : Nat.beq a b with
      | true =>
        have e := Nat.eq_of_beq_eq_true q
        subst e
        simp
      | false =>
        have e := Nat.ne_of_beq_eq_false q
        symm
        rw [beq_eq_false_iff_ne]
        intro z
        cases z
        exact e rfl
def allB {α : Type} (f : α → Bool) : List α → Bool
  | [] => true
  | x :: xs => (match f x with
    | true => allB f xs
    | false => false)
def all2 {α : Type} (f : α → α → Bool) : List α → List α → Bool
  | [], [] => true
  | x :: xs, y :: ys => (match f x y with
    | true => all2 f xs ys
    | false => false)
  | _, _ => false
/-- data without dicts and objects, not too deep -/
def okD : Nat → D → Bool
  | _, .non => true
  | _, .bl _ => true
  | _, .int _ => true
  | _, .str cs => allB (fun c => Nat.blt c 1114112) cs
  | n + 1, .tup _ xs => allB (okD n) xs
  | n + 1, .lst xs => allB (okD n) xs
  | _, _ => false
def eqD : Nat → D → D → Bool
  | _, .non, .non => true
  | _, .bl a, .bl b => (match a, b with
    | true, true => true
    | false, false => true
    | _, _ => false)
  | _, .bl a, .int j => eqI (match a with | true => 1 | false => 0) j
  | _, .int i, .bl b => eqI i (match b with | true => 1 | false => 0)
  | _, .int i, .int j => eqI i j
  | _, .str a, .str b => eqN a b
  | n + 1, .tup _ a, .tup _ b => all2 (eqD n) a b
  | n + 1, .lst a, .lst b => all2 (eqD n) a b
  | _, _, _ => false
mutual
def toPy : D → PyData
  | .non => .none
  | .bl b => .bool b
  | .int i => .int i
  | .str cs => .str (strOf cs)
  | .tup _ xs => .tuple (toPys xs)
  | .lst xs => .list (toPys xs)
  | .dct _ _ => .none
  | .obj _ _ => .none
def toPys : List D → List PyData
  | [] => []
  | x :: xs => toPy x :: toPys xs
end
theorem allB_iff {α : Type} (f : α → Bool) : ∀ xs : List α, allB f xs = true ↔ ∀ x ∈ xs, f x = true
  | [] => by simp [allB]
  | x :: xs => by
    unfold allB
    cases q : f x with
    | true => simp [q, allB_iff f xs]
    | false => simp [q]
theorem all2_iff {α : Type} (f : α → α → Bool) : ∀ xs ys : List α, all2 f xs ys = true ↔ xs.length = ys.length ∧ ∀ (i : Nat) (x y : α), xs[i]? = some x → ys[i]? = some y → f x y = true
  | [], [] => by simp [all2]
  | [], y :: ys => by simp [all2]
  | x :: xs, [] => by simp [all2]
  | x :: xs, y :: ys => by
    unfold all2
    cases q : f x y with
    | true =>
      simp only [all2_iff f xs ys, List.length_cons, Nat.add_right_cancel_iff]
      constructor
      · rintro ⟨h1, h2⟩
        refine ⟨h1, fun i a b ha hb => ?_⟩
        cases i with
        | zero => simp at ha hb; rw [← ha, ← hb]; exact q
        | succ i => exact h2 i a b (by simpa using ha) (by simpa using hb)
      · rintro ⟨h1, h2⟩
        exact ⟨h1, fun i a b ha hb => h2 (i + 1) a b (by simpa using ha) (by simpa using hb)⟩
    | false =>
      constructor
      · intro h; cases h
      · rintro ⟨_, h⟩
        have := h 0 x y rfl rfl
        rw [q] at this; cases this
theorem toPys_map : ∀ xs : List D, toPys xs = xs.map toPy
  | [] => rfl
  | x :: xs => by rw [toPys, List.map_cons, toPys_map xs]
theorem okD_depth : ∀ (n : Nat) (x : D), okD n x = true → (toPy x).depth ≤ n ∧ (toPy x).canLay0 = true := by
  have all : ∀ (n : Nat) (xs : List D), (∀ x, okD n x = true → (toPy x).depth ≤ n ∧ (toPy x).canLay0 = true) → allB (okD n) xs = true → PyData.depthAll (toPys xs) ≤ n ∧ PyData.canLayAll0 (toPys xs) = true := by
    intro n xs hk
    induction xs with
    | nil => intro _; exact ⟨Nat.zero_le _, rfl⟩
    | cons x xs ih =>
      intro h
      have h' := (allB_iff _ _).mp h
      obtain ⟨a1, a2⟩ := hk x (h' x List.mem_cons_self)
      obtain ⟨b1, b2⟩ := ih ((allB_iff _ _).mpr fun y hy => h' y (List.mem_cons_of_mem _ hy))
      refine ⟨?_, ?_⟩
      · show max (toPy x).depth (PyData.depthAll (toPys xs)) ≤ n
        exact Nat.max_le.mpr ⟨a1, b1⟩
      · show ((toPy x).canLay0 && PyData.canLayAll0 (toPys xs)) = true
        rw [a2, b2]; rfl
  have str : ∀ cs : List Nat, allB (fun c => Nat.blt c 1114112) cs = true → PyData.canLay0 (.str (strOf cs)) = true := by
    intro cs h
    have h' := (allB_iff _ _).mp h
    show (strOf cs).cps.all (· < 0x110000) = true
    show cs.toArray.all (· < 0x110000) = true
    rw [List.all_toArray, List.all_eq_true]
    intro c hc
    have : c < 1114112 := Nat.le_of_ble_eq_true (h' c hc)
    exact decide_eq_true this
  intro n
  induction n with
  | zero =>
    intro x h
    cases x with
    | str cs => exact ⟨Nat.le_refl _, str cs h⟩
    | tup f xs => cases h
    | lst xs => cases h
    | dct t xs => cases h
    | obj c xs => cases h
    | _ => exact ⟨Nat.le_refl _, rfl⟩
  | succ n ih =>
    intro x h
    cases x with
    | str cs => exact ⟨Nat.zero_le _, str cs h⟩
    | tup f xs =>
      obtain ⟨a, b⟩ := all n xs ih h
      exact ⟨Nat.succ_le_succ a, b⟩
    | lst xs =>
      obtain ⟨a, b⟩ := all n xs ih h
      exact ⟨Nat.succ_le_succ a, b⟩
    | dct t xs => cases h
    | obj c xs => cases h
    | _ => exact ⟨Nat.zero_le _, rfl⟩
theorem okD_shaped {x : D} (h : okD 64 x = true) : SeqAt.shaped (toPy x) = true := by
  obtain ⟨a, b⟩ := okD_depth 64 x h
  unfold SeqAt.shaped
  rw [b, decide_eq_true a]; rfl
theorem strOf_beq (a b : List Nat) : (strOf a == strOf b) = eqN a b := by
  rw [eqN_eq]
  by_cases e : a = b
  · subst e; simp
  · rw [decide_eq_false e, beq_eq_false_iff_ne]
    intro z
    exact e (by have q := congrArg (fun s : Str => s.cps.toList) z; simpa [strOf] using q)
theorem bool_case (a b : Bool) : (match a, b with | true, true => true | false, false => true | _, _ => false) = (a == b) := by cases a <;> cases b <;> rfl
theorem eqv_all : ∀ (n : Nat), (∀ x y, okD n x = true → okD n y = true → PyData.eqv (toPy x) (toPy y) = eqD n x y) → ∀ xs ys : List D, allB (okD n) xs = true → allB (okD n) ys = true → PyData.eqvAll (toPys xs) (toPys ys) = all2 (eqD n) xs ys
  | n, k, [], [], _, _ => rfl
  | n, k, [], y :: ys, _, _ => rfl
  | n, k, x :: xs, [], _, _ => rfl
  | n, k, x :: xs, y :: ys, h1, h2 => by
    have h1' := (allB_iff _ _).mp h1
    have h2' := (allB_iff _ _).mp h2
    show (PyData.eqv (toPy x) (toPy y) && PyData.eqvAll (toPys xs) (toPys ys)) = all2 (eqD n) (x :: xs) (y :: ys)
    rw [k x y (h1' x List.mem_cons_self) (h2' y List.mem_cons_self), eqv_all n k xs ys ((allB_iff _ _).mpr fun z hz => h1' z (List.mem_cons_of_mem _ hz)) ((allB_iff _ _).mpr fun z hz => h2' z (List.mem_cons_of_mem _ hz))]
    conv => rhs; unfold all2
    cases eqD n x y <;> rfl
theorem eqv_eq : ∀ (n : Nat) (x y : D), okD n x = true → okD n y = true → PyData.eqv (toPy x) (toPy y) = eqD n x y := by
  intro n
  induction n with
  | zero =>
    intro x y h1 h2
    cases x <;> first
      | (cases h1; done)
      | (cases y <;> first
          | (cases h2; done)
          | rfl
          | exact (bool_case _ _).symm
          | (exact (strOf_beq _ _))
          | (show (_ == _) = eqI _ _; rw [eqI_eq]; done)
          | (rename_i a b; show (_ == _) = eqI _ _; rw [eqI_eq]; cases a <;> rfl)
          | (rename_i a b; show (_ == _) = eqI _ _; rw [eqI_eq]; cases b <;> rfl))
  | succ n ih =>
    intro x y h1 h2
    cases x <;> first
      | (cases h1; done)
      | (cases y <;> first
          | (cases h2; done)
          | rfl
          | exact (bool_case _ _).symm
          | (exact (strOf_beq _ _))
          | (show (_ == _) = eqI _ _; rw [eqI_eq]; done)
          | (rename_i a b; show (_ == _) = eqI _ _; rw [eqI_eq]; cases a <;> rfl)
          | (rename_i a b; show (_ == _) = eqI _ _; rw [eqI_eq]; cases b <;> rfl)
          | exact eqv_all n ih _ _ h1 h2)
section
variable {G : Gm} {N : Addr → Prop} {H : Hp}
mutual
theorem RelD.dp : ∀ (x : D) {n : Nat} {v : V}, RelD G N H x v → okD n x = true → Dp G.K H v (toPy x)
  | .non, n, v, h, k => by
    have e : v = .non := h
    rw [e]; exact .non
  | .bl b, n, v, h, k => by
    have e : v = .bl b := h
    rw [e]; exact .bl b
  | .int i, n, v, h, k => by
    have e : v = .int i := h
    rw [e]; exact .int i
  | .str cs, n, v, h, k => by
    have e : v = .str (strOf cs) := h
    rw [e]; exact .str _
  | .tup _ xs, 0, v, h, k => by cases k
  | .tup _ xs, n + 1, v, h, k => by
    obtain ⟨a, vs, e, f, r⟩ := h
    rw [e]
    exact .tup f.sq (RelDs.dp xs r k)
  | .lst xs, 0, v, h, k => by cases k
  | .lst xs, n + 1, v, h, k => by
    obtain ⟨a, vs, e, f, r⟩ := h
    rw [e]
    exact .lst f.sq (RelDs.dp xs r k)
  | .dct t xs, n, v, h, k => by cases n <;> cases k
  | .obj c xs, n, v, h, k => by cases n <;> cases k
theorem RelDs.dp : ∀ (xs : List D) {n : Nat} {vs : List V}, RelDs G N H xs vs → allB (okD n) xs = true → DpAll G.K H vs (toPys xs)
  | [], n, vs, h, k => by
    have e : vs = [] := h
    rw [e]; exact .nil
  | x :: xs, n, vs, h, k => by
    obtain ⟨v, r, e, h1, h2⟩ := h
    have k' := (allB_iff _ _).mp k
    rw [e]
    exact .cons (RelD.dp x h1 (k' x List.mem_cons_self)) (RelDs.dp xs h2 ((allB_iff _ _).mpr fun z hz => k' z (List.mem_cons_of_mem _ hz)))
end
theorem RelW.dp {x : D} {n : Nat} {v : V} (h : RelW G N H x v) (k : okD n x = true) : Dp G.K H v (toPy x) := by
  cases x with
  | tup f xs =>
    cases n with
    | zero => cases k
    | succ n =>
      obtain ⟨a, vs, e, f, r⟩ := h
      rw [e]
      exact .tup f (RelDs.dp xs r k)
  | lst xs =>
    cases n with
    | zero => cases k
    | succ n =>
      obtain ⟨a, vs, e, f, r⟩ := h
      rw [e]
      exact .lst (SqL.of f) (RelDs.dp xs r k)
  | dct t xs => cases n <;> cases k
  | obj c xs => cases n <;> cases k
  | non => exact RelD.dp _ (show RelD G N H _ v from h) k
  | bl b => exact RelD.dp _ (show RelD G N H _ v from h) k
  | int i => exact RelD.dp _ (show RelD G N H _ v from h) k
  | str cs => exact RelD.dp _ (show RelD G N H _ v from h) k
def gEq : D → D → Store → O X := fun a b st => match okD 64 a with
  | true => (match okD 64 b with
    | true => .ok (.d (.bl (eqD 64 a b))) st
    | false => .bad)
  | false => .bad
def gNe : D → D → Store → O X := fun a b st => match okD 64 a with
  | true => (match okD 64 b with
    | true => .ok (.d (.bl (!eqD 64 a b))) st
    | false => .bad)
  | false => .bad
theorem eq_v : OpV G (rEqD G.K) (f2 gEq) := op2 fun E F ρ H st a b v w Q R ra rb h => by
  unfold gEq at h
  cases z1 : okD 64 a with
  | false => simp only [z1] at h; exact h.elim
  | true =>
    cases z2 : okD 64 b with
    | false => simp only [z1, z2] at h; exact h.elim
    | true =>
      simp only [z1, z2] at h
      refine ⟨toPy a, toPy b, ra.dp z1, rb.dp z2, okD_shaped z1, okD_shaped z2, ?_⟩
      rw [eqv_eq 64 a b z1 z2]
      exact now1 R h rfl
theorem ne_v : OpV G (rNeD G.K) (f2 gNe) := op2 fun E F ρ H st a b v w Q R ra rb h => by
  unfold gNe at h
  cases z1 : okD 64 a with
  | false => simp only [z1] at h; exact h.elim
  | true =>
    cases z2 : okD 64 b with
    | false => simp only [z1, z2] at h; exact h.elim
    | true =>
      simp only [z1, z2] at h
      refine ⟨toPy a, toPy b, ra.dp z1, rb.dp z2, okD_shaped z1, okD_shaped z2, ?_⟩
      rw [eqv_eq 64 a b z1 z2]
      exact now1 R h rfl
end
end DH
namespace DH
open PySem PySem.Spec PyProof.Rows L2
/-! ### targets: a name, a tuple of targets -/
inductive Tgt where
  | nm (i : Nat) | tp (ts : List Tgt)
mutual
def tgTG (K : PySem.W.Frag) : Tgt → TG
  | .nm i => gName i
  | .tp ts => gTup K ts.length (tgTGs K ts)
def tgTGs (K : PySem.W.Frag) : List Tgt → TGs
  | [] => gNil
  | t :: r => gCons (tgTG K t) (tgTGs K r)
end
mutual
def tgM : Tgt → D → Slots → Option Slots
  | .nm i, x, sl => some (sl.set i (some (.d x)))
  | .tp ts, .tup _ xs, sl => tgMs ts xs sl
  | .tp _, _, _ => none
def tgMs : List Tgt → List D → Slots → Option Slots
  | [], [], sl => some sl
  | t :: ts, x :: xs, sl => (match tgM t x sl with
    | some sl1 => tgMs ts xs sl1
    | none => none)
  | _, _, _ => none
end
mutual
def tgIn (vs : List Nat) : Tgt → Bool
  | .nm i => vs.contains i
  | .tp ts => tgIns vs ts
def tgIns (vs : List Nat) : List Tgt → Bool
  | [] => true
  | t :: r => tgIn vs t && tgIns vs r
end
theorem wipe_at (σ : L2.St) (j : Nat) : ∀ vs : List Nat, (wipe σ vs)[j]? = if j ∈ vs then (if j < σ.length then some none else none) else σ[j]?
  | [] => by simp [wipe]
  | v :: vs => by
    unfold wipe
    by_cases h : v = j
    · subst h
      simp only [List.mem_cons, true_or, if_true]
      by_cases hl : v < σ.length
      · rw [List.getElem?_set_self (by rw [wipe_length]; exact hl), if_pos hl]
      · rw [List.getElem?_eq_none (by rw [List.length_set, wipe_length]; omega), if_neg hl]
    · rw [List.getElem?_set_ne h, wipe_at σ j vs]
      simp only [List.mem_cons, show (j = v) = False from eq_false fun e => h e.symm, false_or]
theorem wipe_set {σ : L2.St} {i : Nat} {o : Option V} {vs : List Nat} (h : i ∈ vs) : wipe (σ.set i o) vs = wipe σ vs := by
  refine List.ext_getElem? fun j => ?_
  rw [wipe_at, wipe_at, List.length_set]
  by_cases hj : j ∈ vs
  · rw [if_pos hj, if_pos hj]
  · rw [if_neg hj, if_neg hj, List.getElem?_set_ne]
    rintro rfl
    exact hj h
theorem wipe_wipe (σ : L2.St) (vs : List Nat) : wipe (wipe σ vs) vs = wipe σ vs := by
  refine List.ext_getElem? fun j => ?_
  rw [wipe_at, wipe_at, wipe_length]
  by_cases hj : j ∈ vs
  · rw [if_pos hj, if_pos hj]
  · rw [if_neg hj, if_neg hj]
section
variable {G : Gm} {F : Addr → Prop} {ρ : List Addr} {H : Hp}
mutual
theorem tg_ok {vs : List Nat} : ∀ (t : Tgt) {x : D} {v : V} {sl sl' : Slots} {σ : L2.St} {Q : L2.St → Hp → Prop}, RelD G (Nn F ρ) H x v → tgM t x sl = some sl' → SlOk G F ρ H sl σ →
    (∀ σ', SlOk G F ρ H sl' σ' → (tgIn vs t = true → wipe σ' vs = wipe σ vs) → Q σ' H) → tgTG G.K t v σ H Q
  | .nm i, x, v, sl, sl', σ, Q, r, e, sk, h => by
    have e' : sl.set i (some (.d x)) = sl' := Option.some.inj e
    rw [← e'] at h
    exact h _ (sk.set i (x := .d x) r) fun z => wipe_set (by simpa [tgIn] using z)
  | .tp ts, x, v, sl, sl', σ, Q, r, e, sk, h => by
    cases x with
    | tup f xs =>
      obtain ⟨a, ws, ev, fz, rs⟩ := r
      have hl : ts.length = xs.length := tgMs_len ts xs e
      exact ⟨a, ws, ev, fz.sq, by rw [rs.length, hl], tgs_ok (vs := vs) ts rs e sk h⟩
    | _ => cases e
theorem tgs_ok {vs : List Nat} : ∀ (ts : List Tgt) {xs : List D} {ws : List V} {sl sl' : Slots} {σ : L2.St} {Q : L2.St → Hp → Prop}, RelDs G (Nn F ρ) H xs ws → tgMs ts xs sl = some sl' → SlOk G F ρ H sl σ →
    (∀ σ', SlOk G F ρ H sl' σ' → (tgIns vs ts = true → wipe σ' vs = wipe σ vs) → Q σ' H) → tgTGs G.K ts ws σ H Q
  | [], xs, ws, sl, sl', σ, Q, r, e, sk, h => by
    cases xs with
    | nil =>
      have e' : sl = sl' := Option.some.inj e
      rw [← e'] at h
      exact ⟨r, h σ sk fun _ => rfl⟩
    | cons _ _ => cases e
  | t :: ts, xs, ws, sl, sl', σ, Q, r, e, sk, h => by
    cases xs with
    | nil => cases e
    | cons x xs =>
      obtain ⟨v, rest, ew, r1, r2⟩ := r
      have e' : (match tgM t x sl with | some sl1 => tgMs ts xs sl1 | none => none) = some sl' := e
      cases q : tgM t x sl with
      | none => rw [q] at e'; cases e'
      | some sl1 =>
        rw [q] at e'
        refine ⟨v, rest, ew, tg_ok (vs := vs) t r1 q sk fun σ1 sk1 w1 => tgs_ok (vs := vs) ts r2 e' sk1 fun σ2 sk2 w2 => h σ2 sk2 fun z => ?_⟩
        obtain ⟨z1, z2⟩ := Bool.and_eq_true_iff.mp (show (tgIn vs t && tgIns vs ts) = true from z)
        rw [w2 z2, w1 z1]
theorem tgMs_len : ∀ (ts : List Tgt) (xs : List D) {sl sl' : Slots}, tgMs ts xs sl = some sl' → ts.length = xs.length
  | [], [], sl, sl', e => rfl
  | [], x :: xs, sl, sl', e => by cases e
  | t :: ts, [], sl, sl', e => by cases e
  | t :: ts, x :: xs, sl, sl', e => by
    have e' : (match tgM t x sl with | some sl1 => tgMs ts xs sl1 | none => none) = some sl' := e
    cases q : tgM t x sl with
    | none => rw [q] at e'; cases e'
    | some sl1 =>
      rw [q] at e'
      rw [List.length_cons, List.length_cons, tgMs_len ts xs e']
end
end
/-! ### what is walked -/
structure ItOk (G : Gm) (F : Addr → Prop) (ρ0 : List Addr) (H0 : Hp) (xs : List D) (J : It) : Prop where
  stop : ∀ ρ H, Stp ρ0 H0 ρ H → J.stop xs.length H
  go : ∀ (F' : Addr → Prop) (i : Nat) x ρ H st, (∀ a, F' a → F a ∨ H0 a = none) → xs[i]? = some x → Stp ρ0 H0 ρ H → Rep G F' ρ st H → J.go i H ∧ ∀ v H', J.yld i H v H' → (H' = H ∨ ∃ p o, H p = none ∧ NT o ∧ H' = upd H p o) ∧ RelD G (Nn F' ρ) H' x v
def rIt (G : Gm) : Rl (List D) It := fun F ρ H xs J => ItOk G F ρ H xs J
abbrev rdI (G : Gm) (E : XK) (m : EM (List D)) : TI := rd G E (rIt G) m
theorem PI.imp {X : Cx} {tg it : Expr} {t t' : TI} (h : PI X tg it t) (k : ∀ σ H Q, t' σ H Q → t σ H Q) : PI X tg it t' := ⟨fun p s σ H Q I q => h.run p s σ H Q I (k σ H Q q)⟩
section
variable {G : Gm} {E : XK}
/-- for target in xs: body -/
def fLoop (t : Tgt) (b : SM) : List D → SM
  | [], sl, st => .nx sl st
  | x :: xs, sl, st => (match tgM t x sl with
    | none => .bad
    | some sl1 => (match b sl1 st with
      | .nx sl' st' => fLoop t b xs sl' st'
      | .ct sl' st' => fLoop t b xs sl' st'
      | .bk sl' st' => .nx sl' st'
      | o => o))
def sFor (m : EM (List D)) (t : Tgt) (b : SM) : SM := fun sl st => (m sl st).s fun xs st1 => fLoop t b xs sl st1
theorem stp_yld {ρ : List Addr} {H H' : Hp} (h : H' = H ∨ ∃ p o, H p = none ∧ NT o ∧ H' = upd H p o) : Stp ρ H ρ H' := by
  rcases h with e | ⟨p, o, n, _, e⟩
  · rw [e]; exact Stp.refl _ _
  · rw [e]; exact stp_new n
theorem rep_yld {F : Addr → Prop} {ρ : List Addr} {st : Store} {H H' : Hp} (R : Rep G F ρ st H) (h : H' = H ∨ ∃ p o, H p = none ∧ NT o ∧ H' = upd H p o) : Rep G F ρ st H' := by
  rcases h with e | ⟨p, o, n, _, e⟩
  · rw [e]; exact R
  · rw [e]; exact R.new n
theorem rd_for {m : EM (List D)} {t : Tgt} {b : SM} {D : Ends} {σ : L2.St} {H : Hp} (h : rdS G E (sFor m t b) D σ H) : tFor (rdI G E m) (tgTG G.K t) (rdS G E b) D σ H := by
  obtain ⟨F, ρ, sl, st, sk, R, h⟩ := h
  refine ⟨F, ρ, sl, st, sk, R, PostG.mono (PostS.part (R := rIt G) h) fun J H1 h1 => ?_⟩
  obtain ⟨xs, st1, ρ1, s1, R1, it, h1⟩ := h1
  -- the invariant: what is left of the items
  refine ⟨fun i n σ H => n = xs.length - i ∧ i ≤ xs.length ∧ ∃ ρ sl st, Stp ρ1 H1 ρ H ∧ SlOk G F ρ H sl σ ∧ Rep G F ρ st H ∧ PostS G E F ρ H (fLoop t b (xs.drop i) sl st) D,
    ⟨xs.length, by simp, Nat.zero_le _, ρ1, sl, st1, Stp.refl _ _, sk.mono s1, R1, h1⟩, ?_⟩
  rintro i n σ2 H2 ⟨rfl, hi, ρ2, sl2, st2, s2, sk2, R2, h2⟩
  by_cases hlt : i < xs.length
  · right
    have hx : xs[i]? = some xs[i] := List.getElem?_eq_getElem hlt
    obtain ⟨go, yl⟩ := it.go F i xs[i] ρ2 H2 st2 (fun _ z => .inl z) hx s2 R2
    refine ⟨go, fun σ H => i + 1 ≤ xs.length ∧ ∃ ρ sl st, Stp ρ1 H1 ρ H ∧ SlOk G F ρ H sl σ ∧ Rep G F ρ st H ∧ PostS G E F ρ H (fLoop t b (xs.drop (i + 1)) sl st) D,
      fun σ' H' z => ⟨xs.length - (i + 1), by omega, rfl, z⟩, fun v H3 y3 => ?_⟩
    obtain ⟨e3, r3⟩ := yl v H3 y3
    have s3 : Stp ρ2 H2 ρ2 H3 := stp_yld e3
    have R3 := rep_yld R2 e3
    rw [List.drop_eq_getElem_cons hlt] at h2
    have h2' : PostS G E F ρ2 H2 (match tgM t xs[i] sl2 with
      | none => .bad
      | some sl1 => (match b sl1 st2 with
        | .nx sl' st' => fLoop t b (xs.drop (i + 1)) sl' st'
        | .ct sl' st' => fLoop t b (xs.drop (i + 1)) sl' st'
        | .bk sl' st' => .nx sl' st'
        | o => o)) D := h2
    cases q : tgM t xs[i] sl2 with
    | none => rw [q] at h2'; exact h2'.elim
    | some sl3 =>
      rw [q] at h2'
      refine tg_ok (vs := []) t r3 q (sk2.mono s3) fun σ3 sk3 _ => ⟨F, ρ2, sl3, st2, sk3, R3, ?_⟩
      have h3 : PostS G E F ρ2 H3 (match b sl3 st2 with
        | .nx sl' st' => fLoop t b (xs.drop (i + 1)) sl' st'
        | .ct sl' st' => fLoop t b (xs.drop (i + 1)) sl' st'
        | .bk sl' st' => .nx sl' st'
        | o => o) D := PostS.later s3 h2'
      cases q2 : b sl3 st2 with
      | nx sl' st' =>
        rw [q2] at h3
        exact fun ρ' H' σ' s' R' sk' => ⟨hlt, ρ', sl', st', (s2.trans s3).trans s', sk', R', PostS.later s' h3⟩
      | ct sl' st' =>
        rw [q2] at h3
        exact fun ρ' H' σ' s' R' sk' => ⟨hlt, ρ', sl', st', (s2.trans s3).trans s', sk', R', PostS.later s' h3⟩
      | bk sl' st' => rw [q2] at h3; exact h3
      | rt x st' => rw [q2] at h3; exact h3
      | exn c fs st' => rw [q2] at h3; exact h3
      | bad => rw [q2] at h3; exact h3
  · left
    have e : i = xs.length := by omega
    subst e
    rw [List.drop_length] at h2
    exact ⟨it.stop ρ2 H2 s2, h2 ρ2 H2 σ2 (Stp.refl _ _) R2 sk2⟩
theorem q_for {X : Cx} {tg iter : Expr} {body : List Stmt} {pos : Pos} {m : EM (List D)} {t : Tgt} {b : SM} (hK : G.K = X.K) (hp : PassesOwn (model X.prog X.w) X.A X.env X.xe) (hc : X.calm = true) (hi : PI X tg iter (rdI G E m)) (hg : PG X tg (tgTG X.K t)) (hb : PSs X body (rdS G E b))
    (hs : ∀ x, foldedSetIterable iter X.env x = pure x) : PS X (.For tg iter body [] pos) (rdS G E (sFor m t b)) := by
  refine PS.imp (ps_for hp hc hi hg hb hs) fun D σ H h => ?_
  have := rd_for h
  rw [hK] at this
  exact this
/-! ### comprehensions -/
def wipeS (sl : Slots) : List Nat → Slots
  | [] => sl
  | v :: vs => (wipeS sl vs).set v none
theorem SlOk.setN {F : Addr → Prop} {ρ : List Addr} {H : Hp} {sl : Slots} {σ : L2.St} {o : Option V} (h : SlOk G F ρ H sl σ) (i : Nat) : SlOk G F ρ H (sl.set i none) (σ.set i o) := by
  refine ⟨by rw [List.length_set, List.length_set, h.1], fun j y e => ?_⟩
  by_cases hj : i = j
  · subst hj
    by_cases hl : i < sl.length
    · rw [List.getElem?_set_self hl] at e; cases e
    · rw [List.getElem?_eq_none (by simpa using hl)] at e; cases e
  · rw [List.getElem?_set_ne hj] at e ⊢
    exact h.2 j y e
theorem wipeS_ok {F : Addr → Prop} {ρ : List Addr} {H : Hp} {sl : Slots} {σ : L2.St} (h : SlOk G F ρ H sl σ) : ∀ vs : List Nat, SlOk G F ρ H (wipeS sl vs) (wipe σ vs)
  | [] => h
  | v :: vs => (wipeS_ok h vs).setN v
/-- what is raised within a block is not told -/
def O.calm {α : Type} : O α → O α
  | .exn _ _ _ => .bad
  | o => o
/-- the block's turns: sl0, the slots with the block's own forgotten; acc, the items so far, the last first -/
def cLoop (t : Tgt) (c : EM Bool) (e : EM X) (sl0 : Slots) : List D → List D → Store → O (List D)
  | [], acc, st => .ok acc st
  | x :: xs, acc, st => (match tgM t x sl0 with
    | none => .bad
    | some sl1 => (match c sl1 st with
      | .ok true st1 => (match e sl1 st1 with
        | .ok (.d y) st2 => cLoop t c e sl0 xs (y :: acc) st2
        | _ => .bad)
      | .ok false st1 => cLoop t c e sl0 xs acc st1
      | _ => .bad))
def revD : List D → List D → List D
  | [], acc => acc
  | x :: xs, acc => revD xs (x :: acc)
theorem revD_eq : ∀ xs acc : List D, revD xs acc = xs.reverse ++ acc
  | [], acc => rfl
  | x :: xs, acc => by rw [revD, revD_eq xs, List.reverse_cons, List.append_assoc]; rfl
def eComp (mu : Bool) (vs : List Nat) (m : EM (List D)) (t : Tgt) (c : EM Bool) (e : EM X) : EM X := fun sl st => (m sl st).bind fun xs st1 => (match small xs.length with
  | true => (cLoop t c e (wipeS sl vs) xs [] st1).bind fun acc st2 => newL mu (revD acc []) st2
  | false => .bad)
/-- from one owner's eyes to another's -/
theorem RelX.mv {F F' : Addr → Prop} {ρ ρ' : List Addr} {H H' : Hp} (k : Keeps (Nn F ρ) H (Nn F' ρ') H') (pre : ∃ m, ρ' = ρ ++ m) {x : X} {v : V} (h : RelX G F ρ H x v) : RelX G F' ρ' H' x v := by
  cases x with
  | d y => exact RelD.mono k y h
  | loc l =>
    obtain ⟨a, e, r⟩ := h
    obtain ⟨m, q⟩ := pre
    refine ⟨a, ?_, r⟩
    rw [q, List.getElem?_append_left (List.getElem?_eq_some_iff.mp e).1]
    exact e
theorem SlOk.mv {F F' : Addr → Prop} {ρ ρ' : List Addr} {H H' : Hp} (k : Keeps (Nn F ρ) H (Nn F' ρ') H') (pre : ∃ m, ρ' = ρ ++ m) {sl : Slots} {σ : L2.St} (h : SlOk G F ρ H sl σ) : SlOk G F' ρ' H' sl σ :=
  ⟨h.1, fun i x e => by
    obtain ⟨v, q, r⟩ := h.2 i x e
    exact ⟨v, q, r.mv k pre⟩⟩
/-- the owner's eyes with one more thing in them -/
def F1 (F : Addr → Prop) (d : Addr) : Addr → Prop := fun a => F a ∨ a = d
theorem keeps_F1 {F : Addr → Prop} {ρ ρ' : List Addr} {H H' : Hp} {d : Addr} (s : Stp ρ H ρ' H') (hd : H d = none) : Keeps (Nn F ρ) H (Nn (F1 F d) ρ') H' := fun a o h n k => by
  obtain ⟨e, n'⟩ := (s.keeps (F := F)) a o h n k
  refine ⟨e, fun z => ?_⟩
  rcases z with (z | z) | z
  · exact n' (.inl z)
  · rw [z, hd] at h; cases h
  · exact n' (.inr z)
theorem keeps_unF1 {F : Addr → Prop} {ρ : List Addr} {H : Hp} {d : Addr} : Keeps (Nn (F1 F d) ρ) H (Nn F ρ) H := fun a o h n k => ⟨h, fun z => k (z.elim (fun z => .inl (.inl z)) .inr)⟩
/-- the block's new list changes: only that -/
theorem stp_own {ρ ρ' : List Addr} {H H' : Hp} {d : Addr} {o : HO} (s : Stp ρ H ρ' H') (hd : H d = none) : Stp ρ H ρ' (upd H' d o) := by
  refine ⟨fun a u e n hr => ?_, s.pre, s.new, fun a u e n => ?_⟩
  · rw [upd_ne (ne_of_none e hd)]; exact s.keep a u e n hr
  · obtain ⟨u', e', n'⟩ := s.some a u e n
    exact ⟨u', by rw [upd_ne (ne_of_none e hd)]; exact e', n'⟩
theorem keeps_own {F : Addr → Prop} {ρ : List Addr} {H : Hp} {d : Addr} {o : HO} : Keeps (Nn (F1 F d) ρ) H (Nn (F1 F d) ρ) (upd H d o) := fun a u h n k => by
  refine ⟨?_, k⟩
  rw [upd_ne]
  · exact h
  · rintro rfl; exact k (.inl (.inr rfl))
theorem rep_own {F : Addr → Prop} {ρ : List Addr} {st : Store} {H : Hp} {d : Addr} {xs ys : List V} (R : Rep G (F1 F d) ρ st H) (hd : H d = some (.lst xs)) : Rep G (F1 F d) ρ st (upd H d (.lst ys)) := by
  refine ⟨R.len, R.nd, R.dis, fun a z => ?_, fun l a m e1 e2 => ?_, fun p hp => ?_⟩
  · by_cases q : a = d
    · rw [q]; exact ⟨_, upd_same, _, rfl⟩
    · rw [upd_ne q]; exact R.fin a z
  · refine (R.obj l a m e1 e2).mono keeps_own ?_
    rw [upd_ne]
    rintro rfl
    exact R.dis _ (List.mem_of_getElem? e1) (.inr rfl)
  · obtain ⟨ps, h1, h2, h3⟩ := R.tab p hp
    refine ⟨ps, ?_, h2, fun pos cv hcv => ?_⟩
    · rw [upd_ne]
      · exact h1
      · rintro q
        rw [q, hd] at h1
        cases h1
    · obtain ⟨c, e1, e2⟩ := h3 pos cv hcv
      refine ⟨c, e1, ?_⟩
      rw [upd_ne]
      · exact e2
      · rintro q
        rw [q, hd] at e2
        unfold LamX.CodeO at e2
        cases e2
theorem rep_F1 {F : Addr → Prop} {ρ : List Addr} {st : Store} {H : Hp} {d : Addr} (R : Rep G F ρ st H) (hd : H d = none) : Rep G (F1 F d) ρ st (upd H d (.lst [])) := by
  have R1 : Rep G F ρ st (upd H d (.lst [])) := R.new hd
  refine ⟨R1.len, R1.nd, fun a ha z => ?_, fun a z => ?_, fun l a m e1 e2 => ?_, R1.tab⟩
  · rcases z with z | z
    · exact R1.dis a ha z
    · rw [z] at ha; exact R.fresh hd (.inr ha)
  · rcases z with z | z
    · exact R1.fin a z
    · rw [z]; exact ⟨_, upd_same, _, rfl⟩
  · refine (R.obj l a m e1 e2).mono (keeps_F1 (stp_new hd) hd) ?_
    rw [upd_ne]
    rintro rfl
    exact R.fresh hd (.inr (List.mem_of_getElem? e1))
theorem rep_unF1 {F : Addr → Prop} {ρ : List Addr} {st : Store} {H : Hp} {d : Addr} (R : Rep G (F1 F d) ρ st H) : Rep G F ρ st H :=
  ⟨R.len, R.nd, fun a ha z => R.dis a ha (.inl z), fun a z => R.fin a (.inl z), fun l a m e1 e2 => (R.obj l a m e1 e2).mono keeps_unF1 rfl, R.tab⟩
/-- a part of a block that raises nothing -/
theorem PostG.calm {α β : Type} {R : Rl α β} {F : Addr → Prop} {ρ : List Addr} {H : Hp} {o : O α} {Q : β → Hp → Prop} (ok : ∃ a st, o = .ok a st) (h : PostG G E R F ρ H o Q) : PostG G E0 R F ρ H o Q := by
  obtain ⟨a, st, e⟩ := ok
  subst e
  exact h
theorem cLoop_cons {t : Tgt} {c : EM Bool} {e : EM X} {sl0 : Slots} {x : D} {xs acc : List D} {st : Store} {r : List D × Store} (h : cLoop t c e sl0 (x :: xs) acc st = .ok r.1 r.2) :
    ∃ sl1 b st1, tgM t x sl0 = some sl1 ∧ c sl1 st = .ok b st1 ∧ ((b = false ∧ cLoop t c e sl0 xs acc st1 = .ok r.1 r.2) ∨ (b = true ∧ ∃ y st2, e sl1 st1 = .ok (.d y) st2 ∧ cLoop t c e sl0 xs (y :: acc) st2 = .ok r.1 r.2)) := by
  unfold cLoop at h
  cases q : tgM t x sl0 with
  | none => rw [q] at h; cases h
  | some sl1 =>
    rw [q] at h
    simp only at h
    cases q2 : c sl1 st with
    | bad => rw [q2] at h; cases h
    | exn _ _ _ => rw [q2] at h; cases h
    | ok b st1 =>
      rw [q2] at h
      cases b with
      | false => exact ⟨sl1, false, st1, rfl, q2, .inl ⟨rfl, h⟩⟩
      | true =>
        simp only at h
        cases q3 : e sl1 st1 with
        | bad => rw [q3] at h; cases h
        | exn _ _ _ => rw [q3] at h; cases h
        | ok y st2 =>
          rw [q3] at h
          cases y with
          | loc l => cases h
          | d y => exact ⟨sl1, true, st1, rfl, q2, .inr ⟨rfl, y, st2, q3, h⟩⟩
theorem cLoop_exn {t : Tgt} {c : EM Bool} {e : EM X} {sl0 : Slots} : ∀ (xs acc : List D) (st : Store) (k : Nat) (fs : List (Nat × D)) (st' : Store), cLoop t c e sl0 xs acc st ≠ .exn k fs st'
  | [], acc, st, k, fs, st' => by unfold cLoop; intro z; cases z
  | x :: xs, acc, st, k, fs, st' => by
    unfold cLoop
    cases tgM t x sl0 with
    | none => intro z; cases z
    | some sl1 =>
      simp only
      cases c sl1 st with
      | bad => intro z; cases z
      | exn _ _ _ => intro z; cases z
      | ok b st1 =>
        cases b with
        | false => exact cLoop_exn xs acc st1 k fs st'
        | true =>
          simp only
          cases e sl1 st1 with
          | bad => intro z; cases z
          | exn _ _ _ => intro z; cases z
          | ok y st2 =>
            cases y with
            | loc l => intro z; cases z
            | d y => exact cLoop_exn xs (y :: acc) st2 k fs st'
theorem keeps_eq {F : Addr → Prop} {ρ : List Addr} {H : Hp} {d : Addr} : Keeps (Nn (F1 F d) ρ) H (Nn F (ρ ++ [d])) H := fun a o h n k => ⟨h, fun z => k (by
  rcases z with z | z
  · exact .inl (.inl z)
  · rcases List.mem_append.mp z with z | z
    · exact .inr z
    · exact .inl (.inr (by simpa using z)))⟩
theorem rep_adopt {F : Addr → Prop} {ρ : List Addr} {st : Store} {H : Hp} {d : Addr} {xs : List D} {ws : List V} (R : Rep G (F1 F d) ρ st H) (nF : ¬ F d) (hd : H d = some (.lst ws)) (r : RelDs G (Nn (F1 F d) ρ) H xs ws) : Rep G F (ρ ++ [d]) (st ++ [.lst xs]) H := by
  have nd : d ∉ ρ := fun z => R.dis d z (.inr rfl)
  refine ⟨by rw [List.length_append, List.length_append, R.len]; rfl, ?_, fun a z => ?_, fun a z => R.fin a (.inl z), fun l a u e1 e2 => ?_, R.tab⟩
  · rw [List.nodup_append]
    exact ⟨R.nd, by simp, fun a ha b hb => by
      have e : b = d := by simpa using hb
      rw [e]; rintro rfl; exact nd ha⟩
  · rcases List.mem_append.mp z with z | z
    · exact fun y => R.dis a z (.inl y)
    · have e : a = d := by simpa using z
      rw [e]; exact nF
  · by_cases hl : l < ρ.length
    · rw [List.getElem?_append_left hl] at e1
      rw [List.getElem?_append_left (by rw [← R.len]; exact hl)] at e2
      exact (R.obj l a u e1 e2).mono keeps_eq rfl
    · have e : l = ρ.length := by
        have := (List.getElem?_eq_some_iff.mp e1).1
        rw [List.length_append] at this
        simp at this
        omega
      subst e
      rw [List.getElem?_append_right (Nat.le_refl _)] at e1
      rw [List.getElem?_append_right (by rw [R.len]; exact Nat.le_refl _), R.len] at e2
      simp at e1 e2
      rw [← e1, ← e2]
      exact ⟨ws, hd, RelDs.mono keeps_eq xs r⟩
theorem rd_comp {mu : Bool} {vs : List Nat} {m : EM (List D)} {t : Tgt} {c : EM Bool} {e : EM X} {σ : L2.St} {H : Hp} {Q : VK} (hin : tgIn vs t = true) (h : rdE G E (eComp mu vs m t c e) σ H Q) : tLc (rdI G E m) (tgTG G.K t) (rdT G E0 c) (rdE G E0 e) vs σ H Q := by
  obtain ⟨F, ρ, sl, st, sk, R, h⟩ := h
  refine ⟨F, ρ, sl, st, sk, R, PostG.mono (PostG.bind (R := rIt G) h) fun J H1 h1 => ?_⟩
  obtain ⟨xs, st1, ρ1, s1, R1, it, h1⟩ := h1
  intro d hd
  cases z : small xs.length with
  | false => simp only [z] at h1; exact h1.elim
  | true =>
    simp only [z] at h1
    have hsz : xs.length ≤ 16777216 := Nat.le_of_ble_eq_true z
    have hline : sizeLine = 16777216 := by decide
    have nF : ¬ F d := fun y => by
      obtain ⟨o, q, _⟩ := R1.fin d y
      rw [hd] at q; cases q
    cases ql : cLoop t c e (wipeS sl vs) xs [] st1 with
    | bad => rw [ql] at h1; exact h1.elim
    | exn k fs st' => exact absurd ql (cLoop_exn xs [] st1 k fs st')
    | ok acc' st' =>
      rw [ql] at h1
      have h1 : PostG G E (rX G) F ρ1 H1 (newL mu (revD acc' []) st') Q := h1
      refine ⟨fun i n H => n = xs.length - i ∧ i ≤ xs.length ∧ ∃ ρ st acc ws, Stp ρ1 H1 ρ H ∧ Rep G (F1 F d) ρ st H ∧ H d = some (.lst ws) ∧ RelDs G (Nn (F1 F d) ρ) H acc.reverse ws ∧ acc.length ≤ i ∧ cLoop t c e (wipeS sl vs) (xs.drop i) acc st = .ok acc' st',
        ⟨xs.length, by simp, Nat.zero_le _, ρ1, st1, [], [], stp_new hd, rep_F1 R1 hd, upd_same, (show RelDs G (Nn (F1 F d) ρ1) (upd H1 d (.lst [])) [] [] from rfl), Nat.le_refl _, ql⟩, ?_⟩
      rintro i n H2 ⟨rfl, hi, ρ2, st2, acc, ws, s2, R2, hD2, rel2, hacc, hl2⟩
      have nd2 : d ∉ ρ2 := fun y => R2.dis d y (.inr rfl)
      by_cases hlt : i < xs.length
      · right
        have hx : xs[i]? = some xs[i] := List.getElem?_eq_getElem hlt
        obtain ⟨go, yl⟩ := it.go (F1 F d) i xs[i] ρ2 H2 st2 (fun a y => y.imp id fun q => by rw [q]; exact hd) hx s2 R2
        refine ⟨go, fun H => i + 1 ≤ xs.length ∧ ∃ ρ st acc ws, Stp ρ1 H1 ρ H ∧ Rep G (F1 F d) ρ st H ∧ H d = some (.lst ws) ∧ RelDs G (Nn (F1 F d) ρ) H acc.reverse ws ∧ acc.length ≤ i + 1 ∧ cLoop t c e (wipeS sl vs) (xs.drop (i + 1)) acc st = .ok acc' st',
          fun H' y => ⟨xs.length - (i + 1), by omega, rfl, y⟩, fun v H3 y3 => ?_⟩
        obtain ⟨e3, r3⟩ := yl v H3 y3
        have s3 : Stp ρ2 H2 ρ2 H3 := stp_yld e3
        have R3 := rep_yld R2 e3
        have hD3 : H3 d = some (.lst ws) := s3.keep d _ hD2 (fun ps y => by cases y) nd2
        rw [List.drop_eq_getElem_cons hlt] at hl2
        obtain ⟨sl1, b, st3, q1, q2, q3⟩ := cLoop_cons (r := (acc', st')) hl2
        have sk' : SlOk G (F1 F d) ρ2 H3 (wipeS sl vs) (wipe σ vs) := (wipeS_ok (sk.mono s1) vs).mv (keeps_F1 (s2.trans s3) hd) (s2.trans s3).pre
        refine tg_ok (vs := vs) t r3 q1 sk' fun σ3 sk3 w3 => ⟨by rw [w3 hin, wipe_wipe], F1 F d, ρ2, sl1, st2, sk3, R3, ?_⟩
        rw [q2]
        intro ρ4 H4 b' s4 R4 eb
        obtain rfl : b = b' := eb
        have hD4 : H4 d = some (.lst ws) := s4.keep d _ hD3 (fun ps y => by cases y) nd2
        rcases q3 with ⟨hb, q3⟩ | ⟨hb, y, st4, q3, q4⟩
        · subst hb
          refine iteF ⟨hlt, ρ4, st3, acc, ws, (s2.trans s3).trans s4, R4, hD4, RelDs.mono (s3.trans s4).keeps _ rel2, by omega, q3⟩
        · subst hb
          refine iteT ⟨F1 F d, ρ4, sl1, st3, sk3.mono s4, R4, ?_⟩
          rw [q3]
          intro ρ5 H5 w s5 R5 rw5
          have nd4 : d ∉ ρ4 := fun y => R4.dis d y (.inr rfl)
          have hD5 : H5 d = some (.lst ws) := s5.keep d _ hD4 (fun ps y => by cases y) nd4
          have hws : ws.length = acc.length := by rw [rel2.length, List.length_reverse]
          refine ⟨ws, hD5, by omega, hlt, ρ5, st4, y :: acc, ws ++ [w], stp_own (((s2.trans s3).trans s4).trans s5) hd, rep_own R5 hD5, upd_same, ?_, by rw [List.length_cons]; omega, q4⟩
          rw [List.reverse_cons]
          exact RelDs.append (RelDs.mono keeps_own _ (RelDs.mono ((s3.trans s4).trans s5).keeps _ rel2)) (RelDs.one (RelD.mono keeps_own y rw5))
      · left
        have ei : i = xs.length := by omega
        subst ei
        rw [List.drop_length] at hl2
        have e1 : acc = acc' ∧ st2 = st' := by
          unfold cLoop at hl2
          injection hl2 with a1 a2
          exact ⟨a1, a2⟩
        obtain ⟨e1, e2⟩ := e1
        subst e1 e2
        refine ⟨it.stop ρ2 H2 s2, ?_⟩
        have er : revD acc [] = acc.reverse := by rw [revD_eq, List.append_nil]
        cases mu with
        | false =>
          refine h1 ρ2 H2 (.ref d) s2 (rep_unF1 R2) ⟨d, ws, rfl, ⟨hD2, fun y => y.elim nF nd2⟩, ?_⟩
          rw [er]
          exact RelDs.mono keeps_unF1 _ rel2
        | true =>
          refine h1 (ρ2 ++ [d]) H2 (.ref d) ⟨s2.keep, ?_, fun a y => ?_, s2.some⟩ ?_ ⟨d, ?_, rfl⟩
          · obtain ⟨mm, em⟩ := s2.pre
            exact ⟨mm ++ [d], by rw [em, List.append_assoc]⟩
          · rcases List.mem_append.mp y with y | y
            · exact s2.new a y
            · have : a = d := by simpa using y
              rw [this]; exact .inr fun o q => by rw [hd] at q; cases q
          · rw [er]; exact rep_adopt R2 nF hD2 rel2
          · rw [← R2.len]; simp
theorem q_comp {X : Cx} {elt tg iter : Expr} {ifs : List Expr} {scope : Scope} {own : List (Str × Nat)} {pos : Pos} {mu : Bool} {m : EM (List D)} {t : Tgt} {c : EM Bool} {e : EM DH.X} (hK : G.K = X.K) (hc : X.calm = true) (hN : X.N.Nodup) (hi : PI X tg iter (rdI G E m)) (ok : BlkOk X.N X.env.scope scope own) (hin : tgIn (own.map (·.2)) t = true)
    (hg : ∀ (s : Shared) (H : Hp) (C : Addr) (cl : List (Str × Addr)) (fp : List Addr), PG (X.blk s H scope (compEnvC scope cl C X.env) fp) tg (tgTG X.K t)) (ht : ∀ (s : Shared) (H : Hp) (C : Addr) (cl : List (Str × Addr)) (fp : List Addr), PTs (X.blk s H scope (compEnvC scope cl C X.env) fp) ifs (rdT G E0 c))
    (he : ∀ (s : Shared) (H : Hp) (C : Addr) (cl : List (Str × Addr)) (fp : List Addr), PE (X.blk s H scope (compEnvC scope cl C X.env) fp) elt (rdE G E0 e)) (hs : ∀ x, foldedSetIterable iter X.env x = pure x) :
    PE X (.ListComp elt [⟨tg, iter, ifs, 0⟩] scope pos) (rdE G E (eComp mu (own.map (·.2)) m t c e)) := by
  refine PE.imp (pe_lc hc hN hi ok hg ht he hs) fun σ H Q h => ?_
  have := rd_comp hin h
  rw [hK] at this
  exact this
theorem q_setComp {X : Cx} {i : Nat} {y : Str} {py spos : Pos} {elt tg iter : Expr} {ifs : List Expr} {scope : Scope} {own : List (Str × Nat)} {pos : Pos} {mu : Bool} {m : EM (List D)} {t : Tgt} {c : EM Bool} {e : EM DH.X} (hK : G.K = X.K) (hc : X.calm = true) (hN : X.N.Nodup) (hy : X.N[i]? = some y) (hyl : X.env.scope.names.lookup y = some .local)
    (hsw : swapsWith (.ListComp elt [⟨tg, iter, ifs, 0⟩] scope pos) (some (.Name y py)) spos.line X.env = pure true) (hi : PI X tg iter (rdI G E m)) (ok : BlkOk X.N X.env.scope scope own) (hin : tgIn (own.map (·.2)) t = true)
    (hg : ∀ (s : Shared) (H : Hp) (C : Addr) (cl : List (Str × Addr)) (fp : List Addr), PG (X.blk s H scope (compEnvC scope cl C X.env) fp) tg (tgTG X.K t)) (ht : ∀ (s : Shared) (H : Hp) (C : Addr) (cl : List (Str × Addr)) (fp : List Addr), PTs (X.blk s H scope (compEnvC scope cl C X.env) fp) ifs (rdT G E0 c))
    (he : ∀ (s : Shared) (H : Hp) (C : Addr) (cl : List (Str × Addr)) (fp : List Addr), PE (X.blk s H scope (compEnvC scope cl C X.env) fp) elt (rdE G E0 e)) (hs : ∀ x, foldedSetIterable iter X.env x = pure x) :
    PS X (.Assign [.Name y py] (.ListComp elt [⟨tg, iter, ifs, 0⟩] scope pos) spos) (rdS G E (sSet i (eComp mu (own.map (·.2)) m t c e))) := by
  refine PS.imp (ps_setLc hc hN hy hyl hsw hi ok hg ht he hs) fun D σ H h => ?_
  have h' := rd_set h
  have := rd_comp hin h'
  rw [hK] at this
  exact this
end
end DH
namespace DH
open PySem PySem.Spec PyProof.Rows L2
/-! ### ranges -/
def upI (lo c : Int) : Nat → List D
  | 0 => []
  | n + 1 => .int lo :: upI (lo + c) c n
theorem upI_len (c : Int) : ∀ (n : Nat) (lo : Int), (upI lo c n).length = n
  | 0, lo => rfl
  | n + 1, lo => by rw [upI, List.length_cons, upI_len c n]
theorem upI_get (c : Int) : ∀ (n i : Nat) (lo : Int) (x : D), (upI lo c n)[i]? = some x → i < n ∧ x = .int (lo + (i : Nat) * c)
  | 0, i, lo, x, h => by simp [upI] at h
  | n + 1, 0, lo, x, h => by
    have h' : D.int lo = x := by simpa [upI] using h
    exact ⟨Nat.succ_pos n, by rw [← h']; simp⟩
  | n + 1, i + 1, lo, x, h => by
    obtain ⟨a, b⟩ := upI_get c n i (lo + c) x (by simpa [upI] using h)
    refine ⟨Nat.succ_lt_succ a, ?_⟩
    rw [b]
    congr 1
    rw [show ((i + 1 : Nat) : Int) = (i : Int) + 1 from rfl, Int.add_mul]
    omega
def int62 (i : Int) : Bool := Nat.blt i.natAbs 4611686018427387904
theorem int62_ok {i : Int} (h : int62 i = true) : -(2 ^ 62) ≤ i ∧ i < 2 ^ 62 := by
  have h' : i.natAbs < 4611686018427387904 := Nat.le_of_ble_eq_true h
  omega
/-- how many: a step above nought -/
def rgMany (lo hi : Int) (c : Nat) : Nat := match (hi - lo).toNat with
  | 0 => 0
  | n + 1 => n / c + 1
def range1M (xs : List X) : Option (List D) := match xs with
  | [.d (.int j)] => (match int62 j with
    | true => some (upI 0 1 j.toNat)
    | false => none)
  | _ => none
def range2M (xs : List X) : Option (List D) := match xs with
  | [.d (.int i), .d (.int j)] => (match int62 i && int62 j with
    | true => some (upI i 1 (j - i).toNat)
    | false => none)
  | _ => none
def range3M (xs : List X) : Option (List D) := match xs with
  | [.d (.int i), .d (.int j), .d (.int (.ofNat (k + 1)))] => (match int62 i && int62 j && Nat.blt k 1000000 with
    | true => some (upI i (Int.ofNat (k + 1)) (rgMany i j (k + 1)))
    | false => none)
  | _ => none
def iRg (f : List X → Option (List D)) (m : EM (List X)) : EM (List D) := fun sl st => (m sl st).bind fun xs st1 => match f xs with
  | some ds => .ok ds st1
  | none => .bad
section
variable {G : Gm} {E : XK}
theorem it_range {F : Addr → Prop} {ρ : List Addr} {H : Hp} {lo : Int} {n : Nat} : ItOk G F ρ H (upI lo 1 n) (Itr lo n) where
  stop := fun ρ H s => by rw [upI_len]; exact Nat.le_refl _
  go := fun F' i x ρ H st hF hx s R => by
    obtain ⟨a, b⟩ := upI_get 1 n i lo x hx
    refine ⟨a, fun v H' y => ?_⟩
    obtain ⟨e1, e2⟩ := y
    refine ⟨.inl e1, ?_⟩
    rw [b, e2]
    show V.int _ = V.int _
    congr 1
    omega
theorem it_rangeC {F : Addr → Prop} {ρ : List Addr} {H : Hp} {lo c : Int} {n : Nat} : ItOk G F ρ H (upI lo c n) (Itc lo c n) where
  stop := fun ρ H s => by rw [upI_len]; exact Nat.le_refl _
  go := fun F' i x ρ H st hF hx s R => by
    obtain ⟨a, b⟩ := upI_get c n i lo x hx
    refine ⟨a, fun v H' y => ?_⟩
    obtain ⟨e1, e2⟩ := y
    refine ⟨.inl e1, ?_⟩
    rw [b, e2]
    exact rfl
variable {X : Cx} {tg a b c : Expr} {p pos : Pos} {m : EM (List DH.X)}
theorem range1_inv {xs : List DH.X} {ds : List D} (h : range1M xs = some ds) : ∃ j, xs = [.d (.int j)] ∧ int62 j = true ∧ ds = upI 0 1 j.toNat := by
  unfold range1M at h
  split at h
  · rename_i j
    cases q : int62 j with
    | false => rw [q] at h; cases h
    | true => rw [q] at h; exact ⟨j, rfl, q, (Option.some.inj h).symm⟩
  · cases h
theorem range2_inv {xs : List DH.X} {ds : List D} (h : range2M xs = some ds) : ∃ i j, xs = [.d (.int i), .d (.int j)] ∧ int62 i = true ∧ int62 j = true ∧ ds = upI i 1 (j - i).toNat := by
  unfold range2M at h
  split at h
  · rename_i i j
    cases q : (int62 i && int62 j) with
    | false => rw [q] at h; cases h
    | true =>
      rw [q] at h
      obtain ⟨q1, q2⟩ := Bool.and_eq_true_iff.mp q
      exact ⟨i, j, rfl, q1, q2, (Option.some.inj h).symm⟩
  · cases h
theorem range3_inv {xs : List DH.X} {ds : List D} (h : range3M xs = some ds) : ∃ i j k, xs = [.d (.int i), .d (.int j), .d (.int (Int.ofNat (k + 1)))] ∧ int62 i = true ∧ int62 j = true ∧ k < 1000000 ∧ ds = upI i (Int.ofNat (k + 1)) (rgMany i j (k + 1)) := by
  unfold range3M at h
  split at h
  · rename_i i j k
    cases q : (int62 i && int62 j && Nat.blt k 1000000) with
    | false => rw [q] at h; cases h
    | true =>
      rw [q] at h
      obtain ⟨q1, q2⟩ := Bool.and_eq_true_iff.mp q
      obtain ⟨q3, q4⟩ := Bool.and_eq_true_iff.mp q1
      exact ⟨i, j, k, rfl, q3, q4, Nat.le_of_ble_eq_true q2, (Option.some.inj h).symm⟩
  · cases h
theorem rd_rg {f : List DH.X → Option (List D)} {σ : L2.St} {H : Hp} {Q : It → Hp → Prop} {P : List V → (It → Prop) → Prop} (h : rdI G E (iRg f m) σ H Q)
    (k : ∀ F ρ H xs vs ds, RelXs G F ρ H xs vs → f xs = some ds → P vs fun J => ItOk G F ρ H ds J) : rdA G E m σ H fun vs H1 => ∃ S : It → Prop, P vs S ∧ ∀ J, S J → Q J H1 := by
  obtain ⟨F, ρ, sl, st, sk, R, h⟩ := h
  refine ⟨F, ρ, sl, st, sk, R, PostG.mono (PostG.bind (R := rXs G) h) fun v H1 h1 => ?_⟩
  obtain ⟨xs, st1, ρ1, s1, R1, r1, h1⟩ := h1
  cases q : f xs with
  | none => simp only [q] at h1; exact h1.elim
  | some ds =>
    simp only [q] at h1
    exact ⟨_, k F ρ1 H1 xs v ds r1 q, fun J hJ => h1 ρ1 H1 J (Stp.refl _ _) R1 hJ⟩
theorem q_range1 (hg : Gl X "range") (hm : X.mg "range" = none) (ha : PA X [a] (rdA G E m)) (hs : starEach [a] X.env = [(false, eval a X.env)]) : PI X tg (.Call (.Name "range" p) [a] [] pos) (rdI G E (iRg range1M m)) := by
  refine PI.imp (pi_range1 hg hm ha hs) fun σ H Q h => ?_
  obtain ⟨F, ρ, sl, st, sk, R, h⟩ := rd_rg (P := fun vs S => ∃ j, vs = [.int j] ∧ int62 j = true ∧ S (Itr 0 j.toNat)) h fun F ρ H xs vs ds r e => by
    obtain ⟨j, e1, e2, e3⟩ := range1_inv e
    subst e1 e3
    obtain ⟨u, r', a1, a2, a3⟩ := r
    have a3 : r' = [] := a3
    have a2 : u = .int j := a2
    subst a3 a2
    exact ⟨j, a1, e2, it_range⟩
  refine ⟨F, ρ, sl, st, sk, R, PostG.mono h fun vs H1 h1 => ?_⟩
  obtain ⟨S, ⟨j, e1, e2, e3⟩, q⟩ := h1
  obtain ⟨b1, b2⟩ := int62_ok e2
  exact ⟨j, e1, b1, b2, q _ e3⟩
theorem q_range2 (hg : Gl X "range") (hm : X.mg "range" = none) (ha : PA X [a, b] (rdA G E m)) (hs : starEach [a, b] X.env = [(false, eval a X.env), (false, eval b X.env)]) (hs2 : starEach [b] X.env = [(false, eval b X.env)]) : PI X tg (.Call (.Name "range" p) [a, b] [] pos) (rdI G E (iRg range2M m)) := by
  refine PI.imp (pi_range2 hg hm ha hs hs2) fun σ H Q h => ?_
  obtain ⟨F, ρ, sl, st, sk, R, h⟩ := rd_rg (P := fun vs S => ∃ i j, vs = [.int i, .int j] ∧ int62 i = true ∧ int62 j = true ∧ S (Itr i (j - i).toNat)) h fun F ρ H xs vs ds r e => by
    obtain ⟨i, j, e1, e2, e3, e4⟩ := range2_inv e
    subst e1 e4
    obtain ⟨u, r', a1, a2, u2, r2, a3, a4, a5⟩ := r
    have a5 : r2 = [] := a5
    have a2 : u = .int i := a2
    have a4 : u2 = .int j := a4
    subst a5 a2 a4 a3
    exact ⟨i, j, a1, e2, e3, it_range⟩
  refine ⟨F, ρ, sl, st, sk, R, PostG.mono h fun vs H1 h1 => ?_⟩
  obtain ⟨S, ⟨i, j, e1, e2, e3, e4⟩, q⟩ := h1
  obtain ⟨b1, b2⟩ := int62_ok e2
  obtain ⟨b3, b4⟩ := int62_ok e3
  exact ⟨i, j, e1, ⟨b1, b2, b3, b4⟩, q _ e4⟩
theorem rg_size (i j : Int) (k : Nat) : Builtin.Range.rangeSize i j (Int.ofNat (k + 1)) = (rgMany i j (k + 1) : Nat) := by
  unfold Builtin.Range.rangeSize rgMany
  have hc : (Int.ofNat (k + 1)) > 0 := by show ((k + 1 : Nat) : Int) > 0; omega
  rw [if_pos hc]
  cases q : (j - i).toNat with
  | zero => rw [if_neg (by omega)]; rfl
  | succ n =>
    rw [if_pos (by omega)]
    have e : j - i - 1 = (n : Int) := by omega
    rw [e]
    show (n : Int) / ((k + 1 : Nat) : Int) + 1 = ((n / (k + 1) + 1 : Nat) : Int)
    rw [← Int.natCast_ediv]
    rfl
theorem rg_small {i j : Int} {k : Nat} (b1 : -(2 ^ 62) ≤ i) (b2 : i < 2 ^ 62) (b3 : -(2 ^ 62) ≤ j) (b4 : j < 2 ^ 62) (hk : k < 1000000) : Builtin.Range.small i j (Int.ofNat (k + 1)) = true := by
  have hc : (Int.ofNat (k + 1)) > 0 := by show ((k + 1 : Nat) : Int) > 0; omega
  have hn : (0 : Int) ≤ Builtin.Range.rangeSize i j (Int.ofNat (k + 1)) ∧ Builtin.Range.rangeSize i j (Int.ofNat (k + 1)) ≤ 2 ^ 63 - 1 := by
    rw [rg_size]
    refine ⟨Int.natCast_nonneg _, ?_⟩
    unfold rgMany
    cases q : (j - i).toNat with
    | zero => show ((0 : Nat) : Int) ≤ 2 ^ 63 - 1; decide
    | succ n =>
      have h1 : n / (k + 1) ≤ n := Nat.div_le_self _ _
      show ((n / (k + 1) + 1 : Nat) : Int) ≤ 2 ^ 63 - 1
      omega
  have hk' : (Int.ofNat (k + 1)) < 1000001 := by show ((k + 1 : Nat) : Int) < 1000001; omega
  unfold Builtin.Range.small
  simp only [Builtin.Range.rangeFitsLong, Bool.and_eq_true, Bool.or_eq_true, decide_eq_true_eq, beq_iff_eq, hc, if_true]
  generalize Builtin.Range.rangeSize i j (Int.ofNat (k + 1)) = z at hn
  generalize Int.ofNat (k + 1) = c at hc hk'
  omega
theorem q_range3 (hg : Gl X "range") (hm : X.mg "range" = none) (ha : PA X [a, b, c] (rdA G E m)) (hs : starEach [a, b, c] X.env = (false, eval a X.env) :: starEach [b, c] X.env) (hpl : (backTo pos (starEach [b, c] X.env)).any (·.1) = false) : PI X tg (.Call (.Name "range" p) [a, b, c] [] pos) (rdI G E (iRg range3M m)) := by
  refine PI.imp (pi_range3 hg hm ha hs hpl) fun σ H Q h => ?_
  obtain ⟨F, ρ, sl, st, sk, R, h⟩ := rd_rg (P := fun vs S => ∃ i j k, vs = [.int i, .int j, .int (Int.ofNat (k + 1))] ∧ int62 i = true ∧ int62 j = true ∧ k < 1000000 ∧ S (Itc i (Int.ofNat (k + 1)) (rgMany i j (k + 1)))) h fun F ρ H xs vs ds r e => by
    obtain ⟨i, j, k, e1, e2, e3, e4, e5⟩ := range3_inv e
    subst e1 e5
    obtain ⟨u, r', a1, a2, u2, r2, a3, a4, u3, r3, a5, a6, a7⟩ := r
    have a7 : r3 = [] := a7
    have a2 : u = .int i := a2
    have a4 : u2 = .int j := a4
    have a6 : u3 = .int (Int.ofNat (k + 1)) := a6
    subst a7 a2 a4 a6 a5 a3
    exact ⟨i, j, k, a1, e2, e3, e4, it_rangeC⟩
  refine ⟨F, ρ, sl, st, sk, R, PostG.mono h fun vs H1 h1 => ?_⟩
  obtain ⟨S, ⟨i, j, k, e1, e2, e3, e4, e5⟩, q⟩ := h1
  obtain ⟨b1, b2⟩ := int62_ok e2
  obtain ⟨b3, b4⟩ := int62_ok e3
  refine ⟨i, j, Int.ofNat (k + 1), rgMany i j (k + 1), e1, ⟨(by intro z; cases z), (by show k + 1 < 1073741824; omega), ?_, ?_⟩, q _ e5⟩
  · exact rg_small b1 b2 b3 b4 e4
  · exact rg_size i j k
/-! ### things that stand -/
def seqM : DH.X → Option (List D)
  | .d (.tup _ xs) => some xs
  | .d (.lst xs) => some xs
  | _ => none
def iSeq (m : EM DH.X) : EM (List D) := fun sl st => (m sl st).bind fun x st1 => match seqM x with
  | some ds => .ok ds st1
  | none => .bad
theorem pi_seq {l : Expr} {tl : TE} (hl : PE X l tl) : PI X tg l (fun σ H R => tl σ H fun x H1 => ∃ a, x = .ref a ∧ (((∃ xs, SqL X.K H1 a xs) ∧ R (Itl X.K a) H1) ∨ ((∃ xs, SqT X.K H1 a xs) ∧ R (Itt X.K a) H1))) := by
  refine ⟨fun pins s σ H R I h => ?_⟩
  refine thn (hl.run pins s σ H _ I h) fun v s1 ⟨x, H1, I1, r1, q1⟩ => ?_
  obtain ⟨a, e, q1⟩ := q1
  subst e
  cases r1
  rcases q1 with ⟨⟨xs, hq⟩, q⟩ | ⟨⟨xs, hq⟩, q⟩
  · obtain ⟨its, rv, p, hz⟩ := I1.list hq
    refine wpAny_pyIter_list p.isList ?_
    refine ⟨s1.heap.objs.size, [s1.heap.objs.size], _, _, H1, rfl, I1.kept (t' := s1.toks) fun b o e => Heap.get?_push_of_some _ e, turn_list a _, ⟨_, Heap.get?_push_size _ rfl, rfl, rfl⟩, fun b hb => ?_, q⟩
    have e : b = s1.heap.objs.size := by simpa using hb
    subst e
    exact I1.fpOk (Nat.le_refl _) (I1.hok.fresh (Nat.le_refl _))
  · obtain ⟨its, rv, p, hz⟩ := I1.tuple hq
    refine wpAny_pyIter_tuple (show s1.heap.IsTuple a its.toArray from p) ?_
    refine ⟨s1.heap.objs.size, [s1.heap.objs.size], _, _, H1, rfl, I1.kept (t' := s1.toks) fun b o e => Heap.get?_push_of_some _ e, turn_tuple a _, ⟨_, Heap.get?_push_size _ rfl, rfl, rfl⟩, fun b hb => ?_, q⟩
    have e : b = s1.heap.objs.size := by simpa using hb
    subst e
    exact I1.fpOk (Nat.le_refl _) (I1.hok.fresh (Nat.le_refl _))
theorem keeps_go {F F' : Addr → Prop} {ρ0 ρ : List Addr} {H0 H : Hp} (hF : ∀ a, F' a → F a ∨ H0 a = none) (s : Stp ρ0 H0 ρ H) : Keeps (Nn F ρ0) H0 (Nn F' ρ) H := fun a o h n k => by
  obtain ⟨e, n'⟩ := (s.keeps (F := F)) a o h n k
  refine ⟨e, fun z => ?_⟩
  rcases z with z | z
  · rcases hF a z with z | z
    · exact n' (.inl z)
    · rw [h] at z; cases z
  · exact n' (.inr z)
theorem it_list {F : Addr → Prop} {ρ : List Addr} {H : Hp} {a : Addr} {vs : List V} {xs : List D} (f : FzL G (Nn F ρ) H a vs) (r : RelDs G (Nn F ρ) H xs vs) : ItOk G F ρ H xs (Itl G.K a) where
  stop := fun ρ' H' s => ⟨vs, SqL.of (s.keep a _ f.1 (fun ps z => by cases z) fun z => f.2 (.inr z)), by rw [r.length]; exact Nat.le_refl _⟩
  go := fun F' i x ρ' H' st hF hx s R => by
    have e : H' a = some (.lst vs) := s.keep a _ f.1 (fun ps z => by cases z) fun z => f.2 (.inr z)
    obtain ⟨v, hv, rv⟩ := r.get hx
    refine ⟨⟨vs, v, SqL.of e, hv⟩, fun w H2 y => ?_⟩
    obtain ⟨e1, e2⟩ := y
    refine ⟨.inl e1, ?_⟩
    have hw := e2 vs (SqL.of e)
    rw [hv] at hw
    cases hw
    rw [e1]
    exact RelD.mono (keeps_go hF s) x rv
theorem it_tup {F : Addr → Prop} {ρ : List Addr} {H : Hp} {b : Bool} {a : Addr} {vs : List V} {xs : List D} (f : FzT G (Nn F ρ) H b a vs) (r : RelDs G (Nn F ρ) H xs vs) : ItOk G F ρ H xs (Itt G.K a) where
  stop := fun ρ' H' s => ⟨vs, ((s.keeps (F := F)).fzT f).sq, by rw [r.length]; exact Nat.le_refl _⟩
  go := fun F' i x ρ' H' st hF hx s R => by
    have e : SqT G.K H' a vs := ((s.keeps (F := F)).fzT f).sq
    obtain ⟨v, hv, rv⟩ := r.get hx
    refine ⟨⟨vs, v, e, hv⟩, fun w H2 y => ?_⟩
    obtain ⟨e1, e2⟩ := y
    refine ⟨.inl e1, ?_⟩
    have hw := e2 vs e
    rw [hv] at hw
    cases hw
    rw [e1]
    exact RelD.mono (keeps_go hF s) x rv
theorem q_seq {l : Expr} {m : EM DH.X} (hK : G.K = X.K) (hl : PE X l (rdE G E m)) : PI X tg l (rdI G E (iSeq m)) := by
  refine PI.imp (pi_seq hl) fun σ H Q h => ?_
  obtain ⟨F, ρ, sl, st, sk, R, h⟩ := h
  refine ⟨F, ρ, sl, st, sk, R, PostG.mono (PostG.bind (R := rX G) h) fun v H1 h1 => ?_⟩
  obtain ⟨x, st1, ρ1, s1, R1, r1, h1⟩ := h1
  rw [← hK]
  match x, r1, h1 with
  | .d (.tup b xs), r1, h1 =>
    obtain ⟨a, vs, e, f, r⟩ := r1
    exact ⟨a, e, .inr ⟨⟨vs, f.sq⟩, h1 ρ1 H1 _ (Stp.refl _ _) R1 (it_tup f r)⟩⟩
  | .d (.lst xs), r1, h1 =>
    obtain ⟨a, vs, e, f, r⟩ := r1
    exact ⟨a, e, .inl ⟨⟨vs, f.sq⟩, h1 ρ1 H1 _ (Stp.refl _ _) R1 (it_list f r)⟩⟩
  | .loc l, r1, h1 => exact h1.elim
  | .d .non, r1, h1 => exact h1.elim
  | .d (.bl _), r1, h1 => exact h1.elim
  | .d (.int _), r1, h1 => exact h1.elim
  | .d (.str _), r1, h1 => exact h1.elim
  | .d (.dct _ _), r1, h1 => exact h1.elim
  | .d (.obj _ _), r1, h1 => exact h1.elim
/-- a text, sign by sign -/
def sgn (cs : List Nat) : List D := match cs with
  | [] => []
  | c :: r => .str [c] :: sgn r
def strM : DH.X → Option (List D)
  | .d (.str cs) => some (sgn cs)
  | _ => none
def iStrM (m : EM DH.X) : EM (List D) := fun sl st => (m sl st).bind fun x st1 => match strM x with
  | some ds => .ok ds st1
  | none => .bad
theorem sgn_map : ∀ cs : List Nat, sgn cs = cs.map fun c => D.str [c]
  | [] => rfl
  | c :: r => by rw [sgn, List.map_cons, sgn_map r]
theorem it_str {F : Addr → Prop} {ρ : List Addr} {H : Hp} {cs : List Nat} : ItOk G F ρ H (sgn cs) (Its (strOf cs)) where
  stop := fun ρ' H' s => by
    show (strOf cs).cps.size ≤ (sgn cs).length
    rw [sgn_map, List.length_map]
    show cs.toArray.size ≤ cs.length
    simp
  go := fun F' i x ρ' H' st hF hx s R => by
    rw [sgn_map, List.getElem?_map] at hx
    cases q : cs[i]? with
    | none => rw [q] at hx; cases hx
    | some c =>
      rw [q] at hx
      have ex : D.str [c] = x := by simpa using hx
      refine ⟨?_, fun w H2 y => ?_⟩
      · show i < cs.toArray.size
        simpa using (List.getElem?_eq_some_iff.mp q).1
      · obtain ⟨e1, c', e2, e3⟩ := y
        refine ⟨.inl e1, ?_⟩
        have e2' : cs.toArray[i]? = some c' := e2
        have : c = c' := by
          rw [List.getElem?_toArray, q] at e2'
          exact Option.some.inj e2'
        rw [← ex, e3, this]
        exact rfl
theorem q_strI {l : Expr} {m : EM DH.X} (hl : PE X l (rdE G E m)) : PI X tg l (rdI G E (iStrM m)) := by
  refine PI.imp (pi_str hl) fun σ H Q h => ?_
  obtain ⟨F, ρ, sl, st, sk, R, h⟩ := h
  refine ⟨F, ρ, sl, st, sk, R, PostG.mono (PostG.bind (R := rX G) h) fun v H1 h1 => ?_⟩
  obtain ⟨x, st1, ρ1, s1, R1, r1, h1⟩ := h1
  match x, r1, h1 with
  | .d (.str cs), r1, h1 => exact ⟨strOf cs, r1, h1 ρ1 H1 _ (Stp.refl _ _) R1 it_str⟩
  | .d (.tup b xs), r1, h1 => exact h1.elim
  | .d (.lst xs), r1, h1 => exact h1.elim
  | .loc l, r1, h1 => exact h1.elim
  | .d .non, r1, h1 => exact h1.elim
  | .d (.bl _), r1, h1 => exact h1.elim
  | .d (.int _), r1, h1 => exact h1.elim
  | .d (.dct _ _), r1, h1 => exact h1.elim
  | .d (.obj _ _), r1, h1 => exact h1.elim
end
end DH
namespace DH
open PySem PySem.Spec PyProof.Rows L2
/-! ### subscripts -/
def ixM (n : Nat) (i : Int) : Option Nat := match i with
  | .ofNat k => (match Nat.blt k n with
    | true => some k
    | false => none)
  | .negSucc k => (match Nat.blt k n with
    | true => some (n - (k + 1))
    | false => none)
theorem ixM_eq (n : Nat) (i : Int) : ixM n i = ixN n i := by
  unfold ixM ixN
  cases i with
  | ofNat k =>
    show (match Nat.blt k n with | true => some k | false => none) = if (0 : Int) ≤ (k : Int) then (if (k : Int) < n then some (k : Int).toNat else none) else _
    rw [if_pos (by omega)]
    cases q : Nat.blt k n with
    | true =>
      have h : k < n := Nat.le_of_ble_eq_true q
      rw [if_pos (by omega)]; simp
    | false =>
      have h : ¬ k < n := fun z => by rw [show Nat.blt k n = true from Nat.ble_eq_true_of_le z] at q; cases q
      rw [if_neg (by omega)]
  | negSucc k =>
    show (match Nat.blt k n with | true => some (n - (k + 1)) | false => none) = if (0 : Int) ≤ Int.negSucc k then _ else if -(n : Int) ≤ Int.negSucc k then some (Int.negSucc k + n).toNat else none
    rw [if_neg (by omega)]
    cases q : Nat.blt k n with
    | true =>
      have h : k < n := Nat.le_of_ble_eq_true q
      rw [if_pos (by omega)]
      show some (n - (k + 1)) = some (Int.negSucc k + (n : Int)).toNat
      congr 1
      omega
    | false =>
      have h : ¬ k < n := fun z => by rw [show Nat.blt k n = true from Nat.ble_eq_true_of_le z] at q; cases q
      rw [if_neg (by omega)]
def getM {α : Type} (xs : List α) (i : Int) : Option α := match ixM xs.length i with
  | some k => xs[k]?
  | none => none
theorem getM_eq {α : Type} (xs : List α) (i : Int) : getM xs i = atI xs i := by
  unfold getM atI
  rw [ixM_eq]
  cases ixN xs.length i <;> rfl
def gIx : D → D → Store → O X
  | .tup _ xs, .int i, st => (match getM xs i with
    | some x => .ok (.d x) st
    | none => .bad)
  | .lst xs, .int i, st => (match getM xs i with
    | some x => .ok (.d x) st
    | none => .bad)
  | .str cs, .int i, st => (match small cs.length with
    | true => (match getM cs i with
      | some c => .ok (.d (.str [c])) st
      | none => .bad)
    | false => .bad)
  | _, _, _ => .bad
section
variable {G : Gm} {E : XK}
theorem RelDs.atI {N : Addr → Prop} {H : Hp} {xs : List D} {vs : List V} {i : Int} {x : D} (r : RelDs G N H xs vs) (h : getM xs i = some x) : ∃ v, L2.atI vs i = some v ∧ RelD G N H x v := by
  unfold getM at h
  rw [ixM_eq] at h
  unfold L2.atI
  rw [r.length]
  cases q : ixN xs.length i with
  | none => rw [q] at h; cases h
  | some k =>
    rw [q] at h
    obtain ⟨v, hv, rv⟩ := r.get h
    exact ⟨v, hv, rv⟩
theorem ix_v : OpV G (rIx G.K) (f2 gIx) := op2 fun E F ρ H st a b v w Q R ra rb h => by
  cases a with
  | tup f xs =>
    cases b with
    | int i =>
      unfold gIx at h
      cases q : getM xs i with
      | none => simp only [q] at h; exact h.elim
      | some x =>
        simp only [q] at h
        obtain ⟨p, vs, e, fz, r⟩ := ra
        obtain ⟨u, hu, ru⟩ := r.atI q
        exact .inr (.inl ⟨p, vs, i, u, e, rb, fz, hu, now1 R h ru⟩)
    | _ => exact h.elim
  | lst xs =>
    cases b with
    | int i =>
      unfold gIx at h
      cases q : getM xs i with
      | none => simp only [q] at h; exact h.elim
      | some x =>
        simp only [q] at h
        obtain ⟨p, vs, e, fz, r⟩ := ra
        obtain ⟨u, hu, ru⟩ := r.atI q
        exact .inl ⟨p, vs, i, u, e, rb, SqL.of fz, hu, now1 R h ru⟩
    | _ => exact h.elim
  | str cs =>
    cases b with
    | int i =>
      unfold gIx at h
      cases z : small cs.length with
      | false => simp only [z] at h; exact h.elim
      | true =>
        simp only [z] at h
        cases q : getM cs i with
        | none => simp only [q] at h; exact h.elim
        | some c =>
          simp only [q] at h
          refine .inr (.inr ⟨strOf cs, i, c, ra, rb, by rw [str_len]; exact small_ok z, ?_, now1 R h rfl⟩)
          show L2.atI cs.toArray.toList i = some c
          rw [← getM_eq]; exact q
    | _ => exact h.elim
  | _ => exact h.elim
/-! ### xs[i] = x -/
def setAt (x : X) (i : X) (y : X) (st : Store) : Option Store := match x, deref st i, y with
  | .loc l, some (.int k), .d z => (match st[l]? with
    | some (.lst xs) => (match ixM xs.length k with
      | some j => some (st.set l (.lst (xs.set j z)))
      | none => none)
    | _ => none)
  | _, _, _ => none
/-- a target o[i] -/
def tgSub (o i : EM X) (y : X) : EM Unit := fun sl st => (o sl st).bind fun x st1 => (i sl st1).bind fun k st2 => match setAt x k y st2 with
  | some st3 => .ok () st3
  | none => .bad
theorem codeO_lst {a : Addr} {vs : List V} (q : Str) : HO.lst vs ≠ LamX.CodeO a q := fun z => by unfold LamX.CodeO at z; cases z
theorem setAt_ok {F : Addr → Prop} {ρ : List Addr} {H : Hp} {st st' : Store} {x i y : X} {o k v : V} {Q : Hp → Prop} (R : Rep G F ρ st H) (rx : RelX G F ρ H x o) (ri : RelX G F ρ H i k) (ry : RelX G F ρ H y v) (h : setAt x i y st = some st')
    (hQ : ∀ H', Stp ρ H ρ H' → Rep G F ρ st' H' → Q H') : rSetL o k v H Q := by
  unfold setAt at h
  split at h
  · rename_i l kk z q
    have ri' : k = .int kk := view R ri q
    split at h
    · rename_i xs q2
      split at h
      · rename_i j q3
        obtain ⟨a, e1, e2⟩ := rx
        obtain ⟨vs, e3, r3⟩ := R.obj l a _ e1 q2
        have e4 := Option.some.inj h
        refine ⟨a, vs, kk, j, e2, ri', e3, by rw [r3.length, ← ixM_eq]; exact q3, ?_⟩
        have s : Stp ρ H ρ (upd H a (.lst (vs.set j v))) := stp_set e1
        refine hQ _ s ?_
        rw [← e4]
        exact R.set e1 e3 (fun ps z => by cases z) (fun q => codeO_lst q) ⟨_, upd_same, (RelDs.mono s.keeps xs r3).set j (RelD.mono s.keeps z ry)⟩
      · cases h
    · cases h
  · cases h
def sSetIx (e o i : EM X) : SM := fun sl st => (e sl st).s fun y st1 => (tgSub o i y sl st1).s fun _ st2 => .nx sl st2
theorem q_setIx {X : Cx} {e o i : Expr} {pos p : Pos} {me mo mi : EM DH.X} (he : PE X e (rdE G E me)) (ho : PE X o (rdE G E mo)) (hi : PE X i (rdE G E mi)) (hs : swapsWithSole [.Subscript o i p] e pos.line X.env = pure false) (hw : swappedStores [.Subscript o i p] e X.env = pure none)
    (h1 : (assignEach [.Subscript o i p] X.env).map (·.2) = [assign (.Subscript o i p) X.env])
    (ha : ∀ v, assign (.Subscript o i p) X.env v = (do
      let ov ← holding [v] (eval o X.env)
      let iv ← holding [v, ov] (eval i X.env)
      standAt p
      holding [v, ov, iv] (setItem ov iv v)
      release [v, ov, iv] [])) : PS X (.Assign [.Subscript o i p] e pos) (rdS G E (sSetIx me mo mi)) := by
  refine PS.imp (ps_asg he (pg_sub ho hi set_list ha) hs hw h1) fun D σ H h => ?_
  obtain ⟨F, ρ, sl, st, sk, R, h⟩ := h
  refine ⟨F, ρ, sl, st, sk, R, PostG.mono (PostS.part (R := rX G) h) fun v H1 h1 => ?_⟩
  obtain ⟨y, st1, ρ1, s1, R1, ry, h1⟩ := h1
  have h1 : PostS G E F ρ1 H1 (((mo sl st1).bind fun x st1 => (mi sl st1).bind fun k st2 => match setAt x k y st2 with | some st3 => .ok () st3 | none => .bad).s fun _ st2 => .nx sl st2) D := h1
  refine ⟨F, ρ1, sl, st1, sk.mono s1, R1, ?_⟩
  cases q1 : mo sl st1 with
  | bad => rw [q1] at h1; exact h1.elim
  | exn c fs st2 => rw [q1] at h1; exact h1
  | ok x st2 =>
    rw [q1] at h1
    intro ρ2 H2 ov s2 R2 rx
    refine ⟨F, ρ2, sl, st2, (sk.mono s1).mono s2, R2, ?_⟩
    cases q2 : mi sl st2 with
    | bad => simp only [O.bind, q2] at h1; exact h1.elim
    | exn c fs st3 => simp only [O.bind, q2] at h1; exact PostS.later s2 h1
    | ok k st3 =>
      simp only [O.bind, q2] at h1
      intro ρ3 H3 iv s3 R3 ri
      cases q3 : setAt x k y st3 with
      | none => simp only [q3] at h1; exact h1.elim
      | some st4 =>
        simp only [q3] at h1
        refine setAt_ok R3 (rx.mono s3) ri ((ry.mono s2).mono s3) q3 fun H4 s4 R4 => ?_
        exact h1 ρ3 H4 _ ((s2.trans s3).trans s4) R4 ((((sk.mono s1).mono s2).mono s3).mono s4)
/-! ### targets of any form -/
abbrev TM := D → Slots → Store → O Slots
abbrev TMs := List D → Slots → Store → O Slots
def rSl (G : Gm) : Rl Slots L2.St := fun F ρ H sl σ => SlOk G F ρ H sl σ
def rdTG (G : Gm) (E : XK) (t : TM) : TG := fun v σ H Q => ∃ F ρ sl st x, SlOk G F ρ H sl σ ∧ Rep G F ρ st H ∧ RelD G (Nn F ρ) H x v ∧ PostG G E (rSl G) F ρ H (t x sl st) Q
def rdTGs (G : Gm) (E : XK) (t : TMs) : TGs := fun vs σ H Q => ∃ F ρ sl st xs, SlOk G F ρ H sl σ ∧ Rep G F ρ st H ∧ RelDs G (Nn F ρ) H xs vs ∧ PostG G E (rSl G) F ρ H (t xs sl st) Q
def mNm (i : Nat) : TM := fun x sl st => .ok (sl.set i (some (.d x))) st
def mSub (o i : EM X) : TM := fun y sl st => (tgSub o i (.d y) sl st).bind fun _ st1 => .ok sl st1
def mNil : TMs := fun xs sl st => match xs with
  | [] => .ok sl st
  | _ => .bad
def mCons (t : TM) (u : TMs) : TMs := fun xs sl st => match xs with
  | x :: r => (t x sl st).bind fun sl1 st1 => u r sl1 st1
  | [] => .bad
def mTup (n : Nat) (u : TMs) : TM := fun x sl st => match x with
  | .tup _ xs => (match Nat.beq xs.length n with
    | true => u xs sl st
    | false => .bad)
  | _ => .bad
theorem PG.imp {X : Cx} {tg : Expr} {t t' : TG} (h : PG X tg t) (k : ∀ v σ H Q, t' v σ H Q → t v σ H Q) : PG X tg t' := ⟨fun p s σ H v u Q I r q => h.run p s σ H v u Q I r (k v σ H Q q)⟩
theorem PGs.imp {X : Cx} {tg : List Expr} {t t' : TGs} (h : PGs X tg t) (k : ∀ v σ H Q, t' v σ H Q → t v σ H Q) : PGs X tg t' := ⟨fun p s σ H v u Q I r q => h.run p s σ H v u Q I r (k v σ H Q q)⟩
variable {X : Cx}
theorem q_gname {i : Nat} {x : Str} {pos : Pos} (hN : X.N.Nodup) (hi : X.N[i]? = some x) (hx : Loc X.env.scope x) (hf : X.fn x = true ∨ X.env.scope.names.lookup x = some .local) : PG X (.Name x pos) (rdTG G E (mNm i)) := by
  refine PG.imp (pg_name hN hi hx hf) fun v σ H Q h => ?_
  obtain ⟨F, ρ, sl, st, x, sk, R, r, h⟩ := h
  exact h ρ H _ (Stp.refl _ _) R (sk.set i (x := .d x) r)
theorem q_gsub {o i : Expr} {p : Pos} {mo mi : EM DH.X} (ho : PE X o (rdE G E mo)) (hi : PE X i (rdE G E mi)) 
    (ha : ∀ v, assign (.Subscript o i p) X.env v = (do
      let ov ← holding [v] (eval o X.env)
      let iv ← holding [v, ov] (eval i X.env)
      standAt p
      holding [v, ov, iv] (setItem ov iv v)
      release [v, ov, iv] [])) : PG X (.Subscript o i p) (rdTG G E (mSub mo mi)) := by
  refine PG.imp (pg_sub ho hi set_list ha) fun v σ H Q h => ?_
  obtain ⟨F, ρ, sl, st1, y, sk, R1, ry, h1⟩ := h
  have ry : RelX G F ρ H (.d y) v := ry
  have h1 : PostG G E (rSl G) F ρ H ((((mo sl st1).bind fun x st1 => (mi sl st1).bind fun k st2 => match setAt x k (.d y) st2 with | some st3 => .ok () st3 | none => .bad) : O Unit).bind fun _ st2 => .ok sl st2) Q := h1
  refine ⟨F, ρ, sl, st1, sk, R1, ?_⟩
  cases q1 : mo sl st1 with
  | bad => rw [q1] at h1; exact h1.elim
  | exn c fs st2 => rw [q1] at h1; exact h1
  | ok x st2 =>
    rw [q1] at h1
    intro ρ2 H2 ov s2 R2 rx
    refine ⟨F, ρ2, sl, st2, sk.mono s2, R2, ?_⟩
    cases q2 : mi sl st2 with
    | bad => simp only [O.bind, q2] at h1; exact h1.elim
    | exn c fs st3 => simp only [O.bind, q2] at h1; exact PostG.later (R := rSl G) s2 h1
    | ok k st3 =>
      simp only [O.bind, q2] at h1
      intro ρ3 H3 iv s3 R3 ri
      cases q3 : setAt x k (.d y) st3 with
      | none => simp only [q3] at h1; exact h1.elim
      | some st4 =>
        simp only [q3] at h1
        refine setAt_ok R3 (rx.mono s3) ri ((ry.mono s2).mono s3) q3 fun H4 s4 R4 => ?_
        exact h1 ρ3 H4 σ ((s2.trans s3).trans s4) R4 (((sk.mono s2).mono s3).mono s4)
theorem q_gsnil : PGs X [] (rdTGs G E mNil) := by
  refine PGs.imp pgs_nil fun v σ H Q h => ?_
  obtain ⟨F, ρ, sl, st, xs, sk, R, r, h⟩ := h
  cases xs with
  | nil => exact ⟨r, h ρ H σ (Stp.refl _ _) R sk⟩
  | cons _ _ => exact h.elim
theorem q_gscons {e : Expr} {es : List Expr} {t : TM} {u : TMs} (h1 : PG X e (rdTG G E t)) (h2 : PGs X es (rdTGs G E u)) (hs : (assignEach (e :: es) X.env).map (·.2) = assign e X.env :: (assignEach es X.env).map (·.2)) : PGs X (e :: es) (rdTGs G E (mCons t u)) := by
  refine PGs.imp (pgs_cons h1 h2 hs) fun v σ H Q h => ?_
  obtain ⟨F, ρ, sl, st, xs, sk, R, r, h⟩ := h
  cases xs with
  | nil => exact h.elim
  | cons x xs =>
    obtain ⟨w, ws, e1, r1, r2⟩ := r
    refine ⟨w, ws, e1, F, ρ, sl, st, x, sk, R, r1, PostG.mono (PostG.bind (R := rSl G) h) fun σ1 H1 h1 => ?_⟩
    obtain ⟨sl1, st1, ρ1, s1, R1, sk1, h1⟩ := h1
    exact ⟨F, ρ1, sl1, st1, xs, sk1, R1, RelDs.mono s1.keeps xs r2, h1⟩
theorem q_gtup {es : List Expr} {k n : Nat} {pos : Pos} {u : TMs} (hK : G.K = X.K) (hc : X.calm = true) (h : PGs X es (rdTGs G E u)) (hn : (assignEach es X.env).length = n) (hst : (assignEach es X.env).findIdx? (·.1) = none) : PG X (.Tuple es k pos) (rdTG G E (mTup n u)) := by
  refine PG.imp (pg_tup hc h hn hst) fun v σ H Q h => ?_
  obtain ⟨F, ρ, sl, st, x, sk, R, r, h⟩ := h
  cases x with
  | tup f xs =>
    unfold mTup at h
    cases q : Nat.beq xs.length n with
    | false => simp only [q] at h; exact h.elim
    | true =>
      simp only [q] at h
      obtain ⟨a, vs, e, fz, rs⟩ := r
      exact ⟨a, vs, e, by rw [← hK]; exact fz.sq, by rw [rs.length]; exact Nat.eq_of_beq_eq_true q, F, ρ, sl, st, xs, sk, R, rs, h⟩
  | _ => exact h.elim
/-- target = value -/
def sAsg (m : EM DH.X) (t : TM) : SM := fun sl st => (m sl st).s fun x st1 => match x with
  | .d y => (t y sl st1).s fun sl2 st2 => .nx sl2 st2
  | .loc _ => .bad
theorem q_asg {tg e : Expr} {pos : Pos} {m : EM DH.X} {t : TM} (he : PE X e (rdE G E m)) (hg : PG X tg (rdTG G E t)) (hs : swapsWithSole [tg] e pos.line X.env = pure false) (hw : swappedStores [tg] e X.env = pure none) (h1 : (assignEach [tg] X.env).map (·.2) = [assign tg X.env]) : PS X (.Assign [tg] e pos) (rdS G E (sAsg m t)) := by
  refine PS.imp (ps_asg he hg hs hw h1) fun D σ H h => ?_
  obtain ⟨F, ρ, sl, st, sk, R, h⟩ := h
  refine ⟨F, ρ, sl, st, sk, R, PostG.mono (PostS.part (R := rX G) h) fun v H1 h1 => ?_⟩
  obtain ⟨x, st1, ρ1, s1, R1, r1, h1⟩ := h1
  cases x with
  | loc l => exact h1.elim
  | d y =>
    refine ⟨F, ρ1, sl, st1, y, sk.mono s1, R1, r1, ?_⟩
    have h2 := PostS.part (R := rSl G) h1
    refine PostG.mono h2 fun σ2 H2 h2 => ?_
    obtain ⟨sl2, st2, ρ2, s2, R2, sk2, h2⟩ := h2
    exact h2 ρ2 H2 σ2 (Stp.refl _ _) R2 sk2
/-- a, b = (e, f): two local names -/
def sPar (i j : Nat) (a b : EM DH.X) : SM := fun sl st => (a sl st).s fun x st1 => (b sl st1).s fun y st2 => .nx ((sl.set i (some x)).set j (some y)) st2
theorem q_par {x y : Str} {a b : Expr} {i j kt k2 : Nat} {px py pt pt2 pos : Pos} {ma mb : EM DH.X} (hc : X.calm = true) (hN : X.N.Nodup) (hi : X.N[i]? = some x) (hj : X.N[j]? = some y) (hij : i ≠ j) (hx : X.env.scope.names.lookup x = some .local) (hy : X.env.scope.names.lookup y = some .local)
    (ha : PE X a (rdE G E ma)) (hb : PE X b (rdE G E mb)) (he : starEach [a, b] X.env = (false, eval a X.env) :: starEach [b] X.env) (he2 : starEach [b] X.env = (false, eval b X.env) :: starEach [] X.env)
    (hw : swappedStores [.Tuple [.Name x px, .Name y py] kt pt] (.Tuple [a, b] k2 pt2) X.env = pure (some [x, y])) (hs : swapsWithSole [.Tuple [.Name x px, .Name y py] kt pt] (.Tuple [a, b] k2 pt2) pos.line X.env = pure false) :
    PS X (.Assign [.Tuple [.Name x px, .Name y py] kt pt] (.Tuple [a, b] k2 pt2) pos) (rdS G E (sPar i j ma mb)) := by
  refine PS.imp (ps_par hc hN hi hj hij hx hy (pa_cons ha (pa_cons hb pa_nil he2) he) hw hs) fun D σ H h => ?_
  obtain ⟨F, ρ, sl, st, sk, R, h⟩ := h
  refine ⟨F, ρ, sl, st, sk, R, PostG.mono (PostS.part (R := rX G) h) fun v H1 h1 => ?_⟩
  obtain ⟨x, st1, ρ1, s1, R1, r1, h1⟩ := h1
  refine ⟨F, ρ1, sl, st1, sk.mono s1, R1, PostG.mono (PostS.part (R := rX G) h1) fun w H2 h2 => ?_⟩
  obtain ⟨y, st2, ρ2, s2, R2, r2, h2⟩ := h2
  exact ⟨v, w, rfl, h2 ρ2 H2 _ (Stp.refl _ _) R2 ((((sk.mono s1).mono s2).set i (r1.mono s2)).set j r2)⟩
/-- x op= e -/
def sAug (i : Nat) (f : DH.X → DH.X → Store → O DH.X) (m : EM DH.X) : SM := fun sl st => match sl[i]? with
  | some (some x) => (m sl st).s fun y st1 => (f x y st1).s fun z st2 => .nx (sl.set i (some z)) st2
  | _ => .bad
theorem q_aug {i : Nat} {x : Str} {e : Expr} {op : Operator} {r : R2} {f : DH.X → DH.X → Store → O DH.X} {m : EM DH.X} {pos pos' : Pos} (hN : X.N.Nodup) (hi : X.N[i]? = some x) (hx : Loc X.env.scope x) (hf : X.fn x = true ∨ X.env.scope.names.lookup x = some .local) (he : PE X e (rdE G E m)) (ho : PIp X op r) (hv : OpV G r f) : PS X (.AugAssign (.Name x pos') op e pos) (rdS G E (sAug i f m)) := by
  refine PS.imp (ps_aug hN hi hx he ho hf) fun D σ H h => ?_
  obtain ⟨F, ρ, sl, st, sk, R, h⟩ := h
  unfold sAug at h
  cases q : sl[i]? with
  | none => simp only [q] at h; exact h.elim
  | some o =>
    cases o with
    | none => simp only [q] at h; exact h.elim
    | some y =>
      simp only [q] at h
      obtain ⟨v, e1, rv⟩ := sk.2 i y q
      refine ⟨v, e1, F, ρ, sl, st, sk, R, PostG.mono (PostS.part (R := rX G) h) fun w H1 h1 => ?_⟩
      obtain ⟨z, st1, ρ1, s1, R1, r1, h1⟩ := h1
      refine hv E F ρ1 H1 st1 y z v w _ R1 (rv.mono s1) r1 (PostG.mono (PostS.part (R := rX G) h1) fun u H2 h2 => ?_)
      obtain ⟨z', st2, ρ2, s2, R2, r2, h2⟩ := h2
      exact h2 ρ2 H2 _ (Stp.refl _ _) R2 (((sk.mono s1).mono s2).set i r2)
/-! ### methods of lists, by values -/
/-- the value is of that built-in type; a tuple that is known to its object too -/
def TyW (K : PySem.W.Frag) (T : String) (x : V) (H : Hp) : Prop := tyV K T x H ∨ (T = "tuple" ∧ ∃ p o xs, x = .ref p ∧ H p = some (.frz o (.tup xs)) ∧ o.dict = none)
theorem tyW_is {pins : List (Addr × Obj)} {σ : L2.St} {H : Hp} {s : Shared} {T : String} {x : V} {v : Value} (I : Inv X pins σ H s) (r : RelV x v) (ty : TyW X.K T x H) :
    s.TypeIs v T ∧ ∀ a, v = .ref a → ∃ ob, s.heap.get? a = some ob ∧ ob.dict = none := by
  rcases ty with ty | ⟨rfl, p, o, xs, rfl, e, d⟩
  · exact tyV_is I r ty
  · cases r
    obtain ⟨h1, _, its, _, ob, h2, hc, _⟩ := I.hok p _ e
    rw [h1] at h2
    cases h2
    exact ⟨⟨o, h1, hc⟩, fun a e => by cases e; exact ⟨o, h1, d⟩⟩
section
variable {o e : Expr} {es : List Expr} {to : TE} {t : TA} {name : Str} {apos cpos : Pos} {T id : String} {r : V → List V → Hp → VK → Prop}
theorem pw_bm0 (pa : PlainAttrs T) (slot : Slot T name id) (hty : typeOf (.builtin id) = pure (.type "method_descriptor")) (hm : MtR X id r) (ho : PE X o to)
    (hbase : attributeBase o name X.env (eval o X.env) = eval o X.env) (hline : (apos.endLine == cpos.line) = true) : PE X (.Call (.Attribute o name apos) [] [] cpos) (fun σ H Q => to σ H fun x H1 => TyW X.K T x H1 ∧ r x [] H1 Q) := by
  refine ⟨fun pins s σ H Q I h => ?_⟩
  refine wpAny_Call_method0_late hbase hline (thn (ho.run pins s σ H _ I h) fun v s1 ⟨x, H1, I1, r1, ty, q1⟩ => ?_)
  obtain ⟨h1, h2⟩ := tyW_is I1 r1 ty
  exact ⟨T, id, pa, slot, hty, h1, h2, Calls.callWith_builtin rfl (PySem.evalArgs_none (hm pins s1 σ H1 x [] v [] Q I1 r1 .nil q1))⟩
theorem pw_bm (pa : PlainAttrs T) (slot : Slot T name id) (hty : typeOf (.builtin id) = pure (.type "method_descriptor")) (hm : MtR X id r) (ho : PE X o to) (ha : PA X (e :: es) t)
    (hbase : attributeBase o name X.env (eval o X.env) = eval o X.env)
    (hfew : ((backTo cpos (starEach (e :: es) X.env)).all (fun x => !x.1) && (backToKw cpos (keywordEach [] X.env)).all (fun x => x.1.isSome)
      && decide ((e :: es).length + ([] : List Keyword).length + (if ([] : List Keyword).isEmpty then 0 else 1) < 30)) = true)
    (hline : (apos.endLine == cpos.line) = true) (hs : starEach (e :: es) X.env = (false, eval e X.env) :: starEach es X.env) (hplain : (backTo cpos (starEach es X.env)).any (·.1) = false) :
    PE X (.Call (.Attribute o name apos) (e :: es) [] cpos) (fun σ H Q => to σ H fun x H1 => TyW X.K T x H1 ∧ t σ H1 fun xs H2 => r x xs H2 Q) := by
  refine ⟨fun pins s σ H Q I h => ?_⟩
  refine wpAny_Call_method_late hbase hfew hline rfl (thn (ho.run pins s σ H _ I h) fun v s1 ⟨x, H1, I1, r1, ty, q1⟩ => ?_)
  obtain ⟨h1, h2⟩ := tyW_is I1 r1 ty
  refine ⟨T, id, pa, slot, hty, h1, h2, ?_⟩
  have hA := ha.run cpos pins s1 σ H1 _ I1 q1
  rw [hs] at hA ⊢
  refine Calls.callWith_builtin (by show (false || (backTo cpos (starEach es X.env)).any (·.1)) = false; rw [hplain] <;> rfl) (Calls.evalArgs_plain ?_)
  exact thn hA fun us s2 ⟨vs, H2, I2, r2, q2⟩ => hm pins s2 σ H2 x vs v us Q I2 r1 r2 q2
end
/-- o.m(e, ..) of a built-in's own: k, the kind of thing -/
inductive Kd where
  | l | t | s | d
def isKd (k : Kd) (st : Store) (x : DH.X) : Bool := match k, deref st x with
  | .l, some (.lst _) => true
  | .t, some (.tup true _) => true
  | .s, some (.str _) => true
  | .d, some (.dct _ _) => true
  | _, _ => false
def Kd.T : Kd → String
  | .l => "list" | .t => "tuple" | .s => "str" | .d => "dict"
theorem kd_ok {k : Kd} {F : Addr → Prop} {ρ : List Addr} {H : Hp} {st : Store} {x : DH.X} {v : V} (R : Rep G F ρ st H) (rx : RelX G F ρ H x v) (h : isKd k st x = true) : TyW G.K k.T v H := by
  unfold isKd at h
  cases q : deref st x with
  | none => rw [q] at h; cases k <;> cases h
  | some d =>
    have w := view R rx q
    rw [q] at h
    cases k with
    | l =>
      cases d with
      | lst xs =>
        obtain ⟨a, vs, e, f, r⟩ := w
        rw [e]
        exact .inl (.inl ⟨rfl, vs, SqL.of f⟩)
      | _ => cases h
    | s =>
      cases d with
      | str cs =>
        have w : v = .str (strOf cs) := w
        rw [w]
        exact .inl rfl
      | _ => cases h
    | d =>
      cases d with
      | dct t kvs =>
        obtain ⟨a, e, r⟩ := w
        rw [e]
        refine .inl (.inr (.inr (.inl ⟨rfl, ?_⟩)))
        rcases r with ⟨ps, h, _⟩ | ⟨ps, h, _⟩
        · exact .inl ⟨ps, h⟩
        · exact .inr ⟨ps, h⟩
      | _ => cases h
    | t =>
      cases d with
      | tup f xs =>
        cases f with
        | false => cases h
        | true =>
          cases x with
          | loc l =>
            unfold deref at q
            simp only at q
            split at q <;> cases q
          | d y =>
            have q' : y = .tup true xs := Option.some.inj q
            rw [q'] at rx
            obtain ⟨a, vs, e, fz, r⟩ := rx
            rw [e]
            rcases fz with ⟨o, h1, h2, h3⟩ | ⟨o, its, n, h1, h2, h3, h4⟩
            · exact .inr ⟨rfl, a, o, vs, rfl, h1, h2⟩
            · exact .inl (.inr (.inl ⟨rfl, o, h1, h3, h2⟩))
      | _ => cases h
def eMeth (k : Kd) (f : DH.X → List DH.X → Store → O DH.X) (o : EM DH.X) (m : EM (List DH.X)) : EM DH.X := fun sl st => (o sl st).bind fun x st1 => match isKd k st1 x with
  | true => (m sl st1).bind fun xs st2 => f x xs st2
  | false => .bad
def MethV (G : Gm) (r : V → List V → Hp → VK → Prop) (f : DH.X → List DH.X → Store → O DH.X) : Prop :=
  ∀ (E : XK) (F : Addr → Prop) (ρ : List Addr) (H : Hp) (st : Store) (x : DH.X) (v : V) (xs : List DH.X) (vs : List V) (Q : VK), Rep G F ρ st H → RelX G F ρ H x v → RelXs G F ρ H xs vs → PostG G E (rX G) F ρ H (f x xs st) Q → r v vs H Q
theorem q_meth {o e : Expr} {es : List Expr} {name : Str} {apos cpos : Pos} {id : String} {k : Kd} {r : V → List V → Hp → VK → Prop} {f : DH.X → List DH.X → Store → O DH.X} {mo : EM DH.X} {m : EM (List DH.X)} (hK : G.K = X.K) (pa : PlainAttrs k.T) (slot : Slot k.T name id) (hty : typeOf (.builtin id) = pure (.type "method_descriptor")) (hm : MtR X id r) (hv : MethV G r f) (ho : PE X o (rdE G E mo)) (ha : PA X (e :: es) (rdA G E m))
    (hbase : attributeBase o name X.env (eval o X.env) = eval o X.env)
    (hfew : ((backTo cpos (starEach (e :: es) X.env)).all (fun x => !x.1) && (backToKw cpos (keywordEach [] X.env)).all (fun x => x.1.isSome)
      && decide ((e :: es).length + ([] : List Keyword).length + (if ([] : List Keyword).isEmpty then 0 else 1) < 30)) = true)
    (hline : (apos.endLine == cpos.line) = true) (hs : starEach (e :: es) X.env = (false, eval e X.env) :: starEach es X.env) (hplain : (backTo cpos (starEach es X.env)).any (·.1) = false) :
    PE X (.Call (.Attribute o name apos) (e :: es) [] cpos) (rdE G E (eMeth k f mo m)) := by
  refine PE.imp (pw_bm pa slot hty hm ho ha hbase hfew hline hs hplain) fun σ H Q h => ?_
  obtain ⟨F, ρ, sl, st, sk, R, h⟩ := h
  refine ⟨F, ρ, sl, st, sk, R, PostG.mono (PostG.bind (R := rX G) h) fun v H1 h1 => ?_⟩
  obtain ⟨x, st1, ρ1, s1, R1, r1, h1⟩ := h1
  cases q : isKd k st1 x with
  | false => simp only [q] at h1; exact h1.elim
  | true =>
    simp only [q] at h1
    refine ⟨by rw [← hK]; exact kd_ok R1 r1 q, F, ρ1, sl, st1, sk.mono s1, R1, PostG.mono (PostG.bind (R := rXs G) h1) fun w H2 h2 => ?_⟩
    obtain ⟨xs, st2, ρ2, s2, R2, r2, h2⟩ := h2
    exact hv E F ρ2 H2 st2 x v xs w Q R2 (r1.mono s2) r2 h2
theorem q_meth0 {o : Expr} {name : Str} {apos cpos : Pos} {id : String} {k : Kd} {r : V → List V → Hp → VK → Prop} {f : DH.X → List DH.X → Store → O DH.X} {mo : EM DH.X} (hK : G.K = X.K) (pa : PlainAttrs k.T) (slot : Slot k.T name id) (hty : typeOf (.builtin id) = pure (.type "method_descriptor")) (hm : MtR X id r) (hv : MethV G r f) (ho : PE X o (rdE G E mo))
    (hbase : attributeBase o name X.env (eval o X.env) = eval o X.env) (hline : (apos.endLine == cpos.line) = true) :
    PE X (.Call (.Attribute o name apos) [] [] cpos) (rdE G E (eMeth k f mo aNil)) := by
  refine PE.imp (pw_bm0 pa slot hty hm ho hbase hline) fun σ H Q h => ?_
  obtain ⟨F, ρ, sl, st, sk, R, h⟩ := h
  refine ⟨F, ρ, sl, st, sk, R, PostG.mono (PostG.bind (R := rX G) h) fun v H1 h1 => ?_⟩
  obtain ⟨x, st1, ρ1, s1, R1, r1, h1⟩ := h1
  cases q : isKd k st1 x with
  | false => simp only [q] at h1; exact h1.elim
  | true =>
    simp only [q] at h1
    exact ⟨by rw [← hK]; exact kd_ok R1 r1 q, hv E F ρ1 H1 st1 x v [] [] Q R1 r1 rfl h1⟩
/-- xs.append(y) -/
def mAppend (x : DH.X) (xs : List DH.X) (st : Store) : O DH.X := match x, xs with
  | .loc l, [.d y] => (match st[l]? with
    | some (.lst ys) => (match small (ys.length + 1) with
      | true => .ok (.d .non) (st.set l (.lst (ys ++ [y])))
      | false => .bad)
    | _ => .bad)
  | _, _ => .bad
theorem append_v : MethV G rAppend mAppend := fun E F ρ H st x v xs vs Q R rx rs h => by
  unfold mAppend at h
  split at h
  · rename_i l y
    split at h
    · rename_i ys q
      cases z : small (ys.length + 1) with
      | false => simp only [z] at h; exact h.elim
      | true =>
        simp only [z] at h
        obtain ⟨a, e1, e2⟩ := rx
        obtain ⟨ws, e3, r3⟩ := R.obj l a _ e1 q
        obtain ⟨w, r', e4, ry, e5⟩ := rs
        have e5 : r' = [] := e5
        subst e5
        have hz := small_ok z
        refine ⟨a, ws, w, e2, e4, e3, by rw [r3.length]; omega, ?_⟩
        have s : Stp ρ H ρ (upd H a (.lst (ws ++ [w]))) := stp_set e1
        exact h ρ _ .non s (R.set e1 e3 (fun ps z => by cases z) (fun q => codeO_lst q) ⟨_, upd_same, (RelDs.mono s.keeps ys r3).append (RelDs.one (RelD.mono s.keeps y ry))⟩) rfl
    · exact h.elim
  · exact h.elim
/-- xs.pop(), xs.pop(i) -/
def mPop (x : DH.X) (xs : List DH.X) (st : Store) : O DH.X := match x, xs with
  | .loc l, [] => (match st[l]? with
    | some (.lst ys) => (match ys[ys.length - 1]? with
      | some y => .ok (.d y) (st.set l (.lst ys.dropLast))
      | none => .bad)
    | _ => .bad)
  | _, _ => .bad
def mPopAt (x : DH.X) (xs : List DH.X) (st : Store) : O DH.X := match x, xs with
  | .loc l, [.d (.int i)] => (match st[l]? with
    | some (.lst ys) => (match Nat.blt i.natAbs 4611686018427387904, ixM ys.length i with
      | true, some k => (match ys[k]? with
        | some y => .ok (.d y) (st.set l (.lst (ys.eraseIdx k)))
        | none => .bad)
      | _, _ => .bad)
    | _ => .bad)
  | _, _ => .bad
theorem RelDs.dropLast {N : Addr → Prop} {H : Hp} {xs : List D} {vs : List V} (r : RelDs G N H xs vs) : RelDs G N H xs.dropLast vs.dropLast := by
  rw [List.dropLast_eq_take, List.dropLast_eq_take, r.length]
  exact r.take _
theorem pop_v : MethV G rPop mPop := fun E F ρ H st x v xs vs Q R rx rs h => by
  unfold mPop at h
  split at h
  · rename_i l
    split at h
    · rename_i ys q
      split at h
      · rename_i y q2
        obtain ⟨a, e1, e2⟩ := rx
        obtain ⟨ws, e3, r3⟩ := R.obj l a _ e1 q
        obtain ⟨w, hw, rw'⟩ := r3.get q2
        refine ⟨a, ws, w, e2, rs, e3, by rw [r3.length]; exact hw, ?_⟩
        have s : Stp ρ H ρ (upd H a (.lst ws.dropLast)) := stp_set e1
        exact h ρ _ w s (R.set e1 e3 (fun ps z => by cases z) (fun q => codeO_lst q) ⟨_, upd_same, (RelDs.mono s.keeps ys r3).dropLast⟩) (RelD.mono s.keeps y rw')
      · exact h.elim
    · exact h.elim
  · exact h.elim
theorem popAt_v : MethV G rPopAt mPopAt := fun E F ρ H st x v xs vs Q R rx rs h => by
  unfold mPopAt at h
  split at h
  · rename_i l i
    split at h
    · rename_i ys q
      split at h
      · rename_i k hb q1
        split at h
        · rename_i y q2
          obtain ⟨a, e1, e2⟩ := rx
          obtain ⟨ws, e3, r3⟩ := R.obj l a _ e1 q
          obtain ⟨w, hw, rw'⟩ := r3.get q2
          obtain ⟨u, r', e4, ry, e5⟩ := rs
          have e5 : r' = [] := e5
          have ry : u = .int i := ry
          subst e5 ry
          have hb' : i.natAbs < 4611686018427387904 := Nat.le_of_ble_eq_true hb
          have q1' : ixN ws.length i = some k := by rw [r3.length, ← ixM_eq]; exact q1
          refine ⟨a, ws, i, k, w, e2, e4, e3, by omega, by omega, (ixN_seq q1').1, hw, ?_⟩
          have s : Stp ρ H ρ (upd H a (.lst (ws.eraseIdx k))) := stp_set e1
          exact h ρ _ w s (R.set e1 e3 (fun ps z => by cases z) (fun q => codeO_lst q) ⟨_, upd_same, (RelDs.mono s.keeps ys r3).eraseIdx k⟩) (RelD.mono s.keeps y rw')
        · exact h.elim
      · exact h.elim
    · exact h.elim
  · exact h.elim
end
end DH
namespace DH
open PySem PySem.Spec PyProof.Rows L2
section
variable {G : Gm} {E : XK}
theorem RelK.length {N : Addr → Prop} {H : Hp} : ∀ {xs : List (D × D)} {ps : List (Key × V)}, RelK G N H xs ps → ps.length = xs.length
  | [], ps, h => by
    have e : ps = [] := h
    rw [e]; rfl
  | (k, x) :: xs, ps, h => by
    obtain ⟨q, v, r, e, _, _, h2⟩ := h
    rw [e, List.length_cons, List.length_cons, RelK.length h2]
theorem RelT.length {N : Addr → Prop} {H : Hp} : ∀ {xs : List (D × D)} {ps : List (List Key × V)}, RelT G N H xs ps → ps.length = xs.length
  | [], ps, h => by
    have e : ps = [] := h
    rw [e]; rfl
  | (k, x) :: xs, ps, h => by
    obtain ⟨q, v, r, e, _, _, h2⟩ := h
    rw [e, List.length_cons, List.length_cons, RelT.length h2]
/-! ### len -/
def gLen : D → Store → O X
  | .lst xs, st => .ok (.d (.int xs.length)) st
  | .tup _ xs, st => .ok (.d (.int xs.length)) st
  | .dct _ xs, st => .ok (.d (.int xs.length)) st
  | .str cs, st => (match small cs.length with
    | true => .ok (.d (.int cs.length)) st
    | false => .bad)
  | _, _ => .bad
abbrev rLenAll (K : PySem.W.Frag) : List V → Hp → VK → Prop := fun xs H Q =>
  (∃ p ys, xs = [.ref p] ∧ (SqL K H p ys ∨ SqT K H p ys) ∧ Q (.int ys.length) H) ∨ (∃ z, xs = [.str z] ∧ z.length ≤ sizeLine ∧ Q (.int z.length) H) ∨ (∃ a kvs, xs = [V.ref a] ∧ H a = some (.dK kvs) ∧ Q (.int kvs.length) H) ∨ rLenT xs H Q
theorem len_all {X : Cx} : CallR X (.builtin "len") (rLenAll X.K) := call_len_seq.or (call_len_str.or (call_lenD.or call_len_dT))
theorem len_v : CallV G (rLenAll G.K) (f1 gLen) := cal1 fun E F ρ H st a v Q R ra h => by
  cases a with
  | lst xs =>
    obtain ⟨p, vs, e, f, r⟩ := ra
    subst e
    exact .inl ⟨p, vs, rfl, .inl (SqL.of f), now1 R h (by show V.int _ = V.int _; rw [r.length])⟩
  | tup g xs =>
    obtain ⟨p, vs, e, f, r⟩ := ra
    subst e
    exact .inl ⟨p, vs, rfl, .inr f, now1 R h (by show V.int _ = V.int _; rw [r.length])⟩
  | str cs =>
    unfold gLen at h
    cases z : small cs.length with
    | false => simp only [z] at h; exact h.elim
    | true =>
      simp only [z] at h
      have e : v = .str (strOf cs) := ra
      subst e
      exact .inr (.inl ⟨strOf cs, rfl, by rw [str_len]; exact small_ok z, by rw [str_len]; exact now1 R h rfl⟩)
  | dct tk xs =>
    obtain ⟨p, e, r⟩ := ra
    subst e
    rcases r with ⟨ps, h1, _, r⟩ | ⟨ps, h1, _, r⟩
    · exact .inr (.inr (.inl ⟨p, ps, rfl, h1, now1 R h (by show V.int _ = V.int _; rw [r.length])⟩))
    · exact .inr (.inr (.inr ⟨p, ps, rfl, h1, now1 R h (by show V.int _ = V.int _; rw [r.length])⟩))
  | _ => exact h.elim
/-! ### list(x), tuple(x) -/
def gList (mu : Bool) : D → Store → O X
  | .lst xs, st => newL mu xs st
  | .tup _ xs, st => newL mu xs st
  | _, _ => .bad
abbrev rListOf (K : PySem.W.Frag) : List V → Hp → VK → Prop := fun xs H Q => ∃ p ys, xs = [.ref p] ∧ (SqL K H p ys ∨ SqT K H p ys) ∧ ∀ l, H l = none → Q (.ref l) (upd H l (.lst ys))
theorem list_v {mu : Bool} : CallV G (rListOf G.K) (f1 (gList mu)) := cal1 fun E F ρ H st a v Q R ra h => by
  cases a with
  | lst xs =>
    obtain ⟨p, vs, e, f, r⟩ := ra
    subst e
    exact ⟨p, vs, rfl, .inl (SqL.of f), fun l hl => newL_ok R r hl h⟩
  | tup g xs =>
    obtain ⟨p, vs, e, f, r⟩ := ra
    subst e
    exact ⟨p, vs, rfl, .inr f, fun l hl => newL_ok R r hl h⟩
  | _ => exact h.elim
/-- a new tuple, its methods to be called (fl) or not -/
def newTf (fl : Bool) (xs : List D) (st : Store) : O X := .ok (.d (.tup fl xs)) st
def tupH (fl : Bool) (o : Obj) (vs : List V) : HO := match fl with
  | false => .tup vs
  | true => .frz o (.tup vs)
theorem newTf_ok {F : Addr → Prop} {ρ : List Addr} {H : Hp} {st : Store} {fl : Bool} {o : Obj} {xs : List D} {vs : List V} {Q : VK} {p : Addr} (R : Rep G F ρ st H) (r : RelDs G (Nn F ρ) H xs vs) (hp : H p = none) (ho : fl = true → o.dict = none) (h : PostG G E (rX G) F ρ H (newTf fl xs st) Q) : Q (.ref p) (upd H p (tupH fl o vs)) := by
  cases fl with
  | false =>
    have s : Stp ρ H ρ (upd H p (.tup vs)) := stp_new hp
    exact h ρ (upd H p (.tup vs)) (.ref p) s (R.new hp) ⟨p, vs, rfl, ⟨upd_same, R.fresh hp⟩, RelDs.mono s.keeps xs r⟩
  | true =>
    have s : Stp ρ H ρ (upd H p (.frz o (.tup vs))) := stp_new hp
    exact h ρ (upd H p (.frz o (.tup vs))) (.ref p) s (R.new hp) ⟨p, vs, rfl, .inl ⟨o, upd_same, ho rfl, R.fresh hp⟩, RelDs.mono s.keeps xs r⟩
abbrev rTupOf (K : PySem.W.Frag) (fl : Bool) : List V → Hp → VK → Prop := fun xs H Q => ∃ p ys, xs = [.ref p] ∧ ((SqL K H p ys ∧ ∀ l o, H l = none → (fl = true → o.dict = none) → Q (.ref l) (upd H l (tupH fl o ys))) ∨ (SqT K H p ys ∧ Q (.ref p) H))
theorem tup_of {X : Cx} {fl : Bool} : CallR X (.type "tuple") (rTupOf X.K fl) := by
  cases fl with
  | false =>
    intro pins s σ H xs us Q I r h
    obtain ⟨p, ys, e, h⟩ := h
    refine call_tuple_of pins s σ H xs us Q I r ⟨p, ys, e, ?_⟩
    rcases h with ⟨h1, h2⟩ | h
    · exact .inl ⟨h1, fun l hl => h2 l default hl (fun z => by cases z)⟩
    · exact .inr h
  | true =>
    intro pins s σ H xs us Q I r h
    obtain ⟨p, ys, e, h⟩ := h
    subst e
    obtain ⟨u, rfl, rx⟩ := vals1 r
    cases rx
    rcases h with ⟨hq, q⟩ | ⟨hq, q⟩
    · obtain ⟨its, r', pl, hz⟩ := I.list hq
      have hlen := r'.length
      refine call_tuple_list pl.isList (fun h' kp => ?_) (by simp only [List.size_toArray] <;> omega)
      have I1 : Inv X pins σ H { s with heap := h' } := I.kept (t' := s.toks) kp
      have I2 : Inv X pins σ (upd H h'.objs.size (.frz { cls := .type "tuple", data := .seq its.toArray } (.tup ys))) { s with heap := h'.push { cls := .type "tuple", data := .seq its.toArray } } :=
        I1.laid (t' := s.toks) (fun b o e => Heap.get?_push_of_some _ e) (Nat.le_refl _) (show ObjOk X.prog X.w _ _ _ (.frz _ (.tup ys)) from ⟨Heap.get?_push_size _ rfl, show ObjOk X.prog X.w _ _ _ (.tup ys) from ⟨hz, its, r', IsTup.new _ _⟩⟩)
      exact ⟨.ref h'.objs.size, _, I2, rfl, q _ _ (I1.hok.fresh (Nat.le_refl _)) (fun _ => rfl)⟩
    · obtain ⟨its, r', pl, hz⟩ := I.tuple hq
      exact call_tuple_same pl ⟨.ref p, H, I, rfl, q⟩
def selfT (x : X) (st : Store) : O X := match x with
  | .d (.tup f ys) => .ok (.d (.tup f ys)) st
  | _ => .bad
def gTupOf (fl : Bool) : List X → Store → O X := fun xs st => match xs with
  | [x] => (match deref st x with
    | some (.lst ys) => newTf fl ys st
    | _ => selfT x st)
  | _ => .bad
theorem tup_v {fl : Bool} : CallV G (rTupOf G.K fl) (gTupOf fl) := by
  intro E F ρ H st xs vs Q R rs h
  unfold gTupOf at h
  cases xs with
  | nil => exact h.elim
  | cons x t =>
    cases t with
    | cons _ _ => exact h.elim
    | nil =>
      obtain ⟨v, r', e, rx, e2⟩ := rs
      have e2' : r' = [] := e2
      subst e2'
      subst e
      simp only at h
      have fin : PostG G E (rX G) F ρ H (selfT x st) Q → rTupOf G.K fl [v] H Q := fun h => by
        unfold selfT at h
        cases x with
        | loc l => exact h.elim
        | d y =>
          cases y with
          | tup f ys =>
            have rx2 := id rx
            obtain ⟨p, ws, e, fz, r⟩ := rx
            subst e
            exact ⟨p, ws, rfl, .inr ⟨fz.sq, PostG.now (R := rX G) h R rx2⟩⟩
          | _ => exact h.elim
      cases q : deref st x with
      | none => rw [q] at h; exact fin h
      | some d =>
        rw [q] at h
        cases d with
        | lst ys =>
          obtain ⟨p, ws, e, f, r⟩ := view R rx q
          subst e
          exact ⟨p, ws, rfl, .inl ⟨SqL.of f, fun l o hl ho => newTf_ok R r hl ho h⟩⟩
        | _ => exact fin h
/-! ### ints -/
def gAbs : D → Store → O X
  | .int i, st => .ok (.d (.int (match i with | .ofNat n => .ofNat n | .negSucc n => .ofNat (n + 1)))) st
  | _, _ => .bad
theorem abs_eq (i : Int) : (match i with | .ofNat n => Int.ofNat n | .negSucc n => .ofNat (n + 1)) = if i < 0 then -i else i := by
  cases i with
  | ofNat n => rw [if_neg (by simp)]
  | negSucc n => rw [if_pos (Int.negSucc_lt_zero n)]; rfl
abbrev rAbs : List V → Hp → VK → Prop := fun xs H Q => ∃ i, xs = [V.int i] ∧ Q (.int (if i < 0 then -i else i)) H
theorem abs_v : CallV G rAbs (f1 gAbs) := cal1 fun E F ρ H st a v Q R ra h => by
  cases a with
  | int i =>
    have e : v = .int i := ra
    subst e
    refine ⟨i, rfl, ?_⟩
    rw [← abs_eq]
    exact now1 R h rfl
  | _ => exact h.elim
def gInt : D → Store → O X
  | .int i, st => .ok (.d (.int i)) st
  | .bl b, st => .ok (.d (.int (match b with | true => 1 | false => 0))) st
  | _, _ => .bad
abbrev rInt1 : List V → Hp → VK → Prop := fun xs H Q => (∃ i, xs = [V.int i] ∧ Q (.int i) H) ∨ ∃ k, xs = [V.bl k] ∧ Q (.int (if k then 1 else 0)) H
theorem int_v : CallV G rInt1 (f1 gInt) := cal1 fun E F ρ H st a v Q R ra h => by
  cases a with
  | int i =>
    have e : v = .int i := ra
    subst e
    exact .inl ⟨i, rfl, now1 R h rfl⟩
  | bl b =>
    have e : v = .bl b := ra
    subst e
    refine .inr ⟨b, rfl, ?_⟩
    cases b <;> exact now1 R h rfl
  | _ => exact h.elim
def gMin2 : D → D → Store → O X
  | .int i, .int j, st => .ok (.d (.int (match ltI j i with | true => j | false => i))) st
  | _, _, _ => .bad
def gMax2 : D → D → Store → O X
  | .int i, .int j, st => .ok (.d (.int (match ltI i j with | true => j | false => i))) st
  | _, _, _ => .bad
abbrev rMin2 : List V → Hp → VK → Prop := fun xs H Q => ∃ i j, xs = [V.int i, .int j] ∧ Q (.int (if j < i then j else i)) H
abbrev rMax2 : List V → Hp → VK → Prop := fun xs H Q => ∃ i j, xs = [V.int i, .int j] ∧ Q (.int (if j > i then j else i)) H
theorem minI_eq (i j : Int) : (if j < i then j else i) = (match ltI j i with | true => j | false => i) := by
  rw [ltI_eq]
  by_cases h : j < i
  · rw [if_pos h, decide_eq_true h]
  · rw [if_neg h, decide_eq_false h]
theorem maxI_eq (i j : Int) : (if j > i then j else i) = (match ltI i j with | true => j | false => i) := by
  rw [ltI_eq]
  by_cases h : j > i
  · rw [if_pos h, decide_eq_true h]
  · rw [if_neg h, decide_eq_false h]
theorem min2_v : CallV G rMin2 (f11 gMin2) := cal2 fun E F ρ H st a b v w Q R ra rb h => by
  cases a with
  | int i =>
    cases b with
    | int j =>
      have e : v = .int i := ra
      have e2 : w = .int j := rb
      subst e
      subst e2
      exact ⟨i, j, rfl, now1 R h (by show V.int _ = V.int _; rw [minI_eq])⟩
    | _ => exact h.elim
  | _ => exact h.elim
theorem max2_v : CallV G rMax2 (f11 gMax2) := cal2 fun E F ρ H st a b v w Q R ra rb h => by
  cases a with
  | int i =>
    cases b with
    | int j =>
      have e : v = .int i := ra
      have e2 : w = .int j := rb
      subst e
      subst e2
      exact ⟨i, j, rfl, now1 R h (by show V.int _ = V.int _; rw [maxI_eq])⟩
    | _ => exact h.elim
  | _ => exact h.elim
/-! ### sum of a list of ints -/
def intsD : List D → Option (List Int)
  | [] => some []
  | .int i :: r => (match intsD r with
    | some is => some (i :: is)
    | none => none)
  | _ => none
def sumI : List Int → Int
  | [] => 0
  | i :: r => i + sumI r
theorem sumI_eq : ∀ is : List Int, sumI is = is.sum
  | [] => rfl
  | i :: r => by rw [sumI, sumI_eq r, List.sum_cons]
theorem intsD_rel {N : Addr → Prop} {H : Hp} : ∀ {xs : List D} {is : List Int} {vs : List V}, intsD xs = some is → RelDs G N H xs vs → vs = is.map V.int
  | [], is, vs, e, h => by
    have e' : is = [] := (Option.some.inj e).symm
    rw [e']; exact h
  | x :: r, is, vs, e, h => by
    obtain ⟨v, r', e1, h1, h2⟩ := h
    cases x with
    | int i =>
      unfold intsD at e
      cases q : intsD r with
      | none => rw [q] at e; cases e
      | some is' =>
        rw [q] at e
        have e' : is = i :: is' := (Option.some.inj e).symm
        rw [e', e1, intsD_rel q h2]
        have h1' : v = .int i := h1
        rw [h1']; rfl
    | _ => cases e
def gSum : D → Store → O X
  | .lst xs, st => (match intsD xs with
    | some is => .ok (.d (.int (sumI is))) st
    | none => .bad)
  | _, _ => .bad
theorem sum_v : CallV G (rSum G.K) (f1 gSum) := cal1 fun E F ρ H st a v Q R ra h => by
  cases a with
  | lst xs =>
    unfold gSum at h
    cases z : intsD xs with
    | none => simp only [z] at h; exact h.elim
    | some is =>
      simp only [z] at h
      obtain ⟨p, vs, e, f, r⟩ := ra
      subst e
      rw [intsD_rel z r] at f
      refine ⟨p, is, rfl, SqL.of f, ?_⟩
      rw [← sumI_eq]
      exact now1 R h rfl
  | _ => exact h.elim
/-! ### in, not in -/
def anyB {α : Type} (f : α → Bool) : List α → Bool
  | [] => false
  | x :: xs => (match f x with
    | true => true
    | false => anyB f xs)
theorem anyB_eq {α : Type} (f : α → Bool) : ∀ xs : List α, anyB f xs = xs.any f
  | [] => rfl
  | x :: xs => by
    unfold anyB
    rw [List.any_cons]
    cases f x with
    | true => rfl
    | false => rw [anyB_eq f xs]; rfl
abbrev rInT (K : PySem.W.Frag) : R2 := fun x y H Q => ∃ d ds, Dp K H x d ∧ Dp K H y (.tuple ds) ∧ SeqAt.shaped d = true ∧ SeqAt.shaped (.tuple ds) = true ∧ Q (.bl (ds.any fun z => PyData.eqv z d)) H
abbrev rNotInT (K : PySem.W.Frag) : R2 := fun x y H Q => ∃ d ds, Dp K H x d ∧ Dp K H y (.tuple ds) ∧ SeqAt.shaped d = true ∧ SeqAt.shaped (.tuple ds) = true ∧ Q (.bl (!ds.any fun z => PyData.eqv z d)) H
theorem op_inT {X : Cx} (hu : X.A.units + 65 < cLine) : OpR X (compareOp .In) (rInT X.K) := by
  intro pins s σ H x y v u Q I rx ry h
  obtain ⟨d, ds, hd, he, sd, se, q⟩ := h
  obtain ⟨as, r1⟩ := Dp.reads I d x v hd rx
  obtain ⟨bs, r2⟩ := Dp.reads I (.tuple ds) y u he ry
  exact SeqAt.in_tuple_reads r2 r1 (SeqAt.canLay_of_shaped se) (SeqAt.canLay_of_shaped sd) (room_in_shaped sd hu) ⟨.bl _, H, I, rfl, q⟩
theorem op_notInT {X : Cx} (hu : X.A.units + 65 < cLine) : OpR X (compareOp .NotIn) (rNotInT X.K) := by
  intro pins s σ H x y v u Q I rx ry h
  obtain ⟨d, ds, hd, he, sd, se, q⟩ := h
  obtain ⟨as, r1⟩ := Dp.reads I d x v hd rx
  obtain ⟨bs, r2⟩ := Dp.reads I (.tuple ds) y u he ry
  exact SeqAt.notIn_tuple_reads r2 r1 (SeqAt.canLay_of_shaped se) (SeqAt.canLay_of_shaped sd) (room_in_shaped sd hu) ⟨.bl _, H, I, rfl, q⟩
def inD (x : D) (y : D) : Option Bool := match okD 64 x with
  | false => none
  | true => (match okD 64 y with
    | false => none
    | true => (match y with
      | .lst ys => some (anyB (fun z => eqD 64 z x) ys)
      | .tup _ ys => some (anyB (fun z => eqD 64 z x) ys)
      | _ => none))
theorem okD_more : ∀ (n : Nat) (x : D), okD n x = true → okD (n + 1) x = true
  | n, .non, h => rfl
  | n, .bl _, h => rfl
  | n, .int _, h => rfl
  | n, .str cs, h => by cases n <;> exact h
  | 0, .tup _ xs, h => by cases h
  | 0, .lst xs, h => by cases h
  | n + 1, .tup f xs, h => by
    show allB (okD (n + 1)) xs = true
    rw [allB_iff]
    have h' : allB (okD n) xs = true := h
    rw [allB_iff] at h'
    exact fun x hx => okD_more n x (h' x hx)
  | n + 1, .lst xs, h => by
    show allB (okD (n + 1)) xs = true
    rw [allB_iff]
    have h' : allB (okD n) xs = true := h
    rw [allB_iff] at h'
    exact fun x hx => okD_more n x (h' x hx)
  | 0, .dct _ _, h => by cases h
  | n + 1, .dct _ _, h => by cases h
  | 0, .obj _ _, h => by cases h
  | n + 1, .obj _ _, h => by cases h
theorem any_eqv {x : D} (hx : okD 64 x = true) (ys : List D) (hy : allB (okD 63) ys = true) : (toPys ys).any (fun z => PyData.eqv z (toPy x)) = anyB (fun z => eqD 64 z x) ys := by
  rw [anyB_eq, toPys_map, List.any_map]
  rw [allB_iff] at hy
  induction ys with
  | nil => rfl
  | cons y ys ih =>
    rw [List.any_cons, List.any_cons, ih fun z hz => hy z (List.mem_cons_of_mem _ hz)]
    congr 1
    exact eqv_eq 64 y x (okD_more 63 y (hy y (List.mem_cons_self ..))) hx
theorem inD_some {x y : D} {b : Bool} (h : inD x y = some b) : okD 64 x = true ∧ okD 64 y = true ∧ ((∃ ys, y = .lst ys ∧ (toPys ys).any (fun z => PyData.eqv z (toPy x)) = b) ∨ (∃ f ys, y = .tup f ys ∧ (toPys ys).any (fun z => PyData.eqv z (toPy x)) = b)) := by
  unfold inD at h
  cases z1 : okD 64 x with
  | false => rw [z1] at h; cases h
  | true =>
    cases z2 : okD 64 y with
    | false => rw [z1, z2] at h; cases h
    | true =>
      rw [z1, z2] at h
      refine ⟨rfl, rfl, ?_⟩
      cases y with
      | lst ys =>
        have h' : anyB (fun z => eqD 64 z x) ys = b := Option.some.inj h
        exact .inl ⟨ys, rfl, by rw [any_eqv z1 ys z2]; exact h'⟩
      | tup f ys =>
        have h' : anyB (fun z => eqD 64 z x) ys = b := Option.some.inj h
        exact .inr ⟨f, ys, rfl, by rw [any_eqv z1 ys z2]; exact h'⟩
      | _ => cases h
def gIn : D → D → Store → O X := fun x y st => match inD x y with
  | some b => .ok (.d (.bl b)) st
  | none => .bad
def gNotIn : D → D → Store → O X := fun x y st => match inD x y with
  | some b => .ok (.d (.bl (!b))) st
  | none => .bad
abbrev rInLT (K : PySem.W.Frag) : R2 := fun x y H Q => rInD K x y H Q ∨ rInT K x y H Q
abbrev rNotInLT (K : PySem.W.Frag) : R2 := fun x y H Q => rNotInD K x y H Q ∨ rNotInT K x y H Q
theorem op_inLT {X : Cx} (hu : X.A.units + 65 < cLine) : OpR X (compareOp .In) (rInLT X.K) := (op_inD hu).or (op_inT hu)
theorem op_notInLT {X : Cx} (hu : X.A.units + 65 < cLine) : OpR X (compareOp .NotIn) (rNotInLT X.K) := (op_notInD hu).or (op_notInT hu)
theorem in_v : OpV G (rInLT G.K) (f2 gIn) := op2 fun E F ρ H st a b v w Q R ra rb h => by
  unfold gIn at h
  cases z : inD a b with
  | none => rw [z] at h; exact h.elim
  | some k =>
    rw [z] at h
    obtain ⟨o1, o2, y⟩ := inD_some z
    rcases y with ⟨ys, e, y⟩ | ⟨f, ys, e, y⟩
    · subst e
      exact .inl ⟨_, toPys ys, ra.dp o1, rb.dp o2, okD_shaped o1, okD_shaped o2, by rw [y]; exact now1 R h rfl⟩
    · subst e
      exact .inr ⟨_, toPys ys, ra.dp o1, rb.dp o2, okD_shaped o1, okD_shaped o2, by rw [y]; exact now1 R h rfl⟩
theorem notIn_v : OpV G (rNotInLT G.K) (f2 gNotIn) := op2 fun E F ρ H st a b v w Q R ra rb h => by
  unfold gNotIn at h
  cases z : inD a b with
  | none => rw [z] at h; exact h.elim
  | some k =>
    rw [z] at h
    obtain ⟨o1, o2, y⟩ := inD_some z
    rcases y with ⟨ys, e, y⟩ | ⟨f, ys, e, y⟩
    · subst e
      exact .inl ⟨_, toPys ys, ra.dp o1, rb.dp o2, okD_shaped o1, okD_shaped o2, by rw [y]; exact now1 R h rfl⟩
    · subst e
      exact .inr ⟨_, toPys ys, ra.dp o1, rb.dp o2, okD_shaped o1, okD_shaped o2, by rw [y]; exact now1 R h rfl⟩
end
end DH
namespace DH
open PySem PySem.Spec PyProof.Rows L2
section
variable {X : Cx} {e a b c : Expr} {pos p : Pos} {G : Gm} {E : XK}
/-! ### a < b < c -/
def eChain (f g : DH.X → DH.X → Store → O DH.X) (a b c : EM DH.X) : EM DH.X := fun sl st => (a sl st).bind fun x st1 => (b sl st1).bind fun y st2 => (f x y st2).bind fun z st3 => match z with
  | .d (.bl true) => (c sl st3).bind fun w st4 => g y w st4
  | .d (.bl false) => .ok (.d (.bl false)) st3
  | _ => .bad
theorem rd_chain {r r' : R2} {f g : DH.X → DH.X → Store → O DH.X} {ma mb mc : EM DH.X} (hv : OpV G r f) (hv' : OpV G r' g) {σ : L2.St} {H : Hp} {Q : VK} (h : rdE G E (eChain f g ma mb mc) σ H Q) : tChain r r' (rdE G E ma) (rdE G E mb) (rdE G E mc) σ H Q := by
  obtain ⟨F, ρ, sl, st, sk, R, h⟩ := h
  refine ⟨F, ρ, sl, st, sk, R, PostG.mono (PostG.bind (R := rX G) h) fun v H1 h1 => ?_⟩
  obtain ⟨x, st1, ρ1, s1, R1, r1, h1⟩ := h1
  refine ⟨F, ρ1, sl, st1, sk.mono s1, R1, PostG.mono (PostG.bind (R := rX G) h1) fun w H2 h2 => ?_⟩
  obtain ⟨y, st2, ρ2, s2, R2, r2, h2⟩ := h2
  refine hv E F ρ2 H2 st2 x y v w _ R2 (r1.mono s2) r2 (PostG.mono (PostG.bind (R := rX G) h2) fun z H3 h3 => ?_)
  obtain ⟨z', st3, ρ3, s3, R3, r3, h3⟩ := h3
  cases z' with
  | loc l => exact h3.elim
  | d u =>
    cases u with
    | bl k =>
      refine ⟨k, r3, ?_⟩
      cases k with
      | true =>
        refine iteT ⟨F, ρ3, sl, st3, ((sk.mono s1).mono s2).mono s3, R3, PostG.mono (PostG.bind (R := rX G) h3) fun w' H4 h4 => ?_⟩
        obtain ⟨y4, st4, ρ4, s4, R4, r4, h4⟩ := h4
        exact hv' E F ρ4 H4 st4 y y4 w w' Q R4 ((r2.mono s3).mono s4) r4 h4
      | false => exact iteF (PostG.now (R := rX G) h3 R3 (show RelX G F ρ3 H3 (.d (.bl false)) (.bl false) from rfl))
    | _ => exact h3.elim
theorem q_chain {op op' : CmpOp} {r r' : R2} {f g : DH.X → DH.X → Store → O DH.X} {ma mb mc : EM DH.X} (ho : OpR X (compareOp op) r) (hv : OpV G r f) (ho' : OpR X (compareOp op') r') (hv' : OpV G r' g) (ha : PE X a (rdE G E ma)) (hb : PE X b (rdE G E mb)) (hc : PE X c (rdE G E mc)) (hm : lastMarks [op, op'] [b, c] = false) : PE X (.Compare a [op, op'] [b, c] pos) (rdE G E (eChain f g ma mb mc)) :=
  PE.imp (pe_chain ho ho' ha hb hc hm) fun _ _ _ h => rd_chain hv hv' h
theorem q_tchain {op op' : CmpOp} {r r' : R2} {f g : DH.X → DH.X → Store → O DH.X} {ma mb mc : EM DH.X} (ho : OpR X (compareOp op) r) (hv : OpV G r f) (ho' : OpR X (compareOp op') r') (hv' : OpV G r' g) (ha : PE X a (rdE G E ma)) (hb : PE X b (rdE G E mb)) (hc : PE X c (rdE G E mc)) (hm : lastMarks [op, op'] [b, c] = false) : PT X (.Compare a [op, op'] [b, c] pos) (rdT G E (eTest (eChain f g ma mb mc))) := by
  refine PT.imp (pt_chain ho ho' ha hb hc hm) fun σ H Q h => ?_
  obtain ⟨F, ρ, sl, st, sk, R, h⟩ := rd_test h
  exact rd_chain hv hv' ⟨F, ρ, sl, st, sk, R, h⟩
/-! ### list(range(..)), tuple(range(..)) -/
def gListRg (mu : Bool) : DH.X → DH.X → Store → O DH.X := fun x y st => match x, y with
  | .d (.int i), .d (.int j) => (match int62 i && int62 j && Nat.ble (j - i).toNat 16777216 with
    | true => newL mu (upI i 1 (j - i).toNat) st
    | false => .bad)
  | _, _ => .bad
def gTupRg : DH.X → DH.X → Store → O DH.X := fun x y st => match x, y with
  | .d (.int i), .d (.int j) => (match int62 i && int62 j && Nat.ble (j - i).toNat 16777216 with
    | true => newT (upI i 1 (j - i).toNat) st
    | false => .bad)
  | _, _ => .bad
theorem upI_rel {N : Addr → Prop} {H : Hp} : ∀ (n : Nat) (i : Int), RelDs G N H (upI i 1 n) ((List.range n).map fun k => V.int (i + (k : Nat)))
  | 0, i => rfl
  | n + 1, i => by
    rw [List.range_succ_eq_map, List.map_cons, List.map_map]
    refine ⟨_, _, rfl, by show V.int _ = V.int _; simp, ?_⟩
    have := upI_rel (N := N) (H := H) n (i + 1)
    have e : ((fun k : Nat => V.int (i + (k : Nat))) ∘ Nat.succ) = fun k : Nat => V.int (i + 1 + (k : Nat)) := by
      funext k
      show V.int (i + ((k + 1 : Nat) : Int)) = V.int (i + 1 + (k : Int))
      congr 1
      omega
    rw [e]
    exact this
theorem rgOk_of {i j : Int} (h : (int62 i && int62 j && Nat.ble (j - i).toNat 16777216) = true) : RgOk i j := by
  rw [Bool.and_eq_true, Bool.and_eq_true] at h
  obtain ⟨b1, b2⟩ := int62_ok h.1.1
  obtain ⟨b3, b4⟩ := int62_ok h.1.2
  have := Nat.le_of_ble_eq_true h.2
  exact ⟨b1, b2, b3, b4, by omega⟩
def eRg1 (g : DH.X → DH.X → Store → O DH.X) (a : EM DH.X) : EM DH.X := fun sl st => (a sl st).bind fun x st1 => g (.d (.int 0)) x st1
theorem rd_rg1 {g : DH.X → DH.X → Store → O DH.X} {W : Int → Int → Hp → VK → Prop} (hg : ∀ (E : XK) F ρ H st i j Q, Rep G F ρ st H → PostG G E (rX G) F ρ H (g (.d (.int i)) (.d (.int j)) st) Q → W i j H Q) (hb : ∀ x st, g (.d (.int 0)) x st ≠ .bad → ∃ j, x = .d (.int j)) {ma : EM DH.X} {σ : L2.St} {H : Hp} {Q : VK} (h : rdE G E (eRg1 g ma) σ H Q) :
    tRg1 (rdE G E ma) σ H fun i j H1 => W i j H1 Q := by
  obtain ⟨F, ρ, sl, st, sk, R, h⟩ := h
  refine ⟨F, ρ, sl, st, sk, R, PostG.mono (PostG.bind (R := rX G) h) fun v H1 h1 => ?_⟩
  obtain ⟨x, st1, ρ1, s1, R1, r1, h1⟩ := h1
  have h1 : PostG G E (rX G) F ρ1 H1 (g (.d (.int 0)) x st1) Q := h1
  obtain ⟨j, rfl⟩ := hb x st1 fun z => by rw [z] at h1; exact h1
  exact ⟨j, r1, hg E F ρ1 H1 st1 0 j Q R1 h1⟩
theorem rd_rg2 {g : DH.X → DH.X → Store → O DH.X} {W : Int → Int → Hp → VK → Prop} (hg : ∀ (E : XK) F ρ H st i j Q, Rep G F ρ st H → PostG G E (rX G) F ρ H (g (.d (.int i)) (.d (.int j)) st) Q → W i j H Q) (hb : ∀ x y st, g x y st ≠ .bad → ∃ i j, x = .d (.int i) ∧ y = .d (.int j)) {ma mb : EM DH.X} {σ : L2.St} {H : Hp} {Q : VK} (h : rdE G E (eBin g ma mb) σ H Q) :
    tRg2 (rdE G E ma) (rdE G E mb) σ H fun i j H1 => W i j H1 Q := by
  obtain ⟨F, ρ, sl, st, sk, R, h⟩ := h
  refine ⟨F, ρ, sl, st, sk, R, PostG.mono (PostG.bind (R := rX G) h) fun v H1 h1 => ?_⟩
  obtain ⟨x, st1, ρ1, s1, R1, r1, h1⟩ := h1
  refine ⟨F, ρ1, sl, st1, sk.mono s1, R1, PostG.mono (PostG.bind (R := rX G) h1) fun w H2 h2 => ?_⟩
  obtain ⟨y, st2, ρ2, s2, R2, r2, h2⟩ := h2
  have h2 : PostG G E (rX G) F ρ2 H2 (g x y st2) Q := h2
  obtain ⟨i, j, rfl, rfl⟩ := hb x y st2 fun z => by rw [z] at h2; exact h2
  exact ⟨i, j, r1, r2, hg E F ρ2 H2 st2 i j Q R2 h2⟩
theorem listRg_ok {mu : Bool} (E : XK) (F : Addr → Prop) (ρ : List Addr) (H : Hp) (st : Store) (i j : Int) (Q : VK) (R : Rep G F ρ st H) (h : PostG G E (rX G) F ρ H (gListRg mu (.d (.int i)) (.d (.int j)) st) Q) : RgOk i j ∧ ∀ q, H q = none → Q (.ref q) (upd H q (.lst (rgV i j))) := by
  unfold gListRg at h
  simp only at h
  cases z : (int62 i && int62 j && Nat.ble (j - i).toNat 16777216) with
  | false => rw [z] at h; exact h.elim
  | true =>
    rw [z] at h
    exact ⟨rgOk_of z, fun q hq => newL_ok R (upI_rel _ _) hq h⟩
theorem tupRg_ok (E : XK) (F : Addr → Prop) (ρ : List Addr) (H : Hp) (st : Store) (i j : Int) (Q : VK) (R : Rep G F ρ st H) (h : PostG G E (rX G) F ρ H (gTupRg (.d (.int i)) (.d (.int j)) st) Q) : RgOk i j ∧ ∀ q, H q = none → Q (.ref q) (upd H q (.tup (rgV i j))) := by
  unfold gTupRg at h
  simp only at h
  cases z : (int62 i && int62 j && Nat.ble (j - i).toNat 16777216) with
  | false => rw [z] at h; exact h.elim
  | true =>
    rw [z] at h
    exact ⟨rgOk_of z, fun q hq => newT_ok R (upI_rel _ _) hq h⟩
theorem listRg_bad {mu : Bool} (x y : DH.X) (st : Store) (h : gListRg mu x y st ≠ .bad) : ∃ i j, x = .d (.int i) ∧ y = .d (.int j) := by
  cases x with
  | loc l => exact absurd rfl h
  | d u =>
    cases u with
    | int i =>
      cases y with
      | loc l => exact absurd rfl h
      | d w =>
        cases w with
        | int j => exact ⟨i, j, rfl, rfl⟩
        | _ => exact absurd rfl h
    | _ => exact absurd rfl h
theorem tupRg_bad (x y : DH.X) (st : Store) (h : gTupRg x y st ≠ .bad) : ∃ i j, x = .d (.int i) ∧ y = .d (.int j) := by
  cases x with
  | loc l => exact absurd rfl h
  | d u =>
    cases u with
    | int i =>
      cases y with
      | loc l => exact absurd rfl h
      | d w =>
        cases w with
        | int j => exact ⟨i, j, rfl, rfl⟩
        | _ => exact absurd rfl h
    | _ => exact absurd rfl h
variable {p2 pos2 : Pos} {ma mb : EM DH.X}
theorem q_listRg1 {mu : Bool} (hc : X.calm = true) (hg : Gl X "list") (hm : X.mg "list" = none) (hg2 : Gl X "range") (hm2 : X.mg "range" = none) (ha : PE X a (rdE G E ma)) (na : starEach [a] X.env = (false, eval a X.env) :: starEach [] X.env)
    (nb : starEach [.Call (.Name "range" p2) [a] [] pos2] X.env = (false, eval (.Call (.Name "range" p2) [a] [] pos2) X.env) :: starEach [] X.env) : PE X (.Call (.Name "list" p) [.Call (.Name "range" p2) [a] [] pos2] [] pos) (rdE G E (eRg1 (gListRg mu) ma)) :=
  PE.imp (pe_listRg hc hg hm (prg_1 hg2 hm2 ha na) nb) fun _ _ _ h => rd_rg1 listRg_ok (fun x st z => (listRg_bad _ _ st z).elim fun _ h => h.elim fun j h => ⟨j, h.2⟩) h
theorem q_tupRg1 (hc : X.calm = true) (hg : Gl X "tuple") (hm : X.mg "tuple" = none) (hg2 : Gl X "range") (hm2 : X.mg "range" = none) (ha : PE X a (rdE G E ma)) (na : starEach [a] X.env = (false, eval a X.env) :: starEach [] X.env)
    (nb : starEach [.Call (.Name "range" p2) [a] [] pos2] X.env = (false, eval (.Call (.Name "range" p2) [a] [] pos2) X.env) :: starEach [] X.env) : PE X (.Call (.Name "tuple" p) [.Call (.Name "range" p2) [a] [] pos2] [] pos) (rdE G E (eRg1 gTupRg ma)) :=
  PE.imp (pe_tupRg hc hg hm (prg_1 hg2 hm2 ha na) nb) fun _ _ _ h => rd_rg1 tupRg_ok (fun x st z => (tupRg_bad _ _ st z).elim fun _ h => h.elim fun j h => ⟨j, h.2⟩) h
theorem q_listRg2 {mu : Bool} (hc : X.calm = true) (hg : Gl X "list") (hm : X.mg "list" = none) (hg2 : Gl X "range") (hm2 : X.mg "range" = none) (ha : PE X a (rdE G E ma)) (hb : PE X b (rdE G E mb)) (na : starEach [a, b] X.env = (false, eval a X.env) :: starEach [b] X.env) (nb : starEach [b] X.env = (false, eval b X.env) :: starEach [] X.env) (hp : (backTo pos2 (starEach [b] X.env)).any (·.1) = false)
    (nc : starEach [.Call (.Name "range" p2) [a, b] [] pos2] X.env = (false, eval (.Call (.Name "range" p2) [a, b] [] pos2) X.env) :: starEach [] X.env) : PE X (.Call (.Name "list" p) [.Call (.Name "range" p2) [a, b] [] pos2] [] pos) (rdE G E (eBin (gListRg mu) ma mb)) :=
  PE.imp (pe_listRg hc hg hm (prg_2 hg2 hm2 ha hb na nb hp) nc) fun _ _ _ h => rd_rg2 listRg_ok listRg_bad h
theorem q_tupRg2 (hc : X.calm = true) (hg : Gl X "tuple") (hm : X.mg "tuple" = none) (hg2 : Gl X "range") (hm2 : X.mg "range" = none) (ha : PE X a (rdE G E ma)) (hb : PE X b (rdE G E mb)) (na : starEach [a, b] X.env = (false, eval a X.env) :: starEach [b] X.env) (nb : starEach [b] X.env = (false, eval b X.env) :: starEach [] X.env) (hp : (backTo pos2 (starEach [b] X.env)).any (·.1) = false)
    (nc : starEach [.Call (.Name "range" p2) [a, b] [] pos2] X.env = (false, eval (.Call (.Name "range" p2) [a, b] [] pos2) X.env) :: starEach [] X.env) : PE X (.Call (.Name "tuple" p) [.Call (.Name "range" p2) [a, b] [] pos2] [] pos) (rdE G E (eBin gTupRg ma mb)) :=
  PE.imp (pe_tupRg hc hg hm (prg_2 hg2 hm2 ha hb na nb hp) nc) fun _ _ _ h => rd_rg2 tupRg_ok tupRg_bad h
/-! ### slots forgotten -/
def keepO (ks : List Nat) : Nat → Slots → Slots
  | _, [] => []
  | i, x :: r => (match ks.contains i with
    | true => x
    | false => none) :: keepO ks (i + 1) r
theorem keepO_len (ks : List Nat) : ∀ (sl : Slots) (i : Nat), (keepO ks i sl).length = sl.length
  | [], i => rfl
  | x :: r, i => by unfold keepO; rw [List.length_cons, List.length_cons, keepO_len ks r]
theorem keepO_get (ks : List Nat) : ∀ (sl : Slots) (i j : Nat) (x : DH.X), (keepO ks i sl)[j]? = some (some x) → sl[j]? = some (some x)
  | [], i, j, x, h => by cases h
  | y :: r, i, 0, x, h => by
    unfold keepO at h
    simp only [List.getElem?_cons_zero] at h ⊢
    cases q : ks.contains i with
    | true => rw [q] at h; exact h
    | false => rw [q] at h; cases h
  | y :: r, i, j + 1, x, h => by
    unfold keepO at h
    simp only [List.getElem?_cons_succ] at h ⊢
    exact keepO_get ks r (i + 1) j x h
def sOnly (ks : List Nat) (m : SM) : SM := fun sl st => m (keepO ks 0 sl) st
theorem rd_only {ks : List Nat} {m : SM} {D : Ends} {σ : L2.St} {H : Hp} (h : rdS G E (sOnly ks m) D σ H) : rdS G E m D σ H := by
  obtain ⟨F, ρ, sl, st, sk, R, h⟩ := h
  exact ⟨F, ρ, keepO ks 0 sl, st, ⟨by rw [keepO_len]; exact sk.1, fun i x z => sk.2 i x (keepO_get ks sl 0 i x z)⟩, R, h⟩
theorem q_only {ks : List Nat} {m : SM} {ss : List Stmt} (h : PSs X ss (rdS G E m)) : PSs X ss (rdS G E (sOnly ks m)) := PSs.imp h fun _ _ _ h => rd_only h
end
end DH
namespace DH
open PySem PySem.Spec PyProof.Rows L2
/-! ### the order of data -/
def ltN : List Nat → List Nat → Bool
  | [], [] => false
  | [], _ :: _ => true
  | _ :: _, [] => false
  | a :: r, b :: t => (match Nat.blt a b with
    | true => true
    | false => (match Nat.beq a b with
      | true => ltN r t
      | false => false))
theorem ltN_eq : ∀ a b : List Nat, ltN a b = decide (a < b)
  | [], [] => by simp [ltN]
  | [], _ :: _ => by simp [ltN]
  | _ :: _, [] => by simp [ltN]
  | a :: r, b :: t => by
    unfold ltN
    cases q : Nat.blt a b with
    | true =>
      have h : a < b := Nat.le_of_ble_eq_true q
      symm
      exact decide_eq_true (List.Lex.rel h)
    | false =>
      have h : ¬ a < b := fun z => by
        rw [show Nat.blt a b = true from Nat.ble_eq_true_of_le z] at q; cases q
      cases q2 : Nat.beq a b with
      | true =>
        have e := Nat.eq_of_beq_eq_true q2
        subst e
        simp only
        rw [ltN_eq r t]
        refine decide_eq_decide.mpr ?_
        rw [List.cons_lt_cons_iff]
        simp
      | false =>
        have e := Nat.ne_of_beq_eq_false q2
        symm
        refine decide_eq_false ?_
        rw [List.cons_lt_cons_iff]
        rintro (z | z)
        · exact h z
        · exact e z.1
abbrev Tok := Int ⊕ List Nat
def ltT : Tok → Tok → Bool
  | .inl a, .inl b => ltI a b
  | .inl _, .inr _ => true
  | .inr _, .inl _ => false
  | .inr a, .inr b => ltN a b
theorem ltT_eq (a b : Tok) : ltT a b = itemLt a b := by
  cases a with
  | inl a =>
    cases b with
    | inl b => exact ltI_eq a b
    | inr b => rfl
  | inr a =>
    cases b with
    | inl b => rfl
    | inr b => exact ltN_eq a b
def lexB : List Tok → List Tok → Bool
  | [], [] => false
  | [], _ :: _ => true
  | _ :: _, [] => false
  | x :: r, y :: t => (match ltT x y with
    | true => true
    | false => (match ltT y x with
      | true => false
      | false => lexB r t))
theorem lexB_eq : ∀ a b : List Tok, lexB a b = lexLt itemOrd a b
  | [], [] => rfl
  | [], _ :: _ => rfl
  | _ :: _, [] => rfl
  | x :: r, y :: t => by
    unfold lexB
    show _ = (itemLt x y || (!itemLt y x && lexLt itemOrd r t))
    rw [ltT_eq, ltT_eq, lexB_eq r t]
    cases itemLt x y <;> cases itemLt y x <;> rfl
def tokF (f : D → List Tok) : List D → List Tok
  | [] => [.inl 0]
  | x :: xs => .inl 1 :: (f x ++ tokF f xs)
def toksD : Nat → D → List Tok
  | _, .bl b => [.inl (match b with | true => 1 | false => 0)]
  | _, .int i => [.inl i]
  | _, .str cs => [.inr cs]
  | n + 1, .tup _ xs => tokF (toksD n) xs
  | n + 1, .lst xs => tokF (toksD n) xs
  | _, _ => []
theorem toksD_eq : ∀ (n : Nat) (x : D), okD n x = true → toksD n x = PySem.W.keyToks (toPy x)
  | n, .non, h => by cases n <;> rfl
  | n, .bl b, h => by cases n <;> cases b <;> rfl
  | n, .int i, h => by cases n <;> rfl
  | n, .str cs, h => by
    have e : PySem.W.keyToks (toPy (.str cs)) = [.inr (strOf cs).cps.toList] := rfl
    rw [e]
    cases n <;> rfl
  | 0, .tup _ xs, h => by cases h
  | 0, .lst xs, h => by cases h
  | n + 1, .tup f xs, h => by
    have h' : allB (okD n) xs = true := h
    show tokF (toksD n) xs = PySem.W.keyToksAll (toPys xs)
    rw [allB_iff] at h'
    induction xs with
    | nil => rfl
    | cons y ys ih =>
      show Sum.inl 1 :: (toksD n y ++ tokF (toksD n) ys) = PySem.W.keyToksAll (toPy y :: toPys ys)
      rw [PySem.W.keyToksAll, toksD_eq n y (h' y (List.mem_cons_self ..)), ih (by show allB (okD n) ys = true; rw [allB_iff]; exact fun z hz => h' z (List.mem_cons_of_mem _ hz)) fun z hz => h' z (List.mem_cons_of_mem _ hz)]
  | n + 1, .lst xs, h => by
    have h' : allB (okD n) xs = true := h
    show tokF (toksD n) xs = PySem.W.keyToksAll (toPys xs)
    rw [allB_iff] at h'
    induction xs with
    | nil => rfl
    | cons y ys ih =>
      show Sum.inl 1 :: (toksD n y ++ tokF (toksD n) ys) = PySem.W.keyToksAll (toPy y :: toPys ys)
      rw [PySem.W.keyToksAll, toksD_eq n y (h' y (List.mem_cons_self ..)), ih (by show allB (okD n) ys = true; rw [allB_iff]; exact fun z hz => h' z (List.mem_cons_of_mem _ hz)) fun z hz => h' z (List.mem_cons_of_mem _ hz)]
  | 0, .dct _ _, h => by cases h
  | n + 1, .dct _ _, h => by cases h
  | 0, .obj _ _, h => by cases h
  | n + 1, .obj _ _, h => by cases h
/-! ### sorting -/
def insB {α : Type} (le : α → α → Bool) (x : α) : List α → List α
  | [] => [x]
  | y :: ys => (match le x y with
    | true => x :: y :: ys
    | false => y :: insB le x ys)
def sortB {α : Type} (le : α → α → Bool) : List α → List α
  | [] => []
  | x :: xs => insB le x (sortB le xs)
section
variable {α : Type} {le : α → α → Bool}
theorem insB_mem (x : α) : ∀ (l : List α) (z : α), z ∈ insB le x l → z = x ∨ z ∈ l
  | [], z, h => by
    unfold insB at h
    exact .inl (by simpa using h)
  | y :: ys, z, h => by
    unfold insB at h
    cases q : le x y with
    | true =>
      rw [q] at h
      rcases List.mem_cons.mp h with h | h
      · exact .inl h
      · exact .inr h
    | false =>
      rw [q] at h
      rcases List.mem_cons.mp h with h | h
      · exact .inr (by rw [h]; exact List.mem_cons_self ..)
      · rcases insB_mem x ys z h with h | h
        · exact .inl h
        · exact .inr (List.mem_cons_of_mem _ h)
theorem insB_pw (T : PySem.W.TotalLe le) (x : α) : ∀ l : List α, l.Pairwise (fun a b => le a b = true) → (insB le x l).Pairwise (fun a b => le a b = true)
  | [], _ => by unfold insB; exact List.pairwise_singleton ..
  | y :: ys, h => by
    unfold insB
    rw [List.pairwise_cons] at h
    cases q : le x y with
    | true =>
      simp only
      rw [List.pairwise_cons]
      refine ⟨fun z hz => ?_, List.pairwise_cons.mpr h⟩
      rcases List.mem_cons.mp hz with e | hz
      · rw [e]; exact q
      · exact T.trans x y z q (h.1 z hz)
    | false =>
      simp only
      rw [List.pairwise_cons]
      refine ⟨fun z hz => ?_, insB_pw T x ys h.2⟩
      rcases insB_mem x ys z hz with e | hz
      · rw [e]
        rcases T.total x y with t | t
        · rw [q] at t; cases t
        · exact t
      · exact h.1 z hz
theorem insB_filter (T : PySem.W.TotalLe le) (c x : α) : ∀ l : List α, (insB le x l).filter (PySem.W.sameRank le c) = (x :: l).filter (PySem.W.sameRank le c)
  | [] => rfl
  | y :: ys => by
    unfold insB
    cases q : le x y with
    | true => rfl
    | false =>
      simp only
      rw [List.filter_cons, insB_filter T c x ys, List.filter_cons (x := x), List.filter_cons (x := x), List.filter_cons (x := y)]
      cases r1 : PySem.W.sameRank le c x with
      | false => simp
      | true =>
        cases r2 : PySem.W.sameRank le c y with
        | false => simp
        | true =>
          exfalso
          unfold PySem.W.sameRank at r1 r2
          rw [Bool.and_eq_true] at r1 r2
          have := T.trans x c y r1.2 r2.1
          rw [q] at this; cases this
theorem sortB_eq (T : PySem.W.TotalLe le) (l : List α) : sortB le l = l.mergeSort le := by
  refine PySem.W.sort_unique T ?_ fun c => ?_
  · induction l with
    | nil => exact List.Pairwise.nil
    | cons x xs ih => exact insB_pw T x _ ih
  · induction l with
    | nil => rfl
    | cons x xs ih =>
      show (insB le x (sortB le xs)).filter _ = _
      rw [insB_filter T, List.filter_cons, ih, List.filter_cons]
end
def sameS : Nat → D → D → Bool
  | _, .bl _, .bl _ => true
  | _, .int _, .int _ => true
  | _, .str _, .str _ => true
  | n + 1, .tup _ a, .tup _ b => all2 (sameS n) a b
  | n + 1, .lst a, .lst b => all2 (sameS n) a b
  | _, _, _ => false
theorem alike_all {n : Nat} (ih : ∀ c a b : D, sameS n c a = true → sameS n c b = true → PySem.W.alike (toPy a) (toPy b) = true) : ∀ cs xs ys : List D, all2 (sameS n) cs xs = true → all2 (sameS n) cs ys = true → PySem.W.alikeAll (toPys xs) (toPys ys) = true
  | [], [], [], _, _ => rfl
  | [], x :: xs, ys, h, _ => by cases h
  | [], [], y :: ys, _, h => by cases h
  | c :: cs, [], ys, h, _ => by cases h
  | c :: cs, x :: xs, [], _, h => by cases h
  | c :: cs, x :: xs, y :: ys, h1, h2 => by
    unfold all2 at h1 h2
    cases q1 : sameS n c x with
    | false => rw [q1] at h1; cases h1
    | true =>
      cases q2 : sameS n c y with
      | false => rw [q2] at h2; cases h2
      | true =>
        rw [q1] at h1
        rw [q2] at h2
        show PySem.W.alikeAll (toPy x :: toPys xs) (toPy y :: toPys ys) = true
        rw [PySem.W.alikeAll, ih c x y q1 q2, alike_all ih cs xs ys h1 h2]
        rfl
theorem sameS_alike : ∀ (n : Nat) (c a b : D), sameS n c a = true → sameS n c b = true → PySem.W.alike (toPy a) (toPy b) = true := by
  intro n
  induction n with
  | zero =>
    intro c a b h1 h2
    cases c <;> cases a <;> cases b <;> first | rfl | exact Bool.noConfusion (show false = true from h1) | exact Bool.noConfusion (show false = true from h2)
  | succ n ih =>
    intro c a b h1 h2
    cases c with
    | tup f cs =>
      cases a with
      | tup f1 xs =>
        cases b with
        | tup f2 ys =>
          show PySem.W.alikeAll (toPys xs) (toPys ys) = true
          exact alike_all ih cs xs ys h1 h2
        | _ => cases h2
      | _ => cases h1
    | lst cs =>
      cases a with
      | lst xs =>
        cases b with
        | lst ys =>
          show PySem.W.alikeAll (toPys xs) (toPys ys) = true
          exact alike_all ih cs xs ys h1 h2
        | _ => cases h2
      | _ => cases h1
    | _ => cases a <;> cases b <;> first | rfl | exact Bool.noConfusion (show false = true from h1) | exact Bool.noConfusion (show false = true from h2)
/-- may be sorted -/
def sortOk (xs : List D) : Bool := match xs with
  | [] => true
  | c :: _ => (match c with
    | .tup _ [] => false
    | _ => allB (fun x => okD 62 x && sameS 62 c x) xs)
def leD (a b : D) : Bool := !lexB (toksD 62 b) (toksD 62 a)
theorem leD_eq {a b : D} (ha : okD 62 a = true) (hb : okD 62 b = true) : leD a b = PySem.W.dataLe false toPy a b := by
  unfold leD
  rw [PySem.W.dataLe_eq, toksD_eq 62 a ha, toksD_eq 62 b hb, lexB_eq]
  rfl
theorem sortOk_all {xs : List D} (h : sortOk xs = true) : ∀ x ∈ xs, okD 62 x = true := by
  cases xs with
  | nil => exact fun x hx => by cases hx
  | cons c r =>
    have h' : allB (fun x => okD 62 x && sameS 62 c x) (c :: r) = true := by
      unfold sortOk at h
      simp only at h
      split at h
      · cases h
      · exact h
    rw [allB_iff] at h'
    exact fun x hx => (Bool.and_eq_true_iff.mp (h' x hx)).1
theorem sortOk_alike {xs : List D} (h : sortOk xs = true) : PySem.W.AllAlike (xs.map toPy) ∧ PySem.W.Sortable (xs.map toPy) := by
  cases xs with
  | nil => exact ⟨(fun d hd => by cases hd), Or.inl (fun d hd => by cases hd)⟩
  | cons c r =>
    unfold sortOk at h
    simp only at h
    split at h
    · cases h
    · rename_i hne
      rw [allB_iff] at h
      have hs : ∀ x ∈ c :: r, sameS 62 c x = true := fun x hx => (Bool.and_eq_true_iff.mp (h x hx)).2
      refine ⟨fun d hd d' hd' => ?_, ?_⟩
      · obtain ⟨x, hx, rfl⟩ := List.mem_map.mp hd
        obtain ⟨y, hy, rfl⟩ := List.mem_map.mp hd'
        exact sameS_alike 62 c x y (hs x hx) (hs y hy)
      · cases c with
        | tup f cs =>
          cases cs with
          | nil => exact absurd rfl (hne f)
          | cons c0 cr =>
            refine .inl fun d hd => ?_
            obtain ⟨x, hx, rfl⟩ := List.mem_map.mp hd
            have := hs x hx
            cases x with
            | tup f2 ys =>
              cases ys with
              | nil => cases this
              | cons y0 yr => exact ⟨_, _, rfl⟩
            | _ => cases this
        | non =>
          have := hs .non (List.mem_cons_self ..)
          cases this
        | dct tk kv =>
          have := hs (.dct tk kv) (List.mem_cons_self ..)
          cases this
        | obj k fs =>
          have := hs (.obj k fs) (List.mem_cons_self ..)
          cases this
        | bl b0 =>
          refine .inr fun d hd => ?_
          obtain ⟨x, hx, rfl⟩ := List.mem_map.mp hd
          have := hs x hx
          cases x <;> first | exact Bool.noConfusion (show false = true from this) | exact ⟨(fun z => by cases z), (fun xs z => by cases z)⟩
        | int b0 =>
          refine .inr fun d hd => ?_
          obtain ⟨x, hx, rfl⟩ := List.mem_map.mp hd
          have := hs x hx
          cases x <;> first | exact Bool.noConfusion (show false = true from this) | exact ⟨(fun z => by cases z), (fun xs z => by cases z)⟩
        | str b0 =>
          refine .inr fun d hd => ?_
          obtain ⟨x, hx, rfl⟩ := List.mem_map.mp hd
          have := hs x hx
          cases x <;> first | exact Bool.noConfusion (show false = true from this) | exact ⟨(fun z => by cases z), (fun xs z => by cases z)⟩
        | lst b0 =>
          refine .inr fun d hd => ?_
          obtain ⟨x, hx, rfl⟩ := List.mem_map.mp hd
          have := hs x hx
          cases x <;> first | exact Bool.noConfusion (show false = true from this) | exact ⟨(fun z => by cases z), (fun xs z => by cases z)⟩
theorem total_data {β : Type} (k : β → PyData) : PySem.W.TotalLe (PySem.W.dataLe false k) := PySem.W.sortLe_total _ false _
theorem sort_pairs {bs : List (V × D)} (h : sortOk (bs.map (·.2)) = true) : (bs.mergeSort (PySem.W.dataLe false fun b => toPy b.2)).map (·.2) = sortB leD (bs.map (·.2)) := by
  have e1 : (bs.mergeSort (PySem.W.dataLe false fun b => toPy b.2)).map (·.2) = (bs.map (·.2)).mergeSort (PySem.W.dataLe false toPy) := PySem.W.sort_maps (r := PySem.W.dataLe false fun b : V × D => toPy b.2) (s := PySem.W.dataLe false toPy) (fun p : V × D => p.2) fun a _ b _ => rfl
  have all := sortOk_all h
  rw [e1]
  generalize bs.map (·.2) = xs at all
  rw [← sortB_eq (total_data toPy)]
  -- the two orders agree on the items
  have ins : ∀ (x : D) (l : List D), okD 62 x = true → (∀ y ∈ l, okD 62 y = true) → insB (PySem.W.dataLe false toPy) x l = insB leD x l := by
    intro x l hx
    induction l with
    | nil => exact fun _ => rfl
    | cons y ys ih =>
      intro hl
      unfold insB
      rw [leD_eq hx (hl y (List.mem_cons_self ..)), ih fun z hz => hl z (List.mem_cons_of_mem _ hz)]
  have mem : ∀ (l : List D), ∀ z ∈ sortB leD l, z ∈ l := by
    intro l
    induction l with
    | nil => exact fun z hz => hz
    | cons y ys ih =>
      intro z hz
      rcases insB_mem y _ z hz with e | hz
      · rw [e]; exact List.mem_cons_self ..
      · exact List.mem_cons_of_mem _ (ih z hz)
  induction xs with
  | nil => rfl
  | cons x xs ih =>
    show insB _ x (sortB _ xs) = insB _ x (sortB _ xs)
    rw [ih fun z hz => all z (List.mem_cons_of_mem _ hz), ins x _ (all x (List.mem_cons_self ..)) fun y hy => all y (List.mem_cons_of_mem _ (mem xs y hy))]
/-! ### sorted(x) -/
abbrev enc2 : V × D → PyData := fun b => toPy b.2
def SortIn (K : PySem.W.Frag) (H : Hp) (bs : List (V × D)) (Q : VK) : Prop :=
  (∀ b ∈ bs, Dp K H b.1 (toPy b.2)) ∧ sortOk (bs.map (·.2)) = true ∧ bs.length ≤ sizeLine ∧ ∀ p, H p = none → Q (.ref p) (upd H p (.lst ((bs.mergeSort (PySem.W.dataLe false enc2)).map (·.1))))
theorem each_vals {X : Cx} {pins : List (Addr × Obj)} {σ : L2.St} {H : Hp} {s : Shared} (I : Inv X pins σ H s) : ∀ {bs : List (V × D)} {its : List Value}, Vals (bs.map (·.1)) its → (∀ b ∈ bs, Dp X.K H b.1 (toPy b.2)) →
    PySem.W.EachIs (fun v b => RelV b.1 v) its bs ∧ PySem.W.EachIs (fun v b => ∃ as, Reads s.heap v (enc2 b) as) its bs
  | [], its, r, h => by
    have r' : Vals [] its := r
    cases r'
    exact ⟨.nil, .nil⟩
  | b :: bs, its, r, h => by
    have r' : Vals (b.1 :: bs.map (·.1)) its := r
    cases r' with
    | cons r1 r2 =>
      obtain ⟨e1, e2⟩ := each_vals I r2 fun x hx => h x (List.mem_cons_of_mem _ hx)
      exact ⟨.cons r1 e1, .cons (Dp.reads I _ _ _ (h b (List.mem_cons_self ..)) r1) e2⟩
theorem vals_each : ∀ {bs : List (V × D)} {out : List Value}, PySem.W.EachIs (fun v (b : V × D) => RelV b.1 v) out bs → Vals (bs.map (·.1)) out
  | _, _, .nil => .nil
  | _, _, .cons h t => .cons h (vals_each t)
theorem okD_depth62 {x : D} (h : okD 62 x = true) : (toPy x).depth ≤ 62 := (okD_depth 62 x h).1
theorem room62 {u : Nat} {x : D} (hu : u + 65 < cLine) (h : okD 62 x = true) : u + 2 + (toPy x).depth < cLine := by
  have := okD_depth62 h
  omega
abbrev rSortL (K : PySem.W.Frag) : List V → Hp → VK → Prop := fun vs H Q => ∃ (a : Addr) (bs : List (V × D)), vs = [V.ref a] ∧ SqL K H a (bs.map (·.1)) ∧ SortIn K H bs Q
theorem enc_map (bs : List (V × D)) : bs.map enc2 = (bs.map (·.2)).map toPy := by rw [List.map_map]; rfl
theorem sort_list {X : Cx} (hu : X.A.units + 65 < cLine) : CallR X (.builtin "sorted") (rSortL X.K) := by
  intro pins s σ H vs us Q I r h
  obtain ⟨a, bs, rfl, hs, hd, ok, hL, q⟩ := h
  obtain ⟨its, rv, hl, _⟩ := I.list hs
  rw [Vals.ref1 r]
  obtain ⟨e1, e2⟩ := each_vals I rv hd
  obtain ⟨al, so⟩ := sortOk_alike ok
  have all := sortOk_all ok
  refine PySem.W.sorted_data (enc := enc2) hl.isList e1 e2 (by rw [enc_map]; exact al) (by rw [enc_map]; exact so) hL (fun b hb => room62 hu (all b.2 (List.mem_map.mpr ⟨b, hb, rfl⟩))) fun out ho eo => ?_
  obtain ⟨ep, he'⟩ := PyProof.Rows.sortedAll_at s.heap its out.toArray
  have rv2 := vals_each eo
  have hlen : ((bs.mergeSort (PySem.W.dataLe false enc2)).map (·.1)).length ≤ sizeLine := by rw [List.length_map, List.length_mergeSort]; exact hL
  exact ⟨.ref _, upd H (s.heap.objs.size + 1) (.lst _), I.laid (t' := s.toks) (fun _ _ => PyProof.Rows.sortedAll_old) (Nat.le_succ _) ⟨hlen, out, ep, rv2, he'⟩, rfl, q _ (I.hok.fresh (Nat.le_succ _))⟩
mutual
theorem reads_at {h : Heap} : ∀ (d : PyData) (v : Value) (as : List Addr), PySem.W.alike d d = true → Reads h v d as → ∀ a ∈ as, ∃ o, h.get? a = some o
  | .none, _, _, _, r => by cases r; exact fun a ha => by cases ha
  | .bool _, _, _, _, r => by cases r; exact fun a ha => by cases ha
  | .int _, _, _, _, r => by cases r; exact fun a ha => by cases ha
  | .str _, _, _, _, r => by cases r; exact fun a ha => by cases ha
  | .list xs, _, _, hal, r => by
    cases r with
    | list h1 h2 h3 h4 =>
      intro a ha
      rcases List.mem_cons.mp ha with e | ha
      · rw [e]; exact ⟨_, h1⟩
      · exact readsAll_at xs _ _ (by simpa [PySem.W.alike] using hal) h4 a ha
  | .tuple xs, _, _, hal, r => by
    cases r with
    | tuple h1 h2 h3 h4 => exact readsAll_at xs _ _ (by simpa [PySem.W.alike] using hal) h4
  | .dict _, _, _, hal, _ => absurd hal (by simp [PySem.W.alike])
theorem readsAll_at {h : Heap} : ∀ (ds : List PyData) (vs : List Value) (as : List Addr), PySem.W.alikeAll ds ds = true → ReadsAll h vs ds as → ∀ a ∈ as, ∃ o, h.get? a = some o
  | [], _, _, _, r => by cases r; exact fun a ha => by cases ha
  | d :: ds, _, _, hal, r => by
    cases r with
    | cons h1 h2 =>
      intro a ha
      rcases List.mem_append.mp ha with ha | ha
      · exact reads_at d _ _ (PySem.W.alike_all_cons hal).1 h1 a ha
      · exact readsAll_at ds _ _ (PySem.W.alike_all_cons hal).2 h2 a ha
end
theorem each_not {h : Heap} {D0 : Addr} (hn : h.get? D0 = none) : ∀ {bs : List (V × D)} {its : List Value}, PySem.W.EachIs (fun v b => ∃ as, Reads h v (enc2 b) as) its bs → (∀ b ∈ bs, PySem.W.alike (enc2 b) (enc2 b) = true) → PySem.W.EachIs (fun v b => ∃ as, Reads h v (enc2 b) as ∧ D0 ∉ as) its bs
  | _, _, .nil, _ => .nil
  | _, _, .cons h1 t, al => by
    obtain ⟨as, r⟩ := h1
    refine .cons ⟨as, r, fun z => ?_⟩ (each_not hn t fun b hb => al b (List.mem_cons_of_mem _ hb))
    obtain ⟨o, e⟩ := reads_at _ _ _ (al _ (List.mem_cons_self ..)) r D0 z
    rw [hn] at e; cases e
/-- sorted(x), x's items collected -/
theorem sort_coll {X : Cx} {pins : List (Addr × Obj)} {σ : L2.St} {H : Hp} {s : Shared} {a : Addr} {bs : List (V × D)} {Q : VK} (hu : X.A.units + 65 < cLine) (I : Inv X pins σ H s)
    (coll : ∀ R' : List Value → Shared → Prop, (∀ (h' : Heap) (tk : Nat) (acc : Array Value), (∀ b o, s.heap.get? b = some o → h'.get? b = some o) → Vals (bs.map (·.1)) acc.toList → R' acc.toList { s with heap := h', toks := tk }) → ∀ E', wpAny (model X.prog X.w) X.A.in1 (collect (.ref a)) R' E' s)
    (qq : SortIn X.K H bs Q) : wpAny (model X.prog X.w) X.A (call (.builtin "sorted") [.ref a]) (EP X pins σ Q) X.xe s := by
  obtain ⟨hd, ok, hL, q⟩ := qq
  obtain ⟨al, so⟩ := sortOk_alike ok
  have all := sortOk_all ok
  refine Calls.call_function_entry PyProof.Rows.kind_sorted PyProof.Rows.plain_sorted PyProof.Rows.entry_sorted (PyProof.Rows.args_sorted1 _) ?_
  unfold Builtin.«sorted»
  refine wpAny_bind (m := checkCount "sorted" 1 1 _) (wpAny_pure ?_)
  refine wpAny_bind (coll _ (fun h' tk acc hk rv => ?_) _)
  have I1 : Inv X pins σ H { s with heap := h', toks := tk } := I.kept hk
  have hal : acc.toList.length = bs.length := by rw [← rv.length, List.length_map]
  obtain ⟨e1, e2⟩ := each_vals I1 rv hd
  refine wpAny_bind (wpAny_newList ?_ (by rw [hal]; exact hL))
  have hoL : (h'.push (seqObj "list" acc.toList.toArray 0)).get? h'.objs.size = some (seqObj "list" acc.toList.toArray 0) := Heap.get?_push_size _ rfl
  show wpAny _ _ _ _ _ { s with heap := h'.push (seqObj "list" acc.toList.toArray 0), toks := tk }
  have al1 : ∀ b ∈ bs, PySem.W.alike (enc2 b) (enc2 b) = true := fun b hb => al _ (List.mem_map.mpr ⟨b.2, List.mem_map.mpr ⟨b, hb, rfl⟩, rfl⟩) _ (List.mem_map.mpr ⟨b.2, List.mem_map.mpr ⟨b, hb, rfl⟩, rfl⟩)
  have hn0 : h'.get? h'.objs.size = none := by
    cases z : h'.get? h'.objs.size with
    | none => rfl
    | some o => exact absurd (Heap.lt_size z) (Nat.lt_irrefl _)
  have e3 : PySem.W.EachIs (fun v b => ∃ as, Reads (h'.push (seqObj "list" acc.toList.toArray 0)) v (enc2 b) as ∧ h'.objs.size ∉ as) acc.toList bs :=
    (each_not hn0 e2 al1).mono fun v b ⟨as, r, n⟩ => ⟨as, PyProof.Rows.Reads.keeps (fun _ _ e => Heap.get?_push_of_some _ e) r, n⟩
  refine wpAny_bind (wpAny_holding (PySem.W.list_sort_data (enc := enc2) (s := { s with heap := h'.push (seqObj "list" acc.toList.toArray 0), toks := tk }) hoL e1 e3 (by rw [enc_map]; exact al) (by rw [enc_map]; exact so) hL (fun b hb => by
    have := room62 hu (all b.2 (List.mem_map.mpr ⟨b, hb, rfl⟩))
    show X.A.in1.units + 1 + (enc2 b).depth < cLine
    have e : X.A.in1.units = X.A.units + 1 := rfl
    rw [e]
    show X.A.units + 1 + 1 + (toPy b.2).depth < cLine
    omega) fun out ho eo => ?_))
  obtain ⟨e', he'⟩ := PyProof.Rows.sortedHeap_at (vs := acc.toList) (out := out.toArray) hoL
  have rv2 := vals_each eo
  have hlen : ((bs.mergeSort (PySem.W.dataLe false enc2)).map (·.1)).length ≤ sizeLine := by rw [List.length_map, List.length_mergeSort]; exact hL
  refine wpAny_pure ⟨_, rfl, .ref h'.objs.size, upd H h'.objs.size (.lst _), I1.laid (t' := tk) (fun b u e => ?_) (Nat.le_refl _)
    (show ObjOk X.prog X.w _ _ _ (.lst _) from ⟨hlen, out, e', rv2, he'⟩), rfl, q _ (I1.hok.fresh (Nat.le_refl _))⟩
  have hb : b < h'.objs.size := Heap.lt_size e
  rw [PyProof.Rows.sortedHeap_old (Nat.ne_of_lt hb) (by rw [size_push']; exact Nat.lt_succ_of_lt hb)]
  exact Heap.get?_push_of_some _ e
/-- sorted(d): ints, texts; tuples of such -/
abbrev rSortK (K : PySem.W.Frag) : List V → Hp → VK → Prop := fun vs H Q => ∃ (a : Addr) (kvs : List (Key × V)) (bs : List (V × D)), vs = [V.ref a] ∧ H a = some (.dK kvs) ∧ bs.map (·.1) = kvs.map (fun p => kV p.1) ∧ SortIn K H bs Q
abbrev rSortT (K : PySem.W.Frag) : List V → Hp → VK → Prop := fun vs H Q => ∃ (a : Addr) (kvs : List (List Key × V)), vs = [V.ref a] ∧ H a = some (.dT kvs) ∧ ∀ ps : List Addr, IsKeys H kvs ps → ∃ bs : List (V × D), bs.map (·.1) = ps.map V.ref ∧ SortIn K H bs Q
theorem sort_dT {X : Cx} (hc : X.calm = true) (hu : X.A.units + 65 < cLine) : CallR X (.builtin "sorted") (rSortT X.K) := by
  intro pins s σ H xs us Q I r h
  obtain ⟨d, kvs, rfl, hd, q⟩ := h
  rw [Vals.ref1 r]
  obtain ⟨z, hs, ks, pr, o, es, ep, ho, hx, hdt, he, hn⟩ := (show ObjOk X.prog X.w H s.heap d (.dT kvs) from I.hok d _ hd)
  have l1 : es.size = ks.length := size_of_entries he
  have l2 : kvs.length = ks.length := Paired.length pr
  obtain ⟨bs, eb, q⟩ := q _ (isKeys_of pr)
  refine sort_coll hu I (fun R' hR E' => ?_) q
  refine PySem.W.kdu_collect (A := X.A.in1) (kdl_raw hs hx hdt) (I.ok.hd hc) ho (by omega) fun h' tk acc' kp it => ?_
  refine hR h' tk acc' kp ?_
  have ea : acc'.toList = ks.map fun x => Value.ref x.2.1 := by
    have hl : acc'.toList.length = ks.length := by rw [Array.length_toList, it.1]; exact l1
    apply List.ext_getElem?
    intro j
    rw [List.getElem?_map]
    cases hj : acc'.toList[j]? with
    | none =>
      have h1 := List.getElem?_eq_none_iff.mp hj
      rw [List.getElem?_eq_none (by omega)]
      all_goals rfl
    | some v =>
      obtain ⟨en, hen, hv⟩ := it.2 j v (by rw [← Array.getElem?_toList]; exact hj)
      have qe := entry_at he j
      rw [hen] at qe
      cases hb : ks[j]? with
      | none =>
        rw [hb] at qe
        exact nomatch (show some en = none from qe)
      | some b =>
        rw [hb] at qe
        have e2 : en = entryOfKey (tupleKind (mixKind X.prog X.w)) b := Option.some.inj qe
        rw [hv, e2]
        all_goals rfl
  have eb2 : acc'.toList = (ks.map fun x => x.2.1).map Value.ref := by rw [ea, List.map_map]; all_goals rfl
  rw [eb2, eb]
  exact vals_refs _
theorem sort_dK {X : Cx} (hc : X.calm = true) (hu : X.A.units + 65 < cLine) : CallR X (.builtin "sorted") (rSortK X.K) := by
  intro pins s σ H xs us Q I r h
  obtain ⟨a, kvs, bs, rfl, hd, eb, q⟩ := h
  rw [Vals.ref1 r]
  obtain ⟨z, lo, vs, rel, dd⟩ := dk_rd I.hok (.inl hd)
  obtain ⟨ep, hat⟩ := dd.dictAt
  have l2 := rel.length
  refine sort_coll hu I (fun R' hR E' => ?_) q
  refine PySem.W.kdu_collect (A := X.A.in1) (PySem.W.kdl_dict (knd := mixKind X.prog X.w) (kvs := vs) (ep := ep) lo) (I.ok.hd hc) hat (by rw [← l2]; exact z) fun h' tk acc hk hacc => ?_
  refine hR h' tk acc hk ?_
  rw [eb]
  have hkeys : kvs.map (·.1) = vs.map (·.1) := rel.keys
  have e1 : kvs.map (fun p => kV p.1) = (vs.map (·.1)).map kV := by rw [← hkeys, List.map_map]; rfl
  rw [e1]
  have hal : acc.toList.length = (vs.map (·.1)).length := by rw [Array.length_toList, hacc.1, List.length_map]
  have key : ∀ (ks : List Key) (us : List Value), us.length = ks.length → (∀ (j : Nat) (v : Value), us[j]? = some v → ∃ k, ks[j]? = some k ∧ keyIs k v = true) → Vals (ks.map kV) us := by
    intro ks
    induction ks with
    | nil =>
      intro us hl _
      cases us with
      | nil => exact .nil
      | cons _ _ => cases hl
    | cons k ks ih =>
      intro us hl h
      cases us with
      | nil => cases hl
      | cons u us =>
        obtain ⟨k', e, hk'⟩ := h 0 u rfl
        have e' : k = k' := Option.some.inj e
        subst e'
        refine .cons ?_ (ih us (by simpa using hl) fun j v e => h (j + 1) v e)
        rcases keyIs_shape hk' with ⟨i, t, ek, ev⟩ | ⟨z, t, ek, ev⟩
        · subst ek ev
          exact ⟨t, rfl⟩
        · subst ek ev
          exact ⟨t, rfl⟩
  refine key _ _ hal fun j v e => ?_
  obtain ⟨k, x, e1, e2⟩ := hacc.2 j v (by rw [← Array.getElem?_toList]; exact e)
  exact ⟨k, by rw [List.getElem?_map, e1]; rfl, e2⟩
section
variable {G : Gm} {E : XK}
theorem Rep.notTup {F : Addr → Prop} {ρ : List Addr} {st : Store} {H : Hp} (R : Rep G F ρ st H) {b : Addr} {vs : List V} (h : H b = some (.tup vs)) : ¬ Nn F ρ b := fun z => by
  rcases z with z | z
  · obtain ⟨o, e, ws, e2⟩ := R.fin b z
    rw [h, e2] at e; cases e
  · obtain ⟨l, hl, e⟩ := List.mem_iff_getElem.mp z
    have hs : l < st.length := by rw [← R.len]; exact hl
    have q := R.obj l b st[l] (by rw [List.getElem?_eq_getElem hl, e]) (List.getElem?_eq_getElem hs)
    cases ho : st[l] with
    | lst xs =>
      rw [ho] at q
      obtain ⟨vs, e, _⟩ := q
      rw [h] at e; cases e
    | dct tk kvs =>
      rw [ho] at q
      rcases q with ⟨ps, e, _⟩ | ⟨ps, e, _⟩ <;> (rw [h] at e; cases e)
    | ins c fs =>
      rw [ho] at q
      obtain ⟨dx, ps, e, _⟩ := q
      rw [h] at e; cases e
theorem rel_zip {N : Addr → Prop} {H : Hp} : ∀ {xs : List D} {vs : List V}, RelDs G N H xs vs → ∃ bs : List (V × D), bs.map (·.1) = vs ∧ bs.map (·.2) = xs ∧ ∀ b ∈ bs, RelD G N H b.2 b.1
  | [], vs, h => ⟨[], (show vs = [] from h).symm, rfl, fun b hb => by cases hb⟩
  | x :: xs, vs, h => by
    obtain ⟨v, r, e, h1, h2⟩ := h
    obtain ⟨bs, e1, e2, e3⟩ := rel_zip h2
    refine ⟨(v, x) :: bs, by rw [e, ← e1]; rfl, by rw [← e2]; rfl, fun b hb => ?_⟩
    rcases List.mem_cons.mp hb with z | hb
    · rw [z]; exact h1
    · exact e3 b hb
theorem zip_rel {N : Addr → Prop} {H : Hp} : ∀ {bs : List (V × D)}, (∀ b ∈ bs, RelD G N H b.2 b.1) → RelDs G N H (bs.map (·.2)) (bs.map (·.1))
  | [], _ => rfl
  | b :: bs, h => ⟨b.1, bs.map (·.1), rfl, h b (List.mem_cons_self ..), zip_rel fun x hx => h x (List.mem_cons_of_mem _ hx)⟩
theorem sortIn_ok {F : Addr → Prop} {ρ : List Addr} {H : Hp} {st : Store} {mu : Bool} {bs : List (V × D)} {Q : VK} (R : Rep G F ρ st H) (hr : ∀ b ∈ bs, RelD G (Nn F ρ) H b.2 b.1) (ok : sortOk (bs.map (·.2)) = true) (hz : small bs.length = true) (h : PostG G E (rX G) F ρ H (newL mu (sortB leD (bs.map (·.2))) st) Q) : SortIn G.K H bs Q := by
  have all := sortOk_all ok
  refine ⟨fun b hb => RelD.dp b.2 (hr b hb) (all b.2 (List.mem_map.mpr ⟨b, hb, rfl⟩)), ok, small_ok hz, fun p hp => newL_ok R ?_ hp h⟩
  rw [← sort_pairs ok]
  exact zip_rel fun b hb => hr b (List.mem_mergeSort.mp hb)
def gSorted (mu : Bool) : D → Store → O X := fun a st => match a with
  | .lst xs => (match sortOk xs && small xs.length with
    | true => newL mu (sortB leD xs) st
    | false => .bad)
  | .dct _ kvs => (match sortOk (kvs.map (·.1)) && small kvs.length with
    | true => newL mu (sortB leD (kvs.map (·.1))) st
    | false => .bad)
  | _ => .bad
theorem key_rel {N : Addr → Prop} {H : Hp} {k : D} {q : Key} (h : keyOf k = some q) : RelD G N H k (kV q) := by
  cases k with
  | int i =>
    have e : Sum.inl i = q := Option.some.inj h
    subst e
    exact (rfl : V.int i = V.int i)
  | str cs =>
    have e : Sum.inr (strOf cs) = q := Option.some.inj h
    subst e
    exact (rfl : V.str _ = V.str _)
  | _ => cases h
theorem keys_rel {N : Addr → Prop} {H : Hp} : ∀ {ks : List D} {q : List Key}, keysOf ks = some q → RelDs G N H ks (q.map kV)
  | [], q, h => by
    have e : [] = q := Option.some.inj h
    rw [← e]; rfl
  | k :: ks, q, h => by
    unfold keysOf at h
    cases z1 : keyOf k with
    | none => rw [z1] at h; cases h
    | some p =>
      cases z2 : keysOf ks with
      | none => rw [z1, z2] at h; cases h
      | some ps =>
        rw [z1, z2] at h
        have e : p :: ps = q := Option.some.inj h
        rw [← e]
        exact ⟨kV p, ps.map kV, rfl, key_rel z1, keys_rel z2⟩
theorem relK_bs {N : Addr → Prop} {H : Hp} : ∀ {kvs : List (D × D)} {ps : List (Key × V)}, RelK G N H kvs ps → ∃ bs : List (V × D), bs.map (·.1) = ps.map (fun p => kV p.1) ∧ bs.map (·.2) = kvs.map (·.1) ∧ ∀ b ∈ bs, RelD G N H b.2 b.1
  | [], ps, h => ⟨[], by rw [show ps = [] from h]; rfl, rfl, fun b hb => by cases hb⟩
  | (k, x) :: xs, ps, h => by
    obtain ⟨q, v, r, e, hk, _, h2⟩ := h
    obtain ⟨bs, e1, e2, e3⟩ := relK_bs h2
    refine ⟨(kV q, k) :: bs, by rw [e, List.map_cons, List.map_cons, e1], by rw [List.map_cons, List.map_cons, e2], fun b hb => ?_⟩
    rcases List.mem_cons.mp hb with z | hb
    · rw [z]; exact key_rel hk
    · exact e3 b hb
theorem relT_bs {F : Addr → Prop} {ρ : List Addr} {st : Store} {H : Hp} (R : Rep G F ρ st H) : ∀ {kvs : List (D × D)} {ps : List (List Key × V)} {as : List Addr}, RelT G (Nn F ρ) H kvs ps → IsKeys H ps as → ∃ bs : List (V × D), bs.map (·.1) = as.map V.ref ∧ bs.map (·.2) = kvs.map (·.1) ∧ ∀ b ∈ bs, RelD G (Nn F ρ) H b.2 b.1
  | [], ps, as, h, ik => by
    have e : ps = [] := h
    subst e
    have ik' : Paired (fun (p : List Key × V) b => H b = some (.tup (p.1.map kV))) [] as := ik
    cases ik'
    exact ⟨[], rfl, rfl, fun b hb => by cases hb⟩
  | (k, x) :: xs, ps, as, h, ik => by
    obtain ⟨q, v, r, e, ⟨ks, hk, hq⟩, _, h2⟩ := h
    subst e
    have ik' : Paired (fun (p : List Key × V) b => H b = some (.tup (p.1.map kV))) ((q, v) :: r) as := ik
    cases ik' with
    | cons i1 i2 =>
      rename_i b0 bt
      obtain ⟨bs, e1, e2, e3⟩ := relT_bs R h2 i2
      refine ⟨(.ref b0, k) :: bs, by rw [List.map_cons, List.map_cons, e1], by rw [List.map_cons, List.map_cons, e2], fun b hb => ?_⟩
      rcases List.mem_cons.mp hb with z | hb
      · rw [z, hk]
        exact ⟨b0, q.map kV, rfl, ⟨i1, R.notTup i1⟩, keys_rel hq⟩
      · exact e3 b hb
abbrev rSortAll (K : PySem.W.Frag) : List V → Hp → VK → Prop := fun vs H Q => rSortL K vs H Q ∨ rSortK K vs H Q ∨ rSortT K vs H Q
theorem sort_all {X : Cx} (hc : X.calm = true) (hu : X.A.units + 65 < cLine) : CallR X (.builtin "sorted") (rSortAll X.K) := (sort_list hu).or ((sort_dK hc hu).or (sort_dT hc hu))
theorem sorted_v {mu : Bool} : CallV G (rSortAll G.K) (f1 (gSorted mu)) := cal1 fun E F ρ H st a v Q R ra h => by
  cases a with
  | lst xs =>
    unfold gSorted at h
    cases z : (sortOk xs && small xs.length) with
    | false => simp only [z] at h; exact h.elim
    | true =>
      simp only [z] at h
      obtain ⟨z1, z2⟩ := Bool.and_eq_true_iff.mp z
      obtain ⟨p, vs, e, f, r⟩ := ra
      subst e
      obtain ⟨bs, e1, e2, e3⟩ := rel_zip r
      have hl : bs.length = xs.length := by rw [← e2, List.length_map]
      refine .inl ⟨p, bs, rfl, SqL.of (by rw [e1]; exact f), sortIn_ok (mu := mu) R e3 (by rw [e2]; exact z1) (by rw [hl]; exact z2) (by rw [e2]; exact h)⟩
  | dct tk kvs =>
    unfold gSorted at h
    cases z : (sortOk (kvs.map (·.1)) && small kvs.length) with
    | false => simp only [z] at h; exact h.elim
    | true =>
      simp only [z] at h
      obtain ⟨z1, z2⟩ := Bool.and_eq_true_iff.mp z
      obtain ⟨p, e, r⟩ := ra
      subst e
      rcases r with ⟨ps, f, _, r⟩ | ⟨ps, f, _, r⟩
      · obtain ⟨bs, e1, e2, e3⟩ := relK_bs r
        have hl : bs.length = kvs.length := by rw [← List.length_map (f := (·.2)) (as := bs), e2, List.length_map]
        exact .inr (.inl ⟨p, ps, bs, rfl, f, e1, sortIn_ok (mu := mu) R e3 (by rw [e2]; exact z1) (by rw [hl]; exact z2) (by rw [e2]; exact h)⟩)
      · refine .inr (.inr ⟨p, ps, rfl, f, fun as ik => ?_⟩)
        obtain ⟨bs, e1, e2, e3⟩ := relT_bs R r ik
        have hl : bs.length = kvs.length := by rw [← List.length_map (f := (·.2)) (as := bs), e2, List.length_map]
        exact ⟨bs, e1, sortIn_ok (mu := mu) R e3 (by rw [e2]; exact z1) (by rw [hl]; exact z2) (by rw [e2]; exact h)⟩
  | _ => exact h.elim
end
end DH
namespace DH
open PySem PySem.Spec PyProof.Rows L2
/-! ### keys -/
def eqK1 : D → D → Bool
  | .int i, .int j => eqI i j
  | .str a, .str b => eqN a b
  | _, _ => false
def eqK : D → D → Bool
  | .tup _ a, .tup _ b => all2 eqK1 a b
  | a, b => eqK1 a b
/-- a key of that kind of dict -/
def keyOk (t : Bool) (k : D) : Bool := match t, k with
  | false, .int _ => true
  | false, .str _ => true
  | true, .tup false ks => allB (fun x => match x with
    | .int _ => true
    | .str _ => true
    | _ => false) ks
  | _, _ => false
def findD (k : D) : List (D × D) → Option D
  | [] => none
  | (k', x) :: r => (match eqK k' k with
    | true => some x
    | false => findD k r)
def mapD (k x : D) : List (D × D) → List (D × D)
  | [] => []
  | (k', y) :: r => (match eqK k' k with
    | true => (k', x) :: mapD k x r
    | false => (k', y) :: mapD k x r)
def putD (k x : D) (kvs : List (D × D)) : List (D × D) := match findD k kvs with
  | some _ => mapD k x kvs
  | none => kvs ++ [(k, x)]
theorem strOf_inj {a b : List Nat} (h : strOf a = strOf b) : a = b := by
  have : (strOf a).cps.toList = (strOf b).cps.toList := by rw [h]
  simpa [strOf] using this
theorem eqK1_eq {a b : D} {p q : Key} (ha : keyOf a = some p) (hb : keyOf b = some q) : eqK1 a b = decide (p = q) := by
  cases a with
  | int i =>
    have ea : Sum.inl i = p := Option.some.inj ha
    cases b with
    | int j =>
      have eb : Sum.inl j = q := Option.some.inj hb
      subst ea eb
      show eqI i j = _
      rw [eqI_eq]
      by_cases h : i = j
      · subst h; simp
      · rw [beq_eq_false_iff_ne.mpr h]
        exact (decide_eq_false fun z => h (Sum.inl.inj z)).symm
    | str y =>
      have eb : Sum.inr (strOf y) = q := Option.some.inj hb
      subst ea eb
      exact (decide_eq_false fun z => by cases z).symm
    | _ => cases hb
  | str x =>
    have ea : Sum.inr (strOf x) = p := Option.some.inj ha
    cases b with
    | str y =>
      have eb : Sum.inr (strOf y) = q := Option.some.inj hb
      subst ea eb
      show eqN x y = _
      rw [eqN_eq]
      exact decide_eq_decide.mpr ⟨fun z => by rw [z], fun z => strOf_inj (Sum.inr.inj z)⟩
    | int j =>
      have eb : Sum.inl j = q := Option.some.inj hb
      subst ea eb
      exact (decide_eq_false fun z => by cases z).symm
    | _ => cases hb
  | _ => cases ha
theorem keysOf_cons {k : D} {ks : List D} {q : List Key} (h : keysOf (k :: ks) = some q) : ∃ p ps, keyOf k = some p ∧ keysOf ks = some ps ∧ q = p :: ps := by
  unfold keysOf at h
  cases z1 : keyOf k with
  | none => rw [z1] at h; cases h
  | some p =>
    cases z2 : keysOf ks with
    | none => rw [z1, z2] at h; cases h
    | some ps =>
      rw [z1, z2] at h
      exact ⟨p, ps, rfl, rfl, (Option.some.inj h).symm⟩
theorem eqKs_eq : ∀ {a b : List D} {p q : List Key}, keysOf a = some p → keysOf b = some q → all2 eqK1 a b = decide (p = q)
  | [], [], p, q, ha, hb => by
    have ea : [] = p := Option.some.inj ha
    have eb : [] = q := Option.some.inj hb
    subst ea eb
    rfl
  | [], y :: b, p, q, ha, hb => by
    have ea : [] = p := Option.some.inj ha
    obtain ⟨_, _, _, _, e⟩ := keysOf_cons hb
    subst ea e
    exact (decide_eq_false fun z => by cases z).symm
  | x :: a, [], p, q, ha, hb => by
    have eb : [] = q := Option.some.inj hb
    obtain ⟨_, _, _, _, e⟩ := keysOf_cons ha
    subst eb e
    exact (decide_eq_false fun z => by cases z).symm
  | x :: a, y :: b, p, q, ha, hb => by
    obtain ⟨p1, ps, h1, h2, e⟩ := keysOf_cons ha
    obtain ⟨q1, qs, h3, h4, e2⟩ := keysOf_cons hb
    subst e e2
    unfold all2
    rw [eqK1_eq h1 h3]
    by_cases h : p1 = q1
    · subst h
      simp only [decide_true]
      rw [eqKs_eq h2 h4]
      exact decide_eq_decide.mpr ⟨fun z => by rw [z], fun z => by injection z⟩
    · rw [decide_eq_false h]
      exact (decide_eq_false fun z => h (by injection z)).symm
theorem keyOk_k {k : D} (h : keyOk false k = true) : ∃ q, keyOf k = some q := by
  cases k with
  | int i => exact ⟨_, rfl⟩
  | str i => exact ⟨_, rfl⟩
  | _ => cases h
theorem keyOk_t {k : D} (h : keyOk true k = true) : ∃ ks q, k = .tup false ks ∧ keysOf ks = some q := by
  cases k with
  | tup f ks =>
    cases f with
    | true => cases h
    | false =>
      have h' : allB (fun x => match x with | .int _ => true | .str _ => true | _ => false) ks = true := h
      rw [allB_iff] at h'
      have : ∃ q, keysOf ks = some q := by
        clear h
        induction ks with
        | nil => exact ⟨[], rfl⟩
        | cons x xs ih =>
          obtain ⟨q, e⟩ := ih fun y hy => h' y (List.mem_cons_of_mem _ hy)
          have hx := h' x (List.mem_cons_self ..)
          unfold keysOf
          rw [e]
          cases x with
          | int i => exact ⟨_, rfl⟩
          | str i => exact ⟨_, rfl⟩
          | _ => cases hx
      obtain ⟨q, e⟩ := this
      exact ⟨ks, q, rfl, e⟩
  | _ => cases h
theorem eqK_k {a b : D} {p q : Key} (ha : keyOf a = some p) (hb : keyOf b = some q) : eqK a b = decide (p = q) := by
  rw [← eqK1_eq ha hb]
  cases a with
  | tup f xs => cases ha
  | int i => cases b <;> rfl
  | str i => cases b <;> rfl
  | _ => cases ha
section
variable {G : Gm} {E : XK} {N : Addr → Prop} {H : Hp}
theorem findD_k {k : D} {q : Key} (hk : keyOf k = some q) : ∀ {kvs : List (D × D)} {ps : List (Key × V)}, RelK G N H kvs ps → match findD k kvs with
    | some x => ∃ v, valV ps q = some v ∧ RelD G N H x v
    | none => valV ps q = none
  | [], ps, h => by
    have e : ps = [] := h
    subst e
    exact valV_nil
  | (k', x) :: r, ps, h => by
    obtain ⟨p, v, t, e, hp, hx, hr⟩ := h
    subst e
    have ih := findD_k hk hr
    unfold findD
    rw [eqK_k hp hk]
    by_cases z : p = q
    · rw [decide_eq_true z]
      exact ⟨v, valV_pos z, hx⟩
    · rw [decide_eq_false z, valV_neg (p := (p, v)) z]
      exact ih
theorem findD_t {ks : List D} {q : List Key} (hk : keysOf ks = some q) : ∀ {kvs : List (D × D)} {ps : List (List Key × V)}, RelT G N H kvs ps → match findD (.tup false ks) kvs with
    | some x => ∃ v, valV ps q = some v ∧ RelD G N H x v
    | none => valV ps q = none
  | [], ps, h => by
    have e : ps = [] := h
    subst e
    exact valV_nil
  | (k', x) :: r, ps, h => by
    obtain ⟨p, v, t, e, ⟨ks', e2, hp⟩, hx, hr⟩ := h
    subst e e2
    have ih := findD_t hk hr
    unfold findD
    have e3 : eqK (.tup false ks') (.tup false ks) = decide (p = q) := eqKs_eq hp hk
    rw [e3]
    by_cases z : p = q
    · rw [decide_eq_true z]
      exact ⟨v, valV_pos z, hx⟩
    · rw [decide_eq_false z, valV_neg (p := (p, v)) z]
      exact ih
end
section
variable {G : Gm} {E : XK} {N : Addr → Prop} {H : Hp}
theorem RelK.append : ∀ {a b : List (D × D)} {p q : List (Key × V)}, RelK G N H a p → RelK G N H b q → RelK G N H (a ++ b) (p ++ q)
  | [], b, p, q, h, k => by
    have e : p = [] := h
    rw [e]; exact k
  | (x, y) :: a, b, p, q, h, k => by
    obtain ⟨c, v, r, e, h0, h1, h2⟩ := h
    exact ⟨c, v, r ++ q, by rw [e]; rfl, h0, h1, RelK.append h2 k⟩
theorem RelT.append : ∀ {a b : List (D × D)} {p q : List (List Key × V)}, RelT G N H a p → RelT G N H b q → RelT G N H (a ++ b) (p ++ q)
  | [], b, p, q, h, k => by
    have e : p = [] := h
    rw [e]; exact k
  | (x, y) :: a, b, p, q, h, k => by
    obtain ⟨c, v, r, e, h0, h1, h2⟩ := h
    exact ⟨c, v, r ++ q, by rw [e]; rfl, h0, h1, RelT.append h2 k⟩
theorem mapD_k {k x : D} {q : Key} {w : V} (hk : keyOf k = some q) (hw : RelD G N H x w) : ∀ {kvs : List (D × D)} {ps : List (Key × V)}, RelK G N H kvs ps → RelK G N H (mapD k x kvs) (ps.map fun kv => if kv.1 = q then (kv.1, w) else kv)
  | [], ps, h => by
    have e : ps = [] := h
    subst e
    exact rfl
  | (k', y) :: r, ps, h => by
    obtain ⟨p, v, t, e, hp, hx, hr⟩ := h
    subst e
    unfold mapD
    rw [eqK_k hp hk, List.map_cons]
    by_cases z : p = q
    · rw [decide_eq_true z, if_pos z]
      exact ⟨p, w, _, rfl, hp, hw, mapD_k hk hw hr⟩
    · rw [decide_eq_false z, if_neg z]
      exact ⟨p, v, _, rfl, hp, hx, mapD_k hk hw hr⟩
theorem mapD_t {ks : List D} {x : D} {q : List Key} {w : V} (hk : keysOf ks = some q) (hw : RelD G N H x w) : ∀ {kvs : List (D × D)} {ps : List (List Key × V)}, RelT G N H kvs ps → RelT G N H (mapD (.tup false ks) x kvs) (ps.map fun kv => if kv.1 = q then (kv.1, w) else kv)
  | [], ps, h => by
    have e : ps = [] := h
    subst e
    exact rfl
  | (k', y) :: r, ps, h => by
    obtain ⟨p, v, t, e, ⟨ks', e2, hp⟩, hx, hr⟩ := h
    subst e e2
    unfold mapD
    have e3 : eqK (.tup false ks') (.tup false ks) = decide (p = q) := eqKs_eq hp hk
    rw [e3, List.map_cons]
    by_cases z : p = q
    · rw [decide_eq_true z, if_pos z]
      exact ⟨p, w, _, rfl, ⟨ks', rfl, hp⟩, hw, mapD_t hk hw hr⟩
    · rw [decide_eq_false z, if_neg z]
      exact ⟨p, v, _, rfl, ⟨ks', rfl, hp⟩, hx, mapD_t hk hw hr⟩
theorem putD_k {k x : D} {q : Key} {w : V} (hk : keyOf k = some q) (hw : RelD G N H x w) {kvs : List (D × D)} {ps : List (Key × V)} (h : RelK G N H kvs ps) : RelK G N H (putD k x kvs) (putK ps q w) := by
  have fk := findD_k hk h
  unfold putD putK
  cases z : findD k kvs with
  | some y =>
    rw [z] at fk
    obtain ⟨v, e, _⟩ := fk
    rw [if_pos (by rw [valV_any, e]; rfl)]
    exact mapD_k hk hw h
  | none =>
    rw [z] at fk
    have e : valV ps q = none := fk
    rw [if_neg (by rw [valV_any, e]; simp)]
    exact h.append ⟨q, w, [], rfl, hk, hw, rfl⟩
theorem putD_t {ks : List D} {x : D} {q : List Key} {w : V} (hk : keysOf ks = some q) (hw : RelD G N H x w) {kvs : List (D × D)} {ps : List (List Key × V)} (h : RelT G N H kvs ps) : RelT G N H (putD (.tup false ks) x kvs) (putK ps q w) := by
  have fk := findD_t hk h
  unfold putD putK
  cases z : findD (.tup false ks) kvs with
  | some y =>
    rw [z] at fk
    obtain ⟨v, e, _⟩ := fk
    rw [if_pos (by rw [valV_any, e]; rfl)]
    exact mapD_t hk hw h
  | none =>
    rw [z] at fk
    have e : valV ps q = none := fk
    rw [if_neg (by rw [valV_any, e]; simp)]
    exact h.append ⟨q, w, [], rfl, ⟨ks, rfl, hk⟩, hw, rfl⟩
theorem key_val {k : D} {p : Key} {v : V} (h : keyOf k = some p) (r : RelD G N H k v) : v = kV p := by
  cases k with
  | int i =>
    have e : Sum.inl i = p := Option.some.inj h
    rw [← e]; exact r
  | str i =>
    have e : Sum.inr (strOf i) = p := Option.some.inj h
    rw [← e]; exact r
  | _ => cases h
/-- the values of a tuple of keys -/
theorem keys_vals : ∀ {ks : List D} {q : List Key} {vs : List V}, keysOf ks = some q → RelDs G N H ks vs → vs = q.map kV
  | [], q, vs, h, r => by
    have e : [] = q := Option.some.inj h
    have e2 : vs = [] := r
    rw [← e, e2]; rfl
  | k :: ks, q, vs, h, r => by
    obtain ⟨p, ps, h1, h2, e⟩ := keysOf_cons h
    obtain ⟨v, t, e2, r1, r2⟩ := r
    rw [e, e2, List.map_cons, keys_vals h2 r2]
    congr 1
    exact key_val h1 r1
end
section
variable {G : Gm} {E : XK}
/-! ### d[k], d.get(k, x), k in d -/
def RelOp (G : Gm) (N : Addr → Prop) (H : Hp) (o : Option D) (w : Option V) : Prop := match o with
  | some x => ∃ v, w = some v ∧ RelD G N H x v
  | none => w = none
/-- what the dict has at the key: none, out of the rules -/
def lookD (st : Store) (x k : X) : Option (Option D) := match deref st x with
  | some (.dct t kvs) => (match k with
    | .d kd => (match keyOk t kd with
      | true => some (findD kd kvs)
      | false => none)
    | .loc _ => none)
  | _ => none
theorem lookD_ok {F : Addr → Prop} {ρ : List Addr} {H : Hp} {st : Store} {x k : X} {v y : V} {o : Option D} (R : Rep G F ρ st H) (rx : RelX G F ρ H x v) (rk : RelX G F ρ H k y) (h : lookD st x k = some o) :
    ∃ a w, v = .ref a ∧ IsD H a ∧ DGet H a y w ∧ RelOp G (Nn F ρ) H o w := by
  unfold lookD at h
  cases q : deref st x with
  | none => rw [q] at h; cases h
  | some d =>
    rw [q] at h
    cases d with
    | dct t kvs =>
      cases k with
      | loc l => cases h
      | d kd =>
        simp only at h
        cases z : keyOk t kd with
        | false => rw [z] at h; cases h
        | true =>
          rw [z] at h
          have e := Option.some.inj h
          obtain ⟨a, ev, r⟩ := view R rx q
          rcases r with ⟨ps, f, tt, r⟩ | ⟨ps, f, tt, r⟩
          · subst tt
            obtain ⟨kk, hk⟩ := keyOk_k z
            have fk := findD_k hk r
            have ey : y = kV kk := key_val hk rk
            refine ⟨a, valV ps kk, ev, .inl ⟨ps, .inl f⟩, by rw [ey]; exact DGet.k f, ?_⟩
            rw [e] at fk
            exact fk
          · subst tt
            obtain ⟨ks, kk, ek, hk⟩ := keyOk_t z
            subst ek
            have fk := findD_t hk r
            obtain ⟨b, vs, ey, fz, rv⟩ := rk
            have fz1 : H b = some (.tup vs) := fz.1
            rw [keys_vals hk rv] at fz1
            refine ⟨a, valV ps kk, ev, .inr ⟨ps, .inl f⟩, by rw [ey]; exact DGet.t f fz1, ?_⟩
            rw [e] at fk
            exact fk
    | _ => cases h
variable {X : Cx} {o i e f value : Expr} {pos pos' apos cpos : Pos} {mo mi me mf : EM DH.X}
def eDGet (o i : EM DH.X) : EM DH.X := fun sl st => (o sl st).bind fun x st1 => (i sl st1).bind fun k st2 => match lookD st2 x k with
  | some (some d) => .ok (.d d) st2
  | _ => .bad
theorem q_dget (hu : X.A.units + 65 < cLine) (ho : PE X o (rdE G E mo)) (hi : PE X i (rdE G E mi)) (hs : NoSl i) : PE X (.Subscript o i pos) (rdE G E (eDGet mo mi)) := by
  refine PE.imp (pe_dget (by omega) ho hi hs) fun σ H Q h => ?_
  obtain ⟨F, ρ, sl, st, sk, R, h⟩ := h
  refine ⟨F, ρ, sl, st, sk, R, PostG.mono (PostG.bind (R := rX G) h) fun v H1 h1 => ?_⟩
  obtain ⟨x, st1, ρ1, s1, R1, r1, h1⟩ := h1
  refine ⟨F, ρ1, sl, st1, sk.mono s1, R1, PostG.mono (PostG.bind (R := rX G) h1) fun y H2 h2 => ?_⟩
  obtain ⟨k, st2, ρ2, s2, R2, r2, h2⟩ := h2
  have h2 : PostG G E (rX G) F ρ2 H2 (match lookD st2 x k with | some (some d) => .ok (.d d) st2 | _ => .bad) Q := h2
  cases q : lookD st2 x k with
  | none => rw [q] at h2; exact h2.elim
  | some od =>
    cases od with
    | none => rw [q] at h2; exact h2.elim
    | some d =>
      rw [q] at h2
      obtain ⟨a, w, ev, _, g, u, ew, ru⟩ := lookD_ok R2 (r1.mono s2) r2 q
      subst ew
      exact ⟨a, u, ev, g, PostG.now (R := rX G) h2 R2 (show RelX G F ρ2 H2 (.d d) u from ru)⟩
def isDct (st : Store) (x : DH.X) : Bool := match deref st x with
  | some (.dct _ _) => true
  | _ => false
def eDGet2 (o i f : EM DH.X) : EM DH.X := fun sl st => (o sl st).bind fun x st1 => match isDct st1 x with
  | false => .bad
  | true => (i sl st1).bind fun k st2 => (f sl st2).bind fun z st3 => match lookD st3 x k with
    | some (some d) => .ok (.d d) st3
    | some none => .ok z st3
    | none => .bad
theorem isDct_ok {F : Addr → Prop} {ρ : List Addr} {H : Hp} {st : Store} {x : DH.X} {v : V} (R : Rep G F ρ st H) (rx : RelX G F ρ H x v) (h : isDct st x = true) : ∃ a, v = .ref a ∧ IsD H a := by
  unfold isDct at h
  cases q : deref st x with
  | none => rw [q] at h; cases h
  | some d =>
    rw [q] at h
    cases d with
    | dct t kvs =>
      obtain ⟨a, ev, r⟩ := view R rx q
      rcases r with ⟨ps, f, _⟩ | ⟨ps, f, _⟩
      · exact ⟨a, ev, .inl ⟨ps, .inl f⟩⟩
      · exact ⟨a, ev, .inr ⟨ps, .inl f⟩⟩
    | _ => cases h
theorem q_dget2 (hu : X.A.units + 65 < cLine) (ho : PE X o (rdE G E mo)) (he : PE X e (rdE G E mi)) (hf : PE X f (rdE G E mf)) (m : M2 X o "get" apos e f cpos) : PE X (.Call (.Attribute o "get" apos) [e, f] [] cpos) (rdE G E (eDGet2 mo mi mf)) := by
  refine PE.imp (pe_dget2 (by omega) ho he hf m) fun σ H Q h => ?_
  obtain ⟨F, ρ, sl, st, sk, R, h⟩ := h
  refine ⟨F, ρ, sl, st, sk, R, PostG.mono (PostG.bind (R := rX G) h) fun v H1 h1 => ?_⟩
  obtain ⟨x, st1, ρ1, s1, R1, r1, h1⟩ := h1
  cases qd : isDct st1 x with
  | false => simp only [qd] at h1; exact h1.elim
  | true =>
    simp only [qd] at h1
    obtain ⟨a, ev, hd⟩ := isDct_ok R1 r1 qd
    refine ⟨a, ev, hd, F, ρ1, sl, st1, sk.mono s1, R1, PostG.mono (PostG.bind (R := rX G) h1) fun y H2 h2 => ?_⟩
    obtain ⟨k, st2, ρ2, s2, R2, r2, h2⟩ := h2
    refine ⟨F, ρ2, sl, st2, (sk.mono s1).mono s2, R2, PostG.mono (PostG.bind (R := rX G) h2) fun z H3 h3 => ?_⟩
    obtain ⟨zx, st3, ρ3, s3, R3, r3, h3⟩ := h3
    have h3 : PostG G E (rX G) F ρ3 H3 (match lookD st3 x k with | some (some d) => .ok (.d d) st3 | some none => .ok zx st3 | none => .bad) Q := h3
    cases q : lookD st3 x k with
    | none => rw [q] at h3; exact h3.elim
    | some od =>
      rw [q] at h3
      obtain ⟨a', w, ev', _, g, hw⟩ := lookD_ok R3 ((r1.mono s2).mono s3) (r2.mono s3) q
      rw [ev] at ev'
      cases ev'
      cases od with
      | none =>
        have hw : w = none := hw
        subst hw
        exact ⟨none, g, PostG.now (R := rX G) h3 R3 r3⟩
      | some d =>
        obtain ⟨u, ew, ru⟩ := hw
        subst ew
        exact ⟨some u, g, PostG.now (R := rX G) h3 R3 (show RelX G F ρ3 H3 (.d d) u from ru)⟩
/-! ### {} and d[k] = x -/
def eDNew (t : Bool) : EM DH.X := fun _ st => .ok (.loc st.length) (st ++ [.dct t []])
theorem q_dnewK : PE X (.Dict [] [] pos) (rdE G E (eDNew false)) := by
  refine PE.imp pe_dnewK fun σ H Q h => ?_
  obtain ⟨F, ρ, sl, st, sk, R, h⟩ := h
  intro p hp
  exact h (ρ ++ [p]) (upd H p (.dK [])) (.ref p) (stp_more hp) (R.more hp (.inl ⟨[], upd_same, rfl, rfl⟩)) ⟨p, by rw [← R.len]; simp, rfl⟩
theorem q_dnewT : PE X (.Dict [] [] pos) (rdE G E (eDNew true)) := by
  refine PE.imp pe_dnewT fun σ H Q h => ?_
  obtain ⟨F, ρ, sl, st, sk, R, h⟩ := h
  intro p hp
  exact h (ρ ++ [p]) (upd H p (.dT [])) (.ref p) (stp_more hp) (R.more hp (.inr ⟨[], upd_same, rfl, rfl⟩)) ⟨p, by rw [← R.len]; simp, rfl⟩
/-- d[k] = x -/
def putAt (x k y : DH.X) (st : Store) : Option Store := match x, k, y with
  | .loc l, .d kd, .d z => (match st[l]? with
    | some (.dct t kvs) => (match keyOk t kd && small (kvs.length + 1) with
      | true => some (st.set l (.dct t (putD kd z kvs)))
      | false => none)
    | _ => none)
  | _, _, _ => none
theorem codeO_dK {a : Addr} {ps : List (Key × V)} (q : Str) : HO.dK ps ≠ LamX.CodeO a q := fun z => by unfold LamX.CodeO at z; cases z
theorem codeO_dT {a : Addr} {ps : List (List Key × V)} (q : Str) : HO.dT ps ≠ LamX.CodeO a q := fun z => by unfold LamX.CodeO at z; cases z
theorem putAt_ok {F : Addr → Prop} {ρ : List Addr} {H : Hp} {st st' : Store} {x k y : DH.X} {v kv w : V} (R : Rep G F ρ st H) (rx : RelX G F ρ H x v) (rk : RelX G F ρ H k kv) (ry : RelX G F ρ H y w) (h : putAt x k y st = some st') :
    ∃ a H', v = .ref a ∧ DPut H a kv w H' ∧ Stp ρ H ρ H' ∧ Rep G F ρ st' H' := by
  cases x with
  | d _ => cases h
  | loc l =>
    cases k with
    | loc _ => cases h
    | d kd =>
      cases y with
      | loc _ => cases h
      | d z =>
        unfold putAt at h
        simp only at h
        cases q : st[l]? with
        | none => rw [q] at h; cases h
        | some m =>
          rw [q] at h
          cases m with
          | lst _ => cases h
          | ins _ _ => cases h
          | dct t kvs =>
            simp only at h
            cases z1 : (keyOk t kd && small (kvs.length + 1)) with
            | false => rw [z1] at h; cases h
            | true =>
              rw [z1] at h
              have e := Option.some.inj h
              obtain ⟨k1, k2⟩ := Bool.and_eq_true_iff.mp z1
              have hz := small_ok k2
              obtain ⟨a, e1, e2⟩ := rx
              have rm := R.obj l a _ e1 q
              rcases rm with ⟨ps, f, tt, r⟩ | ⟨ps, f, tt, r⟩
              · subst tt
                obtain ⟨kk, hk⟩ := keyOk_k k1
                have ey : kv = kV kk := key_val hk rk
                have s : Stp ρ H ρ (upd H a (.dK (putK ps kk w))) := stp_set e1
                refine ⟨a, _, e2, by rw [ey]; exact DPut.k f (by rw [r.length]; omega), s, ?_⟩
                rw [← e]
                exact R.set e1 f (fun ps z => by cases z) (fun q => codeO_dK q) (.inl ⟨_, upd_same, rfl, putD_k hk (RelD.mono s.keeps z ry) (RelK.mono s.keeps kvs r)⟩)
              · subst tt
                obtain ⟨ks, kk, ek, hk⟩ := keyOk_t k1
                subst ek
                obtain ⟨b, vs, ey, fz, rv⟩ := rk
                have fz1 : H b = some (.tup vs) := fz.1
                rw [keys_vals hk rv] at fz1
                have s : Stp ρ H ρ (upd H a (.dT (putK ps kk w))) := stp_set e1
                refine ⟨a, _, e2, by rw [ey]; exact DPut.t f fz1 (by rw [r.length]; omega), s, ?_⟩
                rw [← e]
                exact R.set e1 f (fun ps z => by cases z) (fun q => codeO_dT q) (.inr ⟨_, upd_same, rfl, putD_t hk (RelD.mono s.keeps z ry) (RelT.mono s.keeps kvs r)⟩)
def sDPutM (e o i : EM DH.X) : SM := fun sl st => (e sl st).s fun y st1 => (o sl st1).s fun x st2 => (i sl st2).s fun k st3 => match putAt x k y st3 with
  | some st4 => .nx sl st4
  | none => .bad
theorem q_dput (hu : X.A.units + 65 < cLine) (hv : PE X value (rdE G E me)) (ho : PE X o (rdE G E mo)) (hi : PE X i (rdE G E mi)) (hs : swapsWith value (some (.Subscript o i pos')) pos.line X.env = pure false) :
    PS X (.Assign [.Subscript o i pos'] value pos) (rdS G E (sDPutM me mo mi)) := by
  refine PS.imp (ps_dput (by omega) ho hi hv hs) fun D σ H h => ?_
  obtain ⟨F, ρ, sl, st, sk, R, h⟩ := h
  refine ⟨F, ρ, sl, st, sk, R, PostG.mono (PostS.part (R := rX G) h) fun w H1 h1 => ?_⟩
  obtain ⟨y, st1, ρ1, s1, R1, ry, h1⟩ := h1
  refine ⟨F, ρ1, sl, st1, sk.mono s1, R1, PostG.mono (PostS.part (R := rX G) h1) fun v H2 h2 => ?_⟩
  obtain ⟨x, st2, ρ2, s2, R2, rx, h2⟩ := h2
  refine ⟨F, ρ2, sl, st2, (sk.mono s1).mono s2, R2, PostG.mono (PostS.part (R := rX G) h2) fun kv H3 h3 => ?_⟩
  obtain ⟨k, st3, ρ3, s3, R3, rk, h3⟩ := h3
  have h3 : PostS G E F ρ3 H3 (match putAt x k y st3 with | some st4 => .nx sl st4 | none => .bad) D := h3
  cases q : putAt x k y st3 with
  | none => rw [q] at h3; exact h3.elim
  | some st4 =>
    rw [q] at h3
    obtain ⟨a, H4, ev, dp, s4, R4⟩ := putAt_ok R3 (rx.mono s3) rk ((ry.mono s2).mono s3) q
    exact ⟨a, H4, ev, dp, h3 ρ3 H4 σ s4 R4 ((((sk.mono s1).mono s2).mono s3).mono s4)⟩
end
end DH
namespace DH
open PySem PySem.Spec PyProof.Rows L2
open PySem.Sem (wp)
open PySem.AutoSeq1 (wpAny_loadPart')
/-! ### enumerate(tuple) -/
theorem meets_enumT (l : Addr) (items : Array Value) (n : Nat) (dct : Option Addr) (sl : Array (Option Value)) :
    Meets (Builtin.«enumerate.__new__» ⟨[.type "enumerate", .ref l], []⟩) (fun _ R s => s.heap.get? l = some { cls := .type "tuple", dict := dct, data := .seq items n, slots := sl } ∧
      R (.ok (.ret (.ref (s.heap.push { cls := .type "tuple_iterator", data := .fields #[.ref l, .int 0 0] }).objs.size)))
        { s with heap := (s.heap.push { cls := .type "tuple_iterator", data := .fields #[.ref l, .int 0 0] }).push { cls := .type "enumerate", data := .fields #[.none, .bool false, .ref s.heap.objs.size, rawInt 0, .none, .none] } }) :=
  .of_wp fun prog w A R s h => by
    obtain ⟨hp, g, d, tk, os⟩ := s; obtain ⟨hl, h⟩ := h
    have hsub := sub_enumerate
    have hL : Heap.IsTuple (Shared.heap ⟨hp, g, d, tk, os⟩) l items := ⟨_, hl, rfl, n, rfl⟩
    wp_walk using wpAny_loadPart' hl
    refine wpAny_stack_any fun st => wpAny_pure ?_
    split
    · rename_i c _ _ _ _ _
      cases (c == Value.type "enumerate")
      · wp_walk using wpAny_loadPart' hl, wpAny_pyIter_tuple hL
        exact ⟨_, rfl, h⟩
      · wp_walk using wpAny_loadPart' hl, wpAny_pyIter_tuple hL
        exact ⟨_, rfl, h⟩
    · wp_walk using wpAny_loadPart' hl, wpAny_pyIter_tuple hL
      exact ⟨_, rfl, h⟩
section
variable {prog : Program} {w : World} {A : Around} {E : Value → Shared → Prop} {s : Shared}
theorem call_enumT {l : Addr} {items : Array Value} {Q : Value → Shared → Prop} (hL : s.heap.IsTuple l items)
    (h : ∀ h', IsEnum h' (s.heap.objs.size + 1) s.heap.objs.size 0 .none → h'.IsTupleIter s.heap.objs.size l 0 → h'.objs.size = s.heap.objs.size + 2 →
      (∀ b o, s.heap.get? b = some o → h'.get? b = some o) → Q (.ref (s.heap.objs.size + 1)) { s with heap := h' }) :
    wpAny (model prog w) A (call (.type "enumerate") [.ref l]) Q E s := by
  obtain ⟨⟨c, dct, dt, sl⟩, hl, hc, n, hd⟩ := hL
  replace hc : c = .type "tuple" := hc
  replace hd : dt = .seq items n := hd
  subst hc hd
  refine callType_new F.called_enumerate (by decide) (F.typeCall_enumerate_1 _) (F.newCall_enumerate_1 _) (fun obj => F.args_object_init_2 obj _) F.entry_enumerate_new
    (meets_enumT l items n dct sl) ⟨hl, ?_⟩
  have hz : (s.heap.push { cls := .type "tuple_iterator", data := .fields #[.ref l, .int 0 0] }).objs.size = s.heap.objs.size + 1 := Heap.size_push ..
  show _ ∧ _
  rw [hz]
  have he : IsEnum ((s.heap.push { cls := .type "tuple_iterator", data := .fields #[.ref l, .int 0 0] }).push
      { cls := .type "enumerate", data := .fields #[.none, .bool false, .ref s.heap.objs.size, rawInt 0, .none, .none] }) (s.heap.objs.size + 1) s.heap.objs.size 0 .none := by
    have := Heap.get?_push_size (s.heap.push { cls := .type "tuple_iterator", data := .fields #[.ref l, .int 0 0] })
      (o := { cls := .type "enumerate", data := .fields #[.none, .bool false, .ref s.heap.objs.size, rawInt 0, .none, .none] }) rfl
    rw [hz] at this; exact this
  refine ⟨⟨_, he, rfl⟩, h _ he ⟨_, Heap.get?_push_of_some _ (Heap.get?_push_size _ rfl), rfl, rfl⟩ (by rw [Heap.size_push, hz]) fun b o x => Heap.get?_push_of_some _ (Heap.get?_push_of_some _ x)⟩
end
/-- the tuple at a, each item in a new pair -/
def ItE (K : PySem.W.Frag) (a : Addr) : It :=
  ⟨fun i H => ∃ (xs : List V) (x : V), SqT K H a xs ∧ xs[i]? = some x, fun i H v H' => ∃ T x, v = .ref T ∧ H T = none ∧ H' = upd H T (.tup [.int (i : Nat), x]) ∧ ∀ xs, SqT K H a xs → xs[i]? = some x, fun i H => ∃ xs : List V, SqT K H a xs ∧ xs.length = i⟩
theorem turn_enumT {P : Program} {w : World} {K : PySem.W.Frag} {elts : List Expr} {kk : Nat} {tpos : Pos} (a e it : Addr) :
    Turn P w K (.Tuple elts kk tpos) (ItE K a) [e, it] e (fun i h => (∃ old, IsEnum h e it ((i : Nat) : Int) old) ∧ h.IsTupleIter it a i ∧ e ≠ it ∧ e ≠ a ∧ a ≠ it) where
  mem := by simp
  obj := fun i h st b hb => by
    obtain ⟨⟨old, he⟩, ⟨o, ho, hc, hd⟩, _⟩ := st
    have e' : b = e ∨ b = it := by simpa using hb
    rcases e' with z | z
    · rw [z]; exact ⟨_, he, fun v q => nomatch q⟩
    · rw [z]; exact ⟨o, ho, fun v q => by rw [hd] at q; cases q⟩
  keep := fun i h h' st k => let ⟨⟨old, he⟩, hi, hne⟩ := st; ⟨⟨old, k e (by simp) _ he⟩, hi.at fun o q => k it (by simp) o q, hne⟩
  item := by
    intro X hP hw hK hc i pins s σ H E I hf st hg
    subst hP hw hK
    obtain ⟨⟨old, he⟩, hit, hne, hea, hai⟩ := st
    obtain ⟨xs, x, hq, hx⟩ := hg
    obtain ⟨its, rv, p, hz⟩ := I.tuple hq
    obtain ⟨u, hu, ru⟩ := rv.get hx
    have hel : e < s.heap.objs.size := Heap.lt_size he
    have hil : it < s.heap.objs.size := by obtain ⟨_, q, _⟩ := hit; exact Heap.lt_size q
    have hlt : i < its.toArray.size := by
      have := (List.getElem?_eq_some_iff.mp hu).1
      simpa using this
    refine wpAny_pyNext_enum_itemD (A := X.A) (Draws.tuple (prog := X.prog) (w := X.w) (A := X.A.in1) (I.ok.hd hc) it a hai its.toArray) he ⟨hit, p⟩ hlt hne (by simp [hne, hea]) fun x' h' tk hx' ho hit' hT hsz hk => ?_
    have ex : x' = u := by
      have h1 : its.toArray[i]? = some u := by simpa using hu
      rw [h1] at hx'
      exact (Option.some.inj hx').symm
    subst ex
    refine ⟨_, rfl, wpAny_letOwnedTupleGo_enum (s := { s with heap := h', toks := tk + 1 }) ho fun h'' he' sb => ?_⟩
    have hT2 : h''.get? s.heap.objs.size = some { cls := .type "tuple", data := .seq #[.int i tk, x'] } := (sb.2 _ (Nat.ne_of_gt hel)).trans hT
    have new : ObjOk X.prog X.w (upd H s.heap.objs.size (.tup [.int (i : Nat), x])) h'' s.heap.objs.size (.tup [.int (i : Nat), x]) :=
      ⟨by show 2 ≤ sizeLine; decide, [.int i tk, x'], .cons ⟨_, rfl⟩ (.cons ru .nil), ⟨_, hT2, rfl, _, rfl⟩⟩
    have I1 : Inv X pins σ (upd H s.heap.objs.size (.tup [.int (i : Nat), x])) { s with heap := h'', toks := tk + 1 } :=
      I.turnedNew (ch := [e, it]) (fun b ob hb q => (sb.2 b (fun z => hb (by simp [z]))).trans (hk b ob (fun z => hb (by simp [z])) (fun z => hb (by simp [z])) q)) hf (Nat.le_refl _) new
    refine ⟨.ref s.heap.objs.size, _, I1, rfl, ⟨_, x, rfl, I.hok.fresh (Nat.le_refl _), rfl, fun ys hy => by rw [I.tuple_inj hy hq]; exact hx⟩, ⟨⟨x', ?_⟩, hit'.1.at fun o q => (sb.2 it (Ne.symm hne)).trans q, hne, hea, hai⟩, fun b hb => ?_⟩
    · have e1 : ((i + 1 : Nat) : Int) = (i : Int) + 1 := by omega
      rw [e1]; exact he'
    · have hb' : b < s.heap.objs.size := by
        have e' : b = e ∨ b = it := by simpa using hb
        rcases e' with z | z
        · rw [z]; exact hel
        · rw [z]; exact hil
      rw [upd_ne (Nat.ne_of_lt hb')]
      exact (hf b hb).1
  done := by
    intro X hP hw hK hc i pins s σ H E I hf st hg
    subst hP hw hK
    obtain ⟨⟨old, he⟩, hit, hne, hea, hai⟩ := st
    obtain ⟨xs, hq, hx⟩ := hg
    obtain ⟨its, rv, p, hz⟩ := I.tuple hq
    obtain ⟨f0, f1, f2, f3, f4, f5⟩ := hf it (by simp)
    have hl := rv.length
    have hi : i = its.toArray.size := by simp; omega
    subst hi
    exact wpAny_pyNext_enum_endD (A := X.A) (Draws.tuple (prog := X.prog) (w := X.w) (A := X.A.in1) (I.ok.hd hc) it a hai its.toArray) he ⟨hit, p⟩ fun h' eb => ⟨rfl, I.turned (t' := s.toks) (fun b o hb q => eb b o hb q) f0 f1 f3 f4 f5⟩
  self := fun A i s Q E st h => let ⟨⟨_, he⟩, _⟩ := st; wpAny_pyIter_enum he h
/-- enumerate(e), e a list or a tuple -/
def iEnumA (K : PySem.W.Frag) (ta : TA) : TI := fun σ H R => ta σ H fun vs H1 => ∃ a xs, vs = [.ref a] ∧ ((SqL K H1 a xs ∧ R (Ite K a) H1) ∨ (SqT K H1 a xs ∧ R (ItE K a) H1))
theorem pi_enumA {X : Cx} {e : Expr} {ta : TA} {p pos tpos : Pos} {elts : List Expr} {kk : Nat} (hg : Gl X "enumerate") (hm : X.mg "enumerate" = none) (ha : PA X [e] ta) (hs : starEach [e] X.env = [(false, eval e X.env)]) :
    PI X (.Tuple elts kk tpos) (.Call (.Name "enumerate" p) [e] [] pos) (iEnumA X.K ta) := by
  refine ⟨fun pins s σ H R I h => ?_⟩
  refine Call_ (ld_blt I hg hm boot_enumerate (PyProof.Rows.callWith_type1 (thn (ha.run pos pins s σ H _ I h) fun us s1 ⟨vs, H1, I1, r1, q1⟩ => ?_) hs rfl))
  obtain ⟨a, xs, ex, q⟩ := q1
  subst ex
  cases r1 with
  | cons r rr =>
    cases rr
    cases r
    have fp : ∀ b, b ∈ [s1.heap.objs.size + 1, s1.heap.objs.size] → s1.heap.objs.size ≤ b := fun b hb => by
      have e' : b = s1.heap.objs.size + 1 ∨ b = s1.heap.objs.size := by simpa using hb
      rcases e' with z | z
      · rw [z]; exact Nat.le_add_right _ _
      · rw [z]; exact Nat.le_refl _
    rcases q with ⟨hq, q⟩ | ⟨hq, q⟩
    · obtain ⟨its, rv, p', hz⟩ := I1.list hq
      refine call_enumerate_list p'.isList fun h' he hit hsz hk => wpAny_pyIter_enum he ?_
      have I2 : Inv X pins σ H1 { s1 with heap := h' } := I1.kept (t' := s1.toks) hk
      exact ⟨s1.heap.objs.size + 1, [s1.heap.objs.size + 1, s1.heap.objs.size], _, _, H1, rfl, I2, turn_enum a (s1.heap.objs.size + 1) s1.heap.objs.size, ⟨⟨.none, he⟩, hit, Nat.succ_ne_self _⟩, fun b hb => I1.fpOk (fp b hb) (I1.hok.fresh (fp b hb)), q⟩
    · obtain ⟨its, rv, p', hz⟩ := I1.tuple hq
      have hal : a < s1.heap.objs.size := by obtain ⟨_, q, _⟩ := p'; exact Heap.lt_size q
      refine call_enumT p' fun h' he hit hsz hk => wpAny_pyIter_enum he ?_
      have I2 : Inv X pins σ H1 { s1 with heap := h' } := I1.kept (t' := s1.toks) hk
      exact ⟨s1.heap.objs.size + 1, [s1.heap.objs.size + 1, s1.heap.objs.size], _, _, H1, rfl, I2, turn_enumT a (s1.heap.objs.size + 1) s1.heap.objs.size, ⟨⟨.none, he⟩, hit, Nat.succ_ne_self _, Nat.ne_of_gt (Nat.lt_succ_of_lt hal), Nat.ne_of_lt hal⟩, fun b hb => I1.fpOk (fp b hb) (I1.hok.fresh (fp b hb)), q⟩
section
variable {G : Gm} {E : XK}
def numD : Nat → List D → List D
  | _, [] => []
  | i, x :: xs => .tup false [.int (Int.ofNat i), x] :: numD (i + 1) xs
theorem numD_len : ∀ (xs : List D) (i : Nat), (numD i xs).length = xs.length
  | [], i => rfl
  | x :: xs, i => by unfold numD; rw [List.length_cons, List.length_cons, numD_len xs]
theorem numD_get : ∀ (xs : List D) (i j : Nat) (y : D), (numD i xs)[j]? = some y → ∃ x, xs[j]? = some x ∧ y = .tup false [.int (Int.ofNat (i + j)), x]
  | [], i, j, y, h => by cases h
  | x :: xs, i, 0, y, h => by
    unfold numD at h
    simp only [List.getElem?_cons_zero] at h
    exact ⟨x, rfl, (Option.some.inj h).symm⟩
  | x :: xs, i, j + 1, y, h => by
    unfold numD at h
    simp only [List.getElem?_cons_succ] at h
    obtain ⟨z, e1, e2⟩ := numD_get xs (i + 1) j y h
    refine ⟨z, by simpa using e1, ?_⟩
    rw [e2, show i + 1 + j = i + (j + 1) by omega]
def iEnum1 (m : EM DH.X) : EM (List D) := fun sl st => (m sl st).bind fun x st1 => match seqM x with
  | some xs => .ok (numD 0 xs) st1
  | none => .bad
theorem it_enumL {F : Addr → Prop} {ρ : List Addr} {H : Hp} {a : Addr} {vs : List V} {xs : List D} (f : FzL G (Nn F ρ) H a vs) (r : RelDs G (Nn F ρ) H xs vs) : ItOk G F ρ H (numD 0 xs) (Ite G.K a) where
  stop := fun ρ' H' s => by
    have f' : FzL G (Nn F ρ') H' a vs := (s.keeps (F := F)).fzL f
    exact ⟨vs, SqL.of f'.1, by rw [numD_len, r.length]; exact Nat.le_refl _⟩
  go := fun F' i x ρ' H' st hF hx s R => by
    have k := keeps_go hF s
    have f' : FzL G (Nn F' ρ') H' a vs := k.fzL f
    have r' := RelDs.mono k xs r
    obtain ⟨y, e1, e2⟩ := numD_get xs 0 i x hx
    obtain ⟨v, ev, rv⟩ := r'.get e1
    refine ⟨⟨vs, v, SqL.of f'.1, ev⟩, fun w H2 hy => ?_⟩
    obtain ⟨T, x2, ew, hT, eH, hall⟩ := hy
    have e3 : x2 = v := by
      have := hall vs (SqL.of f'.1)
      rw [ev] at this
      exact (Option.some.inj this).symm
    subst e3
    refine ⟨.inr ⟨T, _, hT, (fun ps z => by cases z), eH⟩, ?_⟩
    rw [e2, eH, ew]
    have s2 : Stp ρ' H' ρ' (upd H' T (.tup [.int (i : Nat), x2])) := stp_new hT
    exact ⟨T, _, rfl, ⟨upd_same, R.fresh hT⟩, ⟨_, _, rfl, by rw [Nat.zero_add]; rfl, ⟨_, _, rfl, RelD.mono s2.keeps y rv, rfl⟩⟩⟩
theorem it_enumT {F : Addr → Prop} {ρ : List Addr} {H : Hp} {b : Bool} {a : Addr} {vs : List V} {xs : List D} (f : FzT G (Nn F ρ) H b a vs) (r : RelDs G (Nn F ρ) H xs vs) : ItOk G F ρ H (numD 0 xs) (ItE G.K a) where
  stop := fun ρ' H' s => by
    have f' : FzT G (Nn F ρ') H' b a vs := (s.keeps (F := F)).fzT f
    exact ⟨vs, f'.sq, by rw [numD_len, r.length]⟩
  go := fun F' i x ρ' H' st hF hx s R => by
    have k := keeps_go hF s
    have f' : FzT G (Nn F' ρ') H' b a vs := k.fzT f
    have r' := RelDs.mono k xs r
    obtain ⟨y, e1, e2⟩ := numD_get xs 0 i x hx
    obtain ⟨v, ev, rv⟩ := r'.get e1
    refine ⟨⟨vs, v, f'.sq, ev⟩, fun w H2 hy => ?_⟩
    obtain ⟨T, x2, ew, hT, eH, hall⟩ := hy
    have e3 : x2 = v := by
      have := hall vs f'.sq
      rw [ev] at this
      exact (Option.some.inj this).symm
    subst e3
    refine ⟨.inr ⟨T, _, hT, (fun ps z => by cases z), eH⟩, ?_⟩
    rw [e2, eH, ew]
    have s2 : Stp ρ' H' ρ' (upd H' T (.tup [.int (i : Nat), x2])) := stp_new hT
    exact ⟨T, _, rfl, ⟨upd_same, R.fresh hT⟩, ⟨_, _, rfl, by rw [Nat.zero_add]; rfl, ⟨_, _, rfl, RelD.mono s2.keeps y rv, rfl⟩⟩⟩
theorem q_enum {X : Cx} {e : Expr} {p pos tpos : Pos} {elts : List Expr} {kk : Nat} {m : EM DH.X} (hK : G.K = X.K) (hg : Gl X "enumerate") (hm : X.mg "enumerate" = none) (ha : PA X [e] (rdA G E (aCons m aNil))) (hs : starEach [e] X.env = [(false, eval e X.env)]) :
    PI X (.Tuple elts kk tpos) (.Call (.Name "enumerate" p) [e] [] pos) (rdI G E (iEnum1 m)) := by
  refine PI.imp (pi_enumA hg hm ha hs) fun σ H Q h => ?_
  obtain ⟨F, ρ, sl, st, sk, R, h⟩ := h
  refine ⟨F, ρ, sl, st, sk, R, ?_⟩
  unfold iEnum1 at h
  unfold aCons
  have h2 := PostG.bind (R := rX G) h
  cases q : m sl st with
  | bad => rw [q] at h; exact h
  | exn c fs st1 => rw [q] at h; exact h
  | ok x st1 =>
    rw [q] at h2
    intro ρ1 H1 vs s1 R1 r1
    obtain ⟨v, r', e1, rx, e2⟩ := r1
    have e2' : r' = [] := e2
    subst e2' e1
    obtain ⟨x', st1', ρ1', s1', R1', rx', h3⟩ := h2 ρ1 H1 v s1 R1 rx
    rw [q] at h
    have h : PostG G E (rIt G) F ρ H (match seqM x with | some xs => .ok (numD 0 xs) st1 | none => .bad) Q := h
    have h := PostG.later (R := rIt G) s1 h
    rw [← hK]
    match x, rx, h with
    | .d (.lst xs), rx, h =>
      obtain ⟨a, ws, ev, fz, rr⟩ := rx
      rw [ev]
      exact ⟨a, ws, rfl, .inl ⟨fz.sq, PostG.now (R := rIt G) h R1 (it_enumL fz rr)⟩⟩
    | .d (.tup f xs), rx, h =>
      obtain ⟨a, ws, ev, fz, rr⟩ := rx
      rw [ev]
      exact ⟨a, ws, rfl, .inr ⟨fz.sq, PostG.now (R := rIt G) h R1 (it_enumT fz rr)⟩⟩
    | .d .non, rx, h => exact h.elim
    | .d (.bl _), rx, h => exact h.elim
    | .d (.int _), rx, h => exact h.elim
    | .d (.str _), rx, h => exact h.elim
    | .d (.dct _ _), rx, h => exact h.elim
    | .d (.obj _ _), rx, h => exact h.elim
    | .loc _, rx, h => exact h.elim
end
end DH
namespace DH
open PySem PySem.Spec PyProof.Rows L2
theorem u65 {k : Nat} {A : Around} (r : Room k A) : A.units + 65 < cLine := by have := r.un; omega
/-! ### defs by the head's data -/
/-- a def of np parameters and n slots -/
def mkD (np n : Nat) (b : SM) : Fn := fun xs st => match Nat.beq xs.length np with
  | true => mkF n b xs st
  | false => .bad
section
variable {P : Program} {w : World} {K : PySem.W.Frag} {mg : Str → Option Value} {base : Heap} {G : Gm}
theorem def_okD {x qual : Str} {params : Arguments} {body : List Stmt} {scope : Scope} {f : Addr} {fd : FuncData} {N ps : List Str} {k n np : Nat} {b : SM} (F : FunD K x qual params body scope [] [] f fd) (S : FnScope N ps scope) (hn : N.length = n) (hp : ps.length = np)
    (hbody : ∀ (cdv : Value), fd.code = cdv → PySem.W.codeIn K cdv qual = true → ∀ (A : Around) (outer : List Env) (s : Shared) (H : Hp) (E : XK), Room k (A.deeper (envOfC qual scope s.heap.objs.size f cdv)) →
      PSs (cxOf (L2.CX P w) P w K mg base N qual scope f cdv A outer s H E) body (rdS G E b)) : FnOk P w K mg base (L2.CX P w) (k + 1) f fd ps (spF G (mkD np n b)) := by
  obtain ⟨oc, od, dV, kV, doc, pm, an, cdv, ct, osl, rfl, lk, hcd, _, _⟩ := F.ex
  have key : ∀ {F : Addr → Prop} {ρ : List Addr} {H : Hp} {xs : List X} {st : Store} {Q : VK} {E : XK}, PostG G E (rX G) F ρ H (mkD np n b xs st) Q → xs.length = np ∧ PostG G E (rX G) F ρ H (mkF n b xs st) Q := fun {F ρ H xs st Q E} h => by
    unfold mkD at h
    cases q : Nat.beq xs.length np with
    | false => rw [q] at h; exact h.elim
    | true => rw [q] at h; exact ⟨Nat.eq_of_beq_eq_true q, h⟩
  refine fn_of lk hcd S (fun vs H Q E h => ?_) fun A outer s H vs Q E hr h => ?_
  · obtain ⟨F, ρ, xs, st, rx, R, h⟩ := h
    rw [rx.length, (key h).1, hp]
  · obtain ⟨F, ρ, xs, st, rx, R, h⟩ := h
    exact ⟨_, hbody cdv rfl hcd A outer s H E hr, F, ρ, _, st, sl_start rx hn, R, endF_ok R (key h).2⟩
end
/-! ### told(lambda: e) -/
inductive ToldOk (ca : Nat → Addr) : List (Value × (Addr → Value → Option Addr → TS)) → List (Nat × List Nat) → Prop
  | nil : ToldOk ca [] []
  | cons {x : Str} {cs : List Nat} {c : Nat} {l : List (Value × (Addr → Value → Option Addr → TS))} {hs : List (Nat × List Nat)} (e : x = strOf cs) (r : ToldOk ca l hs) : ToldOk ca ((.ref (ca c), fun _ _ _ => tRet (tC (.str x))) :: l) ((c, cs) :: hs)
def findN (c : Nat) : List (Nat × List Nat) → Option (List Nat)
  | [] => none
  | (d, s) :: r => (match Nat.beq c d with
    | true => some s
    | false => findN c r)
theorem wMany_told {K : PySem.W.Frag} {ca : Nat → Addr} {c : Nat} {d : Option Addr} {σ : L2.St} {H : Hp} {Q : VK} {nx : L2.St → Hp → Prop} {s : List Nat} : ∀ {l : List (Value × (Addr → Value → Option Addr → TS))} {hs : List (Nat × List Nat)}, ToldOk ca l hs →
    (∀ h ∈ hs, PySem.W.exmOne K (.ref (ca c)) (.ref (ca h.1)) = some (Nat.beq c h.1)) → findN c hs = some s → Q (.str (strOf s)) H → wMany K (fun _ _ _ _ => False) { nx := nx, rt := Q } l (.ref (ca c)) d σ H
  | _, _, .nil, _, e, _ => by cases e
  | _, _, .cons (c := d') (cs := cs) e r, hx, ef, q => by
    refine ⟨_, hx _ (List.mem_cons_self ..), fun z a ha => ?_, fun z => ?_⟩
    · unfold findN at ef
      simp only at z
      rw [z] at ef
      have : cs = s := Option.some.inj ef
      subst this
      rw [e]
      exact q
    · unfold findN at ef
      simp only at z
      rw [z] at ef
      exact wMany_told r (fun h hh => hx h (List.mem_cons_of_mem _ hh)) ef q
/-- what the def makes of the lambda's reading -/
def TT8 (K : PySem.W.Frag) (l : List (Value × (Addr → Value → Option Addr → TS))) : (XK → Hp → VK → Prop) → Hp → VK → Prop := fun tl H Q =>
  tl (fun cls d H' => ∀ σ', wMany K (fun _ _ _ _ => False) { nx := fun _ H' => Q .non H', rt := Q } l cls d σ' H') H Q
section
variable {X : Cx}
theorem told_many {Ng : List Str} {x a q : Str} {sg : Scope} {g : Addr} {cdg : Value} {h₀ : ExceptHandler} {hds : List ExceptHandler} {l : List (Value × (Addr → Value → Option Addr → TS))} {p1 p2 p3 p8 : Pos}
    (hh : ∀ (s : Shared) (H : Hp), HdsOk (cxOf C8.CX0 X.prog X.w X.K X.mg X.base Ng x sg g cdg X.A X.stack s H C8.E0).nox (h₀ :: hds) l) (h0 : ∀ f : Addr, (L2.start Ng [V.ref f])[0]? = some (some (V.ref f))) :
    LamX.GivesTo X Ng x sg g cdg [.Try [.Return (some (.Call (.Name a p1) [] [] p2)) p3] (h₀ :: hds) [] [] p8] a q (TT8 X.K l) := by
  intro f c' s H Q tl act hc h
  refine ⟨_, pss_one (ps_try_many (X := (cxOf C8.CX0 X.prog X.w X.K X.mg X.base Ng x sg g cdg X.A X.stack s H C8.E0).nox)
      (tb := fun W D σ H => ∃ Ech : XK, (∀ cls d σ' H', Ech cls d H' → W cls d σ' H') ∧ σ[0]? = some (some (.ref f)) ∧ H c' = some (LamX.CodeO c' q) ∧ tl Ech H D.rt)
      rfl rfl LamX.takes0 (fun W pn xe tk _ => ?_) (hh s H)), ?_⟩
  · refine ⟨fun pins s' σ H' D I h' => ?_⟩
    obtain ⟨Ech, hW, h1, h2, h3⟩ := h'
    have hp := act W pn xe Ech p1 p2 tk hW
    have hq := pss_one (ps_ret (pos := p3) hp)
    exact hq.run pins s' σ H' D I ⟨h1, h2, h3⟩
  · exact ⟨_, fun cls d σ' H' z => z σ', h0 f, hc, h⟩
variable {G : Gm} {E : XK}
theorem Rep.ext {F : Addr → Prop} {ρ : List Addr} {st : Store} {H H1 : Hp} (R : Rep G F ρ st H) (e : LamX.ExtN H H1) (t : LamX.Tabs G.T H1) : Rep G F ρ st H1 ∧ Stp ρ H ρ H1 := by
  have s : Stp ρ H ρ H1 := ⟨fun a o h n _ => e a o h n, ⟨[], by simp⟩, fun _ z => .inl z, fun a o h n => ⟨o, e a o h n, n⟩⟩
  refine ⟨⟨R.len, R.nd, R.dis, fun a z => ?_, fun l a m e1 e2 => ?_, t⟩, s⟩
  · obtain ⟨o, q, vs, q2⟩ := R.fin a z
    exact ⟨o, e a o q (by rw [q2]; intro ps z; cases z), vs, q2⟩
  · have rm := R.obj l a m e1 e2
    have key : ∀ o, H a = some o → NT o → H1 a = H a := fun o h n => by rw [h]; exact e a o h n
    refine rm.mono s.keeps ?_
    cases m with
    | lst xs =>
      obtain ⟨vs, q, _⟩ := rm
      exact key _ q (fun ps z => by cases z)
    | dct t kvs =>
      rcases rm with ⟨ps, q, _⟩ | ⟨ps, q, _⟩
      · exact key _ q (fun ps z => by cases z)
      · exact key _ q (fun ps z => by cases z)
    | ins c fs =>
      obtain ⟨dx, ps, q, _⟩ := rm
      exact key _ q (fun ps z => by cases z)
def toldF (rs : List Nat) (hs : List (Nat × List Nat)) (c : Nat) : Option (List Nat) := match rs.contains c with
  | true => findN c hs
  | false => none
def eTold (rs : List Nat) (hs : List (Nat × List Nat)) (m : EM DH.X) : EM DH.X := fun sl st => match m sl st with
  | .ok x st1 => .ok x st1
  | .exn c _ st1 => (match toldF rs hs c with
    | some s => .ok (.d (.str s)) st1
    | none => .bad)
  | .bad => .bad
theorem rd_told {rs : List Nat} {hs : List (Nat × List Nat)} {l : List (Value × (Addr → Value → Option Addr → TS))} {m : EM DH.X} (tk : ToldOk G.ca l hs) (hx : ∀ c ∈ rs, ∀ h ∈ hs, PySem.W.exmOne G.K (.ref (G.ca c)) (.ref (G.ca h.1)) = some (Nat.beq c h.1)) {σ : L2.St} {H : Hp} {Q : VK}
    (h : rdE G E (eTold rs hs m) σ H Q) : LamX.tLam G.T (TT8 G.K l) (fun E' => rdE G E' m) σ H Q := by
  obtain ⟨F, ρ, sl, st, sk, R, h⟩ := h
  refine ⟨R.tab, fun H1 e1 t1 => ?_⟩
  obtain ⟨R1, s1⟩ := R.ext e1 t1
  refine ⟨F, ρ, sl, st, sk.mono s1, R1, ?_⟩
  unfold eTold at h
  cases q : m sl st with
  | bad => rw [q] at h; exact h
  | ok x st1 =>
    rw [q] at h
    exact PostG.later (R := rX G) s1 h
  | exn c fs st1 =>
    rw [q] at h
    simp only at h
    cases q2 : toldF rs hs c with
    | none => rw [q2] at h; exact h.elim
    | some s =>
      rw [q2] at h
      intro ρ' H' d s' R' re σ'
      unfold toldF at q2
      cases q3 : rs.contains c with
      | false => rw [q3] at q2; cases q2
      | true =>
        rw [q3] at q2
        refine wMany_told tk (hx c (by simpa using q3)) q2 ?_
        exact h ρ' H' _ (s1.trans s') R' (show RelX G F ρ' H' (.d (.str s)) (.str (strOf s)) from rfl)
/-- x(lambda: body), x's def a try with many clauses -/
theorem q_told {rs : List Nat} {hs : List (Nat × List Nat)} {l : List (Value × (Addr → Value → Option Addr → TS))} {x a : Str} {g c Pt : Addr} {k : Nat} {pg : Arguments} {sg : Scope} {fd : FuncData} {Ng : List Str}
    {params : Arguments} {body : Expr} {scope : Scope} {m : EM DH.X} {p lpos pos p1 p2 p3 p8 : Pos} {h₀ : ExceptHandler} {hds : List ExceptHandler} (hK : G.K = X.K)
    (F : FunD X.K x x pg [.Try [.Return (some (.Call (.Name a p1) [] [] p2)) p3] (h₀ :: hds) [] [] p8] sg [] [] g fd) (hb : L2.Binds X.K fd [a] []) (Sg : FnScope Ng [a] sg) (hNg : Ng[0]? = some a) (hva : Vis sg a)
    (hh : ∀ (cdg : Value) (s : Shared) (H : Hp), HdsOk (cxOf C8.CX0 X.prog X.w X.K X.mg X.base Ng x sg g cdg X.A X.stack s H C8.E0).nox (h₀ :: hds) l) (tk : ToldOk G.ca l hs) (hx : ∀ c ∈ rs, ∀ h ∈ hs, PySem.W.exmOne G.K (.ref (G.ca c)) (.ref (G.ca h.1)) = some (Nat.beq c h.1))
    (hg : Gl X x) (hm : X.mg x = some (.ref g))
    (TB : LamX.TabB X.base X.mg c Pt) (hcode : X.env.code = .ref c) (hmT : (Pt, X.env.qual ++ "<lambda>") ∈ G.T) (hu : ∀ p ∈ G.T, p.1 = Pt → p.2 = X.env.qual ++ "<lambda>") (hr : Room (k + 2) X.A) (L : LamX.LamS X.env.scope scope) (hdef : defaultsOf params X.env = ([], []))
    (hbind : ∀ (q : Str) (cl : List (Str × Addr)) (pm cv ctv : Value), bindArgs (PySem.W.kla_fn "<lambda>" q params body scope cl pm cv ctv) ⟨[], []⟩ = pure [])
    (hbody : ∀ (A : Around) (outer : List Env) (s : Shared) (H : Hp) (E : XK) (f c' : Addr), Room k (A.deeper (LamX.lamEnv X scope s.heap.objs.size f c')) → PE (LamX.lamCx X A outer s H E scope f c') body (rdE G E m))
    (hdb : (x == ("__debug__" : Str)) = false) (hd : (a == ("__debug__" : Str)) = false) (hcd : (a == ("__classdict__" : Str)) = false) :
    PE X (.Call (.Name x p) [.Lambda params body scope lpos] [] pos) (rdE G E (eTold rs hs m)) := by
  obtain ⟨oc, od, dV, kV, doc, pm, an, cdv, ct, osl, rfl, lk, hcdv, _, _⟩ := F.ex
  refine PE.imp (LamX.pe_lamcall (T := G.T) (TT := TT8 X.K l) hg hm F.kp lk hcdv hb Sg hNg hva (told_many (hh cdv) fun f => ?_) TB hcode hmT hu hr L hdef hbind hbody hdb hd hcd) fun σ H Q h => ?_
  · have hlen : Ng.length ≠ 0 := fun z => by
      cases Ng with
      | nil => cases hNg
      | cons _ _ => cases z
    unfold L2.start
    rfl
  · rw [← hK]
    exact rd_told tk hx h
end
/-! ### raise C('..') -/
section
variable {X : Cx} {G : Gm} {E : XK} {x m : Str} {c j : Nat} {p p2 pos pos' : Pos}
theorem q_raiseC (hK : G.K = X.K) (hc : X.calm = true) (tk : Takes X (fun cls d _ H => E cls d H)) (he : PySem.W.excIn X.K (G.ca c) [.type "ValueError", .type "Exception", .type "BaseException", .type "object"] "ValueError.__new__" = true) (kC : PySem.W.keepIn X.K (.ref (G.ca c)) = true)
    (hb : PySem.W.subIn X.K (.ref (G.ca c)) (.type "BaseException") = some true) (ht : PySem.W.typeIn X.K (.ref (G.ca c)) = some (.type "type")) (gC : X.mg x = some (.ref (G.ca c))) (hg : Gl X x) (hdb : (x == ("__debug__" : Str)) = false) :
    PS X (.Raise (some (.Call (.Name x p) [.Constant (.str m) j p2] [] pos)) none pos') (rdS G E (sRaise c)) :=
  q_raise hc tk (pmk_own PySem.F.excBase_ValueError he gC kC (raises_own hb ht) hg hdb) fun _ _ _ h => h
end
end DH
namespace DH
open PySem PySem.Spec PyProof.Rows L2
/-! ### the rounds of the script's first cell -/
abbrev tRest (K : PySem.W.Frag) : TS := tAsg (tSl (rSlL K) (tVar 0) tNoPart (tPart (tVar 1))) (gName 2)
/-- three numbers -/
abbrev diceV (x y z : Int) : List V := [.int x, .int y, .int z]
abbrev diceD (x y z : Int) : List D := [.int x, .int y, .int z]
def spRounds (G : Gm) : Sp := fun vs H Q _ => ∃ (s0 : Addr) (ns : List Int), vs = [.ref s0, .int 1] ∧ SqL G.K H s0 (ns.map V.int) ∧ LamX.Tabs G.T H ∧
  ∀ (a b : Addr) (x y z : Int) (H' : Hp), H' a = some (.lst [.ref b]) → H' b = some (.lst (diceV x y z)) → LamX.Tabs G.T H' → Q (.ref a) H'
section
variable {P : Program} {w : World} {K : PySem.W.Frag} {mg : Str → Option Value} {base : Heap} {G : Gm}
theorem cut1 (ns : List Int) : cutV (ns.map V.int) none (some 1) = (ns.take 1).map V.int := by
  unfold cutV
  have e : HT.sIx (ns.map V.int).length (ns.map V.int).length (some 1) = min 1 (ns.map V.int).length := HT.sIx_nat _ _ 1
  rw [e, HT.sIx_none]
  cases ns with
  | nil => rfl
  | cons n r =>
    have : min 1 (List.map V.int (n :: r)).length = 1 := by simp
    rw [this]
    rfl
theorem rel_ints {N : Addr → Prop} {H : Hp} : ∀ ns : List Int, RelDs G N H (ns.map D.int) (ns.map V.int)
  | [] => rfl
  | n :: r => ⟨_, _, rfl, rfl, rel_ints r⟩
theorem rounds_ok {x qual : Str} {params : Arguments} {s1 : Stmt} {rest : List Stmt} {scope : Scope} {f : Addr} {fd : FuncData} {N ps : List Str} {k n : Nat} {b : SM} (hK : G.K = K) (F : FunD K x qual params (s1 :: rest) scope [] [] f fd) (S : FnScope N ps scope) (hn : N.length = n + 3) (hp : ps.length = 2)
    (hbody : ∀ (cdv : Value) (A : Around) (outer : List Env) (s : Shared) (H : Hp) (E : XK), Room k (A.deeper (envOfC qual scope s.heap.objs.size f cdv)) →
      PS (cxOf (L2.CX P w) P w K mg base N qual scope f cdv A outer s H E) s1 (tRest K) ∧ PSs (cxOf (L2.CX P w) P w K mg base N qual scope f cdv A outer s H E) rest (rdS G E b))
    (hm : ∀ ns : List Int, ∃ x y z st, b (none :: some (.d (.int 1)) :: some (.d (.lst ((ns.take 1).map D.int))) :: List.replicate n none) [] = .rt (.d (.lst [.lst (diceD x y z)])) st) :
    FnOk P w K mg base (L2.CX P w) (k + 1) f fd ps (spRounds G) := by
  obtain ⟨oc, od, dV, kV, doc, pm, an, cdv, ct, osl, rfl, lk, hcd, _, _⟩ := F.ex
  refine fn_of lk hcd S (fun vs H Q E h => ?_) fun A outer s H vs Q E hr h => ?_
  · obtain ⟨s0, ns, rfl, _⟩ := h
    rw [hp]; rfl
  · obtain ⟨h1, h2⟩ := hbody cdv A outer s H E hr
    refine ⟨_, pss_cons h1 h2, ?_⟩
    obtain ⟨s0, ns, rfl, hs, hT, hQ⟩ := h
    refine ⟨.ref s0, rfl, ⟨.int 1, rfl, 1, rfl, s0, ns.map V.int, rfl, by rw [← hK]; exact hs, fun p hp0 => ?_⟩⟩
    rw [cut1]
    show rdS G E b _ ((L2.start N [.ref s0, .int 1]).set 2 (some (.ref p))) (upd H p (.lst ((ns.take 1).map V.int)))
    obtain ⟨x, y, z, st, e⟩ := hm ns
    have hT1 : LamX.Tabs G.T (upd H p (.lst ((ns.take 1).map V.int))) := tabs_new hp0 hT
    refine ⟨fun _ => False, [], none :: some (.d (.int 1)) :: some (.d (.lst ((ns.take 1).map D.int))) :: List.replicate n none, [], ⟨?_, fun i v hv => ?_⟩, ⟨rfl, List.nodup_nil, (fun a ha => by cases ha), (fun a ha => False.elim ha), (fun l a o e => by cases e), hT1⟩, ?_⟩
    · unfold L2.start
      simp [hn]
    · match i, hv with
      | 0, hv => cases hv
      | 1, hv =>
        have hv : some (some (X.d (.int 1))) = some (some v) := hv
        cases hv
        refine ⟨.int 1, ?_, rfl⟩
        unfold L2.start
        rfl
      | 2, hv =>
        have hv : some (some (X.d (.lst ((ns.take 1).map D.int)))) = some (some v) := hv
        cases hv
        refine ⟨.ref p, ?_, p, _, rfl, ⟨upd_same, fun z => z.elim id fun z => by cases z⟩, rel_ints _⟩
        rw [List.getElem?_set_self]
        unfold L2.start
        simp [hn]
      | i + 3, hv =>
        have hv : (List.replicate n (none : Option X))[i]? = some (some v) := hv
        rw [List.getElem?_replicate] at hv
        split at hv <;> cases hv
    · rw [e]
      intro ρ' H' v s' R' rv
      obtain ⟨a, vs, rfl, fa, rs⟩ := rv
      obtain ⟨v1, r1, e1, rb, e2⟩ := rs
      have e2' : r1 = [] := e2
      subst e2' e1
      obtain ⟨b', ws, rfl, fb, rw'⟩ := rb
      obtain ⟨w1, t1, q1, u1, w2, t2, q2, u2, w3, t3, q3, u3, q4⟩ := rw'
      have q4' : t3 = [] := q4
      have u1' : w1 = .int x := u1
      have u2' : w2 = .int y := u2
      have u3' : w3 = .int z := u3
      subst q4' q3 q2 q1 u1' u2' u3'
      exact hQ a b' x y z H' fa.1 fb.1 R'.tab
/-! ### the law -/
def spLaw (G : Gm) : Sp := fun vs H Q _ => ∃ (s0 : Addr) (ns : List Int), vs = [.ref s0] ∧ SqL G.K H s0 (ns.map V.int) ∧ LamX.Tabs G.T H ∧ ∀ H', Q (.bl true) H'
abbrev tRounds (G : Gm) (E : XK) : TE := tCall (spRounds G) [] E (tCons (tVar 0) (tCons (tC (.int 1)) tNil))
abbrev tiRounds (G : Gm) (K : PySem.W.Frag) (E : XK) : TI := fun σ H R => tRounds G E σ H fun x H1 => ∃ a, x = .ref a ∧ (((∃ xs, SqL K H1 a xs) ∧ R (Itl K a) H1) ∨ ((∃ xs, SqT K H1 a xs) ∧ R (Itt K a) H1))
theorem law_ok {x qual : Str} {params : Arguments} {body : List Stmt} {scope : Scope} {f : Addr} {fd : FuncData} {N ps : List Str} {k n : Nat} {b : SM} (hK : G.K = K) (F : FunD K x qual params body scope [] [] f fd) (S : FnScope N ps scope) (hn : N.length = n + 2) (hp : ps.length = 1)
    (hbody : ∀ (cdv : Value), fd.code = cdv → PySem.W.codeIn K cdv qual = true → ∀ (A : Around) (outer : List Env) (s : Shared) (H : Hp) (E : XK), Room k (A.deeper (envOfC qual scope s.heap.objs.size f cdv)) →
      PSs (cxOf (L2.CX P w) P w K mg base N qual scope f cdv A outer s H E) body (tSeq (tFor (tiRounds G K E) (gName 1) (rdS G E b)) (tRet (tC (.bl true)))))
    (hm : ∀ x y z : Int, ∃ sl st, b (none :: some (.loc 0) :: List.replicate n none) [.lst (diceD x y z)] = .nx sl st) :
    FnOk P w K mg base (L2.CX P w) (k + 1) f fd ps (spLaw G) := by
  obtain ⟨oc, od, dV, kV, doc, pm, an, cdv, ct, osl, rfl, lk, hcd, _, _⟩ := F.ex
  refine fn_of lk hcd S (fun vs H Q E h => ?_) fun A outer s H vs Q E hr h => ?_
  · obtain ⟨s0, ns, rfl, _⟩ := h
    rw [hp]; rfl
  · refine ⟨_, hbody cdv rfl hcd A outer s H E hr, ?_⟩
    obtain ⟨s0, ns, rfl, hs, hT, hQ⟩ := h
    refine ⟨.ref s0, rfl, s0, ns, rfl, hs, hT, fun a b' x y z H' ha hb hT' => ⟨a, rfl, .inl ⟨⟨_, SqL.of ha⟩, ?_⟩⟩⟩
    have nab : a ≠ b' := fun e => by
      rw [e, hb] at ha
      cases ha
    obtain ⟨sl, st, em⟩ := hm x y z
    refine ⟨fun i m σ H2 => (i = 0 ∧ m = 1 ∧ σ.length = n + 2 ∧ H2 = H') ∨ (i = 1 ∧ m = 0 ∧ H2 a = some (.lst [.ref b'])), ⟨1, .inl ⟨rfl, rfl, by unfold L2.start; simp [hn], rfl⟩⟩, ?_⟩
    rintro i m σ2 H2 (⟨rfl, rfl, hl, rfl⟩ | ⟨rfl, rfl, h2⟩)
    · right
      refine ⟨⟨[.ref b'], .ref b', SqL.of ha, rfl⟩, fun _ H3 => H3 a = some (.lst [.ref b']), fun σ' H3 h3 => ⟨0, Nat.lt_succ_self 0, .inr ⟨rfl, rfl, h3⟩⟩, fun v H3 hy => ?_⟩
      obtain ⟨rfl, hall⟩ := hy
      have ev : some (V.ref b') = some v := hall _ (SqL.of ha)
      cases ev
      show rdS G E b _ (σ2.set 1 (some (.ref b'))) H3
      refine ⟨fun _ => False, [b'], none :: some (.loc 0) :: List.replicate n none, [.lst (diceD x y z)], ⟨?_, fun i v hv => ?_⟩, ⟨rfl, by simp, (fun _ _ z => z), (fun a ha => False.elim ha), fun l a o e1 e2 => ?_, hT'⟩, ?_⟩
      · rw [List.length_set, hl]
        simp
      · match i, hv with
        | 0, hv => cases hv
        | 1, hv =>
          have hv : some (some (X.loc 0)) = some (some v) := hv
          cases hv
          exact ⟨.ref b', by rw [List.getElem?_set_self (by omega)], b', rfl, rfl⟩
        | i + 2, hv =>
          have hv : (List.replicate n (none : Option X))[i]? = some (some v) := hv
          rw [List.getElem?_replicate] at hv
          split at hv <;> cases hv
      · match l, e1, e2 with
        | 0, e1, e2 =>
          cases e1
          cases e2
          exact ⟨_, hb, rel_ints [x, y, z]⟩
        | l + 1, e1, e2 => cases e2
      · rw [em]
        intro ρ' H4 σ' s' R' sk'
        exact s'.keep a _ ha (fun ps z => by cases z) (by simpa using nab)
    · left
      exact ⟨⟨_, SqL.of h2, Nat.le_refl _⟩, hQ H2⟩
end
end DH
namespace DH
open PySem PySem.Spec PyProof.Rows L2
section
variable {X : Cx} {G : Gm} {E : XK} {pos : Pos}
/-! ### a, b, .. = (e, f, ..) -/
def gNames : List Nat → TGs
  | [] => gNil
  | i :: r => gCons (gName i) (gNames r)
def setAll : List Nat → List DH.X → Slots → Option Slots
  | [], [], sl => some sl
  | i :: r, x :: xs, sl => setAll r xs (sl.set i (some x))
  | _, _, _ => none
def sTupN (is : List Nat) (m : EM (List DH.X)) : SM := fun sl st => (m sl st).s fun xs st1 => match small xs.length with
  | true => (match setAll is xs sl with
    | some sl' => .nx sl' st1
    | none => .bad)
  | false => .bad
theorem setAll_len : ∀ {is : List Nat} {xs : List DH.X} {sl sl' : Slots}, setAll is xs sl = some sl' → xs.length = is.length
  | [], [], _, _, _ => rfl
  | [], _ :: _, _, _, h => by cases h
  | _ :: _, [], _, _, h => by cases h
  | i :: is, x :: xs, sl, sl', h => by
    have h' : setAll is xs (sl.set i (some x)) = some sl' := h
    rw [List.length_cons, List.length_cons, setAll_len h']
theorem names_ok {F : Addr → Prop} {ρ : List Addr} {H : Hp} {Q : L2.St → Hp → Prop} : ∀ {is : List Nat} {xs : List DH.X} {vs : List V} {sl sl' : Slots} {σ : L2.St}, RelXs G F ρ H xs vs → setAll is xs sl = some sl' → SlOk G F ρ H sl σ → (∀ σ', SlOk G F ρ H sl' σ' → Q σ' H) → gNames is vs σ H Q
  | [], [], vs, sl, sl', σ, r, h, sk, k => by
    have e : sl = sl' := Option.some.inj h
    subst e
    exact ⟨r, k σ sk⟩
  | [], _ :: _, _, _, _, _, _, h, _, _ => by cases h
  | _ :: _, [], _, _, _, _, _, h, _, _ => by cases h
  | i :: is, x :: xs, vs, sl, sl', σ, r, h, sk, k => by
    obtain ⟨v, t, e, r1, r2⟩ := r
    exact ⟨v, t, e, names_ok r2 (show setAll is xs (sl.set i (some x)) = some sl' from h) (sk.set i r1) k⟩
theorem q_tupN {ts es : List Expr} {is : List Nat} {k k2 : Nat} {p p2 : Pos} {m : EM (List DH.X)} (hK : G.K = X.K) (hc : X.calm = true) (ha : PA X es (rdA G E m)) (hg : PGs X ts (gNames is)) (hn : (assignEach ts X.env).length = is.length) (hst : (assignEach ts X.env).findIdx? (·.1) = none)
    (hs : swapsWithSole [.Tuple ts k p] (.Tuple es k2 p2) pos.line X.env = pure false) (hw : swappedStores [.Tuple ts k p] (.Tuple es k2 p2) X.env = pure none) (h1 : (assignEach [.Tuple ts k p] X.env).map (·.2) = [assign (.Tuple ts k p) X.env]) :
    PS X (.Assign [.Tuple ts k p] (.Tuple es k2 p2) pos) (rdS G E (sTupN is m)) := by
  refine PS.imp (ps_asg (pe_tup ha) (pg_tup hc hg hn hst) hs hw h1) fun D σ H h => ?_
  obtain ⟨F, ρ, sl, st, sk, R, h⟩ := h
  refine ⟨F, ρ, sl, st, sk, R, PostG.mono (PostS.part (R := rXs G) h) fun vs H1 h1 => ?_⟩
  obtain ⟨xs, st1, ρ1, s1, R1, r1, h1⟩ := h1
  have h1 : PostS G E F ρ1 H1 (match small xs.length with | true => (match setAll is xs sl with | some sl' => .nx sl' st1 | none => .bad) | false => .bad) D := h1
  cases z : small xs.length with
  | false => rw [z] at h1; exact h1.elim
  | true =>
    rw [z] at h1
    simp only at h1
    cases q : setAll is xs sl with
    | none => rw [q] at h1; exact h1.elim
    | some sl' =>
      rw [q] at h1
      have hl := r1.length
      refine ⟨by rw [hl]; exact small_ok z, fun p0 hp => ?_⟩
      have s2 : Stp ρ1 H1 ρ1 (upd H1 p0 (.tup vs)) := stp_new hp
      refine ⟨p0, vs, rfl, .inl (.inl upd_same), by rw [hl]; exact setAll_len q, names_ok (r1.mono s2) q ((sk.mono s1).mono s2) fun σ' sk' => ?_⟩
      exact h1 ρ1 _ σ' s2 (R1.new hp) sk'
/-! ### constants of the module -/
theorem q_gint {x : Str} {i : Int} (hg : Gl X x) (hm : ∃ t, X.mg x = some (.int i t)) (hd : (x == ("__debug__" : Str)) = false) : PE X (.Name x pos) (rdE G E (eC (.int i))) := by
  obtain ⟨t, hm⟩ := hm
  exact q_c (v := .int i) (pe_glob hg hm ⟨t, rfl⟩ hd) fun _ _ => rfl
/-! ### str(i) -/
def digs (n : Nat) : Option (List Nat) := match Nat.blt n 10 with
  | true => some [48 + n]
  | false => (match Nat.blt n 100 with
    | true => some [48 + n / 10, 48 + n % 10]
    | false => none)
def gStr : D → Store → O DH.X
  | .int (.ofNat n), st => (match digs n with
    | some cs => .ok (.d (.str cs)) st
    | none => .bad)
  | _, _ => .bad
theorem digs_lt {n : Nat} {cs : List Nat} (h : digs n = some cs) : n < 100 := by
  unfold digs at h
  cases q : Nat.blt n 10 with
  | true =>
    have := Nat.le_of_ble_eq_true q
    omega
  | false =>
    rw [q] at h
    simp only at h
    cases q2 : Nat.blt n 100 with
    | true => exact Nat.le_of_ble_eq_true q2
    | false => rw [q2] at h; cases h
def strB (n : Nat) : Bool := match digs n with
  | some cs => decide ((toString (Int.ofNat n) : Str) = strOf cs)
  | none => false
theorem strB_all : ∀ n, n < 100 → strB n = true := by decide +kernel
theorem digs_ok {n : Nat} {cs : List Nat} (h : digs n = some cs) : (toString (Int.ofNat n) : Str) = strOf cs := by
  have := strB_all n (digs_lt h)
  unfold strB at this
  rw [h] at this
  exact of_decide_eq_true this
abbrev rStrI : List V → Hp → VK → Prop := fun xs H Q => ∃ i, xs = [V.int i] ∧ i.natAbs.log2 < 1920 ∧ Q (.str (toString i)) H
theorem str_v : CallV G rStrI (f1 gStr) := cal1 fun E F ρ H st a v Q R ra h => by
  cases a with
  | int i =>
    cases i with
    | negSucc n => exact h.elim
    | ofNat n =>
      unfold gStr at h
      cases z : digs n with
      | none => simp only [z] at h; exact h.elim
      | some cs =>
        simp only [z] at h
        have e : v = .int (Int.ofNat n) := ra
        subst e
        refine ⟨Int.ofNat n, rfl, ?_, ?_⟩
        · have h1 := digs_lt z
          have h2 : (Int.ofNat n).natAbs = n := rfl
          rw [h2]
          by_cases h0 : n = 0
          · rw [h0]; decide
          · have : n.log2 < 7 := (Nat.log2_lt h0).mpr (by omega)
            omega
        · rw [digs_ok z]
          exact now1 R h rfl
  | _ => exact h.elim
end
end DH
namespace DH
open PySem PySem.Spec PyProof.Rows L2
section
variable {X : Cx} {G : Gm} {E : XK}
def cYes : EM Bool := fun _ st => .ok true st
theorem q_yes : PTs X [] (rdT G E cYes) := ⟨fun pins s σ H Q I h => by
  obtain ⟨F, ρ, sl, st, sk, R, h⟩ := h
  exact pts_nil.run pins s σ H Q I (PostG.now (R := rB) h R rfl)⟩
theorem q_test1 {c : Expr} {t : EM Bool} (h : PT X c (rdT G E t)) : PTs X [c] (rdT G E t) := pts_one h
def gAddI : D → D → Store → O DH.X
  | .int i, .int j, st => .ok (.d (.int (i + j))) st
  | _, _, _ => .bad
theorem addI_v : OpV G (ipI fun i j => i + j) (f2 gAddI) := op2 fun E F ρ H st a b v w Q R ra rb h => by
  cases a with
  | int i =>
    cases b with
    | int j => exact ⟨i, j, ra, rb, now1 R h rfl⟩
    | _ => exact h.elim
  | _ => exact h.elim
end
end DH
namespace DH
open PySem PySem.Spec PyProof.Rows L2
/-! ### parts of a suite -/
def seqAll : List SM → SM
  | [] => sNx
  | m :: r => sSeq m (seqAll r)
def sSeqs : List SM → SM → SM
  | [], k => k
  | m :: r, k => sSeq m (sSeqs r k)
theorem sSeqs_nx {k : SM} : ∀ {ss : List SM} {sl sl' : Slots} {st st' : Store}, seqAll ss sl st = .nx sl' st' → sSeqs ss k sl st = k sl' st'
  | [], sl, sl', st, st', h => by
    have h' : SO.nx sl st = .nx sl' st' := h
    cases h'
    rfl
  | m :: r, sl, sl', st, st', h => by
    have h' : (match m sl st with | .nx a b => seqAll r a b | o => o) = .nx sl' st' := h
    show (match m sl st with | .nx a b => sSeqs r k a b | o => o) = k sl' st'
    cases q : m sl st with
    | nx a b =>
      rw [q] at h'
      exact sSeqs_nx h'
    | rt x b => rw [q] at h'; cases h'
    | bk a b => rw [q] at h'; cases h'
    | ct a b => rw [q] at h'; cases h'
    | exn x y b => rw [q] at h'; cases h'
    | bad => rw [q] at h'; cases h'
theorem sSeq_nx {m k : SM} {sl sl' : Slots} {st st' : Store} (h : m sl st = .nx sl' st') : sSeq m k sl st = k sl' st' := by
  unfold sSeq
  rw [h]
theorem sSet_ok {i : Nat} {m : EM DH.X} {sl : Slots} {st st' : Store} {x : DH.X} (h : m sl st = .ok x st') : sSet i m sl st = .nx (sl.set i (some x)) st' := by
  unfold sSet
  rw [h]
  rfl
theorem sTupN_ok {is : List Nat} {m : EM (List DH.X)} {sl sl' : Slots} {st st' : Store} {xs : List DH.X} (h : m sl st = .ok xs st') (hz : small xs.length = true) (h2 : setAll is xs sl = some sl') : sTupN is m sl st = .nx sl' st' := by
  unfold sTupN
  rw [h]
  show (match small xs.length with | true => (match setAll is xs sl with | some sl' => SO.nx sl' st' | none => .bad) | false => .bad) = _
  rw [hz, h2]
theorem aCons_ok {m : EM DH.X} {r : EM (List DH.X)} {sl : Slots} {st st1 st2 : Store} {x : DH.X} {xs : List DH.X} (h : m sl st = .ok x st1) (h2 : r sl st1 = .ok xs st2) : aCons m r sl st = .ok (x :: xs) st2 := by
  unfold aCons
  rw [h]
  show (r sl st1).bind _ = _
  rw [h2]
  rfl
theorem eBin_ok {f : DH.X → DH.X → Store → O DH.X} {a b : EM DH.X} {sl : Slots} {st st1 st2 : Store} {x y : DH.X} {o : O DH.X} (h : a sl st = .ok x st1) (h2 : b sl st1 = .ok y st2) (h3 : f x y st2 = o) : eBin f a b sl st = o := by
  unfold eBin
  rw [h]
  show (b sl st1).bind _ = _
  rw [h2]
  exact h3
theorem eApp_ok {f : List DH.X → Store → O DH.X} {m : EM (List DH.X)} {sl : Slots} {st st1 : Store} {xs : List DH.X} {o : O DH.X} (h : m sl st = .ok xs st1) (h2 : f xs st1 = o) : eApp f m sl st = o := by
  unfold eApp
  rw [h]
  exact h2
/-- the dice first, n things behind it, these slots kept -/
def eqSl : Slots → Slots → Bool
  | [], [] => true
  | none :: a, none :: b => eqSl a b
  | some (.d (.int i)) :: a, some (.d (.int j)) :: b => (match eqI i j with
    | true => eqSl a b
    | false => false)
  | some (.loc i) :: a, some (.loc j) :: b => (match Nat.beq i j with
    | true => eqSl a b
    | false => false)
  | _, _ => false
theorem eqI_true {i j : Int} (h : eqI i j = true) : i = j := by
  rw [eqI_eq] at h
  exact eq_of_beq h
theorem eqSl_eq : ∀ {a b : Slots}, eqSl a b = true → a = b
  | [], [], _ => rfl
  | [], _ :: _, h => by cases h
  | none :: _, [], h => by cases h
  | some (.d (.int _)) :: _, [], h => by cases h
  | some (.loc _) :: _, [], h => by cases h
  | none :: a, none :: b, h => by rw [eqSl_eq (show eqSl a b = true from h)]
  | some (.d (.int i)) :: a, some (.d (.int j)) :: b, h => by
    have h' : (match eqI i j with | true => eqSl a b | false => false) = true := h
    cases q : eqI i j with
    | false => rw [q] at h'; cases h'
    | true =>
      rw [q] at h'
      rw [eqI_true q, eqSl_eq h']
  | some (.loc i) :: a, some (.loc j) :: b, h => by
    have h' : (match Nat.beq i j with | true => eqSl a b | false => false) = true := h
    cases q : Nat.beq i j with
    | false => rw [q] at h'; cases h'
    | true =>
      rw [q] at h'
      rw [Nat.eq_of_beq_eq_true q, eqSl_eq h']
  | none :: _, some _ :: _, h => by cases h
  | some (.d (.int _)) :: _, none :: _, h => by cases h
  | some (.loc _) :: _, none :: _, h => by cases h
  | some (.loc _) :: _, some (.d _) :: _, h => by cases h
  | some (.d (.int _)) :: _, some (.loc _) :: _, h => by cases h
  | some (.d (.int _)) :: _, some (.d .non) :: _, h => by cases h
  | some (.d (.int _)) :: _, some (.d (.bl _)) :: _, h => by cases h
  | some (.d (.int _)) :: _, some (.d (.str _)) :: _, h => by cases h
  | some (.d (.int _)) :: _, some (.d (.tup _ _)) :: _, h => by cases h
  | some (.d (.int _)) :: _, some (.d (.lst _)) :: _, h => by cases h
  | some (.d (.int _)) :: _, some (.d (.dct _ _)) :: _, h => by cases h
  | some (.d (.int _)) :: _, some (.d (.obj _ _)) :: _, h => by cases h
  | some (.d .non) :: _, b, h => by cases b <;> cases h
  | some (.d (.bl _)) :: _, b, h => by cases b <;> cases h
  | some (.d (.str _)) :: _, b, h => by cases b <;> cases h
  | some (.d (.tup _ _)) :: _, b, h => by cases b <;> cases h
  | some (.d (.lst _)) :: _, b, h => by cases b <;> cases h
  | some (.d (.dct _ _)) :: _, b, h => by cases b <;> cases h
  | some (.d (.obj _ _)) :: _, b, h => by cases b <;> cases h
def okSeg (n : Nat) (ks : List Nat) (sl0 : Slots) (o : SO) : Bool := match o with
  | .nx sl (.lst [.int _, .int _, .int _] :: tl) => (match Nat.beq tl.length n with
    | true => eqSl (keepO ks 0 sl) sl0
    | false => false)
  | _ => false
theorem okSeg_ok {n : Nat} {ks : List Nat} {sl0 : Slots} {o : SO} (h : okSeg n ks sl0 o = true) : ∃ sl a b c tl, o = .nx sl (.lst (diceD a b c) :: tl) ∧ tl.length = n ∧ keepO ks 0 sl = sl0 := by
  unfold okSeg at h
  split at h
  · rename_i sl a b c tl
    cases q : Nat.beq tl.length n with
    | false => rw [q] at h; cases h
    | true =>
      rw [q] at h
      exact ⟨sl, a, b, c, tl, rfl, Nat.eq_of_beq_eq_true q, eqSl_eq h⟩
  · cases h
/-- all is well to the end -/
def okNx (o : SO) : Bool := match o with
  | .nx _ _ => true
  | _ => false
theorem okNx_ok {o : SO} (h : okNx o = true) : ∃ sl st, o = .nx sl st := by
  unfold okNx at h
  split at h
  · exact ⟨_, _, rfl⟩
  · cases h
/-- True is handed back, the dice stand first -/
def okRt (n : Nat) (o : SO) : Bool := match o with
  | .rt (.d (.bl true)) (.lst [.int _, .int _, .int _] :: tl) => Nat.ble n tl.length
  | _ => false
theorem okRt_ok {n : Nat} {o : SO} (h : okRt n o = true) : ∃ a b c tl, o = .rt (.d (.bl true)) (.lst (diceD a b c) :: tl) ∧ n ≤ tl.length := by
  unfold okRt at h
  split at h
  · exact ⟨_, _, _, _, rfl, Nat.le_of_ble_eq_true h⟩
  · cases h
def upN : Nat → Nat → List Nat
  | _, 0 => []
  | i, n + 1 => i :: upN (i + 1) n
theorem upN_mem : ∀ (n i k : Nat), i ≤ k → k < i + n → k ∈ upN i n
  | 0, i, k, h1, h2 => by omega
  | n + 1, i, k, h1, h2 => by
    unfold upN
    by_cases h : k = i
    · rw [h]; exact List.mem_cons_self ..
    · exact List.mem_cons_of_mem _ (upN_mem n (i + 1) k (by omega) (by omega))
theorem int_nat {r : Int} (h : 0 ≤ r) : ∃ n : Nat, r = Int.ofNat n ∧ ((n : Nat) : Int) = r := ⟨r.toNat, (Int.toNat_of_nonneg h).symm, Int.toNat_of_nonneg h⟩
end DH
namespace DHk06
open PySem PySem.Spec PyProof.Rows L2 DH
def top (i : Nat) : Stmt := PySem.Challenge.pw_dancehall_k06_rings.main.body.getD i (.Pass ⟨0, 0, 0, 0⟩)
abbrev s_law_told : Stmt := top 37
abbrev s_check_ring : Stmt := top 14
abbrev s_partner : Stmt := top 15
abbrev s_square_words : Stmt := top 27
abbrev s_law_cases1 : Stmt := top 38
abbrev s_law_roll : Stmt := top 35
abbrev s_across : Stmt := top 29
abbrev s_chain_spots : Stmt := top 23
abbrev s_corner : Stmt := top 30
abbrev s_corner_dances : Stmt := top 31
abbrev s_facing_pairs : Stmt := top 24
abbrev s_hand_given : Stmt := top 26
abbrev s_hands : Stmt := top 22
abbrev s_hands_home : Stmt := top 25
abbrev s_meets_in_rings : Stmt := top 32
abbrev s_promenade : Stmt := top 28
abbrev s_law_rest1 : Stmt := top 39
abbrev s_law_dice : Stmt := top 34
abbrev s_law_rounds : Stmt := top 36
abbrev s_greatest_part : Stmt := top 11
abbrev s_home_in : Stmt := top 16
abbrev s_partners_of : Stmt := top 17
abbrev s_all_partners : Stmt := top 18
abbrev s_first_with : Stmt := top 21
abbrev s_good_steps : Stmt := top 19
abbrev s_mixed_after : Stmt := top 20
abbrev s_law : Stmt := top 40
theorem nd_BadBook : (("BadBook" : Str) == ("__debug__" : Str)) = false := by decide
theorem nc_BadBook : (("BadBook" : Str) == ("__classdict__" : Str)) = false := by decide
theorem nd_BadFigure : (("BadFigure" : Str) == ("__debug__" : Str)) = false := by decide
theorem nc_BadFigure : (("BadFigure" : Str) == ("__classdict__" : Str)) = false := by decide
theorem nd_BadPlace : (("BadPlace" : Str) == ("__debug__" : Str)) = false := by decide
theorem nc_BadPlace : (("BadPlace" : Str) == ("__classdict__" : Str)) = false := by decide
theorem nd_BadText : (("BadText" : Str) == ("__debug__" : Str)) = false := by decide
theorem nc_BadText : (("BadText" : Str) == ("__classdict__" : Str)) = false := by decide
theorem nd_BadTune : (("BadTune" : Str) == ("__debug__" : Str)) = false := by decide
theorem nc_BadTune : (("BadTune" : Str) == ("__classdict__" : Str)) = false := by decide
theorem nd_Bump : (("Bump" : Str) == ("__debug__" : Str)) = false := by decide
theorem nc_Bump : (("Bump" : Str) == ("__classdict__" : Str)) = false := by decide
theorem nd_GREATEST : (("GREATEST" : Str) == ("__debug__" : Str)) = false := by decide
theorem nc_GREATEST : (("GREATEST" : Str) == ("__classdict__" : Str)) = false := by decide
theorem nd_NoWay : (("NoWay" : Str) == ("__debug__" : Str)) = false := by decide
theorem nc_NoWay : (("NoWay" : Str) == ("__classdict__" : Str)) = false := by decide
theorem nd_TooLarge : (("TooLarge" : Str) == ("__debug__" : Str)) = false := by decide
theorem nc_TooLarge : (("TooLarge" : Str) == ("__classdict__" : Str)) = false := by decide
theorem nd_law_cases1_u : (("_law_cases1" : Str) == ("__debug__" : Str)) = false := by decide
theorem nc_law_cases1_u : (("_law_cases1" : Str) == ("__classdict__" : Str)) = false := by decide
theorem nd_law_dice_u : (("_law_dice" : Str) == ("__debug__" : Str)) = false := by decide
theorem nc_law_dice_u : (("_law_dice" : Str) == ("__classdict__" : Str)) = false := by decide
theorem nd_law_rest1_u : (("_law_rest1" : Str) == ("__debug__" : Str)) = false := by decide
theorem nc_law_rest1_u : (("_law_rest1" : Str) == ("__classdict__" : Str)) = false := by decide
theorem nd_law_roll_u : (("_law_roll" : Str) == ("__debug__" : Str)) = false := by decide
theorem nc_law_roll_u : (("_law_roll" : Str) == ("__classdict__" : Str)) = false := by decide
theorem nd_law_rounds_u : (("_law_rounds" : Str) == ("__debug__" : Str)) = false := by decide
theorem nc_law_rounds_u : (("_law_rounds" : Str) == ("__classdict__" : Str)) = false := by decide
theorem nd_law_told_u : (("_law_told" : Str) == ("__debug__" : Str)) = false := by decide
theorem nc_law_told_u : (("_law_told" : Str) == ("__classdict__" : Str)) = false := by decide
theorem nd_a : (("a" : Str) == ("__debug__" : Str)) = false := by decide
theorem nc_a : (("a" : Str) == ("__classdict__" : Str)) = false := by decide
theorem nd_abs : (("abs" : Str) == ("__debug__" : Str)) = false := by decide
theorem nc_abs : (("abs" : Str) == ("__classdict__" : Str)) = false := by decide
theorem nd_across : (("across" : Str) == ("__debug__" : Str)) = false := by decide
theorem nc_across : (("across" : Str) == ("__classdict__" : Str)) = false := by decide
theorem nd_again : (("again" : Str) == ("__debug__" : Str)) = false := by decide
theorem nc_again : (("again" : Str) == ("__classdict__" : Str)) = false := by decide
theorem nd_all_partners : (("all_partners" : Str) == ("__debug__" : Str)) = false := by decide
theorem nc_all_partners : (("all_partners" : Str) == ("__classdict__" : Str)) = false := by decide
theorem nd_b : (("b" : Str) == ("__debug__" : Str)) = false := by decide
theorem nc_b : (("b" : Str) == ("__classdict__" : Str)) = false := by decide
theorem nd_cell : (("cell" : Str) == ("__debug__" : Str)) = false := by decide
theorem nc_cell : (("cell" : Str) == ("__classdict__" : Str)) = false := by decide
theorem nd_cells : (("cells" : Str) == ("__debug__" : Str)) = false := by decide
theorem nc_cells : (("cells" : Str) == ("__classdict__" : Str)) = false := by decide
theorem nd_chain_spots : (("chain_spots" : Str) == ("__debug__" : Str)) = false := by decide
theorem nc_chain_spots : (("chain_spots" : Str) == ("__classdict__" : Str)) = false := by decide
theorem nd_check_ring : (("check_ring" : Str) == ("__debug__" : Str)) = false := by decide
theorem nc_check_ring : (("check_ring" : Str) == ("__classdict__" : Str)) = false := by decide
theorem nd_corner : (("corner" : Str) == ("__debug__" : Str)) = false := by decide
theorem nc_corner : (("corner" : Str) == ("__classdict__" : Str)) = false := by decide
theorem nd_corner_dances : (("corner_dances" : Str) == ("__debug__" : Str)) = false := by decide
theorem nc_corner_dances : (("corner_dances" : Str) == ("__classdict__" : Str)) = false := by decide
theorem nd_couple : (("couple" : Str) == ("__debug__" : Str)) = false := by decide
theorem nc_couple : (("couple" : Str) == ("__classdict__" : Str)) = false := by decide
theorem nd_couples : (("couples" : Str) == ("__debug__" : Str)) = false := by decide
theorem nc_couples : (("couples" : Str) == ("__classdict__" : Str)) = false := by decide
theorem nd_dice : (("dice" : Str) == ("__debug__" : Str)) = false := by decide
theorem nc_dice : (("dice" : Str) == ("__classdict__" : Str)) = false := by decide
theorem nd_due : (("due" : Str) == ("__debug__" : Str)) = false := by decide
theorem nc_due : (("due" : Str) == ("__classdict__" : Str)) = false := by decide
theorem nd_facing_pairs : (("facing_pairs" : Str) == ("__debug__" : Str)) = false := by decide
theorem nc_facing_pairs : (("facing_pairs" : Str) == ("__classdict__" : Str)) = false := by decide
theorem nd_first_with : (("first_with" : Str) == ("__debug__" : Str)) = false := by decide
theorem nc_first_with : (("first_with" : Str) == ("__classdict__" : Str)) = false := by decide
theorem nd_firsts : (("firsts" : Str) == ("__debug__" : Str)) = false := by decide
theorem nc_firsts : (("firsts" : Str) == ("__classdict__" : Str)) = false := by decide
theorem nd_found : (("found" : Str) == ("__debug__" : Str)) = false := by decide
theorem nc_found : (("found" : Str) == ("__classdict__" : Str)) = false := by decide
theorem nd_good : (("good" : Str) == ("__debug__" : Str)) = false := by decide
theorem nc_good : (("good" : Str) == ("__classdict__" : Str)) = false := by decide
theorem nd_good_steps : (("good_steps" : Str) == ("__debug__" : Str)) = false := by decide
theorem nc_good_steps : (("good_steps" : Str) == ("__classdict__" : Str)) = false := by decide
theorem nd_greatest_part : (("greatest_part" : Str) == ("__debug__" : Str)) = false := by decide
theorem nc_greatest_part : (("greatest_part" : Str) == ("__classdict__" : Str)) = false := by decide
theorem nd_hand_given : (("hand_given" : Str) == ("__debug__" : Str)) = false := by decide
theorem nc_hand_given : (("hand_given" : Str) == ("__classdict__" : Str)) = false := by decide
theorem nd_hands : (("hands" : Str) == ("__debug__" : Str)) = false := by decide
theorem nc_hands : (("hands" : Str) == ("__classdict__" : Str)) = false := by decide
theorem nd_hands_home : (("hands_home" : Str) == ("__debug__" : Str)) = false := by decide
theorem nc_hands_home : (("hands_home" : Str) == ("__classdict__" : Str)) = false := by decide
theorem nd_home : (("home" : Str) == ("__debug__" : Str)) = false := by decide
theorem nc_home : (("home" : Str) == ("__classdict__" : Str)) = false := by decide
theorem nd_home_in : (("home_in" : Str) == ("__debug__" : Str)) = false := by decide
theorem nc_home_in : (("home_in" : Str) == ("__classdict__" : Str)) = false := by decide
theorem nd_inner : (("inner" : Str) == ("__debug__" : Str)) = false := by decide
theorem nc_inner : (("inner" : Str) == ("__classdict__" : Str)) = false := by decide
theorem nd_int : (("int" : Str) == ("__debug__" : Str)) = false := by decide
theorem nc_int : (("int" : Str) == ("__classdict__" : Str)) = false := by decide
theorem nd_j : (("j" : Str) == ("__debug__" : Str)) = false := by decide
theorem nc_j : (("j" : Str) == ("__classdict__" : Str)) = false := by decide
theorem nd_k : (("k" : Str) == ("__debug__" : Str)) = false := by decide
theorem nc_k : (("k" : Str) == ("__classdict__" : Str)) = false := by decide
theorem nd_kind : (("kind" : Str) == ("__debug__" : Str)) = false := by decide
theorem nc_kind : (("kind" : Str) == ("__classdict__" : Str)) = false := by decide
theorem nd_lark : (("lark" : Str) == ("__debug__" : Str)) = false := by decide
theorem nc_lark : (("lark" : Str) == ("__classdict__" : Str)) = false := by decide
theorem nd_law : (("law" : Str) == ("__debug__" : Str)) = false := by decide
theorem nc_law : (("law" : Str) == ("__classdict__" : Str)) = false := by decide
theorem nd_len : (("len" : Str) == ("__debug__" : Str)) = false := by decide
theorem nc_len : (("len" : Str) == ("__classdict__" : Str)) = false := by decide
theorem nd_list : (("list" : Str) == ("__debug__" : Str)) = false := by decide
theorem nc_list : (("list" : Str) == ("__classdict__" : Str)) = false := by decide
theorem nd_many : (("many" : Str) == ("__debug__" : Str)) = false := by decide
theorem nc_many : (("many" : Str) == ("__classdict__" : Str)) = false := by decide
theorem nd_meets_in_rings : (("meets_in_rings" : Str) == ("__debug__" : Str)) = false := by decide
theorem nc_meets_in_rings : (("meets_in_rings" : Str) == ("__classdict__" : Str)) = false := by decide
theorem nd_mixed_after : (("mixed_after" : Str) == ("__debug__" : Str)) = false := by decide
theorem nc_mixed_after : (("mixed_after" : Str) == ("__classdict__" : Str)) = false := by decide
theorem nd_most : (("most" : Str) == ("__debug__" : Str)) = false := by decide
theorem nc_most : (("most" : Str) == ("__classdict__" : Str)) = false := by decide
theorem nd_number : (("number" : Str) == ("__debug__" : Str)) = false := by decide
theorem nc_number : (("number" : Str) == ("__classdict__" : Str)) = false := by decide
theorem nd_one : (("one" : Str) == ("__debug__" : Str)) = false := by decide
theorem nc_one : (("one" : Str) == ("__classdict__" : Str)) = false := by decide
theorem nd_outer : (("outer" : Str) == ("__debug__" : Str)) = false := by decide
theorem nc_outer : (("outer" : Str) == ("__classdict__" : Str)) = false := by decide
theorem nd_pair : (("pair" : Str) == ("__debug__" : Str)) = false := by decide
theorem nc_pair : (("pair" : Str) == ("__classdict__" : Str)) = false := by decide
theorem nd_partner : (("partner" : Str) == ("__debug__" : Str)) = false := by decide
theorem nc_partner : (("partner" : Str) == ("__classdict__" : Str)) = false := by decide
theorem nd_partners_of : (("partners_of" : Str) == ("__debug__" : Str)) = false := by decide
theorem nc_partners_of : (("partners_of" : Str) == ("__classdict__" : Str)) = false := by decide
theorem nd_place : (("place" : Str) == ("__debug__" : Str)) = false := by decide
theorem nc_place : (("place" : Str) == ("__classdict__" : Str)) = false := by decide
theorem nd_promenade : (("promenade" : Str) == ("__debug__" : Str)) = false := by decide
theorem nc_promenade : (("promenade" : Str) == ("__classdict__" : Str)) = false := by decide
theorem nd_robin : (("robin" : Str) == ("__debug__" : Str)) = false := by decide
theorem nc_robin : (("robin" : Str) == ("__classdict__" : Str)) = false := by decide
theorem nd_row : (("row" : Str) == ("__debug__" : Str)) = false := by decide
theorem nc_row : (("row" : Str) == ("__classdict__" : Str)) = false := by decide
theorem nd_rows : (("rows" : Str) == ("__debug__" : Str)) = false := by decide
theorem nc_rows : (("rows" : Str) == ("__classdict__" : Str)) = false := by decide
theorem nd_script : (("script" : Str) == ("__debug__" : Str)) = false := by decide
theorem nc_script : (("script" : Str) == ("__classdict__" : Str)) = false := by decide
theorem nd_seen : (("seen" : Str) == ("__debug__" : Str)) = false := by decide
theorem nc_seen : (("seen" : Str) == ("__classdict__" : Str)) = false := by decide
theorem nd_sorted : (("sorted" : Str) == ("__debug__" : Str)) = false := by decide
theorem nc_sorted : (("sorted" : Str) == ("__classdict__" : Str)) = false := by decide
theorem nd_spots : (("spots" : Str) == ("__debug__" : Str)) = false := by decide
theorem nc_spots : (("spots" : Str) == ("__classdict__" : Str)) = false := by decide
theorem nd_square_words : (("square_words" : Str) == ("__debug__" : Str)) = false := by decide
theorem nc_square_words : (("square_words" : Str) == ("__classdict__" : Str)) = false := by decide
theorem nd_steps : (("steps" : Str) == ("__debug__" : Str)) = false := by decide
theorem nc_steps : (("steps" : Str) == ("__classdict__" : Str)) = false := by decide
theorem nd_str : (("str" : Str) == ("__debug__" : Str)) = false := by decide
theorem nc_str : (("str" : Str) == ("__classdict__" : Str)) = false := by decide
theorem nd_sum : (("sum" : Str) == ("__debug__" : Str)) = false := by decide
theorem nc_sum : (("sum" : Str) == ("__classdict__" : Str)) = false := by decide
theorem nd_times : (("times" : Str) == ("__debug__" : Str)) = false := by decide
theorem nc_times : (("times" : Str) == ("__classdict__" : Str)) = false := by decide
theorem nd_tuple : (("tuple" : Str) == ("__debug__" : Str)) = false := by decide
theorem nc_tuple : (("tuple" : Str) == ("__classdict__" : Str)) = false := by decide
theorem nd_turn : (("turn" : Str) == ("__debug__" : Str)) = false := by decide
theorem nc_turn : (("turn" : Str) == ("__classdict__" : Str)) = false := by decide
theorem nd_turns : (("turns" : Str) == ("__debug__" : Str)) = false := by decide
theorem nc_turns : (("turns" : Str) == ("__classdict__" : Str)) = false := by decide
theorem nd_walk : (("walk" : Str) == ("__debug__" : Str)) = false := by decide
theorem nc_walk : (("walk" : Str) == ("__classdict__" : Str)) = false := by decide
theorem nd_what : (("what" : Str) == ("__debug__" : Str)) = false := by decide
theorem nc_what : (("what" : Str) == ("__classdict__" : Str)) = false := by decide
theorem nd_whole : (("whole" : Str) == ("__debug__" : Str)) = false := by decide
theorem nc_whole : (("whole" : Str) == ("__classdict__" : Str)) = false := by decide
def fa : List He.Fa := [.int "GREATEST" 60, .exc "BadPlace", .glo "BadPlace", .glo "check_ring", .free "str", .glo "square_words", .glo "_law_told", .glo "partner", .free "int", .free "range", .free "tuple", .glo "chain_spots", .free "enumerate", .free "len", .free "sorted", .glo "facing_pairs", .glo "meets_in_rings", .free "list", .glo "_law_cases1", .glo "corner", .glo "_law_roll", .glo "hands_home", .glo "hands", .glo "hand_given", .glo "promenade", .glo "across", .glo "corner_dances", .free "abs", .glo "_law_dice", .glo "greatest_part", .glo "home_in", .glo "partners_of", .exc "NoWay", .glo "NoWay", .glo "all_partners", .free "sum", .glo "_law_rest1", .glo "first_with", .glo "mixed_after", .glo "good_steps", .glo "BadBook", .glo "BadFigure", .glo "BadTune", .glo "Bump", .glo "TooLarge", .glo "BadText", .glo "_law_rounds", .glo "law"]
def d_law_told : He.DefD := ⟨("_law_told", none), "_law_told", "_law_told", defArgs s_law_told, defBody s_law_told, defScope s_law_told, [], []⟩
def d_check_ring : He.DefD := ⟨("check_ring", none), "check_ring", "check_ring", defArgs s_check_ring, defBody s_check_ring, defScope s_check_ring, [], []⟩
def d_partner : He.DefD := ⟨("partner", none), "partner", "partner", defArgs s_partner, defBody s_partner, defScope s_partner, [], []⟩
def d_square_words : He.DefD := ⟨("square_words", none), "square_words", "square_words", defArgs s_square_words, defBody s_square_words, defScope s_square_words, [], []⟩
def d_law_cases1 : He.DefD := ⟨("_law_cases1", none), "_law_cases1", "_law_cases1", defArgs s_law_cases1, defBody s_law_cases1, defScope s_law_cases1, [], []⟩
def d_law_roll : He.DefD := ⟨("_law_roll", none), "_law_roll", "_law_roll", defArgs s_law_roll, defBody s_law_roll, defScope s_law_roll, [], []⟩
def d_across : He.DefD := ⟨("across", none), "across", "across", defArgs s_across, defBody s_across, defScope s_across, [], []⟩
def d_chain_spots : He.DefD := ⟨("chain_spots", none), "chain_spots", "chain_spots", defArgs s_chain_spots, defBody s_chain_spots, defScope s_chain_spots, [], []⟩
def d_corner : He.DefD := ⟨("corner", none), "corner", "corner", defArgs s_corner, defBody s_corner, defScope s_corner, [], []⟩
def d_corner_dances : He.DefD := ⟨("corner_dances", none), "corner_dances", "corner_dances", defArgs s_corner_dances, defBody s_corner_dances, defScope s_corner_dances, [], []⟩
def d_facing_pairs : He.DefD := ⟨("facing_pairs", none), "facing_pairs", "facing_pairs", defArgs s_facing_pairs, defBody s_facing_pairs, defScope s_facing_pairs, [], []⟩
def d_hand_given : He.DefD := ⟨("hand_given", none), "hand_given", "hand_given", defArgs s_hand_given, defBody s_hand_given, defScope s_hand_given, [], []⟩
def d_hands : He.DefD := ⟨("hands", none), "hands", "hands", defArgs s_hands, defBody s_hands, defScope s_hands, [], []⟩
def d_hands_home : He.DefD := ⟨("hands_home", none), "hands_home", "hands_home", defArgs s_hands_home, defBody s_hands_home, defScope s_hands_home, [], []⟩
def d_meets_in_rings : He.DefD := ⟨("meets_in_rings", none), "meets_in_rings", "meets_in_rings", defArgs s_meets_in_rings, defBody s_meets_in_rings, defScope s_meets_in_rings, [], []⟩
def d_promenade : He.DefD := ⟨("promenade", none), "promenade", "promenade", defArgs s_promenade, defBody s_promenade, defScope s_promenade, [], []⟩
def d_law_rest1 : He.DefD := ⟨("_law_rest1", none), "_law_rest1", "_law_rest1", defArgs s_law_rest1, defBody s_law_rest1, defScope s_law_rest1, [], []⟩
def d_law_dice : He.DefD := ⟨("_law_dice", none), "_law_dice", "_law_dice", defArgs s_law_dice, defBody s_law_dice, defScope s_law_dice, [], []⟩
def d_law_rounds : He.DefD := ⟨("_law_rounds", none), "_law_rounds", "_law_rounds", defArgs s_law_rounds, defBody s_law_rounds, defScope s_law_rounds, [], []⟩
def d_greatest_part : He.DefD := ⟨("greatest_part", none), "greatest_part", "greatest_part", defArgs s_greatest_part, defBody s_greatest_part, defScope s_greatest_part, [], []⟩
def d_home_in : He.DefD := ⟨("home_in", none), "home_in", "home_in", defArgs s_home_in, defBody s_home_in, defScope s_home_in, [], []⟩
def d_partners_of : He.DefD := ⟨("partners_of", none), "partners_of", "partners_of", defArgs s_partners_of, defBody s_partners_of, defScope s_partners_of, [], []⟩
def d_all_partners : He.DefD := ⟨("all_partners", none), "all_partners", "all_partners", defArgs s_all_partners, defBody s_all_partners, defScope s_all_partners, [], []⟩
def d_first_with : He.DefD := ⟨("first_with", none), "first_with", "first_with", defArgs s_first_with, defBody s_first_with, defScope s_first_with, [], []⟩
def d_good_steps : He.DefD := ⟨("good_steps", none), "good_steps", "good_steps", defArgs s_good_steps, defBody s_good_steps, defScope s_good_steps, [], []⟩
def d_mixed_after : He.DefD := ⟨("mixed_after", none), "mixed_after", "mixed_after", defArgs s_mixed_after, defBody s_mixed_after, defScope s_mixed_after, [], []⟩
def d_law : He.DefD := ⟨("law", none), "law", "law", defArgs s_law, defBody s_law, defScope s_law, [], []⟩
def fn : List He.DefD := [d_law_told, d_check_ring, d_partner, d_square_words, d_law_cases1, d_law_roll, d_across, d_chain_spots, d_corner, d_corner_dances, d_facing_pairs, d_hand_given, d_hands, d_hands_home, d_meets_in_rings, d_promenade, d_law_rest1, d_law_dice, d_law_rounds, d_greatest_part, d_home_in, d_partners_of, d_all_partners, d_first_with, d_good_steps, d_mixed_after, d_law]
def clsN : List Str := ["DanceFault", "BadPlace", "BadFigure", "BadTune", "BadBook", "Bump", "NoWay", "TooLarge", "BadText"]
def ca (K : PySem.W.Frag) (n : Nat) : Addr := He.ga K (clsN.getD n "")
def tf : List He.Defn := [("_law_cases1", none), ("_law_rest1", none), ("law", none)]
def lamT (K : PySem.W.Frag) : List (Addr × Str) := [((He.cT K ("_law_cases1", none)).2, (envOfC "_law_cases1" (defScope s_law_cases1) 0 0 .none).qual ++ "<lambda>"), ((He.cT K ("_law_rest1", none)).2, (envOfC "_law_rest1" (defScope s_law_rest1) 0 0 .none).qual ++ "<lambda>"), ((He.cT K ("law", none)).2, (envOfC "law" (defScope s_law) 0 0 .none).qual ++ "<lambda>")]
abbrev gm (K : PySem.W.Frag) : Gm := ⟨K, ca K, fun _ => "", lamT K⟩
def rsL : List Nat := [1, 6]
def hsL : List (Nat × List Nat) := [(4, [98, 111, 111, 107]), (2, [102, 105, 103, 117, 114, 101]), (1, [112, 108, 97, 99, 101]), (3, [116, 117, 110, 101]), (5, [98, 117, 109, 112]), (6, [110, 111, 32, 119, 97, 121]), (7, [108, 97, 114, 103, 101]), (8, [116, 101, 120, 116])]
def exB (K : PySem.W.Frag) : Bool := (rsL.all fun c => hsL.all fun h => decide (PySem.W.exmOne K (.ref (ca K c)) (.ref (ca K h.1)) = some (Nat.beq c h.1))) && decide ((lamT K).map (·.1)).Nodup
structure Facts (K : PySem.W.Frag) (mg : Str → Option Value) (base : Heap) : Prop where
  says : He.SaysD fa fn K
  inB : K.In base
  ns : base.Ns mainGlobals mg
  tabs : ∀ p ∈ tf, LamX.TabB base mg (He.cT K p).1 (He.cT K p).2
  more : exB K = true
section
variable {K : PySem.W.Frag} {mg : Str → Option Value} {base : Heap}
theorem Facts.g (c : Facts K mg base) (i : Nat) {x : Str} (h : fa[i]? = some (.glo x)) : mg x = some (.ref (He.ga K x)) := He.glo_ok c.inB c.ns (c.says.fact i h)
theorem Facts.fr (c : Facts K mg base) (i : Nat) {x : Str} (h : fa[i]? = some (.free x)) : mg x = none := He.free_ok c.inB c.ns (c.says.fact i h)
theorem Facts.it (c : Facts K mg base) (i : Nat) {x : Str} {n : Int} (h : fa[i]? = some (.int x n)) : ∃ t, mg x = some (.int n t) := He.int_ok c.inB c.ns (c.says.fact i h)
theorem Facts.ex (c : Facts K mg base) (i : Nat) {x : Str} (h : fa[i]? = some (.exc x)) : PySem.W.excIn K (He.ga K x) He.veBase "ValueError.__new__" = true ∧ PySem.W.keepIn K (.ref (He.ga K x)) = true ∧ PySem.W.subIn K (.ref (He.ga K x)) (.type "BaseException") = some true ∧
    PySem.W.typeIn K (.ref (He.ga K x)) = some (.type "type") := He.exc_ok (c.says.fact i h)
theorem Facts.nodup (c : Facts K mg base) : ((lamT K).map (·.1)).Nodup := of_decide_eq_true (He.ba c.more).2
theorem tab_uniq {T : List (Addr × Str)} {p0 : Addr × Str} (h : (T.map (·.1)).Nodup) (hm : p0 ∈ T) : ∀ p ∈ T, p.1 = p0.1 → p.2 = p0.2 := by
  induction T with
  | nil => cases hm
  | cons a T ih =>
    rw [List.map_cons, List.nodup_cons] at h
    intro p hp e
    rcases List.mem_cons.mp hm with z | z
    · rcases List.mem_cons.mp hp with y | y
      · rw [y, z]
      · exact absurd (List.mem_map.mpr ⟨p, y, by rw [e, z]⟩) h.1
    · rcases List.mem_cons.mp hp with y | y
      · exact absurd (List.mem_map.mpr ⟨p0, z, by rw [← e, y]⟩) h.1
      · exact ih h.2 z p y e
end
def hdsL : List ExceptHandler := match defBody s_law_told with
  | [.Try _ hs _ _ _] => hs
  | _ => []
def toldL (K : PySem.W.Frag) : List (Value × (Addr → Value → Option Addr → TS)) := [(.ref (ca K 4), fun _ _ _ => tRet (tC (.str "book"))), (.ref (ca K 2), fun _ _ _ => tRet (tC (.str "figure"))), (.ref (ca K 1), fun _ _ _ => tRet (tC (.str "place"))), (.ref (ca K 3), fun _ _ _ => tRet (tC (.str "tune"))), (.ref (ca K 5), fun _ _ _ => tRet (tC (.str "bump"))), (.ref (ca K 6), fun _ _ _ => tRet (tC (.str "no way"))), (.ref (ca K 7), fun _ _ _ => tRet (tC (.str "large"))), (.ref (ca K 8), fun _ _ _ => tRet (tC (.str "text")))]
theorem told_ok (K : PySem.W.Frag) : ToldOk (gm K).ca (toldL K) hsL := (.cons rfl (.cons rfl (.cons rfl (.cons rfl (.cons rfl (.cons rfl (.cons rfl (.cons rfl .nil))))))))
theorem told_ex {K : PySem.W.Frag} {mg : Str → Option Value} {base : Heap} (c : Facts K mg base) : ∀ k ∈ rsL, ∀ h ∈ hsL, PySem.W.exmOne (gm K).K (.ref ((gm K).ca k)) (.ref ((gm K).ca h.1)) = some (Nat.beq k h.1) := fun k hk h hh =>
  of_decide_eq_true (List.all_eq_true.mp (List.all_eq_true.mp (He.ba c.more).1 k hk) h hh)
theorem hds_ok {K : PySem.W.Frag} {mg : Str → Option Value} {base : Heap} (c : Facts K mg base) (P : Program) (w : World) (A : Around) (stk : List Env) (cdg : Value) (s : Shared) (H : Hp) :
    HdsOk (cxOf C8.CX0 P w K mg base ["what"] "_law_told" (defScope s_law_told) (He.ga K "_law_told") cdg A stk s H C8.E0).nox hdsL (toldL K) := (.cons ⟨rfl, nd_BadBook, .inl (c.g 40 rfl)⟩ (fun _ _ _ _ _ _ _ => pss_one (ps_ret pe_str)) (.cons ⟨rfl, nd_BadFigure, .inl (c.g 41 rfl)⟩ (fun _ _ _ _ _ _ _ => pss_one (ps_ret pe_str)) (.cons ⟨rfl, nd_BadPlace, .inl (c.g 2 rfl)⟩ (fun _ _ _ _ _ _ _ => pss_one (ps_ret pe_str)) (.cons ⟨rfl, nd_BadTune, .inl (c.g 42 rfl)⟩ (fun _ _ _ _ _ _ _ => pss_one (ps_ret pe_str)) (.cons ⟨rfl, nd_Bump, .inl (c.g 43 rfl)⟩ (fun _ _ _ _ _ _ _ => pss_one (ps_ret pe_str)) (.cons ⟨rfl, nd_NoWay, .inl (c.g 33 rfl)⟩ (fun _ _ _ _ _ _ _ => pss_one (ps_ret pe_str)) (.cons ⟨rfl, nd_TooLarge, .inl (c.g 44 rfl)⟩ (fun _ _ _ _ _ _ _ => pss_one (ps_ret pe_str)) (.cons ⟨rfl, nd_BadText, .inl (c.g 45 rfl)⟩ (fun _ _ _ _ _ _ _ => pss_one (ps_ret pe_str)) .nil))))))))
/-! _law_told -/
theorem sc_law_told : FnScope ["what"] ["what"] (defScope s_law_told) := ⟨rfl, rfl, rfl, by decide +kernel, rfl, by decide +kernel, by decide +kernel⟩
/-! check_ring -/
theorem sc_check_ring : FnScope ["couples"] ["couples"] (defScope s_check_ring) := ⟨rfl, rfl, rfl, by decide +kernel, rfl, by decide +kernel, by decide +kernel⟩
def b_m_check_ring : SM := (sIf (tNotM (eTest (eChain (f2 gLe) (f2 gLe) (eC (.int 2)) (eVar 0) (eC (.int 60))))) (sRaise 1) sNx)
def m_check_ring : Fn := mkD 1 1 b_m_check_ring
theorem ok_check_ring {P : Program} {w : World} {K : PySem.W.Frag} {mg : Str → Option Value} {base : Heap} (c : Facts K mg base) : ∃ fd, FunD K "check_ring" "check_ring" (defArgs s_check_ring) (defBody s_check_ring) (defScope s_check_ring) [] [] (He.ga K "check_ring") fd ∧ L2.Binds K fd ["couples"] [] ∧ FnOk P w K mg base (L2.CX P w) 2 (He.ga K "check_ring") fd ["couples"] (spF (gm K) m_check_ring) := by
  obtain ⟨fd, F⟩ := c.says.def_ 1 (d := d_check_ring) rfl
  refine ⟨fd, F, (F.bindsN fun _ _ _ _ _ _ us hl => match us, hl with | [_], _ => rfl), def_okD (G := gm K) F sc_check_ring rfl rfl fun cdv hcv hcd A outer s H E hr => ?_⟩
  exact (q_one (q_if (q_tnot (q_tchain op_le le_v op_le le_v q_int (q_var rfl (.inl rfl) nd_couples nc_couples) (q_gint rfl (c.it 0 rfl) nd_GREATEST) (by with_unfolding_all rfl))) (q_one (q_raiseC rfl rfl (takes_of rfl rfl rfl rfl) (c.ex 1 rfl).1 (c.ex 1 rfl).2.1 (c.ex 1 rfl).2.2.1 (c.ex 1 rfl).2.2.2 (c.g 2 rfl) rfl nd_BadPlace)) q_nil))
/-! partner -/
theorem sc_partner : FnScope ["couples", "lark", "steps", "turns"] ["couples", "lark", "steps", "turns"] (defScope s_partner) := ⟨rfl, rfl, rfl, by decide +kernel, rfl, by decide +kernel, by decide +kernel⟩
def b_m_partner : SM := (sSeq (sExpr (eApp m_check_ring (aCons (eVar 0) aNil)))
  (sSeq (sIf (tNotM (eTest (eChain (f2 gLe) (f2 gLt) (eC (.int 0)) (eVar 1) (eVar 0)))) (sRaise 1) sNx)
  (sRet (eBin (f2 gMod) (eBin (f2 gSub) (eVar 1) (eBin (f2 (gMul false)) (eVar 2) (eVar 3))) (eVar 0)))))
def m_partner : Fn := mkD 4 4 b_m_partner
theorem ok_partner {P : Program} {w : World} {K : PySem.W.Frag} {mg : Str → Option Value} {base : Heap} (c : Facts K mg base) : ∃ fd, FunD K "partner" "partner" (defArgs s_partner) (defBody s_partner) (defScope s_partner) [] [] (He.ga K "partner") fd ∧ L2.Binds K fd ["couples", "lark", "steps", "turns"] [] ∧ FnOk P w K mg base (L2.CX P w) 3 (He.ga K "partner") fd ["couples", "lark", "steps", "turns"] (spF (gm K) m_partner) := by
  obtain ⟨fd, F⟩ := c.says.def_ 2 (d := d_partner) rfl
  obtain ⟨fd_check_ring, F_check_ring, b_check_ring, G_check_ring⟩ := ok_check_ring (P := P) (w := w) c
  refine ⟨fd, F, (F.bindsN fun _ _ _ _ _ _ us hl => match us, hl with | [_, _, _, _], _ => rfl), def_okD (G := gm K) F sc_partner rfl rfl fun cdv hcv hcd A outer s H E hr => ?_⟩
  exact (q_cons (q_expr (q_call G_check_ring (hr.mono (by decide)) rfl (c.g 3 rfl) F_check_ring.kp b_check_ring (takes_of rfl rfl rfl rfl) (q_acons (q_var rfl (.inl rfl) nd_couples nc_couples) q_anil rfl) nd_check_ring rfl rfl) rfl)
  (q_cons (q_if (q_tnot (q_tchain op_le le_v op_lt lt_v q_int (q_var rfl (.inl rfl) nd_lark nc_lark) (q_var rfl (.inl rfl) nd_couples nc_couples) (by with_unfolding_all rfl))) (q_one (q_raiseC rfl rfl (takes_of rfl rfl rfl rfl) (c.ex 1 rfl).1 (c.ex 1 rfl).2.1 (c.ex 1 rfl).2.2.1 (c.ex 1 rfl).2.2.2 (c.g 2 rfl) rfl nd_BadPlace)) q_nil)
  (q_one (q_ret (q_op op_modN mod_v (q_op op_sub sub_v (q_var rfl (.inl rfl) nd_lark nc_lark) (q_op mul_all mul_v (q_var rfl (.inl rfl) nd_steps nc_steps) (q_var rfl (.inl rfl) nd_turns nc_turns))) (q_var rfl (.inl rfl) nd_couples nc_couples))))))
/-! square_words -/
theorem sc_square_words : FnScope ["place", "couple"] ["place"] (defScope s_square_words) := ⟨rfl, rfl, rfl, by decide +kernel, rfl, by decide +kernel, by decide +kernel⟩
def b_m_square_words : SM := (sSeq (sIf (tNotM (eTest (eChain (f2 gLe) (f2 gLt) (eC (.int 0)) (eVar 0) (eC (.int 8))))) (sRaise 1) sNx)
  (sSeq (sSet 1 (eBin (f2 (gAdd false)) (eBin (f2 gDiv) (eVar 0) (eC (.int 2))) (eC (.int 1))))
  (sRet (eBin (f2 (gAdd false)) (eBin (f2 (gAdd false)) (eIf (eTest (eBin (f2 gEq) (eBin (f2 gMod) (eVar 1) (eC (.int 2))) (eC (.int 1)))) (eC (.str [104, 101, 97, 100, 32])) (eC (.str [115, 105, 100, 101, 32]))) (eApp (f1 gStr) (aCons (eVar 1) aNil))) (eIf (eTest (eBin (f2 gEq) (eBin (f2 gMod) (eVar 0) (eC (.int 2))) (eC (.int 0)))) (eC (.str [32, 108, 97, 114, 107])) (eC (.str [32, 114, 111, 98, 105, 110])))))))
def m_square_words : Fn := mkD 1 2 b_m_square_words
theorem ok_square_words {P : Program} {w : World} {K : PySem.W.Frag} {mg : Str → Option Value} {base : Heap} (c : Facts K mg base) : ∃ fd, FunD K "square_words" "square_words" (defArgs s_square_words) (defBody s_square_words) (defScope s_square_words) [] [] (He.ga K "square_words") fd ∧ L2.Binds K fd ["place"] [] ∧ FnOk P w K mg base (L2.CX P w) 2 (He.ga K "square_words") fd ["place"] (spF (gm K) m_square_words) := by
  obtain ⟨fd, F⟩ := c.says.def_ 3 (d := d_square_words) rfl
  refine ⟨fd, F, (F.bindsN fun _ _ _ _ _ _ us hl => match us, hl with | [_], _ => rfl), def_okD (G := gm K) F sc_square_words rfl rfl fun cdv hcv hcd A outer s H E hr => ?_⟩
  exact (q_cons (q_if (q_tnot (q_tchain op_le le_v op_lt lt_v q_int (q_var rfl (.inl rfl) nd_place nc_place) q_int (by with_unfolding_all rfl))) (q_one (q_raiseC rfl rfl (takes_of rfl rfl rfl rfl) (c.ex 1 rfl).1 (c.ex 1 rfl).2.1 (c.ex 1 rfl).2.2.1 (c.ex 1 rfl).2.2.2 (c.g 2 rfl) rfl nd_BadPlace)) q_nil)
  (q_cons (q_set sc_square_words.nd rfl (.inl rfl) (.inl rfl) (q_op add_all add_v (q_op op_fdivN div_v (q_var rfl (.inl rfl) nd_place nc_place) q_int) q_int) rfl rfl)
  (q_one (q_ret (q_op add_all add_v (q_op add_all add_v (q_ifE (q_tcmp (op_eqD hr.units) eq_v (q_op op_modN mod_v (q_var rfl (.inl rfl) nd_couple nc_couple) q_int) q_int (nomark _)) (q_str rfl) (q_str rfl)) (q_callTy call_str_int str_v rfl (c.fr 4 rfl) boot_str (q_acons (q_var rfl (.inl rfl) nd_couple nc_couple) q_anil rfl) (by decide) nd_str rfl rfl)) (q_ifE (q_tcmp (op_eqD hr.units) eq_v (q_op op_modN mod_v (q_var rfl (.inl rfl) nd_place nc_place) q_int) q_int (nomark _)) (q_str rfl) (q_str rfl)))))))
/-! _law_cases1 -/
theorem sc_law_cases1 : FnScope [] [] (defScope s_law_cases1) := ⟨rfl, rfl, rfl, by decide +kernel, rfl, by decide +kernel, by decide +kernel⟩
def b_m_law_cases1 : SM := (sSeq (sIf (tOrM (eTest (eBin (f2 gNe) (eApp m_square_words (aCons (eC (.int 3)) aNil)) (eC (.str [115, 105, 100, 101, 32, 50, 32, 114, 111, 98, 105, 110])))) (eTest (eBin (f2 gNe) (eApp m_square_words (aCons (eC (.int 4)) aNil)) (eC (.str [104, 101, 97, 100, 32, 51, 32, 108, 97, 114, 107]))))) (sRet (eC (.bl false))) sNx)
  (sSeq (sIf (eTest (eBin (f2 gNe) (eTold rsL hsL (eApp m_square_words (aCons (eC (.int 8)) aNil))) (eC (.str [112, 108, 97, 99, 101])))) (sRet (eC (.bl false))) sNx)
  (sSeq (sIf (eTest (eBin (f2 gNe) (eTold rsL hsL (eApp m_partner (aCons (eC (.int 1)) (aCons (eC (.int 0)) (aCons (eC (.int 1)) (aCons (eC (.int 1)) aNil)))))) (eC (.str [112, 108, 97, 99, 101])))) (sRet (eC (.bl false))) sNx)
  (sRet (eC (.bl true))))))
def m_law_cases1 : Fn := mkD 0 0 b_m_law_cases1
theorem ok_law_cases1 {P : Program} {w : World} {K : PySem.W.Frag} {mg : Str → Option Value} {base : Heap} (c : Facts K mg base) : ∃ fd, FunD K "_law_cases1" "_law_cases1" (defArgs s_law_cases1) (defBody s_law_cases1) (defScope s_law_cases1) [] [] (He.ga K "_law_cases1") fd ∧ L2.Binds K fd [] [] ∧ FnOk P w K mg base (L2.CX P w) 7 (He.ga K "_law_cases1") fd [] (spF (gm K) m_law_cases1) := by
  obtain ⟨fd, F⟩ := c.says.def_ 4 (d := d_law_cases1) rfl
  obtain ⟨fd_law_told, F_law_told⟩ := c.says.def_ 0 (d := d_law_told) rfl
  have b_law_told : L2.Binds K fd_law_told ["what"] [] := F_law_told.bindsN fun _ _ _ _ _ _ us hl => match us, hl with | [_], _ => rfl
  obtain ⟨fd_partner, F_partner, b_partner, G_partner⟩ := ok_partner (P := P) (w := w) c
  obtain ⟨fd_square_words, F_square_words, b_square_words, G_square_words⟩ := ok_square_words (P := P) (w := w) c
  obtain ⟨oc, od, dV, kV, doc, pm, an, cdv0, ct0, osl, efd, lk, hcd0, _, _⟩ := F.ex
  refine ⟨fd, F, (F.bindsN fun _ _ _ _ _ _ us hl => match us, hl with | [], _ => rfl), def_okD (G := gm K) F sc_law_cases1 rfl rfl fun cdv hcv hcd A outer s H E hr => ?_⟩
  obtain ⟨ctv, ec⟩ := He.codeIn_ref hcd
  subst ec
  have e2 : He.codeOf K ("_law_cases1", none) = ctv := He.codeOf_eq lk hcv
  have TB : LamX.TabB base mg ctv (He.cT K ("_law_cases1", none)).2 := by rw [← e2]; exact c.tabs ("_law_cases1", none) (.head _)
  have hcode : (Value.ref ctv) = .ref ctv := rfl
  have hmT : ((He.cT K ("_law_cases1", none)).2, (envOfC "_law_cases1" (defScope s_law_cases1) 0 0 .none).qual ++ "<lambda>") ∈ (gm K).T := (.head _)
  have hu := tab_uniq c.nodup hmT
  exact (q_cons (q_if (PW.pt (q_wor (q_tcmp (op_neD hr.units) ne_v (q_call G_square_words (hr.mono (by decide)) rfl (c.g 5 rfl) F_square_words.kp b_square_words (takes_of rfl rfl rfl rfl) (q_acons q_int q_anil rfl) nd_square_words rfl rfl) (q_str rfl) (nomark _)) (q_wor1 (q_tcmp (op_neD hr.units) ne_v (q_call G_square_words (hr.mono (by decide)) rfl (c.g 5 rfl) F_square_words.kp b_square_words (takes_of rfl rfl rfl rfl) (q_acons q_int q_anil rfl) nd_square_words rfl rfl) (q_str rfl) (nomark _))))) (q_one (q_ret q_bl)) q_nil)
  (q_cons (q_if (q_tcmp (op_neD hr.units) ne_v (q_told (rs := rsL) (hs := hsL) (k := 3) rfl F_law_told b_law_told sc_law_told rfl (.inl rfl) (fun cdg s H => hds_ok c P w _ _ cdg s H) (told_ok K) (told_ex c) rfl (c.g 6 rfl) TB hcode hmT hu (hr.mono (by decide)) (LamX.lamS_by rfl) rfl (fun _ _ _ _ _ => rfl) (fun A outer s H E f c' hrl => (q_call G_square_words (hrl.mono (by decide)) rfl (c.g 5 rfl) F_square_words.kp b_square_words (takes_of rfl rfl rfl rfl) (q_acons q_int q_anil rfl) nd_square_words rfl rfl)) nd_law_told_u nd_what nc_what) (q_str rfl) (nomark _)) (q_one (q_ret q_bl)) q_nil)
  (q_cons (q_if (q_tcmp (op_neD hr.units) ne_v (q_told (rs := rsL) (hs := hsL) (k := 3) rfl F_law_told b_law_told sc_law_told rfl (.inl rfl) (fun cdg s H => hds_ok c P w _ _ cdg s H) (told_ok K) (told_ex c) rfl (c.g 6 rfl) TB hcode hmT hu (hr.mono (by decide)) (LamX.lamS_by rfl) rfl (fun _ _ _ _ _ => rfl) (fun A outer s H E f c' hrl => (q_call G_partner (hrl.mono (by decide)) rfl (c.g 7 rfl) F_partner.kp b_partner (takes_of rfl rfl rfl rfl) (q_acons q_int (q_acons q_int (q_acons q_int (q_acons q_int q_anil rfl) rfl) rfl) rfl) nd_partner rfl rfl)) nd_law_told_u nd_what nc_what) (q_str rfl) (nomark _)) (q_one (q_ret q_bl)) q_nil)
  (q_one (q_ret q_bl)))))
/-! _law_roll -/
theorem sc_law_roll : FnScope ["dice", "many", "found"] ["dice", "many"] (defScope s_law_roll) := ⟨rfl, rfl, rfl, by decide +kernel, rfl, by decide +kernel, by decide +kernel⟩
def b_m_law_roll : SM := (sSeq (sIf (tOrM (eTest (eBin (f2 gEq) (eBin (f2 gIx) (eVar 0) (eC (.int 2))) (eC (.int 2)))) (tAndM (eTest (eBin (f2 gEq) (eBin (f2 gIx) (eVar 0) (eC (.int 2))) (eC (.int 1)))) (eTest (eBin (f2 gGt) (eBin (f2 gIx) (eVar 0) (eC (.int 0))) (eC (.int 0)))))) (sSeq (sSet 2 (eBin (f2 gMod) (eApp (f1 gInt) (aCons (eBin (f2 gIx) (eVar 0) (eC (.int 0))) aNil)) (eVar 1)))
  (sSeq (sSetIx (eBin (f2 gDiv) (eBin (f2 gIx) (eVar 0) (eC (.int 0))) (eVar 1)) (eVar 0) (eC (.int 0)))
  (sRet (eVar 2)))) sNx)
  (sSeq (sSetIx (eC (.int 0)) (eVar 0) (eC (.int 2)))
  (sSeq (sSetIx (eBin (f2 gMod) (eApp (f1 gInt) (aCons (eBin (f2 (gAdd false)) (eBin (f2 (gAdd false)) (eBin (f2 (gMul false)) (eBin (f2 gIx) (eVar 0) (eC (.int 0))) (eC (.int 48271))) (eBin (f2 (gMul false)) (eBin (f2 gIx) (eVar 0) (eC (.int 1))) (eC (.int 69621)))) (eC (.int 11))) aNil)) (eC (.int 2147483647))) (eVar 0) (eC (.int 0)))
  (sSeq (sSetIx (eBin (f2 (gAdd false)) (eBin (f2 gIx) (eVar 0) (eC (.int 1))) (eC (.int 1))) (eVar 0) (eC (.int 1)))
  (sRet (eBin (f2 gMod) (eApp (f1 gInt) (aCons (eBin (f2 (gAdd false)) (eBin (f2 gDiv) (eBin (f2 gIx) (eVar 0) (eC (.int 0))) (eC (.int 7))) (eBin (f2 gIx) (eVar 0) (eC (.int 0)))) aNil)) (eVar 1)))))))
def m_law_roll : Fn := mkD 2 3 b_m_law_roll
theorem ok_law_roll {P : Program} {w : World} {K : PySem.W.Frag} {mg : Str → Option Value} {base : Heap} (c : Facts K mg base) : ∃ fd, FunD K "_law_roll" "_law_roll" (defArgs s_law_roll) (defBody s_law_roll) (defScope s_law_roll) [] [] (He.ga K "_law_roll") fd ∧ L2.Binds K fd ["dice", "many"] [] ∧ FnOk P w K mg base (L2.CX P w) 2 (He.ga K "_law_roll") fd ["dice", "many"] (spF (gm K) m_law_roll) := by
  obtain ⟨fd, F⟩ := c.says.def_ 5 (d := d_law_roll) rfl
  refine ⟨fd, F, (F.bindsN fun _ _ _ _ _ _ us hl => match us, hl with | [_, _], _ => rfl), def_okD (G := gm K) F sc_law_roll rfl rfl fun cdv hcv hcd A outer s H E hr => ?_⟩
  exact (q_cons (q_if (PW.pt (q_wor (q_tcmp (op_eqD hr.units) eq_v (q_ix ix_seq ix_v (q_var rfl (.inl rfl) nd_dice nc_dice) q_int (fun _ _ => rfl)) q_int (nomark _)) (q_wor1 (PW.pt (q_wand (q_tcmp (op_eqD hr.units) eq_v (q_ix ix_seq ix_v (q_var rfl (.inl rfl) nd_dice nc_dice) q_int (fun _ _ => rfl)) q_int (nomark _)) (q_wand1 (q_tcmp op_gt gt_v (q_ix ix_seq ix_v (q_var rfl (.inl rfl) nd_dice nc_dice) q_int (fun _ _ => rfl)) q_int (nomark _)))))))) (q_cons (q_set sc_law_roll.nd rfl (.inl rfl) (.inl rfl) (q_op op_modN mod_v (q_callTy call_int1 int_v rfl (c.fr 8 rfl) boot_int (q_acons (q_ix ix_seq ix_v (q_var rfl (.inl rfl) nd_dice nc_dice) q_int (fun _ _ => rfl)) q_anil rfl) (by decide) nd_int rfl rfl) (q_var rfl (.inl rfl) nd_many nc_many)) rfl rfl)
  (q_cons (q_setIx (q_op op_fdivN div_v (q_ix ix_seq ix_v (q_var rfl (.inl rfl) nd_dice nc_dice) q_int (fun _ _ => rfl)) (q_var rfl (.inl rfl) nd_many nc_many)) (q_var rfl (.inl rfl) nd_dice nc_dice) q_int rfl rfl rfl (fun _ => rfl))
  (q_one (q_ret (q_var rfl (.inl rfl) nd_found nc_found))))) q_nil)
  (q_cons (q_setIx q_int (q_var rfl (.inl rfl) nd_dice nc_dice) q_int rfl rfl rfl (fun _ => rfl))
  (q_cons (q_setIx (q_op op_modN mod_v (q_callTy call_int1 int_v rfl (c.fr 8 rfl) boot_int (q_acons (q_op add_all add_v (q_op add_all add_v (q_op mul_all mul_v (q_ix ix_seq ix_v (q_var rfl (.inl rfl) nd_dice nc_dice) q_int (fun _ _ => rfl)) q_int) (q_op mul_all mul_v (q_ix ix_seq ix_v (q_var rfl (.inl rfl) nd_dice nc_dice) q_int (fun _ _ => rfl)) q_int)) q_int) q_anil rfl) (by decide) nd_int rfl rfl) q_int) (q_var rfl (.inl rfl) nd_dice nc_dice) q_int rfl rfl rfl (fun _ => rfl))
  (q_cons (q_setIx (q_op add_all add_v (q_ix ix_seq ix_v (q_var rfl (.inl rfl) nd_dice nc_dice) q_int (fun _ _ => rfl)) q_int) (q_var rfl (.inl rfl) nd_dice nc_dice) q_int rfl rfl rfl (fun _ => rfl))
  (q_one (q_ret (q_op op_modN mod_v (q_callTy call_int1 int_v rfl (c.fr 8 rfl) boot_int (q_acons (q_op add_all add_v (q_op op_fdivN div_v (q_ix ix_seq ix_v (q_var rfl (.inl rfl) nd_dice nc_dice) q_int (fun _ _ => rfl)) q_int) (q_ix ix_seq ix_v (q_var rfl (.inl rfl) nd_dice nc_dice) q_int (fun _ _ => rfl))) q_anil rfl) (by decide) nd_int rfl rfl) (q_var rfl (.inl rfl) nd_many nc_many))))))))
/-! across -/
theorem sc_across : FnScope ["couples", "place"] ["couples", "place"] (defScope s_across) := ⟨rfl, rfl, rfl, by decide +kernel, rfl, by decide +kernel, by decide +kernel⟩
def b_m_across : SM := (sSeq (sExpr (eApp m_check_ring (aCons (eVar 0) aNil)))
  (sSeq (sIf (tOrM (eTest (eBin (f2 gEq) (eBin (f2 gMod) (eVar 0) (eC (.int 2))) (eC (.int 1)))) (tNotM (eTest (eChain (f2 gLe) (f2 gLt) (eC (.int 0)) (eVar 1) (eBin (f2 (gMul false)) (eC (.int 2)) (eVar 0)))))) (sRaise 1) sNx)
  (sRet (eBin (f2 gMod) (eBin (f2 (gAdd false)) (eVar 1) (eVar 0)) (eBin (f2 (gMul false)) (eC (.int 2)) (eVar 0))))))
def m_across : Fn := mkD 2 2 b_m_across
theorem ok_across {P : Program} {w : World} {K : PySem.W.Frag} {mg : Str → Option Value} {base : Heap} (c : Facts K mg base) : ∃ fd, FunD K "across" "across" (defArgs s_across) (defBody s_across) (defScope s_across) [] [] (He.ga K "across") fd ∧ L2.Binds K fd ["couples", "place"] [] ∧ FnOk P w K mg base (L2.CX P w) 3 (He.ga K "across") fd ["couples", "place"] (spF (gm K) m_across) := by
  obtain ⟨fd, F⟩ := c.says.def_ 6 (d := d_across) rfl
  obtain ⟨fd_check_ring, F_check_ring, b_check_ring, G_check_ring⟩ := ok_check_ring (P := P) (w := w) c
  refine ⟨fd, F, (F.bindsN fun _ _ _ _ _ _ us hl => match us, hl with | [_, _], _ => rfl), def_okD (G := gm K) F sc_across rfl rfl fun cdv hcv hcd A outer s H E hr => ?_⟩
  exact (q_cons (q_expr (q_call G_check_ring (hr.mono (by decide)) rfl (c.g 3 rfl) F_check_ring.kp b_check_ring (takes_of rfl rfl rfl rfl) (q_acons (q_var rfl (.inl rfl) nd_couples nc_couples) q_anil rfl) nd_check_ring rfl rfl) rfl)
  (q_cons (q_if (PW.pt (q_wor (q_tcmp (op_eqD hr.units) eq_v (q_op op_modN mod_v (q_var rfl (.inl rfl) nd_couples nc_couples) q_int) q_int (nomark _)) (q_wor1 (q_tnot (q_tchain op_le le_v op_lt lt_v q_int (q_var rfl (.inl rfl) nd_place nc_place) (q_op mul_all mul_v q_int (q_var rfl (.inl rfl) nd_couples nc_couples)) (by with_unfolding_all rfl)))))) (q_one (q_raiseC rfl rfl (takes_of rfl rfl rfl rfl) (c.ex 1 rfl).1 (c.ex 1 rfl).2.1 (c.ex 1 rfl).2.2.1 (c.ex 1 rfl).2.2.2 (c.g 2 rfl) rfl nd_BadPlace)) q_nil)
  (q_one (q_ret (q_op op_modN mod_v (q_op add_all add_v (q_var rfl (.inl rfl) nd_place nc_place) (q_var rfl (.inl rfl) nd_couples nc_couples)) (q_op mul_all mul_v q_int (q_var rfl (.inl rfl) nd_couples nc_couples)))))))
/-! chain_spots -/
theorem sc_chain_spots : FnScope ["couples", "steps", "spots", "k"] ["couples", "steps"] (defScope s_chain_spots) := ⟨rfl, rfl, rfl, by decide +kernel, rfl, by decide +kernel, by decide +kernel⟩
def b_m_chain_spots : SM := (sSeq (sExpr (eApp m_check_ring (aCons (eVar 0) aNil)))
  (sSeq (sSet 2 (eBin (f2 (gMul true)) (eApp (fLst false) (aCons (eApp fTup (aCons (eC (.str [])) (aCons (eC (.int 0)) aNil))) aNil)) (eBin (f2 (gMul false)) (eC (.int 2)) (eVar 0))))
  (sSeq (sFor (iRg range1M (aCons (eVar 0) aNil)) (.nm 3) (sSeq (sSetIx (eApp fTup (aCons (eC (.str [108, 97, 114, 107])) (aCons (eVar 3) aNil))) (eVar 2) (eBin (f2 gMod) (eBin (f2 (gAdd false)) (eBin (f2 (gMul false)) (eC (.int 2)) (eVar 3)) (eVar 1)) (eBin (f2 (gMul false)) (eC (.int 2)) (eVar 0))))
  (sSetIx (eApp fTup (aCons (eC (.str [114, 111, 98, 105, 110])) (aCons (eVar 3) aNil))) (eVar 2) (eBin (f2 gMod) (eBin (f2 gSub) (eBin (f2 (gAdd false)) (eBin (f2 (gMul false)) (eC (.int 2)) (eVar 3)) (eC (.int 1))) (eVar 1)) (eBin (f2 (gMul false)) (eC (.int 2)) (eVar 0))))))
  (sRet (eApp (gTupOf false) (aCons (eVar 2) aNil))))))
def m_chain_spots : Fn := mkD 2 4 b_m_chain_spots
theorem ok_chain_spots {P : Program} {w : World} {K : PySem.W.Frag} {mg : Str → Option Value} {base : Heap} (c : Facts K mg base) : ∃ fd, FunD K "chain_spots" "chain_spots" (defArgs s_chain_spots) (defBody s_chain_spots) (defScope s_chain_spots) [] [] (He.ga K "chain_spots") fd ∧ L2.Binds K fd ["couples", "steps"] [] ∧ FnOk P w K mg base (L2.CX P w) 3 (He.ga K "chain_spots") fd ["couples", "steps"] (spF (gm K) m_chain_spots) := by
  obtain ⟨fd, F⟩ := c.says.def_ 7 (d := d_chain_spots) rfl
  obtain ⟨fd_check_ring, F_check_ring, b_check_ring, G_check_ring⟩ := ok_check_ring (P := P) (w := w) c
  refine ⟨fd, F, (F.bindsN fun _ _ _ _ _ _ us hl => match us, hl with | [_, _], _ => rfl), def_okD (G := gm K) F sc_chain_spots rfl rfl fun cdv hcv hcd A outer s H E hr => ?_⟩
  exact (q_cons (q_expr (q_call G_check_ring (hr.mono (by decide)) rfl (c.g 3 rfl) F_check_ring.kp b_check_ring (takes_of rfl rfl rfl rfl) (q_acons (q_var rfl (.inl rfl) nd_couples nc_couples) q_anil rfl) nd_check_ring rfl rfl) rfl)
  (q_cons (q_set sc_chain_spots.nd rfl (.inl rfl) (.inl rfl) (q_op mul_all mul_v (q_lst (q_acons (q_tup (q_acons (q_str rfl) (q_acons q_int q_anil rfl) rfl)) q_anil rfl)) (q_op mul_all mul_v q_int (q_var rfl (.inl rfl) nd_couples nc_couples))) rfl rfl)
  (q_cons (q_for rfl (passes_of rfl) rfl (q_range1 rfl (c.fr 9 rfl) (q_acons (q_var rfl (.inl rfl) nd_couples nc_couples) q_anil rfl) rfl) (pg_name sc_chain_spots.nd rfl (.inl rfl) (.inl rfl)) (q_cons (q_setIx (q_tup (q_acons (q_str rfl) (q_acons (q_var rfl (.inl rfl) nd_k nc_k) q_anil rfl) rfl)) (q_var rfl (.inl rfl) nd_spots nc_spots) (q_op op_modN mod_v (q_op add_all add_v (q_op mul_all mul_v q_int (q_var rfl (.inl rfl) nd_k nc_k)) (q_var rfl (.inl rfl) nd_steps nc_steps)) (q_op mul_all mul_v q_int (q_var rfl (.inl rfl) nd_couples nc_couples))) rfl rfl rfl (fun _ => rfl))
  (q_one (q_setIx (q_tup (q_acons (q_str rfl) (q_acons (q_var rfl (.inl rfl) nd_k nc_k) q_anil rfl) rfl)) (q_var rfl (.inl rfl) nd_spots nc_spots) (q_op op_modN mod_v (q_op op_sub sub_v (q_op add_all add_v (q_op mul_all mul_v q_int (q_var rfl (.inl rfl) nd_k nc_k)) q_int) (q_var rfl (.inl rfl) nd_steps nc_steps)) (q_op mul_all mul_v q_int (q_var rfl (.inl rfl) nd_couples nc_couples))) rfl rfl rfl (fun _ => rfl)))) (fun _ => rfl))
  (q_one (q_ret (q_callTy (tup_of (fl := false)) tup_v rfl (c.fr 10 rfl) boot_tuple (q_acons (q_var rfl (.inl rfl) nd_spots nc_spots) q_anil rfl) (by decide) nd_tuple rfl rfl))))))
/-! corner -/
theorem sc_corner : FnScope ["couples", "lark"] ["couples", "lark"] (defScope s_corner) := ⟨rfl, rfl, rfl, by decide +kernel, rfl, by decide +kernel, by decide +kernel⟩
def b_m_corner : SM := (sSeq (sExpr (eApp m_check_ring (aCons (eVar 0) aNil)))
  (sSeq (sIf (tNotM (eTest (eChain (f2 gLe) (f2 gLt) (eC (.int 0)) (eVar 1) (eVar 0)))) (sRaise 1) sNx)
  (sRet (eBin (f2 gMod) (eBin (f2 gSub) (eVar 1) (eC (.int 1))) (eVar 0)))))
def m_corner : Fn := mkD 2 2 b_m_corner
theorem ok_corner {P : Program} {w : World} {K : PySem.W.Frag} {mg : Str → Option Value} {base : Heap} (c : Facts K mg base) : ∃ fd, FunD K "corner" "corner" (defArgs s_corner) (defBody s_corner) (defScope s_corner) [] [] (He.ga K "corner") fd ∧ L2.Binds K fd ["couples", "lark"] [] ∧ FnOk P w K mg base (L2.CX P w) 3 (He.ga K "corner") fd ["couples", "lark"] (spF (gm K) m_corner) := by
  obtain ⟨fd, F⟩ := c.says.def_ 8 (d := d_corner) rfl
  obtain ⟨fd_check_ring, F_check_ring, b_check_ring, G_check_ring⟩ := ok_check_ring (P := P) (w := w) c
  refine ⟨fd, F, (F.bindsN fun _ _ _ _ _ _ us hl => match us, hl with | [_, _], _ => rfl), def_okD (G := gm K) F sc_corner rfl rfl fun cdv hcv hcd A outer s H E hr => ?_⟩
  exact (q_cons (q_expr (q_call G_check_ring (hr.mono (by decide)) rfl (c.g 3 rfl) F_check_ring.kp b_check_ring (takes_of rfl rfl rfl rfl) (q_acons (q_var rfl (.inl rfl) nd_couples nc_couples) q_anil rfl) nd_check_ring rfl rfl) rfl)
  (q_cons (q_if (q_tnot (q_tchain op_le le_v op_lt lt_v q_int (q_var rfl (.inl rfl) nd_lark nc_lark) (q_var rfl (.inl rfl) nd_couples nc_couples) (by with_unfolding_all rfl))) (q_one (q_raiseC rfl rfl (takes_of rfl rfl rfl rfl) (c.ex 1 rfl).1 (c.ex 1 rfl).2.1 (c.ex 1 rfl).2.2.1 (c.ex 1 rfl).2.2.2 (c.g 2 rfl) rfl nd_BadPlace)) q_nil)
  (q_one (q_ret (q_op op_modN mod_v (q_op op_sub sub_v (q_var rfl (.inl rfl) nd_lark nc_lark) q_int) (q_var rfl (.inl rfl) nd_couples nc_couples))))))
/-! corner_dances -/
theorem sc_corner_dances : FnScope ["couples", "turns", "lark"] ["couples", "turns"] (defScope s_corner_dances) := ⟨rfl, rfl, rfl, by decide +kernel, rfl, by decide +kernel, by decide +kernel⟩
def b_m_corner_dances : SM := (sRet (eApp (gTupOf false) (aCons (eComp false [2] (iRg range1M (aCons (eVar 0) aNil)) (.nm 2) cYes (eBin (f2 gMod) (eBin (f2 gSub) (eVar 2) (eVar 1)) (eVar 0))) aNil)))
def m_corner_dances : Fn := mkD 2 3 b_m_corner_dances
theorem ok_corner_dances {P : Program} {w : World} {K : PySem.W.Frag} {mg : Str → Option Value} {base : Heap} (c : Facts K mg base) : ∃ fd, FunD K "corner_dances" "corner_dances" (defArgs s_corner_dances) (defBody s_corner_dances) (defScope s_corner_dances) [] [] (He.ga K "corner_dances") fd ∧ L2.Binds K fd ["couples", "turns"] [] ∧ FnOk P w K mg base (L2.CX P w) 2 (He.ga K "corner_dances") fd ["couples", "turns"] (spF (gm K) m_corner_dances) := by
  obtain ⟨fd, F⟩ := c.says.def_ 9 (d := d_corner_dances) rfl
  refine ⟨fd, F, (F.bindsN fun _ _ _ _ _ _ us hl => match us, hl with | [_, _], _ => rfl), def_okD (G := gm K) F sc_corner_dances rfl rfl fun cdv hcv hcd A outer s H E hr => ?_⟩
  exact (q_one (q_ret (q_callTy (tup_of (fl := false)) tup_v rfl (c.fr 10 rfl) boot_tuple (q_acons (q_comp rfl rfl sc_corner_dances.nd (q_range1 rfl (c.fr 9 rfl) (q_acons (q_var rfl (.inr (.inl rfl)) nd_couples nc_couples) q_anil rfl) rfl) (own := [("lark", 2)]) (blkOk_by rfl) rfl (fun s H C cl fp => (pg_name sc_corner_dances.nd rfl (.inl rfl) (.inr rfl))) (fun s H C cl fp => q_yes) (fun s H C cl fp => (q_op op_modN mod_v (q_op op_sub sub_v (q_var rfl (.inl rfl) nd_lark nc_lark) (q_var rfl (.inr (.inl rfl)) nd_turns nc_turns)) (q_var rfl (.inr (.inl rfl)) nd_couples nc_couples))) (fun _ => rfl)) q_anil rfl) (by decide) nd_tuple rfl rfl)))
/-! facing_pairs -/
theorem sc_facing_pairs : FnScope ["couples", "steps", "spots", "found", "place", "kind", "number"] ["couples", "steps"] (defScope s_facing_pairs) := ⟨rfl, rfl, rfl, by decide +kernel, rfl, by decide +kernel, by decide +kernel⟩
def b_m_facing_pairs : SM := (sSeq (sSet 2 (eApp m_chain_spots (aCons (eVar 0) (aCons (eVar 1) aNil))))
  (sSeq (sSet 3 (eApp (fLst true) aNil))
  (sSeq (sFor (iEnum1 (eVar 2)) (.tp [(.nm 4), (.tp [(.nm 5), (.nm 6)])]) (sIf (eTest (eBin (f2 gEq) (eVar 5) (eC (.str [108, 97, 114, 107])))) (sExpr (eMeth .l mAppend (eVar 3) (aCons (eApp fTup (aCons (eVar 6) (aCons (eBin (f2 gIx) (eBin (f2 gIx) (eVar 2) (eBin (f2 gMod) (eBin (f2 (gAdd false)) (eVar 4) (eC (.int 1))) (eApp (f1 gLen) (aCons (eVar 2) aNil)))) (eC (.int 1))) aNil))) aNil))) sNx))
  (sRet (eApp (gTupOf false) (aCons (eApp (f1 (gSorted false)) (aCons (eVar 3) aNil)) aNil))))))
def m_facing_pairs : Fn := mkD 2 7 b_m_facing_pairs
theorem ok_facing_pairs {P : Program} {w : World} {K : PySem.W.Frag} {mg : Str → Option Value} {base : Heap} (c : Facts K mg base) : ∃ fd, FunD K "facing_pairs" "facing_pairs" (defArgs s_facing_pairs) (defBody s_facing_pairs) (defScope s_facing_pairs) [] [] (He.ga K "facing_pairs") fd ∧ L2.Binds K fd ["couples", "steps"] [] ∧ FnOk P w K mg base (L2.CX P w) 4 (He.ga K "facing_pairs") fd ["couples", "steps"] (spF (gm K) m_facing_pairs) := by
  obtain ⟨fd, F⟩ := c.says.def_ 10 (d := d_facing_pairs) rfl
  obtain ⟨fd_chain_spots, F_chain_spots, b_chain_spots, G_chain_spots⟩ := ok_chain_spots (P := P) (w := w) c
  refine ⟨fd, F, (F.bindsN fun _ _ _ _ _ _ us hl => match us, hl with | [_, _], _ => rfl), def_okD (G := gm K) F sc_facing_pairs rfl rfl fun cdv hcv hcd A outer s H E hr => ?_⟩
  exact (q_cons (q_set sc_facing_pairs.nd rfl (.inl rfl) (.inl rfl) (q_call G_chain_spots (hr.mono (by decide)) rfl (c.g 11 rfl) F_chain_spots.kp b_chain_spots (takes_of rfl rfl rfl rfl) (q_acons (q_var rfl (.inl rfl) nd_couples nc_couples) (q_acons (q_var rfl (.inl rfl) nd_steps nc_steps) q_anil rfl) rfl) nd_chain_spots rfl rfl) rfl rfl)
  (q_cons (q_set sc_facing_pairs.nd rfl (.inl rfl) (.inl rfl) (q_lst q_anil) rfl rfl)
  (q_cons (q_for rfl (passes_of rfl) rfl (q_enum rfl rfl (c.fr 12 rfl) (q_acons (q_var rfl (.inl rfl) nd_spots nc_spots) q_anil rfl) rfl) (pg_tup rfl (pgs_cons (pg_name sc_facing_pairs.nd rfl (.inl rfl) (.inl rfl)) (pgs_cons (pg_tup rfl (pgs_cons (pg_name sc_facing_pairs.nd rfl (.inl rfl) (.inl rfl)) (pgs_cons (pg_name sc_facing_pairs.nd rfl (.inl rfl) (.inl rfl)) pgs_nil rfl) rfl) rfl rfl) pgs_nil rfl) rfl) rfl rfl) (q_one (q_if (q_tcmp (op_eqD hr.units) eq_v (q_var rfl (.inl rfl) nd_kind nc_kind) (q_str rfl) (nomark _)) (q_one (q_expr (q_meth (k := .l) rfl PySem.F.plainAttrs_list PySem.F.slot_list_append PySem.F.type_list_append mt_append append_v (q_var rfl (.inl rfl) nd_found nc_found) (q_acons (q_tup (q_acons (q_var rfl (.inl rfl) nd_number nc_number) (q_acons (q_ix ix_seq ix_v (q_ix ix_seq ix_v (q_var rfl (.inl rfl) nd_spots nc_spots) (q_op op_modN mod_v (q_op add_all add_v (q_var rfl (.inl rfl) nd_place nc_place) q_int) (q_callB len_all len_v rfl (c.fr 13 rfl) boot_len (q_acons (q_var rfl (.inl rfl) nd_spots nc_spots) q_anil rfl) (by decide) nd_len rfl rfl)) (fun _ _ => rfl)) q_int (fun _ _ => rfl)) q_anil rfl) rfl)) q_anil rfl) rfl rfl rfl rfl rfl) rfl)) q_nil)) (fun _ => rfl))
  (q_one (q_ret (q_callTy (tup_of (fl := false)) tup_v rfl (c.fr 10 rfl) boot_tuple (q_acons (q_callB (sort_all rfl (u65 hr)) sorted_v rfl (c.fr 14 rfl) boot_sorted (q_acons (q_var rfl (.inl rfl) nd_found nc_found) q_anil rfl) (by decide) nd_sorted rfl rfl) q_anil rfl) (by decide) nd_tuple rfl rfl))))))
/-! hand_given -/
theorem sc_hand_given : FnScope ["steps"] ["steps"] (defScope s_hand_given) := ⟨rfl, rfl, rfl, by decide +kernel, rfl, by decide +kernel, by decide +kernel⟩
def b_m_hand_given : SM := (sRet (eIf (eTest (eBin (f2 gEq) (eBin (f2 gMod) (eVar 0) (eC (.int 2))) (eC (.int 0)))) (eC (.str [114, 105, 103, 104, 116])) (eC (.str [108, 101, 102, 116]))))
def m_hand_given : Fn := mkD 1 1 b_m_hand_given
theorem ok_hand_given {P : Program} {w : World} {K : PySem.W.Frag} {mg : Str → Option Value} {base : Heap} (c : Facts K mg base) : ∃ fd, FunD K "hand_given" "hand_given" (defArgs s_hand_given) (defBody s_hand_given) (defScope s_hand_given) [] [] (He.ga K "hand_given") fd ∧ L2.Binds K fd ["steps"] [] ∧ FnOk P w K mg base (L2.CX P w) 2 (He.ga K "hand_given") fd ["steps"] (spF (gm K) m_hand_given) := by
  obtain ⟨fd, F⟩ := c.says.def_ 11 (d := d_hand_given) rfl
  refine ⟨fd, F, (F.bindsN fun _ _ _ _ _ _ us hl => match us, hl with | [_], _ => rfl), def_okD (G := gm K) F sc_hand_given rfl rfl fun cdv hcv hcd A outer s H E hr => ?_⟩
  exact (q_one (q_ret (q_ifE (q_tcmp (op_eqD hr.units) eq_v (q_op op_modN mod_v (q_var rfl (.inl rfl) nd_steps nc_steps) q_int) q_int (nomark _)) (q_str rfl) (q_str rfl))))
/-! hands -/
theorem sc_hands : FnScope ["couples", "many", "found", "k"] ["couples", "many"] (defScope s_hands) := ⟨rfl, rfl, rfl, by decide +kernel, rfl, by decide +kernel, by decide +kernel⟩
def b_m_hands : SM := (sSeq (sExpr (eApp m_check_ring (aCons (eVar 0) aNil)))
  (sSeq (sSet 2 (eApp (fLst true) aNil))
  (sSeq (sFor (iRg range1M (aCons (eVar 1) aNil)) (.nm 3) (sExpr (eMeth .l mAppend (eVar 2) (aCons (eBin (f2 gMod) (eVar 3) (eVar 0)) aNil))))
  (sRet (eApp (gTupOf false) (aCons (eVar 2) aNil))))))
def m_hands : Fn := mkD 2 4 b_m_hands
theorem ok_hands {P : Program} {w : World} {K : PySem.W.Frag} {mg : Str → Option Value} {base : Heap} (c : Facts K mg base) : ∃ fd, FunD K "hands" "hands" (defArgs s_hands) (defBody s_hands) (defScope s_hands) [] [] (He.ga K "hands") fd ∧ L2.Binds K fd ["couples", "many"] [] ∧ FnOk P w K mg base (L2.CX P w) 3 (He.ga K "hands") fd ["couples", "many"] (spF (gm K) m_hands) := by
  obtain ⟨fd, F⟩ := c.says.def_ 12 (d := d_hands) rfl
  obtain ⟨fd_check_ring, F_check_ring, b_check_ring, G_check_ring⟩ := ok_check_ring (P := P) (w := w) c
  refine ⟨fd, F, (F.bindsN fun _ _ _ _ _ _ us hl => match us, hl with | [_, _], _ => rfl), def_okD (G := gm K) F sc_hands rfl rfl fun cdv hcv hcd A outer s H E hr => ?_⟩
  exact (q_cons (q_expr (q_call G_check_ring (hr.mono (by decide)) rfl (c.g 3 rfl) F_check_ring.kp b_check_ring (takes_of rfl rfl rfl rfl) (q_acons (q_var rfl (.inl rfl) nd_couples nc_couples) q_anil rfl) nd_check_ring rfl rfl) rfl)
  (q_cons (q_set sc_hands.nd rfl (.inl rfl) (.inl rfl) (q_lst q_anil) rfl rfl)
  (q_cons (q_for rfl (passes_of rfl) rfl (q_range1 rfl (c.fr 9 rfl) (q_acons (q_var rfl (.inl rfl) nd_many nc_many) q_anil rfl) rfl) (pg_name sc_hands.nd rfl (.inl rfl) (.inl rfl)) (q_one (q_expr (q_meth (k := .l) rfl PySem.F.plainAttrs_list PySem.F.slot_list_append PySem.F.type_list_append mt_append append_v (q_var rfl (.inl rfl) nd_found nc_found) (q_acons (q_op op_modN mod_v (q_var rfl (.inl rfl) nd_k nc_k) (q_var rfl (.inl rfl) nd_couples nc_couples)) q_anil rfl) rfl rfl rfl rfl rfl) rfl)) (fun _ => rfl))
  (q_one (q_ret (q_callTy (tup_of (fl := false)) tup_v rfl (c.fr 10 rfl) boot_tuple (q_acons (q_var rfl (.inl rfl) nd_found nc_found) q_anil rfl) (by decide) nd_tuple rfl rfl))))))
/-! hands_home -/
theorem sc_hands_home : FnScope ["couples", "again", "home"] ["couples"] (defScope s_hands_home) := ⟨rfl, rfl, rfl, by decide +kernel, rfl, by decide +kernel, by decide +kernel⟩
def b_m_hands_home : SM := (sSeq (sExpr (eApp m_check_ring (aCons (eVar 0) aNil)))
  (sSeq (sTupN [1, 2] (aCons (eC (.int 1)) (aCons (eC (.int 1)) aNil)))
  (sSeq (wLoop (eTest (eBin (f2 gNotIn) (eApp fTup (aCons (eC (.int 0)) (aCons (eC (.int 0)) aNil))) (eApp m_facing_pairs (aCons (eVar 0) (aCons (eVar 1) aNil))))) (sAug 1 (f2 gAddI) (eC (.int 1))) 40)
  (sSeq (wLoop (eTest (eBin (f2 gNe) (eApp m_chain_spots (aCons (eVar 0) (aCons (eVar 2) aNil))) (eApp m_chain_spots (aCons (eVar 0) (aCons (eC (.int 0)) aNil))))) (sAug 2 (f2 gAddI) (eC (.int 1))) 40)
  (sRet (eApp fTup (aCons (eVar 1) (aCons (eVar 2) aNil))))))))
def m_hands_home : Fn := mkD 1 3 b_m_hands_home
theorem ok_hands_home {P : Program} {w : World} {K : PySem.W.Frag} {mg : Str → Option Value} {base : Heap} (c : Facts K mg base) : ∃ fd, FunD K "hands_home" "hands_home" (defArgs s_hands_home) (defBody s_hands_home) (defScope s_hands_home) [] [] (He.ga K "hands_home") fd ∧ L2.Binds K fd ["couples"] [] ∧ FnOk P w K mg base (L2.CX P w) 5 (He.ga K "hands_home") fd ["couples"] (spF (gm K) m_hands_home) := by
  obtain ⟨fd, F⟩ := c.says.def_ 13 (d := d_hands_home) rfl
  obtain ⟨fd_chain_spots, F_chain_spots, b_chain_spots, G_chain_spots⟩ := ok_chain_spots (P := P) (w := w) c
  obtain ⟨fd_check_ring, F_check_ring, b_check_ring, G_check_ring⟩ := ok_check_ring (P := P) (w := w) c
  obtain ⟨fd_facing_pairs, F_facing_pairs, b_facing_pairs, G_facing_pairs⟩ := ok_facing_pairs (P := P) (w := w) c
  refine ⟨fd, F, (F.bindsN fun _ _ _ _ _ _ us hl => match us, hl with | [_], _ => rfl), def_okD (G := gm K) F sc_hands_home rfl rfl fun cdv hcv hcd A outer s H E hr => ?_⟩
  exact (q_cons (q_expr (q_call G_check_ring (hr.mono (by decide)) rfl (c.g 3 rfl) F_check_ring.kp b_check_ring (takes_of rfl rfl rfl rfl) (q_acons (q_var rfl (.inl rfl) nd_couples nc_couples) q_anil rfl) nd_check_ring rfl rfl) rfl)
  (q_cons (q_tupN (is := [1, 2]) rfl rfl (q_acons q_int (q_acons q_int q_anil rfl) rfl) (pgs_cons (pg_name sc_hands_home.nd rfl (.inl rfl) (.inl rfl)) (pgs_cons (pg_name sc_hands_home.nd rfl (.inl rfl) (.inl rfl)) pgs_nil rfl) rfl) rfl rfl rfl rfl rfl)
  (q_cons (q_while (passes_of rfl) (q_tcmp (op_notInLT (u65 hr)) notIn_v (q_tup (q_acons q_int (q_acons q_int q_anil rfl) rfl)) (q_call G_facing_pairs (hr.mono (by decide)) rfl (c.g 15 rfl) F_facing_pairs.kp b_facing_pairs (takes_of rfl rfl rfl rfl) (q_acons (q_var rfl (.inl rfl) nd_couples nc_couples) (q_acons (q_var rfl (.inl rfl) nd_again nc_again) q_anil rfl) rfl) nd_facing_pairs rfl rfl) (by with_unfolding_all rfl)) (q_one (q_aug sc_hands_home.nd rfl (.inl rfl) (.inl rfl) q_int ip_add addI_v)))
  (q_cons (q_while (passes_of rfl) (q_tcmp (op_neD hr.units) ne_v (q_call G_chain_spots (hr.mono (by decide)) rfl (c.g 11 rfl) F_chain_spots.kp b_chain_spots (takes_of rfl rfl rfl rfl) (q_acons (q_var rfl (.inl rfl) nd_couples nc_couples) (q_acons (q_var rfl (.inl rfl) nd_home nc_home) q_anil rfl) rfl) nd_chain_spots rfl rfl) (q_call G_chain_spots (hr.mono (by decide)) rfl (c.g 11 rfl) F_chain_spots.kp b_chain_spots (takes_of rfl rfl rfl rfl) (q_acons (q_var rfl (.inl rfl) nd_couples nc_couples) (q_acons q_int q_anil rfl) rfl) nd_chain_spots rfl rfl) (nomark _)) (q_one (q_aug sc_hands_home.nd rfl (.inl rfl) (.inl rfl) q_int ip_add addI_v)))
  (q_one (q_ret (q_tup (q_acons (q_var rfl (.inl rfl) nd_again nc_again) (q_acons (q_var rfl (.inl rfl) nd_home nc_home) q_anil rfl) rfl))))))))
/-! meets_in_rings -/
theorem sc_meets_in_rings : FnScope ["inner", "outer", "turns", "found", "turn", "one", "pair"] ["inner", "outer", "turns"] (defScope s_meets_in_rings) := ⟨rfl, rfl, rfl, by decide +kernel, rfl, by decide +kernel, by decide +kernel⟩
def b_m_meets_in_rings : SM := (sSeq (sIf (tOrM (tNotM (eTest (eChain (f2 gLe) (f2 gLe) (eC (.int 1)) (eVar 0) (eC (.int 60))))) (tOrM (eTest (eBin (f2 gLt) (eVar 1) (eC (.int 1)))) (eTest (eBin (f2 gNe) (eBin (f2 gMod) (eVar 1) (eVar 0)) (eC (.int 0)))))) (sRaise 1) sNx)
  (sSeq (sSet 3 (eDNew true))
  (sSeq (sFor (iRg range1M (aCons (eVar 2) aNil)) (.nm 4) (sFor (iRg range1M (aCons (eVar 0) aNil)) (.nm 5) (sSeq (sSet 6 (eApp fTup (aCons (eVar 5) (aCons (eBin (f2 gMod) (eBin (f2 (gAdd false)) (eVar 5) (eVar 4)) (eVar 1)) aNil))))
  (sDPutM (eBin (f2 (gAdd false)) (eDGet2 (eVar 3) (eVar 6) (eC (.int 0))) (eC (.int 1))) (eVar 3) (eVar 6)))))
  (sRet (eApp (gTupOf false) (aCons (eComp false [6] (iSeq (eApp (f1 (gSorted false)) (aCons (eVar 3) aNil))) (.nm 6) cYes (eApp fTup (aCons (eVar 6) (aCons (eDGet (eVar 3) (eVar 6)) aNil)))) aNil))))))
def m_meets_in_rings : Fn := mkD 3 7 b_m_meets_in_rings
theorem ok_meets_in_rings {P : Program} {w : World} {K : PySem.W.Frag} {mg : Str → Option Value} {base : Heap} (c : Facts K mg base) : ∃ fd, FunD K "meets_in_rings" "meets_in_rings" (defArgs s_meets_in_rings) (defBody s_meets_in_rings) (defScope s_meets_in_rings) [] [] (He.ga K "meets_in_rings") fd ∧ L2.Binds K fd ["inner", "outer", "turns"] [] ∧ FnOk P w K mg base (L2.CX P w) 2 (He.ga K "meets_in_rings") fd ["inner", "outer", "turns"] (spF (gm K) m_meets_in_rings) := by
  obtain ⟨fd, F⟩ := c.says.def_ 14 (d := d_meets_in_rings) rfl
  refine ⟨fd, F, (F.bindsN fun _ _ _ _ _ _ us hl => match us, hl with | [_, _, _], _ => rfl), def_okD (G := gm K) F sc_meets_in_rings rfl rfl fun cdv hcv hcd A outer s H E hr => ?_⟩
  exact (q_cons (q_if (PW.pt (q_wor (q_tnot (q_tchain op_le le_v op_le le_v q_int (q_var rfl (.inl rfl) nd_inner nc_inner) (q_gint rfl (c.it 0 rfl) nd_GREATEST) (by with_unfolding_all rfl))) (q_wor (q_tcmp op_lt lt_v (q_var rfl (.inl rfl) nd_outer nc_outer) q_int (nomark _)) (q_wor1 (q_tcmp (op_neD hr.units) ne_v (q_op op_modN mod_v (q_var rfl (.inl rfl) nd_outer nc_outer) (q_var rfl (.inl rfl) nd_inner nc_inner)) q_int (nomark _)))))) (q_one (q_raiseC rfl rfl (takes_of rfl rfl rfl rfl) (c.ex 1 rfl).1 (c.ex 1 rfl).2.1 (c.ex 1 rfl).2.2.1 (c.ex 1 rfl).2.2.2 (c.g 2 rfl) rfl nd_BadPlace)) q_nil)
  (q_cons (q_set sc_meets_in_rings.nd rfl (.inr rfl) (.inl rfl) q_dnewT rfl rfl)
  (q_cons (q_for rfl (passes_of rfl) rfl (q_range1 rfl (c.fr 9 rfl) (q_acons (q_var rfl (.inl rfl) nd_turns nc_turns) q_anil rfl) rfl) (pg_name sc_meets_in_rings.nd rfl (.inl rfl) (.inl rfl)) (q_one (q_for rfl (passes_of rfl) rfl (q_range1 rfl (c.fr 9 rfl) (q_acons (q_var rfl (.inl rfl) nd_inner nc_inner) q_anil rfl) rfl) (pg_name sc_meets_in_rings.nd rfl (.inl rfl) (.inl rfl)) (q_cons (q_set sc_meets_in_rings.nd rfl (.inl rfl) (.inl rfl) (q_tup (q_acons (q_var rfl (.inl rfl) nd_one nc_one) (q_acons (q_op op_modN mod_v (q_op add_all add_v (q_var rfl (.inl rfl) nd_one nc_one) (q_var rfl (.inl rfl) nd_turn nc_turn)) (q_var rfl (.inl rfl) nd_outer nc_outer)) q_anil rfl) rfl)) rfl rfl)
  (q_one (q_dput (u65 hr) (q_op add_all add_v (q_dget2 (u65 hr) (q_var rfl (.inr (.inl rfl)) nd_found nc_found) (q_var rfl (.inl rfl) nd_pair nc_pair) q_int ⟨rfl, rfl, rfl, rfl⟩) q_int) (q_var rfl (.inr (.inl rfl)) nd_found nc_found) (q_var rfl (.inl rfl) nd_pair nc_pair) rfl))) (fun _ => rfl))) (fun _ => rfl))
  (q_one (q_ret (q_callTy (tup_of (fl := false)) tup_v rfl (c.fr 10 rfl) boot_tuple (q_acons (q_comp rfl rfl sc_meets_in_rings.nd (q_seq rfl (q_callB (sort_all rfl (u65 hr)) sorted_v rfl (c.fr 14 rfl) boot_sorted (q_acons (q_var rfl (.inr (.inl rfl)) nd_found nc_found) q_anil rfl) (by decide) nd_sorted rfl rfl)) (own := [("pair", 6)]) (blkOk_by rfl) rfl (fun s H C cl fp => (pg_name sc_meets_in_rings.nd rfl (.inl rfl) (.inr rfl))) (fun s H C cl fp => q_yes) (fun s H C cl fp => (q_tup (q_acons (q_var rfl (.inl rfl) nd_pair nc_pair) (q_acons (q_dget (u65 hr) (q_var rfl (.inr (.inl rfl)) nd_found nc_found) (q_var rfl (.inl rfl) nd_pair nc_pair) (fun _ _ => rfl)) q_anil rfl) rfl))) (fun _ => rfl)) q_anil rfl) (by decide) nd_tuple rfl rfl))))))
/-! promenade -/
theorem sc_promenade : FnScope ["couples", "steps", "many", "place"] ["couples", "steps"] (defScope s_promenade) := ⟨rfl, rfl, rfl, by decide +kernel, rfl, by decide +kernel, by decide +kernel⟩
def b_m_promenade : SM := (sSeq (sExpr (eApp m_check_ring (aCons (eVar 0) aNil)))
  (sSeq (sSet 2 (eBin (f2 (gMul false)) (eC (.int 2)) (eVar 0)))
  (sRet (eApp (gTupOf false) (aCons (eComp false [3] (iRg range1M (aCons (eVar 2) aNil)) (.nm 3) cYes (eBin (f2 gMod) (eBin (f2 (gAdd false)) (eVar 3) (eBin (f2 (gMul false)) (eC (.int 2)) (eVar 1))) (eVar 2))) aNil)))))
def m_promenade : Fn := mkD 2 4 b_m_promenade
theorem ok_promenade {P : Program} {w : World} {K : PySem.W.Frag} {mg : Str → Option Value} {base : Heap} (c : Facts K mg base) : ∃ fd, FunD K "promenade" "promenade" (defArgs s_promenade) (defBody s_promenade) (defScope s_promenade) [] [] (He.ga K "promenade") fd ∧ L2.Binds K fd ["couples", "steps"] [] ∧ FnOk P w K mg base (L2.CX P w) 3 (He.ga K "promenade") fd ["couples", "steps"] (spF (gm K) m_promenade) := by
  obtain ⟨fd, F⟩ := c.says.def_ 15 (d := d_promenade) rfl
  obtain ⟨fd_check_ring, F_check_ring, b_check_ring, G_check_ring⟩ := ok_check_ring (P := P) (w := w) c
  refine ⟨fd, F, (F.bindsN fun _ _ _ _ _ _ us hl => match us, hl with | [_, _], _ => rfl), def_okD (G := gm K) F sc_promenade rfl rfl fun cdv hcv hcd A outer s H E hr => ?_⟩
  exact (q_cons (q_expr (q_call G_check_ring (hr.mono (by decide)) rfl (c.g 3 rfl) F_check_ring.kp b_check_ring (takes_of rfl rfl rfl rfl) (q_acons (q_var rfl (.inl rfl) nd_couples nc_couples) q_anil rfl) nd_check_ring rfl rfl) rfl)
  (q_cons (q_set sc_promenade.nd rfl (.inr rfl) (.inl rfl) (q_op mul_all mul_v q_int (q_var rfl (.inl rfl) nd_couples nc_couples)) rfl rfl)
  (q_one (q_ret (q_callTy (tup_of (fl := false)) tup_v rfl (c.fr 10 rfl) boot_tuple (q_acons (q_comp rfl rfl sc_promenade.nd (q_range1 rfl (c.fr 9 rfl) (q_acons (q_var rfl (.inr (.inl rfl)) nd_many nc_many) q_anil rfl) rfl) (own := [("place", 3)]) (blkOk_by rfl) rfl (fun s H C cl fp => (pg_name sc_promenade.nd rfl (.inl rfl) (.inr rfl))) (fun s H C cl fp => q_yes) (fun s H C cl fp => (q_op op_modN mod_v (q_op add_all add_v (q_var rfl (.inl rfl) nd_place nc_place) (q_op mul_all mul_v q_int (q_var rfl (.inr (.inl rfl)) nd_steps nc_steps))) (q_var rfl (.inr (.inl rfl)) nd_many nc_many))) (fun _ => rfl)) q_anil rfl) (by decide) nd_tuple rfl rfl)))))
/-! _law_rest1 -/
theorem sc_law_rest1 : FnScope ["dice", "many", "turns", "spots", "k", "walk", "outer", "due", "turn", "pair"] ["dice", "many", "turns"] (defScope s_law_rest1) := ⟨rfl, rfl, rfl, by decide +kernel, rfl, by decide +kernel, by decide +kernel⟩
def k_law_rest1_2 : SM := (sSeq (sFor (iRg range1M (aCons (eVar 2) aNil)) (.nm 8) (sFor (iRg range1M (aCons (eVar 1) aNil)) (.nm 4) (sDPutM (eBin (f2 (gAdd false)) (eDGet2 (eVar 7) (eApp fTup (aCons (eVar 4) (aCons (eBin (f2 gMod) (eBin (f2 (gAdd false)) (eVar 4) (eVar 8)) (eVar 6)) aNil))) (eC (.int 0))) (eC (.int 1))) (eVar 7) (eApp fTup (aCons (eVar 4) (aCons (eBin (f2 gMod) (eBin (f2 (gAdd false)) (eVar 4) (eVar 8)) (eVar 6)) aNil))))))
  (sSeq (sIf (eTest (eBin (f2 gNe) (eApp (f1 (gList false)) (aCons (eApp m_meets_in_rings (aCons (eVar 1) (aCons (eVar 6) (aCons (eVar 2) aNil)))) aNil)) (eComp false [9] (iSeq (eApp (f1 (gSorted false)) (aCons (eVar 7) aNil))) (.nm 9) cYes (eApp fTup (aCons (eVar 9) (aCons (eDGet (eVar 7) (eVar 9)) aNil)))))) (sRet (eC (.bl false))) sNx)
  (sSeq (sIf (tNotM (eTest (eApp m_law_cases1 aNil))) (sRet (eC (.bl false))) sNx)
  (sSeq (sIf (eTest (eBin (f2 gNe) (eTold rsL hsL (eApp m_corner (aCons (eVar 1) (aCons (eVar 1) aNil)))) (eC (.str [112, 108, 97, 99, 101])))) (sRet (eC (.bl false))) sNx)
  (sSeq (sIf (eTest (eBin (f2 gNe) (eTold rsL hsL (eApp m_meets_in_rings (aCons (eC (.int 2)) (aCons (eC (.int 3)) (aCons (eC (.int 1)) aNil))))) (eC (.str [112, 108, 97, 99, 101])))) (sRet (eC (.bl false))) sNx)
  (sRet (eC (.bl true))))))))
def g_law_rest1_1 : SM := (sTupN [6, 7] (aCons (eBin (f2 (gMul false)) (eVar 1) (eBin (f2 (gAdd false)) (eC (.int 1)) (eApp m_law_roll (aCons (eVar 0) (aCons (eC (.int 2)) aNil))))) (aCons (eDNew true) aNil)))
def k_law_rest1_1 : SM := (sOnly [0, 1, 2] (sSeq g_law_rest1_1 k_law_rest1_2))
def g_law_rest1_0 : List SM := [(sSet 3 (eBin (f2 (gMul true)) (eApp (fLst false) (aCons (eC (.int 0)) aNil)) (eBin (f2 (gMul false)) (eC (.int 2)) (eVar 1)))),
  (sFor (iRg range1M (aCons (eVar 1) aNil)) (.nm 4) (sSeq (sSetIx (eApp fTup (aCons (eC (.str [108, 97, 114, 107])) (aCons (eVar 4) aNil))) (eVar 3) (eBin (f2 gMod) (eBin (f2 (gAdd false)) (eBin (f2 (gMul false)) (eC (.int 2)) (eVar 4)) (eVar 2)) (eBin (f2 (gMul false)) (eC (.int 2)) (eVar 1))))
  (sSetIx (eApp fTup (aCons (eC (.str [114, 111, 98, 105, 110])) (aCons (eVar 4) aNil))) (eVar 3) (eBin (f2 gMod) (eBin (f2 gSub) (eBin (f2 (gAdd false)) (eBin (f2 (gMul false)) (eC (.int 2)) (eVar 4)) (eC (.int 1))) (eVar 2)) (eBin (f2 (gMul false)) (eC (.int 2)) (eVar 1)))))),
  (sIf (eTest (eBin (f2 gNe) (eApp (f1 (gList false)) (aCons (eApp m_chain_spots (aCons (eVar 1) (aCons (eVar 2) aNil))) aNil)) (eVar 3))) (sRet (eC (.bl false))) sNx),
  (sIf (eTest (eBin (f2 gNe) (eApp (f1 (gList false)) (aCons (eApp m_facing_pairs (aCons (eVar 1) (aCons (eVar 2) aNil))) aNil)) (eComp false [4] (iRg range1M (aCons (eVar 1) aNil)) (.nm 4) cYes (eApp fTup (aCons (eVar 4) (aCons (eBin (f2 gMod) (eBin (f2 (gAdd false)) (eVar 4) (eVar 2)) (eVar 1)) aNil)))))) (sRet (eC (.bl false))) sNx),
  (sIf (tOrM (eTest (eBin (f2 gNe) (eApp m_hands_home (aCons (eVar 1) aNil)) (eApp fTup (aCons (eVar 1) (aCons (eBin (f2 (gMul false)) (eC (.int 2)) (eVar 1)) aNil))))) (eTest (eBin (f2 gNe) (eApp (f1 (gList false)) (aCons (eApp m_hands (aCons (eVar 1) (aCons (eVar 2) aNil))) aNil)) (eComp false [4] (iRg range1M (aCons (eVar 2) aNil)) (.nm 4) cYes (eBin (f2 gMod) (eVar 4) (eVar 1)))))) (sRet (eC (.bl false))) sNx),
  (sIf (tOrM (eTest (eBin (f2 gNe) (eApp m_hand_given (aCons (eVar 2) aNil)) (eBin (f2 gIx) (eApp (fLst false) (aCons (eC (.str [114, 105, 103, 104, 116])) (aCons (eC (.str [108, 101, 102, 116])) aNil))) (eBin (f2 gMod) (eVar 2) (eC (.int 2)))))) (eTest (eBin (f2 gNe) (eApp m_corner (aCons (eVar 1) (aCons (eC (.int 0)) aNil))) (eBin (f2 gSub) (eVar 1) (eC (.int 1)))))) (sRet (eC (.bl false))) sNx),
  (sSet 5 (eApp m_promenade (aCons (eVar 1) (aCons (eVar 2) aNil)))),
  (sIf (eTest (eBin (f2 gNe) (eComp false [4] (iRg range1M (aCons (eBin (f2 (gMul false)) (eC (.int 2)) (eVar 1)) aNil)) (.nm 4) (eTest (eBin (f2 gNe) (eBin (f2 gIx) (eVar 5) (eVar 4)) (eBin (f2 gMod) (eBin (f2 (gAdd false)) (eVar 4) (eBin (f2 (gMul false)) (eC (.int 2)) (eVar 2))) (eBin (f2 (gMul false)) (eC (.int 2)) (eVar 1))))) (eVar 4)) (eApp (fLst false) aNil))) (sRet (eC (.bl false))) sNx),
  (sIf (eTest (eBin (f2 gNe) (eTold rsL hsL (eApp m_across (aCons (eVar 1) (aCons (eC (.int 1)) aNil)))) (eIf (eTest (eBin (f2 gEq) (eBin (f2 gMod) (eVar 1) (eC (.int 2))) (eC (.int 0)))) (eBin (f2 gMod) (eBin (f2 (gAdd false)) (eC (.int 1)) (eVar 1)) (eBin (f2 (gMul false)) (eC (.int 2)) (eVar 1))) (eC (.str [112, 108, 97, 99, 101]))))) (sRet (eC (.bl false))) sNx),
  (sIf (eTest (eBin (f2 gNe) (eApp (f1 (gList false)) (aCons (eApp m_corner_dances (aCons (eVar 1) (aCons (eVar 2) aNil))) aNil)) (eComp false [4] (iRg range1M (aCons (eVar 1) aNil)) (.nm 4) cYes (eApp m_partner (aCons (eVar 1) (aCons (eVar 4) (aCons (eC (.int 1)) (aCons (eVar 2) aNil)))))))) (sRet (eC (.bl false))) sNx)]
def k_law_rest1_0 : SM := (sSeqs g_law_rest1_0 k_law_rest1_1)
def b_m_law_rest1 : SM := k_law_rest1_0
def m_law_rest1 : Fn := mkD 3 10 b_m_law_rest1
theorem ok_law_rest1 {P : Program} {w : World} {K : PySem.W.Frag} {mg : Str → Option Value} {base : Heap} (c : Facts K mg base) : ∃ fd, FunD K "_law_rest1" "_law_rest1" (defArgs s_law_rest1) (defBody s_law_rest1) (defScope s_law_rest1) [] [] (He.ga K "_law_rest1") fd ∧ L2.Binds K fd ["dice", "many", "turns"] [] ∧ FnOk P w K mg base (L2.CX P w) 11 (He.ga K "_law_rest1") fd ["dice", "many", "turns"] (spF (gm K) m_law_rest1) := by
  obtain ⟨fd, F⟩ := c.says.def_ 16 (d := d_law_rest1) rfl
  obtain ⟨fd_law_cases1, F_law_cases1, b_law_cases1, G_law_cases1⟩ := ok_law_cases1 (P := P) (w := w) c
  obtain ⟨fd_law_roll, F_law_roll, b_law_roll, G_law_roll⟩ := ok_law_roll (P := P) (w := w) c
  obtain ⟨fd_law_told, F_law_told⟩ := c.says.def_ 0 (d := d_law_told) rfl
  have b_law_told : L2.Binds K fd_law_told ["what"] [] := F_law_told.bindsN fun _ _ _ _ _ _ us hl => match us, hl with | [_], _ => rfl
  obtain ⟨fd_across, F_across, b_across, G_across⟩ := ok_across (P := P) (w := w) c
  obtain ⟨fd_chain_spots, F_chain_spots, b_chain_spots, G_chain_spots⟩ := ok_chain_spots (P := P) (w := w) c
  obtain ⟨fd_corner, F_corner, b_corner, G_corner⟩ := ok_corner (P := P) (w := w) c
  obtain ⟨fd_corner_dances, F_corner_dances, b_corner_dances, G_corner_dances⟩ := ok_corner_dances (P := P) (w := w) c
  obtain ⟨fd_facing_pairs, F_facing_pairs, b_facing_pairs, G_facing_pairs⟩ := ok_facing_pairs (P := P) (w := w) c
  obtain ⟨fd_hand_given, F_hand_given, b_hand_given, G_hand_given⟩ := ok_hand_given (P := P) (w := w) c
  obtain ⟨fd_hands, F_hands, b_hands, G_hands⟩ := ok_hands (P := P) (w := w) c
  obtain ⟨fd_hands_home, F_hands_home, b_hands_home, G_hands_home⟩ := ok_hands_home (P := P) (w := w) c
  obtain ⟨fd_meets_in_rings, F_meets_in_rings, b_meets_in_rings, G_meets_in_rings⟩ := ok_meets_in_rings (P := P) (w := w) c
  obtain ⟨fd_partner, F_partner, b_partner, G_partner⟩ := ok_partner (P := P) (w := w) c
  obtain ⟨fd_promenade, F_promenade, b_promenade, G_promenade⟩ := ok_promenade (P := P) (w := w) c
  obtain ⟨oc, od, dV, kV, doc, pm, an, cdv0, ct0, osl, efd, lk, hcd0, _, _⟩ := F.ex
  refine ⟨fd, F, (F.bindsN fun _ _ _ _ _ _ us hl => match us, hl with | [_, _, _], _ => rfl), def_okD (G := gm K) F sc_law_rest1 rfl rfl fun cdv hcv hcd A outer s H E hr => ?_⟩
  obtain ⟨ctv, ec⟩ := He.codeIn_ref hcd
  subst ec
  have e2 : He.codeOf K ("_law_rest1", none) = ctv := He.codeOf_eq lk hcv
  have TB : LamX.TabB base mg ctv (He.cT K ("_law_rest1", none)).2 := by rw [← e2]; exact c.tabs ("_law_rest1", none) (.tail _ (.head _))
  have hcode : (Value.ref ctv) = .ref ctv := rfl
  have hmT : ((He.cT K ("_law_rest1", none)).2, (envOfC "_law_rest1" (defScope s_law_rest1) 0 0 .none).qual ++ "<lambda>") ∈ (gm K).T := (.tail _ (.head _))
  have hu := tab_uniq c.nodup hmT
  exact (q_cons (q_set sc_law_rest1.nd rfl (.inl rfl) (.inl rfl) (q_op mul_all mul_v (q_lst (q_acons q_int q_anil rfl)) (q_op mul_all mul_v q_int (q_var rfl (.inr (.inl rfl)) nd_many nc_many))) rfl rfl)
  (q_cons (q_for rfl (passes_of rfl) rfl (q_range1 rfl (c.fr 9 rfl) (q_acons (q_var rfl (.inr (.inl rfl)) nd_many nc_many) q_anil rfl) rfl) (pg_name sc_law_rest1.nd rfl (.inl rfl) (.inl rfl)) (q_cons (q_setIx (q_tup (q_acons (q_str rfl) (q_acons (q_var rfl (.inl rfl) nd_k nc_k) q_anil rfl) rfl)) (q_var rfl (.inl rfl) nd_spots nc_spots) (q_op op_modN mod_v (q_op add_all add_v (q_op mul_all mul_v q_int (q_var rfl (.inl rfl) nd_k nc_k)) (q_var rfl (.inr (.inl rfl)) nd_turns nc_turns)) (q_op mul_all mul_v q_int (q_var rfl (.inr (.inl rfl)) nd_many nc_many))) rfl rfl rfl (fun _ => rfl))
  (q_one (q_setIx (q_tup (q_acons (q_str rfl) (q_acons (q_var rfl (.inl rfl) nd_k nc_k) q_anil rfl) rfl)) (q_var rfl (.inl rfl) nd_spots nc_spots) (q_op op_modN mod_v (q_op op_sub sub_v (q_op add_all add_v (q_op mul_all mul_v q_int (q_var rfl (.inl rfl) nd_k nc_k)) q_int) (q_var rfl (.inr (.inl rfl)) nd_turns nc_turns)) (q_op mul_all mul_v q_int (q_var rfl (.inr (.inl rfl)) nd_many nc_many))) rfl rfl rfl (fun _ => rfl)))) (fun _ => rfl))
  (q_cons (q_if (q_tcmp (op_neD hr.units) ne_v (q_callTy call_list_of list_v rfl (c.fr 17 rfl) boot_list (q_acons (q_call G_chain_spots (hr.mono (by decide)) rfl (c.g 11 rfl) F_chain_spots.kp b_chain_spots (takes_of rfl rfl rfl rfl) (q_acons (q_var rfl (.inr (.inl rfl)) nd_many nc_many) (q_acons (q_var rfl (.inr (.inl rfl)) nd_turns nc_turns) q_anil rfl) rfl) nd_chain_spots rfl rfl) q_anil rfl) (by decide) nd_list rfl rfl) (q_var rfl (.inl rfl) nd_spots nc_spots) (nomark _)) (q_one (q_ret q_bl)) q_nil)
  (q_cons (q_if (q_tcmp (op_neD hr.units) ne_v (q_callTy call_list_of list_v rfl (c.fr 17 rfl) boot_list (q_acons (q_call G_facing_pairs (hr.mono (by decide)) rfl (c.g 15 rfl) F_facing_pairs.kp b_facing_pairs (takes_of rfl rfl rfl rfl) (q_acons (q_var rfl (.inr (.inl rfl)) nd_many nc_many) (q_acons (q_var rfl (.inr (.inl rfl)) nd_turns nc_turns) q_anil rfl) rfl) nd_facing_pairs rfl rfl) q_anil rfl) (by decide) nd_list rfl rfl) (q_comp rfl rfl sc_law_rest1.nd (q_range1 rfl (c.fr 9 rfl) (q_acons (q_var rfl (.inr (.inl rfl)) nd_many nc_many) q_anil rfl) rfl) (own := [("k", 4)]) (blkOk_by rfl) rfl (fun s H C cl fp => (pg_name sc_law_rest1.nd rfl (.inl rfl) (.inr rfl))) (fun s H C cl fp => q_yes) (fun s H C cl fp => (q_tup (q_acons (q_var rfl (.inl rfl) nd_k nc_k) (q_acons (q_op op_modN mod_v (q_op add_all add_v (q_var rfl (.inl rfl) nd_k nc_k) (q_var rfl (.inr (.inl rfl)) nd_turns nc_turns)) (q_var rfl (.inr (.inl rfl)) nd_many nc_many)) q_anil rfl) rfl))) (fun _ => rfl)) (nomark _)) (q_one (q_ret q_bl)) q_nil)
  (q_cons (q_if (PW.pt (q_wor (q_tcmp (op_neD hr.units) ne_v (q_call G_hands_home (hr.mono (by decide)) rfl (c.g 21 rfl) F_hands_home.kp b_hands_home (takes_of rfl rfl rfl rfl) (q_acons (q_var rfl (.inr (.inl rfl)) nd_many nc_many) q_anil rfl) nd_hands_home rfl rfl) (q_tup (q_acons (q_var rfl (.inr (.inl rfl)) nd_many nc_many) (q_acons (q_op mul_all mul_v q_int (q_var rfl (.inr (.inl rfl)) nd_many nc_many)) q_anil rfl) rfl)) (nomark _)) (q_wor1 (q_tcmp (op_neD hr.units) ne_v (q_callTy call_list_of list_v rfl (c.fr 17 rfl) boot_list (q_acons (q_call G_hands (hr.mono (by decide)) rfl (c.g 22 rfl) F_hands.kp b_hands (takes_of rfl rfl rfl rfl) (q_acons (q_var rfl (.inr (.inl rfl)) nd_many nc_many) (q_acons (q_var rfl (.inr (.inl rfl)) nd_turns nc_turns) q_anil rfl) rfl) nd_hands rfl rfl) q_anil rfl) (by decide) nd_list rfl rfl) (q_comp rfl rfl sc_law_rest1.nd (q_range1 rfl (c.fr 9 rfl) (q_acons (q_var rfl (.inr (.inl rfl)) nd_turns nc_turns) q_anil rfl) rfl) (own := [("k", 4)]) (blkOk_by rfl) rfl (fun s H C cl fp => (pg_name sc_law_rest1.nd rfl (.inl rfl) (.inr rfl))) (fun s H C cl fp => q_yes) (fun s H C cl fp => (q_op op_modN mod_v (q_var rfl (.inl rfl) nd_k nc_k) (q_var rfl (.inr (.inl rfl)) nd_many nc_many))) (fun _ => rfl)) (nomark _))))) (q_one (q_ret q_bl)) q_nil)
  (q_cons (q_if (PW.pt (q_wor (q_tcmp (op_neD hr.units) ne_v (q_call G_hand_given (hr.mono (by decide)) rfl (c.g 23 rfl) F_hand_given.kp b_hand_given (takes_of rfl rfl rfl rfl) (q_acons (q_var rfl (.inr (.inl rfl)) nd_turns nc_turns) q_anil rfl) nd_hand_given rfl rfl) (q_ix ix_seq ix_v (q_lst (q_acons (q_str rfl) (q_acons (q_str rfl) q_anil rfl) rfl)) (q_op op_modN mod_v (q_var rfl (.inr (.inl rfl)) nd_turns nc_turns) q_int) (fun _ _ => rfl)) (nomark _)) (q_wor1 (q_tcmp (op_neD hr.units) ne_v (q_call G_corner (hr.mono (by decide)) rfl (c.g 19 rfl) F_corner.kp b_corner (takes_of rfl rfl rfl rfl) (q_acons (q_var rfl (.inr (.inl rfl)) nd_many nc_many) (q_acons q_int q_anil rfl) rfl) nd_corner rfl rfl) (q_op op_sub sub_v (q_var rfl (.inr (.inl rfl)) nd_many nc_many) q_int) (nomark _))))) (q_one (q_ret q_bl)) q_nil)
  (q_cons (q_set sc_law_rest1.nd rfl (.inr rfl) (.inl rfl) (q_call G_promenade (hr.mono (by decide)) rfl (c.g 24 rfl) F_promenade.kp b_promenade (takes_of rfl rfl rfl rfl) (q_acons (q_var rfl (.inr (.inl rfl)) nd_many nc_many) (q_acons (q_var rfl (.inr (.inl rfl)) nd_turns nc_turns) q_anil rfl) rfl) nd_promenade rfl rfl) rfl rfl)
  (q_cons (q_if (q_tcmp (op_neD hr.units) ne_v (q_comp rfl rfl sc_law_rest1.nd (q_range1 rfl (c.fr 9 rfl) (q_acons (q_op mul_all mul_v q_int (q_var rfl (.inr (.inl rfl)) nd_many nc_many)) q_anil rfl) rfl) (own := [("k", 4)]) (blkOk_by rfl) rfl (fun s H C cl fp => (pg_name sc_law_rest1.nd rfl (.inl rfl) (.inr rfl))) (fun s H C cl fp => (q_test1 (q_tcmp (op_neD hr.units) ne_v (q_ix ix_seq ix_v (q_var rfl (.inr (.inl rfl)) nd_walk nc_walk) (q_var rfl (.inl rfl) nd_k nc_k) (fun _ _ => rfl)) (q_op op_modN mod_v (q_op add_all add_v (q_var rfl (.inl rfl) nd_k nc_k) (q_op mul_all mul_v q_int (q_var rfl (.inr (.inl rfl)) nd_turns nc_turns))) (q_op mul_all mul_v q_int (q_var rfl (.inr (.inl rfl)) nd_many nc_many))) (nomark _)))) (fun s H C cl fp => (q_var rfl (.inl rfl) nd_k nc_k)) (fun _ => rfl)) (q_lst q_anil) (nomark _)) (q_one (q_ret q_bl)) q_nil)
  (q_cons (q_if (q_tcmp (op_neD hr.units) ne_v (q_told (rs := rsL) (hs := hsL) (k := 7) rfl F_law_told b_law_told sc_law_told rfl (.inl rfl) (fun cdg s H => hds_ok c P w _ _ cdg s H) (told_ok K) (told_ex c) rfl (c.g 6 rfl) TB hcode hmT hu (hr.mono (by decide)) (LamX.lamS_by rfl) rfl (fun _ _ _ _ _ => rfl) (fun A outer s H E f c' hrl => (q_call G_across (hrl.mono (by decide)) rfl (c.g 25 rfl) F_across.kp b_across (takes_of rfl rfl rfl rfl) (q_acons (q_var rfl (.inr (.inr rfl)) nd_many nc_many) (q_acons q_int q_anil rfl) rfl) nd_across rfl rfl)) nd_law_told_u nd_what nc_what) (q_ifE (q_tcmp (op_eqD hr.units) eq_v (q_op op_modN mod_v (q_var rfl (.inr (.inl rfl)) nd_many nc_many) q_int) q_int (nomark _)) (q_op op_modN mod_v (q_op add_all add_v q_int (q_var rfl (.inr (.inl rfl)) nd_many nc_many)) (q_op mul_all mul_v q_int (q_var rfl (.inr (.inl rfl)) nd_many nc_many))) (q_str rfl)) (nomark _)) (q_one (q_ret q_bl)) q_nil)
  (q_cons (q_if (q_tcmp (op_neD hr.units) ne_v (q_callTy call_list_of list_v rfl (c.fr 17 rfl) boot_list (q_acons (q_call G_corner_dances (hr.mono (by decide)) rfl (c.g 26 rfl) F_corner_dances.kp b_corner_dances (takes_of rfl rfl rfl rfl) (q_acons (q_var rfl (.inr (.inl rfl)) nd_many nc_many) (q_acons (q_var rfl (.inr (.inl rfl)) nd_turns nc_turns) q_anil rfl) rfl) nd_corner_dances rfl rfl) q_anil rfl) (by decide) nd_list rfl rfl) (q_comp rfl rfl sc_law_rest1.nd (q_range1 rfl (c.fr 9 rfl) (q_acons (q_var rfl (.inr (.inl rfl)) nd_many nc_many) q_anil rfl) rfl) (own := [("k", 4)]) (blkOk_by rfl) rfl (fun s H C cl fp => (pg_name sc_law_rest1.nd rfl (.inl rfl) (.inr rfl))) (fun s H C cl fp => q_yes) (fun s H C cl fp => (q_call G_partner (hr.mono (by decide)) rfl (c.g 7 rfl) F_partner.kp b_partner LamX.takes0 (q_acons (q_var rfl (.inr (.inl rfl)) nd_many nc_many) (q_acons (q_var rfl (.inl rfl) nd_k nc_k) (q_acons q_int (q_acons (q_var rfl (.inr (.inl rfl)) nd_turns nc_turns) q_anil rfl) rfl) rfl) rfl) nd_partner rfl rfl)) (fun _ => rfl)) (nomark _)) (q_one (q_ret q_bl)) q_nil)
  (q_only (q_cons (q_tupN (is := [6, 7]) rfl rfl (q_acons (q_op mul_all mul_v (q_var rfl (.inr (.inl rfl)) nd_many nc_many) (q_op add_all add_v q_int (q_call G_law_roll (hr.mono (by decide)) rfl (c.g 20 rfl) F_law_roll.kp b_law_roll (takes_of rfl rfl rfl rfl) (q_acons (q_var rfl (.inl rfl) nd_dice nc_dice) (q_acons q_int q_anil rfl) rfl) nd_law_roll_u rfl rfl))) (q_acons q_dnewT q_anil rfl) rfl) (pgs_cons (pg_name sc_law_rest1.nd rfl (.inl rfl) (.inl rfl)) (pgs_cons (pg_name sc_law_rest1.nd rfl (.inr rfl) (.inl rfl)) pgs_nil rfl) rfl) rfl rfl rfl rfl rfl)
  (q_cons (q_for rfl (passes_of rfl) rfl (q_range1 rfl (c.fr 9 rfl) (q_acons (q_var rfl (.inr (.inl rfl)) nd_turns nc_turns) q_anil rfl) rfl) (pg_name sc_law_rest1.nd rfl (.inl rfl) (.inl rfl)) (q_one (q_for rfl (passes_of rfl) rfl (q_range1 rfl (c.fr 9 rfl) (q_acons (q_var rfl (.inr (.inl rfl)) nd_many nc_many) q_anil rfl) rfl) (pg_name sc_law_rest1.nd rfl (.inl rfl) (.inl rfl)) (q_one (q_dput (u65 hr) (q_op add_all add_v (q_dget2 (u65 hr) (q_var rfl (.inr (.inl rfl)) nd_due nc_due) (q_tup (q_acons (q_var rfl (.inl rfl) nd_k nc_k) (q_acons (q_op op_modN mod_v (q_op add_all add_v (q_var rfl (.inl rfl) nd_k nc_k) (q_var rfl (.inl rfl) nd_turn nc_turn)) (q_var rfl (.inl rfl) nd_outer nc_outer)) q_anil rfl) rfl)) q_int ⟨rfl, rfl, rfl, rfl⟩) q_int) (q_var rfl (.inr (.inl rfl)) nd_due nc_due) (q_tup (q_acons (q_var rfl (.inl rfl) nd_k nc_k) (q_acons (q_op op_modN mod_v (q_op add_all add_v (q_var rfl (.inl rfl) nd_k nc_k) (q_var rfl (.inl rfl) nd_turn nc_turn)) (q_var rfl (.inl rfl) nd_outer nc_outer)) q_anil rfl) rfl)) rfl)) (fun _ => rfl))) (fun _ => rfl))
  (q_cons (q_if (q_tcmp (op_neD hr.units) ne_v (q_callTy call_list_of list_v rfl (c.fr 17 rfl) boot_list (q_acons (q_call G_meets_in_rings (hr.mono (by decide)) rfl (c.g 16 rfl) F_meets_in_rings.kp b_meets_in_rings (takes_of rfl rfl rfl rfl) (q_acons (q_var rfl (.inr (.inl rfl)) nd_many nc_many) (q_acons (q_var rfl (.inl rfl) nd_outer nc_outer) (q_acons (q_var rfl (.inr (.inl rfl)) nd_turns nc_turns) q_anil rfl) rfl) rfl) nd_meets_in_rings rfl rfl) q_anil rfl) (by decide) nd_list rfl rfl) (q_comp rfl rfl sc_law_rest1.nd (q_seq rfl (q_callB (sort_all rfl (u65 hr)) sorted_v rfl (c.fr 14 rfl) boot_sorted (q_acons (q_var rfl (.inr (.inl rfl)) nd_due nc_due) q_anil rfl) (by decide) nd_sorted rfl rfl)) (own := [("pair", 9)]) (blkOk_by rfl) rfl (fun s H C cl fp => (pg_name sc_law_rest1.nd rfl (.inl rfl) (.inr rfl))) (fun s H C cl fp => q_yes) (fun s H C cl fp => (q_tup (q_acons (q_var rfl (.inl rfl) nd_pair nc_pair) (q_acons (q_dget (u65 hr) (q_var rfl (.inr (.inl rfl)) nd_due nc_due) (q_var rfl (.inl rfl) nd_pair nc_pair) (fun _ _ => rfl)) q_anil rfl) rfl))) (fun _ => rfl)) (nomark _)) (q_one (q_ret q_bl)) q_nil)
  (q_cons (q_if (q_tnot (q_tval (q_call0 G_law_cases1 (hr.mono (by decide)) rfl (c.g 18 rfl) F_law_cases1.kp b_law_cases1 (takes_of rfl rfl rfl rfl) nd_law_cases1_u) (fun _ => rfl))) (q_one (q_ret q_bl)) q_nil)
  (q_cons (q_if (q_tcmp (op_neD hr.units) ne_v (q_told (rs := rsL) (hs := hsL) (k := 7) rfl F_law_told b_law_told sc_law_told rfl (.inl rfl) (fun cdg s H => hds_ok c P w _ _ cdg s H) (told_ok K) (told_ex c) rfl (c.g 6 rfl) TB hcode hmT hu (hr.mono (by decide)) (LamX.lamS_by rfl) rfl (fun _ _ _ _ _ => rfl) (fun A outer s H E f c' hrl => (q_call G_corner (hrl.mono (by decide)) rfl (c.g 19 rfl) F_corner.kp b_corner (takes_of rfl rfl rfl rfl) (q_acons (q_var rfl (.inr (.inr rfl)) nd_many nc_many) (q_acons (q_var rfl (.inr (.inr rfl)) nd_many nc_many) q_anil rfl) rfl) nd_corner rfl rfl)) nd_law_told_u nd_what nc_what) (q_str rfl) (nomark _)) (q_one (q_ret q_bl)) q_nil)
  (q_cons (q_if (q_tcmp (op_neD hr.units) ne_v (q_told (rs := rsL) (hs := hsL) (k := 7) rfl F_law_told b_law_told sc_law_told rfl (.inl rfl) (fun cdg s H => hds_ok c P w _ _ cdg s H) (told_ok K) (told_ex c) rfl (c.g 6 rfl) TB hcode hmT hu (hr.mono (by decide)) (LamX.lamS_by rfl) rfl (fun _ _ _ _ _ => rfl) (fun A outer s H E f c' hrl => (q_call G_meets_in_rings (hrl.mono (by decide)) rfl (c.g 16 rfl) F_meets_in_rings.kp b_meets_in_rings (takes_of rfl rfl rfl rfl) (q_acons q_int (q_acons q_int (q_acons q_int q_anil rfl) rfl) rfl) nd_meets_in_rings rfl rfl)) nd_law_told_u nd_what nc_what) (q_str rfl) (nomark _)) (q_one (q_ret q_bl)) q_nil)
  (q_one (q_ret q_bl)))))))))))))))))))
/-! _law_dice -/
theorem sc_law_dice : FnScope ["cell"] ["cell"] (defScope s_law_dice) := ⟨rfl, rfl, rfl, by decide +kernel, rfl, by decide +kernel, by decide +kernel⟩
def b_m_law_dice : SM := (sSeq (sIf (eTest (eChain (f2 gLt) (f2 gLt) (eBin (f2 gSub) (eC (.int 0)) (eC (.int 10))) (eVar 0) (eC (.int 10)))) (sRet (eApp (fLst false) (aCons (eApp (f1 gAbs) (aCons (eVar 0) aNil)) (aCons (eC (.int 0)) (aCons (eC (.int 2)) aNil))))) sNx)
  (sRet (eApp (fLst false) (aCons (eVar 0) (aCons (eBin (f2 (gAdd false)) (eC (.int 1)) (eBin (f2 gMod) (eApp (f1 gInt) (aCons (eVar 0) aNil)) (eC (.int 1009)))) (aCons (eApp (f1 gInt) (aCons (eBin (f2 gGe) (eVar 0) (eBin (f2 gPow) (eC (.int 10)) (eC (.int 18)))) aNil)) aNil))))))
def m_law_dice : Fn := mkD 1 1 b_m_law_dice
theorem ok_law_dice {P : Program} {w : World} {K : PySem.W.Frag} {mg : Str → Option Value} {base : Heap} (c : Facts K mg base) : ∃ fd, FunD K "_law_dice" "_law_dice" (defArgs s_law_dice) (defBody s_law_dice) (defScope s_law_dice) [] [] (He.ga K "_law_dice") fd ∧ L2.Binds K fd ["cell"] [] ∧ FnOk P w K mg base (L2.CX P w) 2 (He.ga K "_law_dice") fd ["cell"] (spF (gm K) m_law_dice) := by
  obtain ⟨fd, F⟩ := c.says.def_ 17 (d := d_law_dice) rfl
  refine ⟨fd, F, (F.bindsN fun _ _ _ _ _ _ us hl => match us, hl with | [_], _ => rfl), def_okD (G := gm K) F sc_law_dice rfl rfl fun cdv hcv hcd A outer s H E hr => ?_⟩
  exact (q_cons (q_if (q_tchain op_lt lt_v op_lt lt_v (q_op op_sub sub_v q_int q_int) (q_var rfl (.inl rfl) nd_cell nc_cell) q_int (by with_unfolding_all rfl)) (q_one (q_ret (q_lst (q_acons (q_callB call_abs abs_v rfl (c.fr 27 rfl) boot_abs (q_acons (q_var rfl (.inl rfl) nd_cell nc_cell) q_anil rfl) (by decide) nd_abs rfl rfl) (q_acons q_int (q_acons q_int q_anil rfl) rfl) rfl)))) q_nil)
  (q_one (q_ret (q_lst (q_acons (q_var rfl (.inl rfl) nd_cell nc_cell) (q_acons (q_op add_all add_v q_int (q_op op_modN mod_v (q_callTy call_int1 int_v rfl (c.fr 8 rfl) boot_int (q_acons (q_var rfl (.inl rfl) nd_cell nc_cell) q_anil rfl) (by decide) nd_int rfl rfl) q_int)) (q_acons (q_callTy call_int1 int_v rfl (c.fr 8 rfl) boot_int (q_acons (q_cmp op_ge ge_v (q_var rfl (.inl rfl) nd_cell nc_cell) (q_op op_pow pow_v q_int q_int) (nomark _)) q_anil rfl) (by decide) nd_int rfl rfl) q_anil rfl) rfl) rfl)))))
/-! _law_rounds -/
theorem sc_law_rounds : FnScope ["script", "most", "cells", "cell"] ["script", "most"] (defScope s_law_rounds) := ⟨rfl, rfl, rfl, by decide +kernel, rfl, by decide +kernel, by decide +kernel⟩
def b_m_law_rounds : SM := (sSeq (sIf (eTest (eBin (f2 gEq) (eVar 2) (eApp (fLst false) aNil))) (sSet 2 (eApp (fLst false) (aCons (eC (.int 0)) aNil))) sNx)
  (sRet (eComp false [3] (iSeq (eVar 2)) (.nm 3) cYes (eApp m_law_dice (aCons (eVar 3) aNil)))))
theorem ok_law_rounds {P : Program} {w : World} {K : PySem.W.Frag} {mg : Str → Option Value} {base : Heap} (c : Facts K mg base) (hm : ∀ ns : List Int, ∃ x y z st, b_m_law_rounds (none :: some (.d (.int 1)) :: some (.d (.lst ((ns.take 1).map D.int))) :: List.replicate 1 none) [] = .rt (.d (.lst [.lst (diceD x y z)])) st) :
    ∃ fd, FunD K "_law_rounds" "_law_rounds" (defArgs s_law_rounds) (defBody s_law_rounds) (defScope s_law_rounds) [] [] (He.ga K "_law_rounds") fd ∧ L2.Binds K fd ["script", "most"] [] ∧ FnOk P w K mg base (L2.CX P w) 3 (He.ga K "_law_rounds") fd ["script", "most"] (spRounds (gm K)) := by
  obtain ⟨fd, F⟩ := c.says.def_ 18 (d := d_law_rounds) rfl
  obtain ⟨fd_law_dice, F_law_dice, b_law_dice, G_law_dice⟩ := ok_law_dice (P := P) (w := w) c
  refine ⟨fd, F, (F.bindsN fun _ _ _ _ _ _ us hl => match us, hl with | [_, _], _ => rfl), rounds_ok (G := gm K) (n := 1) rfl F sc_law_rounds rfl rfl (fun cdv A outer s H E hr => ⟨ps_asg (pe_slice sl_list (pe_var rfl (.inl rfl) nd_script nc_script) po_none (po_some (pe_var rfl (.inl rfl) nd_most nc_most))) (pg_name sc_law_rounds.nd rfl (.inl rfl)) rfl rfl rfl, ?_⟩) hm⟩
  exact (q_cons (q_if (q_tcmp (op_eqD hr.units) eq_v (q_var rfl (.inl rfl) nd_cells nc_cells) (q_lst q_anil) (nomark _)) (q_one (q_set sc_law_rounds.nd rfl (.inl rfl) (.inl rfl) (q_lst (q_acons q_int q_anil rfl)) rfl rfl)) q_nil)
  (q_one (q_ret (q_comp rfl rfl sc_law_rounds.nd (q_seq rfl (q_var rfl (.inl rfl) nd_cells nc_cells)) (own := [("cell", 3)]) (blkOk_by rfl) rfl (fun s H C cl fp => (pg_name sc_law_rounds.nd rfl (.inl rfl) (.inr rfl))) (fun s H C cl fp => q_yes) (fun s H C cl fp => (q_call G_law_dice (hr.mono (by decide)) rfl (c.g 28 rfl) F_law_dice.kp b_law_dice LamX.takes0 (q_acons (q_var rfl (.inl rfl) nd_cell nc_cell) q_anil rfl) nd_law_dice_u rfl rfl)) (fun _ => rfl)))))
/-! greatest_part -/
theorem sc_greatest_part : FnScope ["a", "b"] ["a", "b"] (defScope s_greatest_part) := ⟨rfl, rfl, rfl, by decide +kernel, rfl, by decide +kernel, by decide +kernel⟩
def b_m_greatest_part : SM := (sSeq (wLoop (eTest (eBin (f2 gNe) (eVar 1) (eC (.int 0)))) (sPar 0 1 (eVar 1) (eBin (f2 gMod) (eVar 0) (eVar 1))) 40)
  (sRet (eApp (f1 gAbs) (aCons (eVar 0) aNil))))
def m_greatest_part : Fn := mkD 2 2 b_m_greatest_part
theorem ok_greatest_part {P : Program} {w : World} {K : PySem.W.Frag} {mg : Str → Option Value} {base : Heap} (c : Facts K mg base) : ∃ fd, FunD K "greatest_part" "greatest_part" (defArgs s_greatest_part) (defBody s_greatest_part) (defScope s_greatest_part) [] [] (He.ga K "greatest_part") fd ∧ L2.Binds K fd ["a", "b"] [] ∧ FnOk P w K mg base (L2.CX P w) 2 (He.ga K "greatest_part") fd ["a", "b"] (spF (gm K) m_greatest_part) := by
  obtain ⟨fd, F⟩ := c.says.def_ 19 (d := d_greatest_part) rfl
  refine ⟨fd, F, (F.bindsN fun _ _ _ _ _ _ us hl => match us, hl with | [_, _], _ => rfl), def_okD (G := gm K) F sc_greatest_part rfl rfl fun cdv hcv hcd A outer s H E hr => ?_⟩
  exact (q_cons (q_while (passes_of rfl) (q_tcmp (op_neD hr.units) ne_v (q_var rfl (.inl rfl) nd_b nc_b) q_int (nomark _)) (q_one (q_par rfl sc_greatest_part.nd rfl rfl (by decide) rfl rfl (q_var rfl (.inl rfl) nd_b nc_b) (q_op op_modN mod_v (q_var rfl (.inl rfl) nd_a nc_a) (q_var rfl (.inl rfl) nd_b nc_b)) rfl rfl rfl rfl)))
  (q_one (q_ret (q_callB call_abs abs_v rfl (c.fr 27 rfl) boot_abs (q_acons (q_var rfl (.inl rfl) nd_a nc_a) q_anil rfl) (by decide) nd_abs rfl rfl))))
/-! home_in -/
theorem sc_home_in : FnScope ["couples", "steps"] ["couples", "steps"] (defScope s_home_in) := ⟨rfl, rfl, rfl, by decide +kernel, rfl, by decide +kernel, by decide +kernel⟩
def b_m_home_in : SM := (sSeq (sExpr (eApp m_check_ring (aCons (eVar 0) aNil)))
  (sRet (eBin (f2 gDiv) (eVar 0) (eApp m_greatest_part (aCons (eVar 0) (aCons (eBin (f2 gMod) (eVar 1) (eVar 0)) aNil))))))
def m_home_in : Fn := mkD 2 2 b_m_home_in
theorem ok_home_in {P : Program} {w : World} {K : PySem.W.Frag} {mg : Str → Option Value} {base : Heap} (c : Facts K mg base) : ∃ fd, FunD K "home_in" "home_in" (defArgs s_home_in) (defBody s_home_in) (defScope s_home_in) [] [] (He.ga K "home_in") fd ∧ L2.Binds K fd ["couples", "steps"] [] ∧ FnOk P w K mg base (L2.CX P w) 3 (He.ga K "home_in") fd ["couples", "steps"] (spF (gm K) m_home_in) := by
  obtain ⟨fd, F⟩ := c.says.def_ 20 (d := d_home_in) rfl
  obtain ⟨fd_check_ring, F_check_ring, b_check_ring, G_check_ring⟩ := ok_check_ring (P := P) (w := w) c
  obtain ⟨fd_greatest_part, F_greatest_part, b_greatest_part, G_greatest_part⟩ := ok_greatest_part (P := P) (w := w) c
  refine ⟨fd, F, (F.bindsN fun _ _ _ _ _ _ us hl => match us, hl with | [_, _], _ => rfl), def_okD (G := gm K) F sc_home_in rfl rfl fun cdv hcv hcd A outer s H E hr => ?_⟩
  exact (q_cons (q_expr (q_call G_check_ring (hr.mono (by decide)) rfl (c.g 3 rfl) F_check_ring.kp b_check_ring (takes_of rfl rfl rfl rfl) (q_acons (q_var rfl (.inl rfl) nd_couples nc_couples) q_anil rfl) nd_check_ring rfl rfl) rfl)
  (q_one (q_ret (q_op op_fdivN div_v (q_var rfl (.inl rfl) nd_couples nc_couples) (q_call G_greatest_part (hr.mono (by decide)) rfl (c.g 29 rfl) F_greatest_part.kp b_greatest_part (takes_of rfl rfl rfl rfl) (q_acons (q_var rfl (.inl rfl) nd_couples nc_couples) (q_acons (q_op op_modN mod_v (q_var rfl (.inl rfl) nd_steps nc_steps) (q_var rfl (.inl rfl) nd_couples nc_couples)) q_anil rfl) rfl) nd_greatest_part rfl rfl)))))
/-! partners_of -/
theorem sc_partners_of : FnScope ["couples", "steps"] ["couples", "steps"] (defScope s_partners_of) := ⟨rfl, rfl, rfl, by decide +kernel, rfl, by decide +kernel, by decide +kernel⟩
def b_m_partners_of : SM := (sRet (eApp m_home_in (aCons (eVar 0) (aCons (eVar 1) aNil))))
def m_partners_of : Fn := mkD 2 2 b_m_partners_of
theorem ok_partners_of {P : Program} {w : World} {K : PySem.W.Frag} {mg : Str → Option Value} {base : Heap} (c : Facts K mg base) : ∃ fd, FunD K "partners_of" "partners_of" (defArgs s_partners_of) (defBody s_partners_of) (defScope s_partners_of) [] [] (He.ga K "partners_of") fd ∧ L2.Binds K fd ["couples", "steps"] [] ∧ FnOk P w K mg base (L2.CX P w) 4 (He.ga K "partners_of") fd ["couples", "steps"] (spF (gm K) m_partners_of) := by
  obtain ⟨fd, F⟩ := c.says.def_ 21 (d := d_partners_of) rfl
  obtain ⟨fd_home_in, F_home_in, b_home_in, G_home_in⟩ := ok_home_in (P := P) (w := w) c
  refine ⟨fd, F, (F.bindsN fun _ _ _ _ _ _ us hl => match us, hl with | [_, _], _ => rfl), def_okD (G := gm K) F sc_partners_of rfl rfl fun cdv hcv hcd A outer s H E hr => ?_⟩
  exact (q_one (q_ret (q_call G_home_in (hr.mono (by decide)) rfl (c.g 30 rfl) F_home_in.kp b_home_in (takes_of rfl rfl rfl rfl) (q_acons (q_var rfl (.inl rfl) nd_couples nc_couples) (q_acons (q_var rfl (.inl rfl) nd_steps nc_steps) q_anil rfl) rfl) nd_home_in rfl rfl)))
/-! all_partners -/
theorem sc_all_partners : FnScope ["couples", "steps"] ["couples", "steps"] (defScope s_all_partners) := ⟨rfl, rfl, rfl, by decide +kernel, rfl, by decide +kernel, by decide +kernel⟩
def b_m_all_partners : SM := (sRet (eBin (f2 gEq) (eApp m_partners_of (aCons (eVar 0) (aCons (eVar 1) aNil))) (eVar 0)))
def m_all_partners : Fn := mkD 2 2 b_m_all_partners
theorem ok_all_partners {P : Program} {w : World} {K : PySem.W.Frag} {mg : Str → Option Value} {base : Heap} (c : Facts K mg base) : ∃ fd, FunD K "all_partners" "all_partners" (defArgs s_all_partners) (defBody s_all_partners) (defScope s_all_partners) [] [] (He.ga K "all_partners") fd ∧ L2.Binds K fd ["couples", "steps"] [] ∧ FnOk P w K mg base (L2.CX P w) 5 (He.ga K "all_partners") fd ["couples", "steps"] (spF (gm K) m_all_partners) := by
  obtain ⟨fd, F⟩ := c.says.def_ 22 (d := d_all_partners) rfl
  obtain ⟨fd_partners_of, F_partners_of, b_partners_of, G_partners_of⟩ := ok_partners_of (P := P) (w := w) c
  refine ⟨fd, F, (F.bindsN fun _ _ _ _ _ _ us hl => match us, hl with | [_, _], _ => rfl), def_okD (G := gm K) F sc_all_partners rfl rfl fun cdv hcv hcd A outer s H E hr => ?_⟩
  exact (q_one (q_ret (q_cmp (op_eqD hr.units) eq_v (q_call G_partners_of (hr.mono (by decide)) rfl (c.g 31 rfl) F_partners_of.kp b_partners_of (takes_of rfl rfl rfl rfl) (q_acons (q_var rfl (.inl rfl) nd_couples nc_couples) (q_acons (q_var rfl (.inl rfl) nd_steps nc_steps) q_anil rfl) rfl) nd_partners_of rfl rfl) (q_var rfl (.inl rfl) nd_couples nc_couples) (nomark _))))
/-! first_with -/
theorem sc_first_with : FnScope ["couples", "steps", "lark", "robin", "turns"] ["couples", "steps", "lark", "robin"] (defScope s_first_with) := ⟨rfl, rfl, rfl, by decide +kernel, rfl, by decide +kernel, by decide +kernel⟩
def b_m_first_with : SM := (sSeq (sFor (iRg range1M (aCons (eApp m_home_in (aCons (eVar 0) (aCons (eVar 1) aNil))) aNil)) (.nm 4) (sIf (eTest (eBin (f2 gEq) (eApp m_partner (aCons (eVar 0) (aCons (eVar 2) (aCons (eVar 1) (aCons (eVar 4) aNil))))) (eVar 3))) (sRet (eVar 4)) sNx))
  (sRaise 6))
def m_first_with : Fn := mkD 4 5 b_m_first_with
theorem ok_first_with {P : Program} {w : World} {K : PySem.W.Frag} {mg : Str → Option Value} {base : Heap} (c : Facts K mg base) : ∃ fd, FunD K "first_with" "first_with" (defArgs s_first_with) (defBody s_first_with) (defScope s_first_with) [] [] (He.ga K "first_with") fd ∧ L2.Binds K fd ["couples", "steps", "lark", "robin"] [] ∧ FnOk P w K mg base (L2.CX P w) 4 (He.ga K "first_with") fd ["couples", "steps", "lark", "robin"] (spF (gm K) m_first_with) := by
  obtain ⟨fd, F⟩ := c.says.def_ 23 (d := d_first_with) rfl
  obtain ⟨fd_home_in, F_home_in, b_home_in, G_home_in⟩ := ok_home_in (P := P) (w := w) c
  obtain ⟨fd_partner, F_partner, b_partner, G_partner⟩ := ok_partner (P := P) (w := w) c
  refine ⟨fd, F, (F.bindsN fun _ _ _ _ _ _ us hl => match us, hl with | [_, _, _, _], _ => rfl), def_okD (G := gm K) F sc_first_with rfl rfl fun cdv hcv hcd A outer s H E hr => ?_⟩
  exact (q_cons (q_for rfl (passes_of rfl) rfl (q_range1 rfl (c.fr 9 rfl) (q_acons (q_call G_home_in (hr.mono (by decide)) rfl (c.g 30 rfl) F_home_in.kp b_home_in (takes_of rfl rfl rfl rfl) (q_acons (q_var rfl (.inl rfl) nd_couples nc_couples) (q_acons (q_var rfl (.inl rfl) nd_steps nc_steps) q_anil rfl) rfl) nd_home_in rfl rfl) q_anil rfl) rfl) (pg_name sc_first_with.nd rfl (.inl rfl) (.inl rfl)) (q_one (q_if (q_tcmp (op_eqD hr.units) eq_v (q_call G_partner (hr.mono (by decide)) rfl (c.g 7 rfl) F_partner.kp b_partner (takes_of rfl rfl rfl rfl) (q_acons (q_var rfl (.inl rfl) nd_couples nc_couples) (q_acons (q_var rfl (.inl rfl) nd_lark nc_lark) (q_acons (q_var rfl (.inl rfl) nd_steps nc_steps) (q_acons (q_var rfl (.inl rfl) nd_turns nc_turns) q_anil rfl) rfl) rfl) rfl) nd_partner rfl rfl) (q_var rfl (.inl rfl) nd_robin nc_robin) (nomark _)) (q_one (q_ret (q_var rfl (.inl rfl) nd_turns nc_turns))) q_nil)) (fun _ => rfl))
  (q_one (q_raiseC rfl rfl (takes_of rfl rfl rfl rfl) (c.ex 32 rfl).1 (c.ex 32 rfl).2.1 (c.ex 32 rfl).2.2.1 (c.ex 32 rfl).2.2.2 (c.g 33 rfl) rfl nd_NoWay)))
/-! good_steps -/
theorem sc_good_steps : FnScope ["couples", "k"] ["couples"] (defScope s_good_steps) := ⟨rfl, rfl, rfl, by decide +kernel, rfl, by decide +kernel, by decide +kernel⟩
def b_m_good_steps : SM := (sRet (eApp (gTupOf false) (aCons (eComp false [1] (iRg range1M (aCons (eVar 0) aNil)) (.nm 1) (eTest (eApp m_all_partners (aCons (eVar 0) (aCons (eVar 1) aNil)))) (eVar 1)) aNil)))
def m_good_steps : Fn := mkD 1 2 b_m_good_steps
theorem ok_good_steps {P : Program} {w : World} {K : PySem.W.Frag} {mg : Str → Option Value} {base : Heap} (c : Facts K mg base) : ∃ fd, FunD K "good_steps" "good_steps" (defArgs s_good_steps) (defBody s_good_steps) (defScope s_good_steps) [] [] (He.ga K "good_steps") fd ∧ L2.Binds K fd ["couples"] [] ∧ FnOk P w K mg base (L2.CX P w) 6 (He.ga K "good_steps") fd ["couples"] (spF (gm K) m_good_steps) := by
  obtain ⟨fd, F⟩ := c.says.def_ 24 (d := d_good_steps) rfl
  obtain ⟨fd_all_partners, F_all_partners, b_all_partners, G_all_partners⟩ := ok_all_partners (P := P) (w := w) c
  refine ⟨fd, F, (F.bindsN fun _ _ _ _ _ _ us hl => match us, hl with | [_], _ => rfl), def_okD (G := gm K) F sc_good_steps rfl rfl fun cdv hcv hcd A outer s H E hr => ?_⟩
  exact (q_one (q_ret (q_callTy (tup_of (fl := false)) tup_v rfl (c.fr 10 rfl) boot_tuple (q_acons (q_comp rfl rfl sc_good_steps.nd (q_range1 rfl (c.fr 9 rfl) (q_acons (q_var rfl (.inr (.inl rfl)) nd_couples nc_couples) q_anil rfl) rfl) (own := [("k", 1)]) (blkOk_by rfl) rfl (fun s H C cl fp => (pg_name sc_good_steps.nd rfl (.inl rfl) (.inr rfl))) (fun s H C cl fp => (q_test1 (q_tval (q_call G_all_partners (hr.mono (by decide)) rfl (c.g 34 rfl) F_all_partners.kp b_all_partners LamX.takes0 (q_acons (q_var rfl (.inr (.inl rfl)) nd_couples nc_couples) (q_acons (q_var rfl (.inl rfl) nd_k nc_k) q_anil rfl) rfl) nd_all_partners rfl rfl) (fun _ => rfl)))) (fun s H C cl fp => (q_var rfl (.inl rfl) nd_k nc_k)) (fun _ => rfl)) q_anil rfl) (by decide) nd_tuple rfl rfl)))
/-! mixed_after -/
theorem sc_mixed_after : FnScope ["couples", "rows", "times", "whole", "lark"] ["couples", "rows", "times"] (defScope s_mixed_after) := ⟨rfl, rfl, rfl, by decide +kernel, rfl, by decide +kernel, by decide +kernel⟩
def b_m_mixed_after : SM := (sSeq (sExpr (eApp m_check_ring (aCons (eVar 0) aNil)))
  (sSeq (sSet 3 (eBin (f2 (gMul false)) (eApp (f1 gSum) (aCons (eVar 1) aNil)) (eVar 2)))
  (sRet (eApp (gTupOf false) (aCons (eComp false [4] (iRg range1M (aCons (eVar 0) aNil)) (.nm 4) cYes (eBin (f2 gMod) (eBin (f2 gSub) (eVar 4) (eVar 3)) (eVar 0))) aNil)))))
def m_mixed_after : Fn := mkD 3 5 b_m_mixed_after
theorem ok_mixed_after {P : Program} {w : World} {K : PySem.W.Frag} {mg : Str → Option Value} {base : Heap} (c : Facts K mg base) : ∃ fd, FunD K "mixed_after" "mixed_after" (defArgs s_mixed_after) (defBody s_mixed_after) (defScope s_mixed_after) [] [] (He.ga K "mixed_after") fd ∧ L2.Binds K fd ["couples", "rows", "times"] [] ∧ FnOk P w K mg base (L2.CX P w) 3 (He.ga K "mixed_after") fd ["couples", "rows", "times"] (spF (gm K) m_mixed_after) := by
  obtain ⟨fd, F⟩ := c.says.def_ 25 (d := d_mixed_after) rfl
  obtain ⟨fd_check_ring, F_check_ring, b_check_ring, G_check_ring⟩ := ok_check_ring (P := P) (w := w) c
  refine ⟨fd, F, (F.bindsN fun _ _ _ _ _ _ us hl => match us, hl with | [_, _, _], _ => rfl), def_okD (G := gm K) F sc_mixed_after rfl rfl fun cdv hcv hcd A outer s H E hr => ?_⟩
  exact (q_cons (q_expr (q_call G_check_ring (hr.mono (by decide)) rfl (c.g 3 rfl) F_check_ring.kp b_check_ring (takes_of rfl rfl rfl rfl) (q_acons (q_var rfl (.inr (.inl rfl)) nd_couples nc_couples) q_anil rfl) nd_check_ring rfl rfl) rfl)
  (q_cons (q_set sc_mixed_after.nd rfl (.inr rfl) (.inl rfl) (q_op mul_all mul_v (q_callB (cr_sum rfl) sum_v rfl (c.fr 35 rfl) boot_sum (q_acons (q_var rfl (.inl rfl) nd_rows nc_rows) q_anil rfl) (by decide) nd_sum rfl rfl) (q_var rfl (.inl rfl) nd_times nc_times)) rfl rfl)
  (q_one (q_ret (q_callTy (tup_of (fl := false)) tup_v rfl (c.fr 10 rfl) boot_tuple (q_acons (q_comp rfl rfl sc_mixed_after.nd (q_range1 rfl (c.fr 9 rfl) (q_acons (q_var rfl (.inr (.inl rfl)) nd_couples nc_couples) q_anil rfl) rfl) (own := [("lark", 4)]) (blkOk_by rfl) rfl (fun s H C cl fp => (pg_name sc_mixed_after.nd rfl (.inl rfl) (.inr rfl))) (fun s H C cl fp => q_yes) (fun s H C cl fp => (q_op op_modN mod_v (q_op op_sub sub_v (q_var rfl (.inl rfl) nd_lark nc_lark) (q_var rfl (.inr (.inl rfl)) nd_whole nc_whole)) (q_var rfl (.inr (.inl rfl)) nd_couples nc_couples))) (fun _ => rfl)) q_anil rfl) (by decide) nd_tuple rfl rfl)))))
/-! law -/
theorem sc_law : FnScope ["script", "dice", "many", "steps", "turns", "row", "k", "seen", "good", "robin", "firsts", "j"] ["script"] (defScope s_law) := ⟨rfl, rfl, rfl, by decide +kernel, rfl, by decide +kernel, by decide +kernel⟩
def g_law_4 : SM := (sIf (tNotM (eTest (eApp m_law_rest1 (aCons (eVar 1) (aCons (eVar 2) (aCons (eVar 4) aNil)))))) (sRet (eC (.bl false))) sNx)
def k_law_4 : SM := (sOnly [1, 2, 4] g_law_4)
def g_law_3 : List SM := [(sSet 10 (eComp false [6] (iRg range1M (aCons (eVar 2) aNil)) (.nm 6) (eTest (eBin (f2 gEq) (eApp m_partner (aCons (eVar 2) (aCons (eC (.int 0)) (aCons (eVar 3) (aCons (eVar 6) aNil))))) (eVar 9))) (eVar 6))),
  (sIf (eTest (eBin (f2 gNe) (eTold rsL hsL (eApp m_first_with (aCons (eVar 2) (aCons (eVar 3) (aCons (eC (.int 0)) (aCons (eVar 9) aNil)))))) (eIf (eTest (eBin (f2 gNe) (eVar 10) (eApp (fLst false) aNil))) (eBin (f2 gIx) (eVar 10) (eC (.int 0))) (eC (.str [110, 111, 32, 119, 97, 121]))))) (sRet (eC (.bl false))) sNx)]
def k_law_3 : SM := (sSeqs g_law_3 k_law_4)
def g_law_2 : SM := (sSet 9 (eApp m_law_roll (aCons (eVar 1) (aCons (eVar 2) aNil))))
def k_law_2 : SM := (sOnly [1, 2, 3, 4] (sSeq g_law_2 k_law_3))
def g_law_1 : List SM := [(sSet 5 (eRg1 (gListRg false) (eVar 2))),
  (sFor (iRg range1M (aCons (eVar 4) aNil)) (.nm 6) (sSet 5 (eComp false [6] (iRg range1M (aCons (eVar 2) aNil)) (.nm 6) cYes (eBin (f2 gIx) (eVar 5) (eBin (f2 gMod) (eBin (f2 gSub) (eVar 6) (eVar 3)) (eVar 2)))))),
  (sIf (eTest (eBin (f2 gNe) (eComp false [6] (iRg range1M (aCons (eVar 2) aNil)) (.nm 6) (eTest (eBin (f2 gNe) (eApp m_partner (aCons (eVar 2) (aCons (eVar 6) (aCons (eVar 3) (aCons (eVar 4) aNil))))) (eBin (f2 gIx) (eVar 5) (eVar 6)))) (eVar 6)) (eApp (fLst false) aNil))) (sRet (eC (.bl false))) sNx),
  (sIf (tOrM (eTest (eBin (f2 gNe) (eApp (f1 (gList false)) (aCons (eApp m_mixed_after (aCons (eVar 2) (aCons (eBin (f2 (gMul false)) (eApp (fLst false) (aCons (eVar 3) aNil)) (eVar 4)) (aCons (eC (.int 1)) aNil)))) aNil)) (eVar 5))) (eTest (eBin (f2 gNe) (eApp (f1 (gList false)) (aCons (eApp m_mixed_after (aCons (eVar 2) (aCons (eApp (fLst false) (aCons (eC (.int 1)) (aCons (eC (.int 2)) aNil))) (aCons (eC (.int 2)) aNil)))) aNil)) (eComp false [6] (iRg range1M (aCons (eVar 2) aNil)) (.nm 6) cYes (eBin (f2 gMod) (eBin (f2 gSub) (eVar 6) (eC (.int 6))) (eVar 2)))))) (sRet (eC (.bl false))) sNx),
  (sSet 7 (eDNew false)),
  (sFor (iRg range1M (aCons (eVar 2) aNil)) (.nm 6) (sDPutM (eVar 6) (eVar 7) (eBin (f2 gMod) (eBin (f2 gSub) (eC (.int 0)) (eBin (f2 (gMul false)) (eVar 3) (eVar 6))) (eVar 2)))),
  (sIf (tOrM (eTest (eBin (f2 gNe) (eApp m_partners_of (aCons (eVar 2) (aCons (eVar 3) aNil))) (eApp (f1 gLen) (aCons (eVar 7) aNil)))) (eTest (eBin (f2 gNe) (eApp m_all_partners (aCons (eVar 2) (aCons (eVar 3) aNil))) (eBin (f2 gEq) (eApp (f1 gLen) (aCons (eVar 7) aNil)) (eVar 2))))) (sRet (eC (.bl false))) sNx),
  (sIf (tOrM (eTest (eBin (f2 gNe) (eBin (f2 gMod) (eBin (f2 (gMul false)) (eApp m_home_in (aCons (eVar 2) (aCons (eVar 3) aNil))) (eVar 3)) (eVar 2)) (eC (.int 0)))) (eTest (eBin (f2 gNe) (eComp false [6] (iRg range2M (aCons (eC (.int 1)) (aCons (eApp m_home_in (aCons (eVar 2) (aCons (eVar 3) aNil))) aNil))) (.nm 6) (eTest (eBin (f2 gEq) (eBin (f2 gMod) (eBin (f2 (gMul false)) (eVar 6) (eVar 3)) (eVar 2)) (eC (.int 0)))) (eVar 6)) (eApp (fLst false) aNil)))) (sRet (eC (.bl false))) sNx),
  (sSet 8 (eComp false [6] (iRg range1M (aCons (eVar 2) aNil)) (.nm 6) (eTest (eBin (f2 gEq) (eApp (f1 (gSorted false)) (aCons (eComp false [11] (iRg range1M (aCons (eVar 2) aNil)) (.nm 11) cYes (eBin (f2 gMod) (eBin (f2 (gMul false)) (eVar 6) (eVar 11)) (eVar 2))) aNil)) (eRg1 (gListRg false) (eVar 2)))) (eVar 6))),
  (sIf (eTest (eBin (f2 gNe) (eApp (f1 (gList false)) (aCons (eApp m_good_steps (aCons (eVar 2) aNil)) aNil)) (eVar 8))) (sRet (eC (.bl false))) sNx)]
def k_law_1 : SM := (sOnly [1, 2, 3, 4] (sSeqs g_law_1 k_law_2))
def g_law_0 : SM := (sTupN [2, 3, 4] (aCons (eBin (f2 (gAdd false)) (eC (.int 2)) (eApp m_law_roll (aCons (eVar 1) (aCons (eC (.int 7)) aNil)))) (aCons (eApp m_law_roll (aCons (eVar 1) (aCons (eC (.int 10)) aNil))) (aCons (eApp m_law_roll (aCons (eVar 1) (aCons (eC (.int 9)) aNil))) aNil))))
def k_law_0 : SM := (sSeq g_law_0 k_law_1)
def b_m_law : SM := k_law_0
theorem ok_law {P : Program} {w : World} {K : PySem.W.Frag} {mg : Str → Option Value} {base : Heap} (c : Facts K mg base) (hr0 : ∀ ns : List Int, ∃ x y z st, b_m_law_rounds (none :: some (.d (.int 1)) :: some (.d (.lst ((ns.take 1).map D.int))) :: List.replicate 1 none) [] = .rt (.d (.lst [.lst (diceD x y z)])) st)
    (hm : ∀ x y z : Int, ∃ sl st, b_m_law (none :: some (.loc 0) :: List.replicate 10 none) [.lst (diceD x y z)] = .nx sl st) :
    ∃ fd, FunD K "law" "law" (defArgs s_law) (defBody s_law) (defScope s_law) [] [] (He.ga K "law") fd ∧ FnOk P w K mg base (L2.CX P w) 15 (He.ga K "law") fd ["script"] (spLaw (gm K)) := by
  obtain ⟨fd, F⟩ := c.says.def_ 26 (d := d_law) rfl
  obtain ⟨fd_law_rest1, F_law_rest1, b_law_rest1, G_law_rest1⟩ := ok_law_rest1 (P := P) (w := w) c
  obtain ⟨fd_law_roll, F_law_roll, b_law_roll, G_law_roll⟩ := ok_law_roll (P := P) (w := w) c
  obtain ⟨fd_law_rounds, F_law_rounds, b_law_rounds, G_law_rounds⟩ := ok_law_rounds (P := P) (w := w) c hr0
  obtain ⟨fd_law_told, F_law_told⟩ := c.says.def_ 0 (d := d_law_told) rfl
  have b_law_told : L2.Binds K fd_law_told ["what"] [] := F_law_told.bindsN fun _ _ _ _ _ _ us hl => match us, hl with | [_], _ => rfl
  obtain ⟨fd_all_partners, F_all_partners, b_all_partners, G_all_partners⟩ := ok_all_partners (P := P) (w := w) c
  obtain ⟨fd_first_with, F_first_with, b_first_with, G_first_with⟩ := ok_first_with (P := P) (w := w) c
  obtain ⟨fd_good_steps, F_good_steps, b_good_steps, G_good_steps⟩ := ok_good_steps (P := P) (w := w) c
  obtain ⟨fd_home_in, F_home_in, b_home_in, G_home_in⟩ := ok_home_in (P := P) (w := w) c
  obtain ⟨fd_mixed_after, F_mixed_after, b_mixed_after, G_mixed_after⟩ := ok_mixed_after (P := P) (w := w) c
  obtain ⟨fd_partner, F_partner, b_partner, G_partner⟩ := ok_partner (P := P) (w := w) c
  obtain ⟨fd_partners_of, F_partners_of, b_partners_of, G_partners_of⟩ := ok_partners_of (P := P) (w := w) c
  obtain ⟨oc, od, dV, kV, doc, pm, an, cdv0, ct0, osl, efd, lk, hcd0, _, _⟩ := F.ex
  refine ⟨fd, F, law_ok (G := gm K) (n := 10) (b := b_m_law) rfl F sc_law rfl rfl (fun cdv hcv hcd A outer s H E hr => ?_) hm⟩
  obtain ⟨ctv, ec⟩ := He.codeIn_ref hcd
  subst ec
  have e2 : He.codeOf K ("law", none) = ctv := He.codeOf_eq lk hcv
  have TB : LamX.TabB base mg ctv (He.cT K ("law", none)).2 := by rw [← e2]; exact c.tabs ("law", none) (.tail _ (.tail _ (.head _)))
  have hcode : (Value.ref ctv) = .ref ctv := rfl
  have hmT : ((He.cT K ("law", none)).2, (envOfC "law" (defScope s_law) 0 0 .none).qual ++ "<lambda>") ∈ (gm K).T := (.tail _ (.tail _ (.head _)))
  have hu := tab_uniq c.nodup hmT
  exact pss_cons (ps_for (passes_of rfl) rfl (pi_seq (pe_call (E := E) G_law_rounds (hr.mono (by decide)) rfl (c.g 46 rfl) F_law_rounds.kp b_law_rounds .nil (passes_call (takes_of rfl rfl rfl rfl) fun _ _ _ _ h => h) (pa_cons (pe_var rfl (.inl rfl) nd_script nc_script) (pa_cons pe_int pa_nil rfl) rfl) nd_law_rounds_u rfl rfl)) (pg_name sc_law.nd rfl (.inl rfl) (.inl rfl)) (tb := rdS (gm K) E b_m_law)
    ((q_cons (q_tupN (is := [2, 3, 4]) rfl rfl (q_acons (q_op add_all add_v q_int (q_call G_law_roll (hr.mono (by decide)) rfl (c.g 20 rfl) F_law_roll.kp b_law_roll (takes_of rfl rfl rfl rfl) (q_acons (q_var rfl (.inl rfl) nd_dice nc_dice) (q_acons q_int q_anil rfl) rfl) nd_law_roll_u rfl rfl)) (q_acons (q_call G_law_roll (hr.mono (by decide)) rfl (c.g 20 rfl) F_law_roll.kp b_law_roll (takes_of rfl rfl rfl rfl) (q_acons (q_var rfl (.inl rfl) nd_dice nc_dice) (q_acons q_int q_anil rfl) rfl) nd_law_roll_u rfl rfl) (q_acons (q_call G_law_roll (hr.mono (by decide)) rfl (c.g 20 rfl) F_law_roll.kp b_law_roll (takes_of rfl rfl rfl rfl) (q_acons (q_var rfl (.inl rfl) nd_dice nc_dice) (q_acons q_int q_anil rfl) rfl) nd_law_roll_u rfl rfl) q_anil rfl) rfl) rfl) (pgs_cons (pg_name sc_law.nd rfl (.inr rfl) (.inl rfl)) (pgs_cons (pg_name sc_law.nd rfl (.inr rfl) (.inl rfl)) (pgs_cons (pg_name sc_law.nd rfl (.inr rfl) (.inl rfl)) pgs_nil rfl) rfl) rfl) rfl rfl rfl rfl rfl)
  (q_only (q_cons (q_set sc_law.nd rfl (.inr rfl) (.inl rfl) (q_listRg1 rfl rfl (c.fr 17 rfl) rfl (c.fr 9 rfl) (q_var rfl (.inr (.inl rfl)) nd_many nc_many) rfl rfl) rfl rfl)
  (q_cons (q_for rfl (passes_of rfl) rfl (q_range1 rfl (c.fr 9 rfl) (q_acons (q_var rfl (.inr (.inl rfl)) nd_turns nc_turns) q_anil rfl) rfl) (pg_name sc_law.nd rfl (.inl rfl) (.inl rfl)) (q_one (q_set sc_law.nd rfl (.inr rfl) (.inl rfl) (q_comp rfl rfl sc_law.nd (q_range1 rfl (c.fr 9 rfl) (q_acons (q_var rfl (.inr (.inl rfl)) nd_many nc_many) q_anil rfl) rfl) (own := [("k", 6)]) (blkOk_by rfl) rfl (fun s H C cl fp => (pg_name sc_law.nd rfl (.inl rfl) (.inr rfl))) (fun s H C cl fp => q_yes) (fun s H C cl fp => (q_ix ix_seq ix_v (q_var rfl (.inr (.inl rfl)) nd_row nc_row) (q_op op_modN mod_v (q_op op_sub sub_v (q_var rfl (.inl rfl) nd_k nc_k) (q_var rfl (.inr (.inl rfl)) nd_steps nc_steps)) (q_var rfl (.inr (.inl rfl)) nd_many nc_many)) (fun _ _ => rfl))) (fun _ => rfl)) rfl rfl)) (fun _ => rfl))
  (q_cons (q_if (q_tcmp (op_neD hr.units) ne_v (q_comp rfl rfl sc_law.nd (q_range1 rfl (c.fr 9 rfl) (q_acons (q_var rfl (.inr (.inl rfl)) nd_many nc_many) q_anil rfl) rfl) (own := [("k", 6)]) (blkOk_by rfl) rfl (fun s H C cl fp => (pg_name sc_law.nd rfl (.inl rfl) (.inr rfl))) (fun s H C cl fp => (q_test1 (q_tcmp (op_neD hr.units) ne_v (q_call G_partner (hr.mono (by decide)) rfl (c.g 7 rfl) F_partner.kp b_partner LamX.takes0 (q_acons (q_var rfl (.inr (.inl rfl)) nd_many nc_many) (q_acons (q_var rfl (.inl rfl) nd_k nc_k) (q_acons (q_var rfl (.inr (.inl rfl)) nd_steps nc_steps) (q_acons (q_var rfl (.inr (.inl rfl)) nd_turns nc_turns) q_anil rfl) rfl) rfl) rfl) nd_partner rfl rfl) (q_ix ix_seq ix_v (q_var rfl (.inr (.inl rfl)) nd_row nc_row) (q_var rfl (.inl rfl) nd_k nc_k) (fun _ _ => rfl)) (nomark _)))) (fun s H C cl fp => (q_var rfl (.inl rfl) nd_k nc_k)) (fun _ => rfl)) (q_lst q_anil) (nomark _)) (q_one (q_ret q_bl)) q_nil)
  (q_cons (q_if (PW.pt (q_wor (q_tcmp (op_neD hr.units) ne_v (q_callTy call_list_of list_v rfl (c.fr 17 rfl) boot_list (q_acons (q_call G_mixed_after (hr.mono (by decide)) rfl (c.g 38 rfl) F_mixed_after.kp b_mixed_after (takes_of rfl rfl rfl rfl) (q_acons (q_var rfl (.inr (.inl rfl)) nd_many nc_many) (q_acons (q_op mul_all mul_v (q_lst (q_acons (q_var rfl (.inr (.inl rfl)) nd_steps nc_steps) q_anil rfl)) (q_var rfl (.inr (.inl rfl)) nd_turns nc_turns)) (q_acons q_int q_anil rfl) rfl) rfl) nd_mixed_after rfl rfl) q_anil rfl) (by decide) nd_list rfl rfl) (q_var rfl (.inr (.inl rfl)) nd_row nc_row) (nomark _)) (q_wor1 (q_tcmp (op_neD hr.units) ne_v (q_callTy call_list_of list_v rfl (c.fr 17 rfl) boot_list (q_acons (q_call G_mixed_after (hr.mono (by decide)) rfl (c.g 38 rfl) F_mixed_after.kp b_mixed_after (takes_of rfl rfl rfl rfl) (q_acons (q_var rfl (.inr (.inl rfl)) nd_many nc_many) (q_acons (q_lst (q_acons q_int (q_acons q_int q_anil rfl) rfl)) (q_acons q_int q_anil rfl) rfl) rfl) nd_mixed_after rfl rfl) q_anil rfl) (by decide) nd_list rfl rfl) (q_comp rfl rfl sc_law.nd (q_range1 rfl (c.fr 9 rfl) (q_acons (q_var rfl (.inr (.inl rfl)) nd_many nc_many) q_anil rfl) rfl) (own := [("k", 6)]) (blkOk_by rfl) rfl (fun s H C cl fp => (pg_name sc_law.nd rfl (.inl rfl) (.inr rfl))) (fun s H C cl fp => q_yes) (fun s H C cl fp => (q_op op_modN mod_v (q_op op_sub sub_v (q_var rfl (.inl rfl) nd_k nc_k) q_int) (q_var rfl (.inr (.inl rfl)) nd_many nc_many))) (fun _ => rfl)) (nomark _))))) (q_one (q_ret q_bl)) q_nil)
  (q_cons (q_set sc_law.nd rfl (.inl rfl) (.inl rfl) q_dnewK rfl rfl)
  (q_cons (q_for rfl (passes_of rfl) rfl (q_range1 rfl (c.fr 9 rfl) (q_acons (q_var rfl (.inr (.inl rfl)) nd_many nc_many) q_anil rfl) rfl) (pg_name sc_law.nd rfl (.inl rfl) (.inl rfl)) (q_one (q_dput (u65 hr) (q_var rfl (.inl rfl) nd_k nc_k) (q_var rfl (.inl rfl) nd_seen nc_seen) (q_op op_modN mod_v (q_op op_sub sub_v q_int (q_op mul_all mul_v (q_var rfl (.inr (.inl rfl)) nd_steps nc_steps) (q_var rfl (.inl rfl) nd_k nc_k))) (q_var rfl (.inr (.inl rfl)) nd_many nc_many)) rfl)) (fun _ => rfl))
  (q_cons (q_if (PW.pt (q_wor (q_tcmp (op_neD hr.units) ne_v (q_call G_partners_of (hr.mono (by decide)) rfl (c.g 31 rfl) F_partners_of.kp b_partners_of (takes_of rfl rfl rfl rfl) (q_acons (q_var rfl (.inr (.inl rfl)) nd_many nc_many) (q_acons (q_var rfl (.inr (.inl rfl)) nd_steps nc_steps) q_anil rfl) rfl) nd_partners_of rfl rfl) (q_callB len_all len_v rfl (c.fr 13 rfl) boot_len (q_acons (q_var rfl (.inl rfl) nd_seen nc_seen) q_anil rfl) (by decide) nd_len rfl rfl) (nomark _)) (q_wor1 (q_tcmp (op_neD hr.units) ne_v (q_call G_all_partners (hr.mono (by decide)) rfl (c.g 34 rfl) F_all_partners.kp b_all_partners (takes_of rfl rfl rfl rfl) (q_acons (q_var rfl (.inr (.inl rfl)) nd_many nc_many) (q_acons (q_var rfl (.inr (.inl rfl)) nd_steps nc_steps) q_anil rfl) rfl) nd_all_partners rfl rfl) (q_cmp (op_eqD hr.units) eq_v (q_callB len_all len_v rfl (c.fr 13 rfl) boot_len (q_acons (q_var rfl (.inl rfl) nd_seen nc_seen) q_anil rfl) (by decide) nd_len rfl rfl) (q_var rfl (.inr (.inl rfl)) nd_many nc_many) (nomark _)) (nomark _))))) (q_one (q_ret q_bl)) q_nil)
  (q_cons (q_if (PW.pt (q_wor (q_tcmp (op_neD hr.units) ne_v (q_op op_modN mod_v (q_op mul_all mul_v (q_call G_home_in (hr.mono (by decide)) rfl (c.g 30 rfl) F_home_in.kp b_home_in (takes_of rfl rfl rfl rfl) (q_acons (q_var rfl (.inr (.inl rfl)) nd_many nc_many) (q_acons (q_var rfl (.inr (.inl rfl)) nd_steps nc_steps) q_anil rfl) rfl) nd_home_in rfl rfl) (q_var rfl (.inr (.inl rfl)) nd_steps nc_steps)) (q_var rfl (.inr (.inl rfl)) nd_many nc_many)) q_int (nomark _)) (q_wor1 (q_tcmp (op_neD hr.units) ne_v (q_comp rfl rfl sc_law.nd (q_range2 rfl (c.fr 9 rfl) (q_acons q_int (q_acons (q_call G_home_in (hr.mono (by decide)) rfl (c.g 30 rfl) F_home_in.kp b_home_in (takes_of rfl rfl rfl rfl) (q_acons (q_var rfl (.inr (.inl rfl)) nd_many nc_many) (q_acons (q_var rfl (.inr (.inl rfl)) nd_steps nc_steps) q_anil rfl) rfl) nd_home_in rfl rfl) q_anil rfl) rfl) rfl rfl) (own := [("k", 6)]) (blkOk_by rfl) rfl (fun s H C cl fp => (pg_name sc_law.nd rfl (.inl rfl) (.inr rfl))) (fun s H C cl fp => (q_test1 (q_tcmp (op_eqD hr.units) eq_v (q_op op_modN mod_v (q_op mul_all mul_v (q_var rfl (.inl rfl) nd_k nc_k) (q_var rfl (.inr (.inl rfl)) nd_steps nc_steps)) (q_var rfl (.inr (.inl rfl)) nd_many nc_many)) q_int (nomark _)))) (fun s H C cl fp => (q_var rfl (.inl rfl) nd_k nc_k)) (fun _ => rfl)) (q_lst q_anil) (nomark _))))) (q_one (q_ret q_bl)) q_nil)
  (q_cons (q_setComp rfl rfl sc_law.nd rfl rfl rfl (q_range1 rfl (c.fr 9 rfl) (q_acons (q_var rfl (.inr (.inl rfl)) nd_many nc_many) q_anil rfl) rfl) (own := [("k", 6)]) (blkOk_by rfl) rfl (fun s H C cl fp => (pg_name sc_law.nd rfl (.inr rfl) (.inl rfl))) (fun s H C cl fp => (q_test1 (q_tcmp (op_eqD hr.units) eq_v (q_callB (sort_all rfl (u65 hr)) sorted_v rfl (c.fr 14 rfl) boot_sorted (q_acons (q_comp rfl rfl sc_law.nd (q_range1 rfl (c.fr 9 rfl) (q_acons (q_var rfl (.inr (.inl rfl)) nd_many nc_many) q_anil rfl) rfl) (own := [("j", 11)]) (blkOk_by rfl) rfl (fun s H C cl fp => (pg_name sc_law.nd rfl (.inl rfl) (.inr rfl))) (fun s H C cl fp => q_yes) (fun s H C cl fp => (q_op op_modN mod_v (q_op mul_all mul_v (q_var rfl (.inr (.inl rfl)) nd_k nc_k) (q_var rfl (.inl rfl) nd_j nc_j)) (q_var rfl (.inr (.inl rfl)) nd_many nc_many))) (fun _ => rfl)) q_anil rfl) (by decide) nd_sorted rfl rfl) (q_listRg1 rfl rfl (c.fr 17 rfl) rfl (c.fr 9 rfl) (q_var rfl (.inr (.inl rfl)) nd_many nc_many) rfl rfl) (nomark _)))) (fun s H C cl fp => (q_var rfl (.inr (.inl rfl)) nd_k nc_k)) (fun _ => rfl))
  (q_cons (q_if (q_tcmp (op_neD hr.units) ne_v (q_callTy call_list_of list_v rfl (c.fr 17 rfl) boot_list (q_acons (q_call G_good_steps (hr.mono (by decide)) rfl (c.g 39 rfl) F_good_steps.kp b_good_steps (takes_of rfl rfl rfl rfl) (q_acons (q_var rfl (.inr (.inl rfl)) nd_many nc_many) q_anil rfl) nd_good_steps rfl rfl) q_anil rfl) (by decide) nd_list rfl rfl) (q_var rfl (.inl rfl) nd_good nc_good) (nomark _)) (q_one (q_ret q_bl)) q_nil)
  (q_only (q_cons (q_set sc_law.nd rfl (.inr rfl) (.inl rfl) (q_call G_law_roll (hr.mono (by decide)) rfl (c.g 20 rfl) F_law_roll.kp b_law_roll (takes_of rfl rfl rfl rfl) (q_acons (q_var rfl (.inl rfl) nd_dice nc_dice) (q_acons (q_var rfl (.inr (.inl rfl)) nd_many nc_many) q_anil rfl) rfl) nd_law_roll_u rfl rfl) rfl rfl)
  (q_cons (q_setComp rfl rfl sc_law.nd rfl rfl rfl (q_range1 rfl (c.fr 9 rfl) (q_acons (q_var rfl (.inr (.inl rfl)) nd_many nc_many) q_anil rfl) rfl) (own := [("k", 6)]) (blkOk_by rfl) rfl (fun s H C cl fp => (pg_name sc_law.nd rfl (.inl rfl) (.inr rfl))) (fun s H C cl fp => (q_test1 (q_tcmp (op_eqD hr.units) eq_v (q_call G_partner (hr.mono (by decide)) rfl (c.g 7 rfl) F_partner.kp b_partner LamX.takes0 (q_acons (q_var rfl (.inr (.inl rfl)) nd_many nc_many) (q_acons q_int (q_acons (q_var rfl (.inr (.inl rfl)) nd_steps nc_steps) (q_acons (q_var rfl (.inl rfl) nd_k nc_k) q_anil rfl) rfl) rfl) rfl) nd_partner rfl rfl) (q_var rfl (.inr (.inl rfl)) nd_robin nc_robin) (nomark _)))) (fun s H C cl fp => (q_var rfl (.inl rfl) nd_k nc_k)) (fun _ => rfl))
  (q_cons (q_if (q_tcmp (op_neD hr.units) ne_v (q_told (rs := rsL) (hs := hsL) (k := 11) rfl F_law_told b_law_told sc_law_told rfl (.inl rfl) (fun cdg s H => hds_ok c P w _ _ cdg s H) (told_ok K) (told_ex c) rfl (c.g 6 rfl) TB hcode hmT hu (hr.mono (by decide)) (LamX.lamS_by rfl) rfl (fun _ _ _ _ _ => rfl) (fun A outer s H E f c' hrl => (q_call G_first_with (hrl.mono (by decide)) rfl (c.g 37 rfl) F_first_with.kp b_first_with (takes_of rfl rfl rfl rfl) (q_acons (q_var rfl (.inr (.inr rfl)) nd_many nc_many) (q_acons (q_var rfl (.inr (.inr rfl)) nd_steps nc_steps) (q_acons q_int (q_acons (q_var rfl (.inr (.inr rfl)) nd_robin nc_robin) q_anil rfl) rfl) rfl) rfl) nd_first_with rfl rfl)) nd_law_told_u nd_what nc_what) (q_ifE (q_tcmp (op_neD hr.units) ne_v (q_var rfl (.inl rfl) nd_firsts nc_firsts) (q_lst q_anil) (nomark _)) (q_ix ix_seq ix_v (q_var rfl (.inl rfl) nd_firsts nc_firsts) q_int (fun _ _ => rfl)) (q_str rfl)) (nomark _)) (q_one (q_ret q_bl)) q_nil)
  (q_only (q_one (q_if (q_tnot (q_tval (q_call G_law_rest1 (hr.mono (by decide)) rfl (c.g 36 rfl) F_law_rest1.kp b_law_rest1 (takes_of rfl rfl rfl rfl) (q_acons (q_var rfl (.inl rfl) nd_dice nc_dice) (q_acons (q_var rfl (.inr (.inl rfl)) nd_many nc_many) (q_acons (q_var rfl (.inr (.inl rfl)) nd_turns nc_turns) q_anil rfl) rfl) rfl) nd_law_rest1_u rfl rfl) (fun _ => rfl))) (q_one (q_ret q_bl)) q_nil)))))))))))))))))))) (fun _ => rfl)) (pss_one (ps_ret pe_bl))
end DHk06
namespace DHk06
open PySem PySem.Spec PyProof.Rows L2 DH
def nI (n : Nat) : Option DH.X := some (.d (.int (Int.ofNat n)))
def slots1 (m s t : Nat) : Slots := [none, some (.loc 0), nI m, nI s, nI t, none, none, none, none, none, none, none]
def e1 (a b c : Int) (m s t : Nat) : Bool := okSeg 1 [1, 2, 3, 4] (slots1 m s t) (seqAll g_law_1 (slots1 m s t) [.lst (diceD a b c)])
def slots2 (m s t r : Nat) : Slots := [none, some (.loc 0), nI m, nI s, nI t, none, none, none, none, nI r, none, none]
def slots3 (m t : Nat) : Slots := [none, some (.loc 0), nI m, none, nI t, none, none, none, none, none, none, none]
def e2 (a b c : Int) (m0 : MO) (m s t r : Nat) : Bool := okSeg 1 [1, 2, 4] (slots3 m t) (seqAll g_law_3 (slots2 m s t r) [.lst (diceD a b c), m0])
def slR (m t : Nat) : Slots := [some (.loc 0), nI m, nI t, none, none, none, none, none, none, none]
def e3 (a b c : Int) (m0 : MO) (m t : Nat) : Bool := okSeg 2 [0, 1, 2] (slR m t) (seqAll g_law_rest1_0 (slR m t) [.lst (diceD a b c), m0])
def slR2 (m t r : Nat) : Slots := [some (.loc 0), nI m, nI t, none, none, none, nI (m * (1 + r)), some (.loc 3), none, none]
def e4 (a b c : Int) (m0 m1 : MO) (m t r : Nat) : Bool := okRt 1 (k_law_rest1_2 (slR2 m t r) [.lst (diceD a b c), m0, m1, .dct true []])
end DHk06
namespace DHk06
open PySem PySem.Spec PyProof.Rows L2 DH
theorem ev1_2 (a b c : Int) : ((upN 0 10).all fun s => (upN 0 9).all fun t => e1 a b c 2 s t) = true := by kernel_rfl
theorem ev1_3 (a b c : Int) : ((upN 0 10).all fun s => (upN 0 9).all fun t => e1 a b c 3 s t) = true := by kernel_rfl
theorem ev1_4 (a b c : Int) : ((upN 0 10).all fun s => (upN 0 9).all fun t => e1 a b c 4 s t) = true := by kernel_rfl
theorem ev1_5 (a b c : Int) : ((upN 0 10).all fun s => (upN 0 9).all fun t => e1 a b c 5 s t) = true := by kernel_rfl
theorem ev1_6 (a b c : Int) : ((upN 0 10).all fun s => (upN 0 9).all fun t => e1 a b c 6 s t) = true := by kernel_rfl
theorem ev1_7 (a b c : Int) : ((upN 0 10).all fun s => (upN 0 9).all fun t => e1 a b c 7 s t) = true := by kernel_rfl
theorem ev1_8 (a b c : Int) : ((upN 0 10).all fun s => (upN 0 9).all fun t => e1 a b c 8 s t) = true := by kernel_rfl
end DHk06
namespace DHk06
open PySem PySem.Spec PyProof.Rows L2 DH
theorem ev2_2 (a b c : Int) (m0 : MO) : ((upN 0 10).all fun s => (upN 0 9).all fun t => (upN 0 2).all fun r => e2 a b c m0 2 s t r) = true := by kernel_rfl
theorem ev2_3 (a b c : Int) (m0 : MO) : ((upN 0 10).all fun s => (upN 0 9).all fun t => (upN 0 3).all fun r => e2 a b c m0 3 s t r) = true := by kernel_rfl
theorem ev2_4 (a b c : Int) (m0 : MO) : ((upN 0 10).all fun s => (upN 0 9).all fun t => (upN 0 4).all fun r => e2 a b c m0 4 s t r) = true := by kernel_rfl
theorem ev2_5 (a b c : Int) (m0 : MO) : ((upN 0 10).all fun s => (upN 0 9).all fun t => (upN 0 5).all fun r => e2 a b c m0 5 s t r) = true := by kernel_rfl
theorem ev2_6 (a b c : Int) (m0 : MO) : ((upN 0 10).all fun s => (upN 0 9).all fun t => (upN 0 6).all fun r => e2 a b c m0 6 s t r) = true := by kernel_rfl
theorem ev2_7 (a b c : Int) (m0 : MO) : ((upN 0 10).all fun s => (upN 0 9).all fun t => (upN 0 7).all fun r => e2 a b c m0 7 s t r) = true := by kernel_rfl
theorem ev2_8 (a b c : Int) (m0 : MO) : ((upN 0 10).all fun s => (upN 0 9).all fun t => (upN 0 8).all fun r => e2 a b c m0 8 s t r) = true := by kernel_rfl
end DHk06
namespace DHk06
open PySem PySem.Spec PyProof.Rows L2 DH
theorem ev3_2 (a b c : Int) (m0 : MO) : ((upN 0 9).all fun t => e3 a b c m0 2 t) = true := by kernel_rfl
theorem ev3_3 (a b c : Int) (m0 : MO) : ((upN 0 9).all fun t => e3 a b c m0 3 t) = true := by kernel_rfl
theorem ev3_4 (a b c : Int) (m0 : MO) : ((upN 0 9).all fun t => e3 a b c m0 4 t) = true := by kernel_rfl
theorem ev3_5 (a b c : Int) (m0 : MO) : ((upN 0 9).all fun t => e3 a b c m0 5 t) = true := by kernel_rfl
theorem ev3_6 (a b c : Int) (m0 : MO) : ((upN 0 9).all fun t => e3 a b c m0 6 t) = true := by kernel_rfl
theorem ev3_7 (a b c : Int) (m0 : MO) : ((upN 0 9).all fun t => e3 a b c m0 7 t) = true := by kernel_rfl
theorem ev3_8 (a b c : Int) (m0 : MO) : ((upN 0 9).all fun t => e3 a b c m0 8 t) = true := by kernel_rfl
end DHk06
namespace DHk06
open PySem PySem.Spec PyProof.Rows L2 DH
theorem ev4_2 (a b c : Int) (m0 m1 : MO) : ((upN 0 9).all fun t => (upN 0 2).all fun r => e4 a b c m0 m1 2 t r) = true := by kernel_rfl
theorem ev4_3 (a b c : Int) (m0 m1 : MO) : ((upN 0 9).all fun t => (upN 0 2).all fun r => e4 a b c m0 m1 3 t r) = true := by kernel_rfl
theorem ev4_4 (a b c : Int) (m0 m1 : MO) : ((upN 0 9).all fun t => (upN 0 2).all fun r => e4 a b c m0 m1 4 t r) = true := by kernel_rfl
theorem ev4_5 (a b c : Int) (m0 m1 : MO) : ((upN 0 9).all fun t => (upN 0 2).all fun r => e4 a b c m0 m1 5 t r) = true := by kernel_rfl
theorem ev4_6 (a b c : Int) (m0 m1 : MO) : ((upN 0 9).all fun t => (upN 0 2).all fun r => e4 a b c m0 m1 6 t r) = true := by kernel_rfl
theorem ev4_7 (a b c : Int) (m0 m1 : MO) : ((upN 0 9).all fun t => (upN 0 2).all fun r => e4 a b c m0 m1 7 t r) = true := by kernel_rfl
theorem ev4_8 (a b c : Int) (m0 m1 : MO) : ((upN 0 9).all fun t => (upN 0 2).all fun r => e4 a b c m0 m1 8 t r) = true := by kernel_rfl
end DHk06
namespace DHk06
open PySem PySem.Spec PyProof.Rows L2 DH
/-! ### a roll -/
def RollTo (n : Int) (st : Store) (o : O DH.X) : Prop := ∃ (v a' b' c' : Int), o = .ok (.d (.int (Int.fmod v n))) (.lst (diceD a' b' c') :: st.take st.length)
theorem roll_core (n : Nat) (hn : n ∈ [2, 3, 4, 5, 6, 7, 8, 9, 10]) (a b c : Int) (st : Store) : RollTo (Int.ofNat n) st (m_law_roll [.loc 0, .d (.int (Int.ofNat n))] (.lst (diceD a b c) :: st)) := by
  simp only [List.mem_cons, List.not_mem_nil, or_false] at hn
  rcases hn with rfl | rfl | rfl | rfl | rfl | rfl | rfl | rfl | rfl
  all_goals
    match c, a with
    | .ofNat 0, a => exact ⟨_, _, _, _, rfl⟩
    | .ofNat 1, .ofNat 0 => exact ⟨_, _, _, _, rfl⟩
    | .ofNat 1, .ofNat (k + 1) => exact ⟨_, _, _, _, rfl⟩
    | .ofNat 1, .negSucc k => exact ⟨_, _, _, _, rfl⟩
    | .ofNat 2, a => exact ⟨_, _, _, _, rfl⟩
    | .ofNat (k + 3), a => exact ⟨_, _, _, _, rfl⟩
    | .negSucc k, a => exact ⟨_, _, _, _, rfl⟩
theorem roll_ok (n : Nat) (hn : n ∈ [2, 3, 4, 5, 6, 7, 8, 9, 10]) (a b c : Int) (st : Store) : ∃ (r : Nat) (a' b' c' : Int), r < n ∧ m_law_roll [.loc 0, .d (.int (Int.ofNat n))] (.lst (diceD a b c) :: st) = .ok (.d (.int (Int.ofNat r))) (.lst (diceD a' b' c') :: st) := by
  obtain ⟨v, a', b', c', e⟩ := roll_core n hn a b c st
  have hp : (0 : Int) < Int.ofNat n := by
    simp only [List.mem_cons, List.not_mem_nil, or_false] at hn
    have : 0 < n := by omega
    exact Int.natCast_pos.mpr this
  have h1 := Int.fmod_nonneg_of_pos v hp
  have h2 := Int.fmod_lt_of_pos v hp
  refine ⟨(Int.fmod v (Int.ofNat n)).toNat, a', b', c', ?_, ?_⟩
  · have h3 : ((Int.fmod v (Int.ofNat n)).toNat : Int) < (n : Int) := by rw [Int.toNat_of_nonneg h1]; exact h2
    omega
  · rw [e, List.take_length]
    have h3 : Int.ofNat (Int.fmod v (Int.ofNat n)).toNat = Int.fmod v (Int.ofNat n) := Int.toNat_of_nonneg h1
    rw [h3]
/-! ### the first dice -/
theorem dice_ok (n : Int) (r : List Int) : ∃ x y z st, b_m_law_rounds (none :: some (.d (.int 1)) :: some (.d (.lst (((n :: r).take 1).map D.int))) :: List.replicate 1 none) [] = .rt (.d (.lst [.lst (diceD x y z)])) st := by
  match n with
  | .ofNat 0 => exact ⟨_, _, _, _, rfl⟩
  | .ofNat 1 => exact ⟨_, _, _, _, rfl⟩
  | .ofNat 2 => exact ⟨_, _, _, _, rfl⟩
  | .ofNat 3 => exact ⟨_, _, _, _, rfl⟩
  | .ofNat 4 => exact ⟨_, _, _, _, rfl⟩
  | .ofNat 5 => exact ⟨_, _, _, _, rfl⟩
  | .ofNat 6 => exact ⟨_, _, _, _, rfl⟩
  | .ofNat 7 => exact ⟨_, _, _, _, rfl⟩
  | .ofNat 8 => exact ⟨_, _, _, _, rfl⟩
  | .ofNat 9 => exact ⟨_, _, _, _, rfl⟩
  | .ofNat (k + 10) => exact ⟨_, _, _, _, rfl⟩
  | .negSucc 0 => exact ⟨_, _, _, _, rfl⟩
  | .negSucc 1 => exact ⟨_, _, _, _, rfl⟩
  | .negSucc 2 => exact ⟨_, _, _, _, rfl⟩
  | .negSucc 3 => exact ⟨_, _, _, _, rfl⟩
  | .negSucc 4 => exact ⟨_, _, _, _, rfl⟩
  | .negSucc 5 => exact ⟨_, _, _, _, rfl⟩
  | .negSucc 6 => exact ⟨_, _, _, _, rfl⟩
  | .negSucc 7 => exact ⟨_, _, _, _, rfl⟩
  | .negSucc 8 => exact ⟨_, _, _, _, rfl⟩
  | .negSucc (k + 9) => exact ⟨_, _, _, _, rfl⟩
theorem rounds_all (ns : List Int) : ∃ x y z st, b_m_law_rounds (none :: some (.d (.int 1)) :: some (.d (.lst ((ns.take 1).map D.int))) :: List.replicate 1 none) [] = .rt (.d (.lst [.lst (diceD x y z)])) st := by
  cases ns with
  | nil => exact ⟨_, _, _, _, rfl⟩
  | cons n r => exact dice_ok n r
theorem len1 {α : Type} {l : List α} (h : l.length = 1) : ∃ x, l = [x] := by
  match l, h with
  | [x], _ => exact ⟨x, rfl⟩
theorem len2 {α : Type} {l : List α} (h : l.length = 2) : ∃ x y, l = [x, y] := by
  match l, h with
  | [x, y], _ => exact ⟨x, y, rfl⟩
theorem all_at {l : List Nat} {f : Nat → Bool} {k : Nat} (h : l.all f = true) (hk : k ∈ l) : f k = true := List.all_eq_true.mp h k hk
theorem ev1 (a b c : Int) (m s t : Nat) (h1 : 2 ≤ m) (h2 : m < 9) (hs : s < 10) (ht : t < 9) : e1 a b c m s t = true := by
  have hs' := upN_mem 10 0 s (Nat.zero_le _) (by omega)
  have ht' := upN_mem 9 0 t (Nat.zero_le _) (by omega)
  have : m = 2 ∨ m = 3 ∨ m = 4 ∨ m = 5 ∨ m = 6 ∨ m = 7 ∨ m = 8 := by omega
  rcases this with rfl | rfl | rfl | rfl | rfl | rfl | rfl
  · exact all_at (all_at (ev1_2 a b c) hs') ht'
  · exact all_at (all_at (ev1_3 a b c) hs') ht'
  · exact all_at (all_at (ev1_4 a b c) hs') ht'
  · exact all_at (all_at (ev1_5 a b c) hs') ht'
  · exact all_at (all_at (ev1_6 a b c) hs') ht'
  · exact all_at (all_at (ev1_7 a b c) hs') ht'
  · exact all_at (all_at (ev1_8 a b c) hs') ht'
theorem ev2 (a b c : Int) (m0 : MO) (m s t r : Nat) (h1 : 2 ≤ m) (h2 : m < 9) (hs : s < 10) (ht : t < 9) (hr : r < m) : e2 a b c m0 m s t r = true := by
  have hs' := upN_mem 10 0 s (Nat.zero_le _) (by omega)
  have ht' := upN_mem 9 0 t (Nat.zero_le _) (by omega)
  have hr' := upN_mem m 0 r (Nat.zero_le _) (by omega)
  have : m = 2 ∨ m = 3 ∨ m = 4 ∨ m = 5 ∨ m = 6 ∨ m = 7 ∨ m = 8 := by omega
  rcases this with rfl | rfl | rfl | rfl | rfl | rfl | rfl
  · exact all_at (all_at (all_at (ev2_2 a b c m0) hs') ht') hr'
  · exact all_at (all_at (all_at (ev2_3 a b c m0) hs') ht') hr'
  · exact all_at (all_at (all_at (ev2_4 a b c m0) hs') ht') hr'
  · exact all_at (all_at (all_at (ev2_5 a b c m0) hs') ht') hr'
  · exact all_at (all_at (all_at (ev2_6 a b c m0) hs') ht') hr'
  · exact all_at (all_at (all_at (ev2_7 a b c m0) hs') ht') hr'
  · exact all_at (all_at (all_at (ev2_8 a b c m0) hs') ht') hr'
theorem ev3 (a b c : Int) (m0 : MO) (m t : Nat) (h1 : 2 ≤ m) (h2 : m < 9) (ht : t < 9) : e3 a b c m0 m t = true := by
  have ht' := upN_mem 9 0 t (Nat.zero_le _) (by omega)
  have : m = 2 ∨ m = 3 ∨ m = 4 ∨ m = 5 ∨ m = 6 ∨ m = 7 ∨ m = 8 := by omega
  rcases this with rfl | rfl | rfl | rfl | rfl | rfl | rfl
  · exact all_at (ev3_2 a b c m0) ht'
  · exact all_at (ev3_3 a b c m0) ht'
  · exact all_at (ev3_4 a b c m0) ht'
  · exact all_at (ev3_5 a b c m0) ht'
  · exact all_at (ev3_6 a b c m0) ht'
  · exact all_at (ev3_7 a b c m0) ht'
  · exact all_at (ev3_8 a b c m0) ht'
theorem ev4 (a b c : Int) (m0 m1 : MO) (m t r : Nat) (h1 : 2 ≤ m) (h2 : m < 9) (ht : t < 9) (hr : r < 2) : e4 a b c m0 m1 m t r = true := by
  have ht' := upN_mem 9 0 t (Nat.zero_le _) (by omega)
  have hr' := upN_mem 2 0 r (Nat.zero_le _) (by omega)
  have : m = 2 ∨ m = 3 ∨ m = 4 ∨ m = 5 ∨ m = 6 ∨ m = 7 ∨ m = 8 := by omega
  rcases this with rfl | rfl | rfl | rfl | rfl | rfl | rfl
  · exact all_at (all_at (ev4_2 a b c m0 m1) ht') hr'
  · exact all_at (all_at (ev4_3 a b c m0 m1) ht') hr'
  · exact all_at (all_at (ev4_4 a b c m0 m1) ht') hr'
  · exact all_at (all_at (ev4_5 a b c m0 m1) ht') hr'
  · exact all_at (all_at (ev4_6 a b c m0 m1) ht') hr'
  · exact all_at (all_at (ev4_7 a b c m0 m1) ht') hr'
  · exact all_at (all_at (ev4_8 a b c m0 m1) ht') hr'
/-! ### the rest -/
theorem rest_ok (a b c : Int) (m0 : MO) (m t : Nat) (h1 : 2 ≤ m) (h2 : m < 9) (ht : t < 9) : ∃ a' b' c' y, m_law_rest1 [.loc 0, .d (.int (Int.ofNat m)), .d (.int (Int.ofNat t))] [.lst (diceD a b c), m0] = .ok (.d (.bl true)) [.lst (diceD a' b' c'), y] := by
  obtain ⟨sl, a1, b1, c1, tl, e, hl, ek⟩ := okSeg_ok (ev3 a b c m0 m t h1 h2 ht)
  obtain ⟨x0, x1, rfl⟩ := len2 hl
  obtain ⟨r, a2, b2, c2, hr, er⟩ := roll_ok 2 (by decide) a1 b1 c1 [x0, x1]
  obtain ⟨a3, b3, c3, tl2, e4', hl2⟩ := okRt_ok (ev4 a2 b2 c2 x0 x1 m t r h1 h2 ht hr)
  have g1 : g_law_rest1_1 (slR m t) [.lst (diceD a1 b1 c1), x0, x1] = .nx (slR2 m t r) [.lst (diceD a2 b2 c2), x0, x1, .dct true []] := by
    unfold g_law_rest1_1
    have hr2 : r = 0 ∨ r = 1 := by omega
    refine sTupN_ok (xs := [.d (.int (Int.ofNat (m * (1 + r)))), .loc 3]) (aCons_ok (st1 := [.lst (diceD a2 b2 c2), x0, x1]) (eBin_ok rfl (eBin_ok rfl (eApp_ok rfl er) rfl) ?_) (aCons_ok rfl rfl)) rfl rfl
    rcases hr2 with rfl | rfl <;> rfl
  have hb : b_m_law_rest1 (slR m t) [.lst (diceD a b c), m0] = .rt (.d (.bl true)) (.lst (diceD a3 b3 c3) :: tl2) := by
    show sSeqs g_law_rest1_0 k_law_rest1_1 (slR m t) [.lst (diceD a b c), m0] = _
    rw [sSeqs_nx e]
    show sSeq g_law_rest1_1 k_law_rest1_2 (keepO [0, 1, 2] 0 sl) [.lst (diceD a1 b1 c1), x0, x1] = _
    rw [ek, sSeq_nx g1]
    exact e4'
  match tl2, hl2 with
  | y :: tl3, _ =>
    refine ⟨a3, b3, c3, y, ?_⟩
    show endF (b_m_law_rest1 (slR m t) [.lst (diceD a b c), m0]) 2 = _
    rw [hb]
    rfl
theorem law_all (x y z : Int) : ∃ sl st, b_m_law (none :: some (.loc 0) :: List.replicate 10 none) [.lst (diceD x y z)] = .nx sl st := by
  obtain ⟨r1, x1, y1, z1, h1, e1'⟩ := roll_ok 7 (by decide) x y z []
  obtain ⟨s, x2, y2, z2, h2, e2'⟩ := roll_ok 10 (by decide) x1 y1 z1 []
  obtain ⟨t, x3, y3, z3, h3, e3'⟩ := roll_ok 9 (by decide) x2 y2 z2 []
  have hm1 : 2 ≤ 2 + r1 := by omega
  have hm2 : 2 + r1 < 9 := by omega
  have g0 : g_law_0 (none :: some (.loc 0) :: List.replicate 10 none) [.lst (diceD x y z)] = .nx (slots1 (2 + r1) s t) [.lst (diceD x3 y3 z3)] := by
    unfold g_law_0
    exact sTupN_ok (xs := [.d (.int (Int.ofNat (2 + r1))), .d (.int (Int.ofNat s)), .d (.int (Int.ofNat t))]) (aCons_ok (st1 := [.lst (diceD x1 y1 z1)]) (eBin_ok rfl (eApp_ok rfl e1') rfl) (aCons_ok (st1 := [.lst (diceD x2 y2 z2)]) (eApp_ok rfl e2') (aCons_ok (st1 := [.lst (diceD x3 y3 z3)]) (eApp_ok rfl e3') rfl))) rfl rfl
  generalize hm : 2 + r1 = m at g0 hm1 hm2
  obtain ⟨sl, a, b, c, tl, e, hl, ek⟩ := okSeg_ok (ev1 x3 y3 z3 m s t hm1 hm2 h2 h3)
  obtain ⟨m0, rfl⟩ := len1 hl
  obtain ⟨r, a1, b1, c1, hr, er⟩ := roll_ok m (by simp only [List.mem_cons, List.not_mem_nil, or_false]; omega) a b c [m0]
  have g2 : g_law_2 (slots1 m s t) [.lst (diceD a b c), m0] = .nx (slots2 m s t r) [.lst (diceD a1 b1 c1), m0] := by
    unfold g_law_2
    exact sSet_ok (eApp_ok (xs := [.loc 0, .d (.int (Int.ofNat m))]) rfl er)
  obtain ⟨sl3, a2, b2, c2, tl3, e', hl3, ek3⟩ := okSeg_ok (ev2 a1 b1 c1 m0 m s t r hm1 hm2 h2 h3 hr)
  obtain ⟨m1, rfl⟩ := len1 hl3
  obtain ⟨a3, b3, c3, y0, er3⟩ := rest_ok a2 b2 c2 m1 m t hm1 hm2 h3
  have g4 : g_law_4 (slots3 m t) [.lst (diceD a2 b2 c2), m1] = .nx (slots3 m t) [.lst (diceD a3 b3 c3), y0] := by
    unfold g_law_4 sIf tNotM eTest
    rw [eApp_ok (xs := [.loc 0, .d (.int (Int.ofNat m)), .d (.int (Int.ofNat t))]) rfl er3]
    rfl
  refine ⟨slots3 m t, [.lst (diceD a3 b3 c3), y0], ?_⟩
  show sSeq g_law_0 k_law_1 _ _ = _
  rw [sSeq_nx g0]
  show sSeqs g_law_1 k_law_2 (keepO [1, 2, 3, 4] 0 (slots1 m s t)) [.lst (diceD x3 y3 z3)] = _
  have ek0 : keepO [1, 2, 3, 4] 0 (slots1 m s t) = slots1 m s t := rfl
  rw [ek0, sSeqs_nx e]
  show sSeq g_law_2 k_law_3 (keepO [1, 2, 3, 4] 0 sl) [.lst (diceD a b c), m0] = _
  rw [ek, sSeq_nx g2]
  show sSeqs g_law_3 k_law_4 (slots2 m s t r) [.lst (diceD a1 b1 c1), m0] = _
  rw [sSeqs_nx e']
  show g_law_4 (keepO [1, 2, 4] 0 sl3) [.lst (diceD a2 b2 c2), m1] = _
  rw [ek3]
  exact g4
end DHk06
namespace DHk06
open PySem PySem.Spec PyProof.Rows L2 DH
abbrev R : PySem.W.OpenRow := PySem.W.OpenLaw.row PySem.Challenge.rw_dancehall_k06_rings
abbrev hk : PySem.W.Hook := He.hookX 5 fa fn [] tf exB
def ob (s : PySem.W.SharedT) : He.AlX := He.obsX 5 fa fn [] tf exB (HandSHeadRun.getT s)
theorem ob_eq (s : PySem.W.SharedT) : ob s = hk.obs s.abs := He.obsX_eq (HandSHeadRun.getT_eq s)
def loose : List PySem.Str := (["DanceFault", "BadPlace", "BadFigure", "BadTune", "BadBook", "Bump", "NoWay", "TooLarge", "BadText", "greatest_part", "GREATEST", "check_ring", "partner", "home_in", "partners_of"] : List PySem.Str) ++ (["all_partners", "good_steps", "mixed_after", "first_with", "hands", "chain_spots", "facing_pairs", "hands_home", "hand_given", "square_words", "promenade", "across", "corner", "corner_dances", "meets_in_rings"] : List PySem.Str) ++ (["_law_dice", "_law_roll", "_law_rounds", "_law_told", "_law_cases1", "_law_rest1"] : List PySem.Str)
theorem run (w : World) : HandSHeadRun.RunEq R (PySem.W.view R.prog [40]) hk ob 20000 loose w := by
  intro os
  kernel_rfl
theorem fun_uniq {K : PySem.W.Frag} {x qual : Str} {params : Arguments} {body : List Stmt} {scope : Scope} {f : Addr} {fd fd' : FuncData} (F : FunD K x qual params body scope [] [] f fd) (F' : FunD K x qual params body scope [] [] f fd') : fd = fd' := by
  obtain ⟨oc, od, dV, kV, doc, pm, an, cdv, ct, osl, _, lk, _⟩ := F.ex
  obtain ⟨oc', od', dV', kV', doc', pm', an', cdv', ct', osl', _, lk', _⟩ := F'.ex
  rw [lk] at lk'
  cases lk'
  rfl
theorem facts {w : World} {K : PySem.W.Frag} {h : Heap} {mg : Str → Option Value} {f : Addr} (KX : K.In h) (G : h.Ns mainGlobals mg) (hfa : mg ("law" : Str) = some (.ref f)) (c : He.SaysX fa fn [] tf exB w h K) :
    LamX.LawAtS PySem.Challenge.rw_dancehall_k06_rings w K (L2.CX (PySem.Challenge.rw_dancehall_k06_rings).prog w) 15 63 "script" mg f h := by
  obtain ⟨fd, F⟩ := c.t.d.def_ 26 (d := d_law) rfl
  have e := hfa.symm.trans (He.glo_ok KX G (c.t.d.fact 47 (f := .glo "law") rfl))
  cases e
  have b := FunD.bindsA (ps := ["script"]) F fun _ _ _ _ _ _ us hl => match us, hl with | [_], _ => rfl
  have mem : ∀ p ∈ tf.map (He.cT K), ∃ d ∈ tf, He.cT K d = p := fun p hp => by
    obtain ⟨d, h1, h2⟩ := List.mem_map.mp hp
    exact ⟨d, h1, h2⟩
  refine ⟨fd, tf.map (He.cT K), spLaw (gm K), fun p hp => ?_, fun p hp => ?_, fun p hp => ?_, fun s v => b s [v] rfl, fun H a ns hl _ hT hS => ?_, fun base kb nb tb => ?_⟩
  · obtain ⟨d, h1, rfl⟩ := mem p hp
    exact c.empty d h1
  · obtain ⟨d, h1, rfl⟩ := mem p hp
    exact c.out d h1
  · obtain ⟨d, h1, rfl⟩ := mem p hp
    exact PySem.W.codeHd_of_K KX (c.hd d h1)
  · refine ⟨a, ns, rfl, hS, fun p hp => ?_, fun _ => rfl⟩
    have : p.1 ∈ (tf.map (He.cT K)).map (·.2) := by
      have e : (tf.map (He.cT K)).map (·.2) = (lamT K).map (·.1) := rfl
      rw [e]
      exact List.mem_map.mpr ⟨p, hp, rfl⟩
    obtain ⟨z, hz, ez⟩ := List.mem_map.mp this
    exact LamX.TabS.nil (by rw [← ez]; exact hT z hz)
  · have fc : Facts K mg base := ⟨c.t.d, kb, nb, fun p hp => tb _ (List.mem_map.mpr ⟨p, hp, rfl⟩), c.more⟩
    obtain ⟨fd', F', ok⟩ := ok_law (P := (PySem.Challenge.rw_dancehall_k06_rings).prog) (w := w) fc rounds_all law_all
    have ef := fun_uniq F F'
    subst ef
    exact ok
theorem cx_none {P : Program} {w : World} {H : Hp} {s : Shared} {e : Value} {s' : Shared} (h : L2.CX P w [] H s (fun _ _ _ => False) e s') : False := by
  unfold L2.CX at h
  simp at h
end DHk06
open PySem PySem.W PySem.Calls PyProof.Rows
theorem PySem.Challenge.cw_dancehall_k06_rings_holds : PySem.Challenge.rw_dancehall_k06_rings.Holds := by
  w_on; o_law
  refine HandSHeadRun.head_any (r := OpenLaw.row PySem.Challenge.rw_dancehall_k06_rings) (q := view (OpenLaw.row PySem.Challenge.rw_dancehall_k06_rings).prog [40]) (H := DHk06.hk) (ob := DHk06.ob) (M := 20000) (loose := DHk06.loose) (d := HandSHeadRun.topDef (OpenLaw.row PySem.Challenge.rw_dancehall_k06_rings).prog 40) (kwd := []) DHk06.ob_eq
    (by kernel_rfl) (fun s => by kernel_rfl) DHk06.run (by kernel_rfl) (by kernel_rfl) (by kernel_rfl) (by rfl) (by first | assumption | decide +kernel) (by decide +kernel) ⟨rfl, rfl, rfl, rfl, rfl, by decide +kernel⟩ ?hw ?hc
  case hw => w_witness2
  case hc =>
    refine LamX.walk_ofTsE (l := PySem.Challenge.rw_dancehall_k06_rings) (n := 63) (k := 15) (x := "script") (CX := fun w => L2.CX (PySem.Challenge.rw_dancehall_k06_rings).prog w) rfl (by decide) (by kernel_rfl) ⟨rfl, by decide, by decide⟩ ?F (fun _ _ _ _ _ z => DHk06.cx_none z)
    intro w mg fa h Y G hmg0
    obtain ⟨K, KX, c⟩ := Y
    have hmg : mg ("law" : PySem.Str) = some (.ref fa) := by
      have e : (HandSHeadRun.topDef (OpenLaw.row PySem.Challenge.rw_dancehall_k06_rings).prog 40).name = ("law" : PySem.Str) := by kernel_rfl
      rw [← e]
      exact hmg0
    exact ⟨K, KX, DHk06.facts KX G hmg c⟩
