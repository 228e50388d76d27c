import PyProof.Rows.All
import Wide.All
import OpenK.AllK
import Wide.FinOn
import HandS.ForMost
import HandS.Exc
import HandS.ForExc
import HandS.TryMany
import HandS.TryOnly
import HandS.ExcOwn
import HandS.CallSlots
import HandS.Conv
import HandS.Lambda
import HandS.Flow
import HandS.NoneIn
import HandS.Deep
import HandS.Strs
import HandS.TupLen
import HandS.WordsDict
import HandS.Rev
import HandS.DictTup
import KE.SortData
import KE.GoesMore
import HandS.Defaults
import HandS.HeadWalk
import HandS.HeadHook4
import HandS.AnyAll
import HandS.RevTup
import HandS.TupAny
import HandS.Text
import PyProof.TupleOfSeq
import HandS.Proxy
import HandS.SortKw
import HandS.Style
import KE.DataMinMax
import HandS.TupMul
import HandS.Ends
import HandS.Head0
import HandS.Head1
import HandS.Head2
import HandS.HeadEnd
import KE.KStateDown
import PySem.Challenge.RW_dancehall_k08_words_of_passes
set_option Elab.async false
set_option linter.all false
set_option maxRecDepth 100000
set_option maxHeartbeats 0
/-! Data that no heap bears, a store of things that change, and what relates them to the layer's heap. -/
namespace DH
open PySem PySem.Spec PyProof.Rows L2

/-- a value as data (a tuple's flag: false, it may be a dict's key; true, its methods may be called): tuples, lists, dicts and objects that nobody changes any more are told by what they hold -/
inductive D where
  | non | bl (b : Bool) | int (i : Int) | str (cs : List Nat)
  | tup (f : Bool) (xs : List D) | lst (xs : List D)
  | dct (t : Bool) (kvs : List (D × D))
  | obj (c : Nat) (fs : List (Nat × D))
/-- data, or a place of the store -/
inductive X where
  | d (x : D) | loc (l : Nat)
/-- what may still be changed -/
inductive MO where
  | lst (xs : List D) | dct (t : Bool) (kvs : List (D × D)) | ins (c : Nat) (fs : List (Nat × D))
  /-- the dice: the rolls that they will give, each with its number of sides -/
  | orc (l : List (Nat × Nat))
abbrev Store := List MO
abbrev Slots := List (Option X)
/-- an outcome -/
inductive O (α : Type) where
  | ok (a : α) (st : Store) | exn (c : Nat) (fs : List (Nat × D)) (st : Store) | bad
def O.bind {α β : Type} (o : O α) (k : α → Store → O β) : O β := match o with
  | .ok a st => k a st
  | .exn c fs st => .exn c fs st
  | .bad => .bad
abbrev EM (α : Type) := Slots → Store → O α
abbrev Fn := List X → Store → O X

/-- what is fixed: the written part, classes by number, field names by number, the tables of code objects -/
structure Gm where
  K : PySem.W.Frag
  ca : Nat → Addr
  fn : Nat → Str
  T : List (Addr × Str)
  /-- what a roll does -/
  rl : Fn
/-- the dice ds give the rolls l -/
def Agr (f : Fn) : List D → List (Nat × Nat) → Prop
  | _, [] => True
  | ds, (n, r) :: t => ∃ x y z : Int, (∀ st, f [.loc 0, .d (.int (Int.ofNat n))] (.lst ds :: st) = .ok (.d (.int (Int.ofNat r))) (.lst [.int x, .int y, .int z] :: st)) ∧ Agr f [.int x, .int y, .int z] t

/-- never a table -/
def NT (o : HO) : Prop := ∀ ps, o ≠ .tbl ps
def FzT (G : Gm) (N : Addr → Prop) (H : Hp) (f : Bool) (a : Addr) (vs : List V) : Prop := match f with
  | false => H a = some (.tup vs) ∧ ¬ N a
  | true => (∃ o, H a = some (.frz o (.tup vs)) ∧ o.dict = none ∧ ¬ N a) ∨ ∃ (o : Obj) (its : Array Value) (n : Nat), G.K.lookup a = some o ∧ o.dict = none ∧ o.cls = .type "tuple" ∧ o.data = .seq its n ∧ its.size ≤ sizeLine ∧ Vals vs its.toList
def FzL (G : Gm) (N : Addr → Prop) (H : Hp) (a : Addr) (vs : List V) : Prop := H a = some (.lst vs) ∧ ¬ N a
theorem FzT.sq {G : Gm} {N : Addr → Prop} {H : Hp} {f : Bool} {a : Addr} {vs : List V} (h : FzT G N H f a vs) : SqT G.K H a vs := by
  cases f with
  | false => exact .inl (.inl h.1)
  | true =>
    rcases h with ⟨o, h, _⟩ | ⟨o, its, n, h1, _, h2⟩
    · exact .inl (.inr ⟨o, h⟩)
    · exact .inr ⟨o, its, n, h1, h2⟩
theorem FzL.sq {G : Gm} {N : Addr → Prop} {H : Hp} {a : Addr} {vs : List V} (h : FzL G N H a vs) : SqL G.K H a vs := .inl (.inl h.1)

def strOf (cs : List Nat) : Str := ⟨cs.toArray⟩
/-- a dict's key -/
def keyOf : D → Option Key
  | .int i => some (.inl i)
  | .str cs => some (.inr (strOf cs))
  | _ => none
def keysOf : List D → Option (List Key)
  | [] => some []
  | x :: r => match keyOf x, keysOf r with
    | some k, some ks => some (k :: ks)
    | _, _ => none

mutual
def RelD (G : Gm) (N : Addr → Prop) (H : Hp) : D → V → Prop
  | .non, v => v = .non
  | .bl b, v => v = .bl b
  | .int i, v => v = .int i
  | .str cs, v => v = .str (strOf cs)
  | .tup f xs, v => ∃ a vs, v = .ref a ∧ FzT G N H f a vs ∧ RelDs G N H xs vs
  | .lst xs, v => ∃ a vs, v = .ref a ∧ FzL G N H a vs ∧ RelDs G N H xs vs
  | .dct t kvs, v => ∃ a, v = .ref a ∧ ¬ N a ∧ ((∃ ps : List (Key × V), H a = some (.dK ps) ∧ t = false ∧ RelK G N H kvs ps) ∨ (∃ ps : List (List Key × V), H a = some (.dT ps) ∧ t = true ∧ RelT G N H kvs ps))
  | .obj c fs, v => ∃ a dx ps, v = .ref a ∧ ¬ N a ∧ H a = some (.ins (G.ca c) dx ps) ∧ RelF G N H fs ps
def RelDs (G : Gm) (N : Addr → Prop) (H : Hp) : List D → List V → Prop
  | [], vs => vs = []
  | x :: xs, vs => ∃ v r, vs = v :: r ∧ RelD G N H x v ∧ RelDs G N H xs r
def RelK (G : Gm) (N : Addr → Prop) (H : Hp) : List (D × D) → List (Key × V) → Prop
  | [], ps => ps = []
  | (k, x) :: xs, ps => ∃ q v r, ps = (q, v) :: r ∧ keyOf k = some q ∧ RelD G N H x v ∧ RelK G N H xs r
def RelT (G : Gm) (N : Addr → Prop) (H : Hp) : List (D × D) → List (List Key × V) → Prop
  | [], ps => ps = []
  | (k, x) :: xs, ps => ∃ q v r, ps = (q, v) :: r ∧ (∃ ks, k = .tup false ks ∧ keysOf ks = some q) ∧ RelD G N H x v ∧ RelT G N H xs r
def RelF (G : Gm) (N : Addr → Prop) (H : Hp) : List (Nat × D) → List (Str × V) → Prop
  | [], ps => ps = []
  | (n, x) :: xs, ps => ∃ v r, ps = (G.fn n, v) :: r ∧ RelD G N H x v ∧ RelF G N H xs r
end

section
variable {G : Gm} {N N' : Addr → Prop} {H H' : Hp}
/-- all that is not N's stays -/
def Keeps (N : Addr → Prop) (H : Hp) (N' : Addr → Prop) (H' : Hp) : Prop := ∀ a o, H a = some o → NT o → ¬ N a → H' a = some o ∧ ¬ N' a
theorem Keeps.fzT (k : Keeps N H N' H') {f : Bool} {a : Addr} {vs : List V} (h : FzT G N H f a vs) : FzT G N' H' f a vs := by
  cases f with
  | false => exact k a _ h.1 (fun ps z => by cases z) h.2
  | true =>
    rcases h with ⟨o, h, d, n⟩ | h
    · obtain ⟨e, n'⟩ := k a _ h (fun ps z => by cases z) n
      exact .inl ⟨o, e, d, n'⟩
    · exact .inr h
theorem Keeps.fzL (k : Keeps N H N' H') {a : Addr} {vs : List V} (h : FzL G N H a vs) : FzL G N' H' a vs := k a _ h.1 (fun ps z => by cases z) h.2
mutual
theorem RelD.mono (k : Keeps N H N' H') : ∀ (x : D) {v : V}, RelD G N H x v → RelD G N' H' x v
  | .non, v, h => h
  | .bl b, v, h => h
  | .int i, v, h => h
  | .str cs, v, h => h
  | .tup f xs, v, h => by
    obtain ⟨a, vs, e, f, r⟩ := h
    exact ⟨a, vs, e, k.fzT f, RelDs.mono k xs r⟩
  | .lst xs, v, h => by
    obtain ⟨a, vs, e, f, r⟩ := h
    exact ⟨a, vs, e, k.fzL f, RelDs.mono k xs r⟩
  | .dct t kvs, v, h => by
    obtain ⟨a, e, n, h⟩ := h
    rcases h with ⟨ps, h, tt, r⟩ | ⟨ps, h, tt, r⟩
    · obtain ⟨h', n'⟩ := k a _ h (fun ps z => by cases z) n
      exact ⟨a, e, n', .inl ⟨ps, h', tt, RelK.mono k kvs r⟩⟩
    · obtain ⟨h', n'⟩ := k a _ h (fun ps z => by cases z) n
      exact ⟨a, e, n', .inr ⟨ps, h', tt, RelT.mono k kvs r⟩⟩
  | .obj c fs, v, h => by
    obtain ⟨a, dx, ps, e, n, h, r⟩ := h
    obtain ⟨h', n'⟩ := k a _ h (fun ps z => by cases z) n
    exact ⟨a, dx, ps, e, n', h', RelF.mono k fs r⟩
theorem RelDs.mono (k : Keeps N H N' H') : ∀ (xs : List D) {vs : List V}, RelDs G N H xs vs → RelDs G N' H' xs vs
  | [], vs, h => h
  | x :: xs, vs, h => by
    obtain ⟨v, r, e, h1, h2⟩ := h
    exact ⟨v, r, e, RelD.mono k x h1, RelDs.mono k xs h2⟩
theorem RelK.mono (k : Keeps N H N' H') : ∀ (xs : List (D × D)) {ps : List (Key × V)}, RelK G N H xs ps → RelK G N' H' xs ps
  | [], vs, h => h
  | (q, x) :: xs, vs, h => by
    obtain ⟨p, v, r, e, h0, h1, h2⟩ := h
    exact ⟨p, v, r, e, h0, RelD.mono k x h1, RelK.mono k xs h2⟩
theorem RelT.mono (k : Keeps N H N' H') : ∀ (xs : List (D × D)) {ps : List (List Key × V)}, RelT G N H xs ps → RelT G N' H' xs ps
  | [], vs, h => h
  | (q, x) :: xs, vs, h => by
    obtain ⟨p, v, r, e, h0, h1, h2⟩ := h
    exact ⟨p, v, r, e, h0, RelD.mono k x h1, RelT.mono k xs h2⟩
theorem RelF.mono (k : Keeps N H N' H') : ∀ (xs : List (Nat × D)) {ps : List (Str × V)}, RelF G N H xs ps → RelF G N' H' xs ps
  | [], vs, h => h
  | (q, x) :: xs, vs, h => by
    obtain ⟨v, r, e, h1, h2⟩ := h
    exact ⟨v, r, e, RelD.mono k x h1, RelF.mono k xs h2⟩
end
theorem RelDs.length : ∀ {xs : List D} {vs : List V}, RelDs G N H xs vs → vs.length = xs.length
  | [], vs, h => by
    have e : vs = [] := h
    rw [e]; rfl
  | x :: xs, vs, h => by
    obtain ⟨v, r, e, h1, h2⟩ := h
    rw [e, List.length_cons, List.length_cons, RelDs.length h2]
theorem RelDs.get : ∀ {xs : List D} {vs : List V} {i : Nat} {x : D}, RelDs G N H xs vs → xs[i]? = some x → ∃ v, vs[i]? = some v ∧ RelD G N H x v
  | [], vs, i, x, h, e => by simp at e
  | y :: xs, vs, 0, x, h, e => by
    obtain ⟨v, r, e1, h1, h2⟩ := h
    simp at e
    subst e
    exact ⟨v, by rw [e1]; rfl, h1⟩
  | y :: xs, vs, i + 1, x, h, e => by
    obtain ⟨v, r, e1, h1, h2⟩ := h
    obtain ⟨w, e2, h3⟩ := RelDs.get (i := i) h2 (by simpa using e)
    exact ⟨w, by rw [e1]; simpa using e2, h3⟩
theorem RelDs.append : ∀ {xs ys : List D} {vs ws : List V}, RelDs G N H xs vs → RelDs G N H ys ws → RelDs G N H (xs ++ ys) (vs ++ ws)
  | [], ys, vs, ws, h, k => by
    have e : vs = [] := h
    rw [e]; exact k
  | x :: xs, ys, vs, ws, h, k => by
    obtain ⟨v, r, e, h1, h2⟩ := h
    exact ⟨v, r ++ ws, by rw [e]; rfl, h1, RelDs.append h2 k⟩
theorem RelDs.set : ∀ {xs : List D} {vs : List V} {x : D} {v : V} (i : Nat), RelDs G N H xs vs → RelD G N H x v → RelDs G N H (xs.set i x) (vs.set i v)
  | [], vs, x, v, i, h, k => by
    have e : vs = [] := h
    rw [e]; exact rfl
  | y :: xs, vs, x, v, 0, h, k => by
    obtain ⟨w, r, e, h1, h2⟩ := h
    exact ⟨v, r, by rw [e]; rfl, k, h2⟩
  | y :: xs, vs, x, v, i + 1, h, k => by
    obtain ⟨w, r, e, h1, h2⟩ := h
    exact ⟨w, r.set i v, by rw [e]; rfl, h1, RelDs.set i h2 k⟩
theorem RelDs.drop : ∀ {xs : List D} {vs : List V} (i : Nat), RelDs G N H xs vs → RelDs G N H (xs.drop i) (vs.drop i)
  | xs, vs, 0, h => h
  | [], vs, i + 1, h => by
    have e : vs = [] := h
    rw [e]; exact rfl
  | y :: xs, vs, i + 1, h => by
    obtain ⟨w, r, e, h1, h2⟩ := h
    rw [e]; exact RelDs.drop i h2
theorem RelDs.take : ∀ {xs : List D} {vs : List V} (i : Nat), RelDs G N H xs vs → RelDs G N H (xs.take i) (vs.take i)
  | xs, vs, 0, h => rfl
  | [], vs, i + 1, h => by
    have e : vs = [] := h
    rw [e]; exact rfl
  | y :: xs, vs, i + 1, h => by
    obtain ⟨w, r, e, h1, h2⟩ := h
    rw [e]; exact ⟨w, r.take i, rfl, h1, RelDs.take i h2⟩
theorem RelDs.reverse : ∀ {xs : List D} {vs : List V}, RelDs G N H xs vs → RelDs G N H xs.reverse vs.reverse
  | [], vs, h => by
    have e : vs = [] := h
    rw [e]; exact rfl
  | y :: xs, vs, h => by
    obtain ⟨w, r, e, h1, h2⟩ := h
    rw [e, List.reverse_cons, List.reverse_cons]
    exact RelDs.append (RelDs.reverse h2) ⟨w, [], rfl, h1, rfl⟩
theorem RelDs.eraseIdx : ∀ {xs : List D} {vs : List V} (i : Nat), RelDs G N H xs vs → RelDs G N H (xs.eraseIdx i) (vs.eraseIdx i)
  | [], vs, i, h => by
    have e : vs = [] := h
    rw [e]; exact rfl
  | y :: xs, vs, 0, h => by
    obtain ⟨w, r, e, h1, h2⟩ := h
    rw [e]; exact h2
  | y :: xs, vs, i + 1, h => by
    obtain ⟨w, r, e, h1, h2⟩ := h
    rw [e]; exact ⟨w, r.eraseIdx i, rfl, h1, RelDs.eraseIdx i h2⟩
theorem RelDs.one {x : D} {v : V} (h : RelD G N H x v) : RelDs G N H [x] [v] := ⟨v, [], rfl, h, rfl⟩
end

/-- N: the owner's F, and the store's own places -/
def Nn (F : Addr → Prop) (ρ : List Addr) : Addr → Prop := fun a => F a ∨ a ∈ ρ
def RelM (G : Gm) (N : Addr → Prop) (H : Hp) (o : MO) (a : Addr) : Prop := match o with
  | .lst xs => ∃ vs, H a = some (.lst vs) ∧ RelDs G N H xs vs
  | .dct t kvs => (∃ ps, H a = some (.dK ps) ∧ t = false ∧ RelK G N H kvs ps) ∨ (∃ ps, H a = some (.dT ps) ∧ t = true ∧ RelT G N H kvs ps)
  | .ins c fs => ∃ dx ps, H a = some (.ins (G.ca c) dx ps) ∧ RelF G N H fs ps
  | .orc l => ∃ x y z : Int, H a = some (.lst [.int x, .int y, .int z]) ∧ Agr G.rl [.int x, .int y, .int z] l
def RelX (G : Gm) (F : Addr → Prop) (ρ : List Addr) (H : Hp) (x : X) (v : V) : Prop := match x with
  | .d y => RelD G (Nn F ρ) H y v
  | .loc l => ∃ a, ρ[l]? = some a ∧ v = .ref a
def RelXs (G : Gm) (F : Addr → Prop) (ρ : List Addr) (H : Hp) : List X → List V → Prop
  | [], vs => vs = []
  | x :: xs, vs => ∃ v r, vs = v :: r ∧ RelX G F ρ H x v ∧ RelXs G F ρ H xs r
structure Rep (G : Gm) (F : Addr → Prop) (ρ : List Addr) (st : Store) (H : Hp) : Prop where
  len : ρ.length = st.length
  nd : ρ.Nodup
  dis : ∀ a ∈ ρ, ¬ F a
  fin : ∀ a, F a → ∃ o, H a = some o ∧ NT o ∧ ∀ vs, o ≠ .tup vs
  obj : ∀ (l : Nat) a o, ρ[l]? = some a → st[l]? = some o → RelM G (Nn F ρ) H o a
  tab : LamX.Tabs G.T H
/-- from (ρ, H) to (ρ', H') -/
structure Stp (ρ : List Addr) (H : Hp) (ρ' : List Addr) (H' : Hp) : Prop where
  keep : ∀ a o, H a = some o → NT o → a ∉ ρ → H' a = some o
  pre : ∃ m, ρ' = ρ ++ m
  new : ∀ a ∈ ρ', a ∈ ρ ∨ ∀ o, H a = some o → ¬ NT o
  some : ∀ a o, H a = some o → NT o → ∃ o', H' a = some o' ∧ NT o'
def SlOk (G : Gm) (F : Addr → Prop) (ρ : List Addr) (H : Hp) (sl : Slots) (σ : L2.St) : Prop :=
  sl.length = σ.length ∧ ∀ (i : Nat) x, sl[i]? = some (some x) → ∃ v, σ[i]? = some (some v) ∧ RelX G F ρ H x v

section
variable {G : Gm} {F : Addr → Prop} {ρ ρ' ρ1 : List Addr} {H H' H1 : Hp} {st st' : Store}
theorem Stp.refl (ρ : List Addr) (H : Hp) : Stp ρ H ρ H := ⟨fun _ _ h _ _ => h, ⟨[], by simp⟩, fun _ h => .inl h, fun _ o h n => ⟨o, h, n⟩⟩
theorem Stp.trans (a : Stp ρ H ρ1 H1) (b : Stp ρ1 H1 ρ' H') : Stp ρ H ρ' H' := by
  refine ⟨fun c o h n hc => ?_, ?_, fun c hc => ?_, fun c o h n => by
    obtain ⟨o', e', n'⟩ := a.some c o h n
    exact b.some c o' e' n'⟩
  · refine b.keep c o (a.keep c o h n hc) n fun z => ?_
    rcases a.new c z with y | y
    · exact hc y
    · exact y o h n
  · obtain ⟨m, e⟩ := a.pre
    obtain ⟨m', e'⟩ := b.pre
    exact ⟨m ++ m', by rw [e', e, List.append_assoc]⟩
  · rcases b.new c hc with y | y
    · exact a.new c y
    · refine .inr fun o e n => ?_
      obtain ⟨o', e', n'⟩ := a.some c o e n
      exact y o' e' n'
theorem Stp.keeps (s : Stp ρ H ρ' H') : Keeps (Nn F ρ) H (Nn F ρ') H' := fun a o h n k => by
  refine ⟨s.keep a o h n fun z => k (.inr z), fun z => ?_⟩
  rcases z with z | z
  · exact k (.inl z)
  · rcases s.new a z with y | y
    · exact k (.inr y)
    · exact y o h n
theorem RelX.mono (s : Stp ρ H ρ' H') {x : X} {v : V} (h : RelX G F ρ H x v) : RelX G F ρ' H' x v := by
  cases x with
  | d y => exact RelD.mono s.keeps y h
  | loc l =>
    obtain ⟨a, e, r⟩ := h
    obtain ⟨m, q⟩ := s.pre
    refine ⟨a, ?_, r⟩
    rw [q, List.getElem?_append_left (List.getElem?_eq_some_iff.mp e).1]
    exact e
theorem RelXs.mono (s : Stp ρ H ρ' H') : ∀ {xs : List X} {vs : List V}, RelXs G F ρ H xs vs → RelXs G F ρ' H' xs vs
  | [], vs, h => h
  | x :: xs, vs, h => by
    obtain ⟨v, r, e, h1, h2⟩ := h
    exact ⟨v, r, e, h1.mono s, RelXs.mono s h2⟩
theorem SlOk.mono (s : Stp ρ H ρ' H') {sl : Slots} {σ : L2.St} (h : SlOk G F ρ H sl σ) : SlOk G F ρ' H' sl σ :=
  ⟨h.1, fun i x e => by
    obtain ⟨v, q, r⟩ := h.2 i x e
    exact ⟨v, q, r.mono s⟩⟩
theorem SlOk.set {sl : Slots} {σ : L2.St} {x : X} {v : V} (h : SlOk G F ρ H sl σ) (i : Nat) (r : RelX G F ρ H x v) : SlOk G F ρ H (sl.set i (some x)) (σ.set i (some v)) := by
  refine ⟨by rw [List.length_set, List.length_set, h.1], fun j y e => ?_⟩
  by_cases hj : i = j
  · subst hj
    by_cases hl : i < sl.length
    · rw [List.getElem?_set_self hl] at e
      injection e with e
      injection e with e
      subst e
      exact ⟨v, by rw [List.getElem?_set_self (by rw [← h.1]; exact hl)], r⟩
    · rw [List.getElem?_eq_none (by simpa using hl)] at e
      cases e
  · rw [List.getElem?_set_ne hj] at e ⊢
    exact h.2 j y e
theorem Rep.fresh (R : Rep G F ρ st H) {p : Addr} (h : H p = none) : ¬ Nn F ρ p := fun z => by
  rcases z with z | z
  · obtain ⟨o, e, _⟩ := R.fin p z
    rw [h] at e; cases e
  · obtain ⟨l, hl, e⟩ := List.mem_iff_getElem.mp z
    have hs : l < st.length := by rw [← R.len]; exact hl
    have q := R.obj l p st[l] (by rw [List.getElem?_eq_getElem hl, e]) (List.getElem?_eq_getElem hs)
    cases ho : st[l] with
    | lst xs =>
      rw [ho] at q
      obtain ⟨vs, e, _⟩ := q
      rw [h] at e; cases e
    | dct t kvs =>
      rw [ho] at q
      rcases q with ⟨ps, e, _⟩ | ⟨ps, e, _⟩ <;> (rw [h] at e; cases e)
    | ins c fs =>
      rw [ho] at q
      obtain ⟨dx, ps, e, _⟩ := q
      rw [h] at e; cases e
    | orc l =>
      rw [ho] at q
      obtain ⟨x, y, z, e, _⟩ := q
      rw [h] at e; cases e
/-- a new thing laid, which the store does not hold -/
theorem stp_new {p : Addr} {o : HO} (h : H p = none) : Stp ρ H ρ (upd H p o) :=
  ⟨fun a u e _ _ => by rw [upd_ne (ne_of_none e h)]; exact e, ⟨[], by simp⟩, fun _ z => .inl z, fun a u e n => ⟨u, by rw [upd_ne (ne_of_none e h)]; exact e, n⟩⟩
theorem RelM.mono {N N' : Addr → Prop} (k : Keeps N H N' H') {o : MO} {a : Addr} (h : RelM G N H o a) (e : H' a = H a) : RelM G N' H' o a := by
  cases o with
  | lst xs =>
    obtain ⟨vs, q, r⟩ := h
    exact ⟨vs, by rw [e]; exact q, RelDs.mono k xs r⟩
  | dct t kvs =>
    rcases h with ⟨ps, q, tt, r⟩ | ⟨ps, q, tt, r⟩
    · exact .inl ⟨ps, by rw [e]; exact q, tt, RelK.mono k kvs r⟩
    · exact .inr ⟨ps, by rw [e]; exact q, tt, RelT.mono k kvs r⟩
  | ins c fs =>
    obtain ⟨dx, ps, q, r⟩ := h
    exact ⟨dx, ps, by rw [e]; exact q, RelF.mono k fs r⟩
  | orc l =>
    obtain ⟨x, y, z, q, r⟩ := h
    exact ⟨x, y, z, by rw [e]; exact q, r⟩
theorem tabs_new {T : List (Addr × Str)} {p : Addr} {o : HO} (h : H p = none) (t : LamX.Tabs T H) : LamX.Tabs T (upd H p o) :=
  t.ext fun b u e => by rw [upd_ne (ne_of_none e h)]; exact e
theorem Rep.new (R : Rep G F ρ st H) {p : Addr} {o : HO} (h : H p = none) : Rep G F ρ st (upd H p o) := by
  have s : Stp ρ H ρ (upd H p o) := stp_new h
  refine ⟨R.len, R.nd, R.dis, fun a z => ?_, fun l a m e1 e2 => ?_, tabs_new h R.tab⟩
  · obtain ⟨u, e, n⟩ := R.fin a z
    exact ⟨u, by rw [upd_ne (ne_of_none e h)]; exact e, n⟩
  · refine (R.obj l a m e1 e2).mono s.keeps ?_
    rw [upd_ne]
    rintro rfl
    exact R.fresh h (.inr (List.mem_of_getElem? e1))
/-- a new thing laid, which the store holds -/
theorem stp_more {p : Addr} {o : HO} (h : H p = none) : Stp ρ H (ρ ++ [p]) (upd H p o) :=
  ⟨fun a u e _ _ => by rw [upd_ne (ne_of_none e h)]; exact e, ⟨[p], rfl⟩, fun a z => by
    rcases List.mem_append.mp z with z | z
    · exact .inl z
    · have e : a = p := by simpa using z
      rw [e]; exact .inr (fun o q => by rw [h] at q; cases q), fun a u e n => ⟨u, by rw [upd_ne (ne_of_none e h)]; exact e, n⟩⟩
theorem Rep.more (R : Rep G F ρ st H) {p : Addr} {o : HO} {m : MO} (h : H p = none) (hm : RelM G (Nn F (ρ ++ [p])) (upd H p o) m p) : Rep G F (ρ ++ [p]) (st ++ [m]) (upd H p o) := by
  have s : Stp ρ H (ρ ++ [p]) (upd H p o) := stp_more h
  have np : p ∉ ρ := fun z => R.fresh h (.inr z)
  refine ⟨by rw [List.length_append, List.length_append, R.len]; rfl, ?_, fun a z => ?_, fun a z => ?_, fun l a u e1 e2 => ?_, tabs_new h R.tab⟩
  · rw [List.nodup_append]
    exact ⟨R.nd, by simp, fun a ha b hb => by
      have e : b = p := by simpa using hb
      rw [e]; rintro rfl; exact np ha⟩
  · rcases List.mem_append.mp z with z | z
    · exact R.dis a z
    · have e : a = p := by simpa using z
      rw [e]; exact fun y => R.fresh h (.inl y)
  · obtain ⟨u, e, n⟩ := R.fin a z
    exact ⟨u, by rw [upd_ne (ne_of_none e h)]; exact e, n⟩
  · by_cases hl : l < ρ.length
    · rw [List.getElem?_append_left hl] at e1
      rw [List.getElem?_append_left (by rw [← R.len]; exact hl)] at e2
      refine (R.obj l a u e1 e2).mono s.keeps ?_
      rw [upd_ne]
      rintro rfl
      exact np (List.mem_of_getElem? e1)
    · have e : l = ρ.length := by
        have := (List.getElem?_eq_some_iff.mp e1).1
        rw [List.length_append] at this
        simp at this
        omega
      subst e
      rw [List.getElem?_append_right (Nat.le_refl _)] at e1
      rw [List.getElem?_append_right (by rw [R.len]; exact Nat.le_refl _), R.len] at e2
      simp at e1 e2
      rw [← e1, ← e2]; exact hm
/-- a thing of the store changed -/
theorem stp_set {l : Nat} {a : Addr} {o : HO} (e : ρ[l]? = some a) (no : NT o := by intro ps z; cases z) : Stp ρ H ρ (upd H a o) :=
  ⟨fun b u q _ hb => by
    rw [upd_ne]
    · exact q
    · rintro rfl; exact hb (List.mem_of_getElem? e), ⟨[], by simp⟩, fun _ z => .inl z, fun b u z n => by
    by_cases q : b = a
    · exact ⟨o, by rw [q, upd_same], no⟩
    · exact ⟨u, by rw [upd_ne q]; exact z, n⟩⟩
theorem Rep.set (R : Rep G F ρ st H) {l : Nat} {a : Addr} {u o : HO} {m : MO} (e : ρ[l]? = some a) (hu : H a = some u) (nu : NT u) (hc : ∀ q, u ≠ LamX.CodeO a q) (hm : RelM G (Nn F ρ) (upd H a o) m a) : Rep G F ρ (st.set l m) (upd H a o) := by
  have no : NT o := by
    cases m with
    | lst xs =>
      obtain ⟨vs, q, _⟩ := hm
      rw [upd_same] at q
      cases q
      intro ps z; cases z
    | dct t kvs =>
      rcases hm with ⟨vs, q, _⟩ | ⟨vs, q, _⟩ <;> (rw [upd_same] at q; cases q; intro ps z; cases z)
    | ins c fs =>
      obtain ⟨dx, ps, q, _⟩ := hm
      rw [upd_same] at q
      cases q
      intro ps z; cases z
    | orc l =>
      obtain ⟨x, y, z, q, _⟩ := hm
      rw [upd_same] at q
      cases q
      intro ps z; cases z
  have s : Stp ρ H ρ (upd H a o) := stp_set e no
  refine ⟨by rw [List.length_set]; exact R.len, R.nd, R.dis, fun b z => ?_, fun j b w e1 e2 => ?_, fun p hp => ?_⟩
  · obtain ⟨v, q, n⟩ := R.fin b z
    refine ⟨v, ?_, n⟩
    rw [upd_ne]
    · exact q
    · rintro rfl; exact R.dis _ (List.mem_of_getElem? e) z
  · by_cases hj : l = j
    · subst hj
      rw [e] at e1
      injection e1 with e1
      subst e1
      have hl : l < st.length := by rw [← R.len]; exact (List.getElem?_eq_some_iff.mp e).1
      rw [List.getElem?_set_self hl] at e2
      injection e2 with e2
      rw [← e2]; exact hm
    · rw [List.getElem?_set_ne hj] at e2
      refine (R.obj j b w e1 e2).mono s.keeps ?_
      rw [upd_ne]
      rintro rfl
      obtain ⟨h1, q1⟩ := List.getElem?_eq_some_iff.mp e
      obtain ⟨h2, q2⟩ := List.getElem?_eq_some_iff.mp e1
      exact hj ((List.getElem_inj R.nd).mp (q1.trans q2.symm))
  · obtain ⟨ps, h1, h2, h3⟩ := R.tab p hp
    refine ⟨ps, ?_, h2, fun pos cv hcv => ?_⟩
    · rw [upd_ne]
      · exact h1
      · rintro rfl
        rw [h1] at hu
        exact nu ps (Option.some.inj hu).symm
    · obtain ⟨c, e1, e2⟩ := h3 pos cv hcv
      refine ⟨c, e1, ?_⟩
      rw [upd_ne]
      · exact e2
      · rintro rfl
        rw [e2] at hu
        exact hc _ (Option.some.inj hu).symm
/-- what a def has made falls from the store -/
theorem Rep.back (R : Rep G F ρ' st' H') (s : Stp ρ H ρ' H') : Rep G F ρ (st'.take ρ.length) H' := by
  obtain ⟨m, e⟩ := s.pre
  have ke : Keeps (Nn F ρ') H' (Nn F ρ) H' := fun a o h n k => ⟨h, fun z => k (z.elim .inl fun z => .inr (by rw [e]; exact List.mem_append_left _ z))⟩
  have hl : ρ.length ≤ st'.length := by rw [← R.len, e, List.length_append]; omega
  refine ⟨by rw [List.length_take]; omega, ?_, fun a z => R.dis a (by rw [e]; exact List.mem_append_left _ z), R.fin, fun l a o e1 e2 => ?_, R.tab⟩
  · have := R.nd
    rw [e, List.nodup_append] at this
    exact this.1
  · have hlt := (List.getElem?_eq_some_iff.mp e1).1
    rw [List.getElem?_take_of_lt hlt] at e2
    exact (R.obj l a o (by rw [e, List.getElem?_append_left hlt]; exact e1) e2).mono ke rfl
theorem RelD.back (s : Stp ρ H ρ' H') {x : D} {v : V} (h : RelD G (Nn F ρ') H' x v) : RelD G (Nn F ρ) H' x v := by
  obtain ⟨m, e⟩ := s.pre
  exact RelD.mono (fun a o h n k => ⟨h, fun z => k (z.elim .inl fun z => .inr (by rw [e]; exact List.mem_append_left _ z))⟩) x h
theorem Stp.cut (s : Stp ρ H ρ' H') : Stp ρ H ρ H' := ⟨s.keep, ⟨[], by simp⟩, fun _ z => .inl z, s.some⟩
end
end DH
namespace DH
open PySem PySem.Spec PyProof.Rows L2
/-! ### readings by outcomes -/
/-- an exception's own fields -/
def RelE (G : Gm) (F : Addr → Prop) (ρ : List Addr) (H : Hp) (fs : List (Nat × D)) (d : Option Addr) : Prop := match fs with
  | [] => d = none
  | f :: r => ∃ a ps, d = some a ∧ ¬ Nn F ρ a ∧ H a = some (.xd ps) ∧ RelF G (Nn F ρ) H (f :: r) ps
abbrev Rl (α β : Type) := (Addr → Prop) → List Addr → Hp → α → β → Prop
def PostG {α β : Type} (G : Gm) (E : XK) (R : Rl α β) (F : Addr → Prop) (ρ : List Addr) (H : Hp) (o : O α) (Q : β → Hp → Prop) : Prop := match o with
  | .ok a st' => ∀ ρ' H' b, Stp ρ H ρ' H' → Rep G F ρ' st' H' → R F ρ' H' a b → Q b H'
  | .exn c fs st' => ∀ ρ' H' d, Stp ρ H ρ' H' → Rep G F ρ' st' H' → RelE G F ρ' H' fs d → E (.ref (G.ca c)) d H'
  | .bad => False
def rd {α β : Type} (G : Gm) (E : XK) (R : Rl α β) (m : EM α) : L2.St → Hp → (β → Hp → Prop) → Prop := fun σ H Q =>
  ∃ F ρ sl st, SlOk G F ρ H sl σ ∧ Rep G F ρ st H ∧ PostG G E R F ρ H (m sl st) Q
abbrev rX (G : Gm) : Rl X V := RelX G
abbrev rXs (G : Gm) : Rl (List X) (List V) := RelXs G
def rB : Rl Bool Bool := fun _ _ _ a b => a = b
abbrev rdE (G : Gm) (E : XK) (m : EM X) : TE := rd G E (rX G) m
abbrev rdT (G : Gm) (E : XK) (m : EM Bool) : TT := rd G E rB m
abbrev rdA (G : Gm) (E : XK) (m : EM (List X)) : TA := rd G E (rXs G) m
section
variable {α β γ δ : Type} {G : Gm} {E : XK} {R : Rl α β} {R' : Rl γ δ} {F : Addr → Prop} {ρ ρ1 : List Addr} {H H1 : Hp}
theorem PostG.mono {o : O α} {Q Q' : β → Hp → Prop} (h : PostG G E R F ρ H o Q) (k : ∀ b H', Q b H' → Q' b H') : PostG G E R F ρ H o Q' := by
  cases o with
  | ok a st => exact fun ρ' H' b s r x => k b H' (h ρ' H' b s r x)
  | exn c fs st => exact h
  | bad => exact h
theorem PostG.later {o : O α} {Q : β → Hp → Prop} (s : Stp ρ H ρ1 H1) (h : PostG G E R F ρ H o Q) : PostG G E R F ρ1 H1 o Q := by
  cases o with
  | ok a st => exact fun ρ' H' b s' r x => h ρ' H' b (s.trans s') r x
  | exn c fs st => exact fun ρ' H' d s' r x => h ρ' H' d (s.trans s') r x
  | bad => exact h
/-- what is left behind a part -/
def Went (G : Gm) (E : XK) (R : Rl α β) (R' : Rl γ δ) (F : Addr → Prop) (ρ : List Addr) (H : Hp) (k : α → Store → O γ) (Q : δ → Hp → Prop) (b : β) (H1 : Hp) : Prop :=
  ∃ a st1 ρ1, Stp ρ H ρ1 H1 ∧ Rep G F ρ1 st1 H1 ∧ R F ρ1 H1 a b ∧ PostG G E R' F ρ1 H1 (k a st1) Q
theorem PostG.bind {o : O α} {k : α → Store → O γ} {Q : δ → Hp → Prop} (h : PostG G E R' F ρ H (o.bind k) Q) : PostG G E R F ρ H o (Went G E R R' F ρ H k Q) := by
  cases o with
  | ok a st => exact fun ρ' H' b s r x => ⟨a, st, ρ', s, r, x, h.later s⟩
  | exn c fs st => exact h
  | bad => exact h
theorem PostG.now {a : α} {b : β} {st : Store} {Q : β → Hp → Prop} (h : PostG G E R F ρ H (.ok a st) Q) (r : Rep G F ρ st H) (x : R F ρ H a b) : Q b H := h ρ H b (Stp.refl _ _) r x
end
section
variable {X : Cx} {e a b c : Expr} {pos : Pos}
theorem PE.imp {t t' : TE} (h : PE X e t) (k : ∀ σ H Q, t' σ H Q → t σ H Q) : PE X e t' := ⟨fun p s σ H Q I q => h.run p s σ H Q I (k σ H Q q)⟩
theorem PT.imp {t t' : TT} (h : PT X e t) (k : ∀ σ H Q, t' σ H Q → t σ H Q) : PT X e t' := ⟨fun p s σ H Q I q => h.run p s σ H Q I (k σ H Q q)⟩
theorem PW.imp {t t' : TT} (h : PW X e t) (k : ∀ σ H Q, t' σ H Q → t σ H Q) : PW X e t' := ⟨fun w p s σ H Q I q => h.run w p s σ H Q I (k σ H Q q)⟩
theorem PA.imp {es : List Expr} {t t' : TA} (h : PA X es t) (k : ∀ σ H Q, t' σ H Q → t σ H Q) : PA X es t' := ⟨fun o p s σ H Q I q => h.run o p s σ H Q I (k σ H Q q)⟩
theorem PS.imp {st : Stmt} {t t' : TS} (h : PS X st t) (k : ∀ D σ H, t' D σ H → t D σ H) : PS X st t' := ⟨fun p s σ H D I q => h.run p s σ H D I (k D σ H q)⟩
theorem PSs.imp {st : List Stmt} {t t' : TS} (h : PSs X st t) (k : ∀ D σ H, t' D σ H → t D σ H) : PSs X st t' := ⟨fun p s σ H D I q => h.run p s σ H D I (k D σ H q)⟩
variable {G : Gm} {E : XK}
/-! ### names, constants -/
def eVar (i : Nat) : EM DH.X := fun sl st => match sl[i]? with
  | some (some x) => .ok x st
  | _ => .bad
def eC (x : D) : EM DH.X := fun _ st => .ok (.d x) st
theorem q_var {i : Nat} {x : Str} (hN : X.N[i]? = some x) (hv : Vis X.env.scope x) (hd : (x == ("__debug__" : Str)) = false) (hcd : (x == ("__classdict__" : Str)) = false) : PE X (.Name x pos) (rdE G E (eVar i)) := by
  refine PE.imp (pe_var hN hv hd hcd) fun σ H Q h => ?_
  obtain ⟨F, ρ, sl, st, sk, R, h⟩ := h
  unfold eVar at h
  cases q : sl[i]? with
  | none =>
    rw [q] at h
    exact h.elim
  | some o =>
    cases o with
    | none =>
      rw [q] at h
      exact h.elim
    | some y =>
      rw [q] at h
      obtain ⟨v, e, r⟩ := sk.2 i y q
      exact ⟨v, e, h.now R r⟩
theorem q_c {x : D} {v : V} (hv : PE X e (tC v)) (r : ∀ N H, RelD G N H x v) : PE X e (rdE G E (eC x)) := by
  refine PE.imp hv fun σ H Q h => ?_
  obtain ⟨F, ρ, sl, st, sk, R, h⟩ := h
  exact PostG.now (R := rX G) h R (show RelD G (Nn F ρ) H x v from r _ _)
theorem q_int {i : Int} {j : Nat} : PE X (.Constant (.int i) j pos) (rdE G E (eC (.int i))) := q_c pe_int fun _ _ => rfl
theorem q_bl {i : Bool} {j : Nat} : PE X (.Constant (.bool i) j pos) (rdE G E (eC (.bl i))) := q_c pe_bl fun _ _ => rfl
theorem q_non {j : Nat} : PE X (.Constant .none j pos) (rdE G E (eC .non)) := q_c pe_non fun _ _ => rfl
theorem q_str {x : Str} {cs : List Nat} {j : Nat} (e : x = strOf cs) : PE X (.Constant (.str x) j pos) (rdE G E (eC (.str cs))) := q_c pe_str fun _ _ => by rw [e]; rfl
/-! ### two parts -/
def eBin (f : DH.X → DH.X → Store → O DH.X) (a b : EM DH.X) : EM DH.X := fun sl st => (a sl st).bind fun x st1 => (b sl st1).bind fun y st2 => f x y st2
def OpV (G : Gm) (r : R2) (f : DH.X → DH.X → Store → O DH.X) : Prop :=
  ∀ (E : XK) (F : Addr → Prop) (ρ : List Addr) (H : Hp) (st : Store) (x y : DH.X) (v w : V) (Q : VK), Rep G F ρ st H → RelX G F ρ H x v → RelX G F ρ H y w → PostG G E (rX G) F ρ H (f x y st) Q → r v w H Q
theorem rd_bin {r : R2} {f : DH.X → DH.X → Store → O DH.X} {ma mb : EM DH.X} (hv : OpV G r f) {σ : L2.St} {H : Hp} {Q : VK} (h : rdE G E (eBin f ma mb) σ H Q) : tOp r (rdE G E ma) (rdE G E mb) σ H Q := by
  obtain ⟨F, ρ, sl, st, sk, R, h⟩ := h
  refine ⟨F, ρ, sl, st, sk, R, PostG.mono (PostG.bind (R := rX G) h) fun v H1 h1 => ?_⟩
  obtain ⟨x, st1, ρ1, s1, R1, r1, h1⟩ := h1
  refine ⟨F, ρ1, sl, st1, sk.mono s1, R1, PostG.mono (PostG.bind (R := rX G) h1) fun w H2 h2 => ?_⟩
  obtain ⟨y, st2, ρ2, s2, R2, r2, h2⟩ := h2
  exact hv E F ρ2 H2 st2 x y v w Q R2 (r1.mono s2) r2 h2
theorem q_op {op : Operator} {r : R2} {f : DH.X → DH.X → Store → O DH.X} {ma mb : EM DH.X} (ho : OpR X (binaryOp op) r) (hv : OpV G r f) (ha : PE X a (rdE G E ma)) (hb : PE X b (rdE G E mb)) : PE X (.BinOp a op b pos) (rdE G E (eBin f ma mb)) :=
  PE.imp (pe_op ho ha hb) fun _ _ _ h => rd_bin hv h
theorem q_cmp {op : CmpOp} {r : R2} {f : DH.X → DH.X → Store → O DH.X} {ma mb : EM DH.X} (ho : OpR X (compareOp op) r) (hv : OpV G r f) (ha : PE X a (rdE G E ma)) (hb : PE X b (rdE G E mb)) (hm : behindInMarks op b = false) : PE X (.Compare a [op] [b] pos) (rdE G E (eBin f ma mb)) :=
  PE.imp (pe_cmpR ho ha hb hm) fun _ _ _ h => rd_bin hv h
theorem q_ix {r : R2} {f : DH.X → DH.X → Store → O DH.X} {ma mb : EM DH.X} (ho : IxR X r) (hv : OpV G r f) (ha : PE X a (rdE G E ma)) (hb : PE X b (rdE G E mb)) (hs : PlainIx b) : PE X (.Subscript a b pos) (rdE G E (eBin f ma mb)) :=
  PE.imp (pe_ix ho ha hb hs) fun _ _ _ h => rd_bin hv h
/-! ### tests -/
/-- a value that must be a bool -/
def eTest (m : EM DH.X) : EM Bool := fun sl st => (m sl st).bind fun x st1 => match x with
  | .d (.bl b) => .ok b st1
  | _ => .bad
theorem rd_test {m : EM DH.X} {σ : L2.St} {H : Hp} {Q : Bool → Hp → Prop} (h : rdT G E (eTest m) σ H Q) : tTest (rdE G E m) σ H Q := by
  obtain ⟨F, ρ, sl, st, sk, R, h⟩ := h
  refine ⟨F, ρ, sl, st, sk, R, PostG.mono (PostG.bind (R := rX G) h) fun v H1 h1 => ?_⟩
  obtain ⟨x, st1, ρ1, s1, R1, r1, h1⟩ := h1
  cases x with
  | loc l => exact h1.elim
  | d y =>
    cases y with
    | bl k => exact ⟨k, r1, PostG.now (R := rB) h1 R1 rfl⟩
    | _ => exact h1.elim
theorem q_tval {m : EM DH.X} (h : PE X e (rdE G E m)) (he : ∀ whole, isTrue e X.env whole = (do let v ← whole; standAt e.pos; holding [v] (truthy v))) : PT X e (rdT G E (eTest m)) :=
  PT.imp (pt_val h he) fun _ _ _ h => rd_test h
theorem q_tcmp {op : CmpOp} {r : R2} {f : DH.X → DH.X → Store → O DH.X} {ma mb : EM DH.X} (ho : OpR X (compareOp op) r) (hv : OpV G r f) (ha : PE X a (rdE G E ma)) (hb : PE X b (rdE G E mb)) (hm : behindInMarks op b = false) : PT X (.Compare a [op] [b] pos) (rdT G E (eTest (eBin f ma mb))) := by
  refine PT.imp (pt_cmpR ho ha hb hm) fun σ H Q h => ?_
  obtain ⟨F, ρ, sl, st, sk, R, h⟩ := rd_test h
  exact rd_bin hv ⟨F, ρ, sl, st, sk, R, h⟩
def tNotM (m : EM Bool) : EM Bool := fun sl st => (m sl st).bind fun x st1 => .ok (!x) st1
def tAndM (m n : EM Bool) : EM Bool := fun sl st => (m sl st).bind fun x st1 => match x with
  | true => n sl st1
  | false => .ok false st1
def tOrM (m n : EM Bool) : EM Bool := fun sl st => (m sl st).bind fun x st1 => match x with
  | true => .ok true st1
  | false => n sl st1
theorem q_tnot {m : EM Bool} (h : PT X a (rdT G E m)) : PT X (.UnaryOp .Not a pos) (rdT G E (tNotM m)) := by
  refine PT.imp (pt_not h) fun σ H Q h => ?_
  obtain ⟨F, ρ, sl, st, sk, R, h⟩ := h
  refine ⟨F, ρ, sl, st, sk, R, PostG.mono (PostG.bind (R := rB) h) fun v H1 h1 => ?_⟩
  obtain ⟨x, st1, ρ1, s1, R1, r1, h1⟩ := h1
  obtain rfl : x = v := r1
  exact PostG.now (R := rB) h1 R1 rfl
theorem q_wand1 {m : EM Bool} (h : PT X a (rdT G E m)) : PW X (.BoolOp .And [a] pos) (rdT G E m) := pw_and1 h
theorem q_wor1 {m : EM Bool} (h : PT X a (rdT G E m)) : PW X (.BoolOp .Or [a] pos) (rdT G E m) := pw_or1 h
theorem q_wand {rest : List Expr} {m n : EM Bool} (h : PT X a (rdT G E m)) (k : PW X (.BoolOp .And (b :: rest) pos) (rdT G E n)) : PW X (.BoolOp .And (a :: b :: rest) pos) (rdT G E (tAndM m n)) := by
  refine PW.imp (pw_and h k) fun σ H Q h => ?_
  obtain ⟨F, ρ, sl, st, sk, R, h⟩ := h
  refine ⟨F, ρ, sl, st, sk, R, PostG.mono (PostG.bind (R := rB) h) fun v H1 h1 => ?_⟩
  obtain ⟨x, st1, ρ1, s1, R1, r1, h1⟩ := h1
  obtain rfl : x = v := r1
  cases x with
  | true => exact iteT ⟨F, ρ1, sl, st1, sk.mono s1, R1, h1⟩
  | false => exact iteF (PostG.now (R := rB) h1 R1 rfl)
theorem q_wor {rest : List Expr} {m n : EM Bool} (h : PT X a (rdT G E m)) (k : PW X (.BoolOp .Or (b :: rest) pos) (rdT G E n)) : PW X (.BoolOp .Or (a :: b :: rest) pos) (rdT G E (tOrM m n)) := by
  refine PW.imp (pw_or h k) fun σ H Q h => ?_
  obtain ⟨F, ρ, sl, st, sk, R, h⟩ := h
  refine ⟨F, ρ, sl, st, sk, R, PostG.mono (PostG.bind (R := rB) h) fun v H1 h1 => ?_⟩
  obtain ⟨x, st1, ρ1, s1, R1, r1, h1⟩ := h1
  obtain rfl : x = v := r1
  cases x with
  | true => exact iteT (PostG.now (R := rB) h1 R1 rfl)
  | false => exact iteF ⟨F, ρ1, sl, st1, sk.mono s1, R1, h1⟩
def eIf (t : EM Bool) (m n : EM DH.X) : EM DH.X := fun sl st => (t sl st).bind fun x st1 => match x with
  | true => m sl st1
  | false => n sl st1
theorem q_ifE {t : EM Bool} {m n : EM DH.X} (h : PT X c (rdT G E t)) (ha : PE X a (rdE G E m)) (hb : PE X b (rdE G E n)) : PE X (.IfExp c a b pos) (rdE G E (eIf t m n)) := by
  refine PE.imp (pe_ifExp h ha hb) fun σ H Q h => ?_
  obtain ⟨F, ρ, sl, st, sk, R, h⟩ := h
  refine ⟨F, ρ, sl, st, sk, R, PostG.mono (PostG.bind (R := rB) h) fun v H1 h1 => ?_⟩
  obtain ⟨x, st1, ρ1, s1, R1, r1, h1⟩ := h1
  obtain rfl : x = v := r1
  cases x with
  | true => exact iteT ⟨F, ρ1, sl, st1, sk.mono s1, R1, h1⟩
  | false => exact iteF ⟨F, ρ1, sl, st1, sk.mono s1, R1, h1⟩
/-! ### arguments -/
def aNil : EM (List DH.X) := fun _ st => .ok [] st
def aCons (m : EM DH.X) (r : EM (List DH.X)) : EM (List DH.X) := fun sl st => (m sl st).bind fun x st1 => (r sl st1).bind fun xs st2 => .ok (x :: xs) st2
theorem q_anil : PA X [] (rdA G E aNil) := by
  refine PA.imp pa_nil fun σ H Q h => ?_
  obtain ⟨F, ρ, sl, st, sk, R, h⟩ := h
  exact PostG.now (R := rXs G) h R rfl
theorem q_acons {es : List Expr} {m : EM DH.X} {r : EM (List DH.X)} (h : PE X e (rdE G E m)) (k : PA X es (rdA G E r)) (hs : starEach (e :: es) X.env = (false, eval e X.env) :: starEach es X.env) : PA X (e :: es) (rdA G E (aCons m r)) := by
  refine PA.imp (pa_cons h k hs) fun σ H Q h => ?_
  obtain ⟨F, ρ, sl, st, sk, R, h⟩ := h
  refine ⟨F, ρ, sl, st, sk, R, PostG.mono (PostG.bind (R := rX G) h) fun v H1 h1 => ?_⟩
  obtain ⟨x, st1, ρ1, s1, R1, r1, h1⟩ := h1
  refine ⟨F, ρ1, sl, st1, sk.mono s1, R1, PostG.mono (PostG.bind (R := rXs G) h1) fun w H2 h2 => ?_⟩
  obtain ⟨y, st2, ρ2, s2, R2, r2, h2⟩ := h2
  exact PostG.now (R := rXs G) h2 R2 ⟨v, w, rfl, r1.mono s2, r2⟩
/-- a part, then what is done with its values -/
def eApp (f : List DH.X → Store → O DH.X) (m : EM (List DH.X)) : EM DH.X := fun sl st => (m sl st).bind f
def CallV (G : Gm) (r : List V → Hp → VK → Prop) (f : List DH.X → Store → O DH.X) : Prop :=
  ∀ (E : XK) (F : Addr → Prop) (ρ : List Addr) (H : Hp) (st : Store) (xs : List DH.X) (vs : List V) (Q : VK), Rep G F ρ st H → RelXs G F ρ H xs vs → PostG G E (rX G) F ρ H (f xs st) Q → r vs H Q
theorem rd_app {r : List V → Hp → VK → Prop} {f : List DH.X → Store → O DH.X} {m : EM (List DH.X)} (hv : CallV G r f) {σ : L2.St} {H : Hp} {Q : VK} (h : rdE G E (eApp f m) σ H Q) : rdA G E m σ H fun vs H1 => r vs H1 Q := by
  obtain ⟨F, ρ, sl, st, sk, R, h⟩ := h
  refine ⟨F, ρ, sl, st, sk, R, PostG.mono (PostG.bind (R := rXs G) h) fun v H1 h1 => ?_⟩
  obtain ⟨x, st1, ρ1, s1, R1, r1, h1⟩ := h1
  exact hv E F ρ1 H1 st1 x v Q R1 r1 h1
theorem q_callB {es : List Expr} {id : String} {x : Str} {p : Pos} {r : List V → Hp → VK → Prop} {f : List DH.X → Store → O DH.X} {m : EM (List DH.X)} (hc : CallR X (.builtin id) r) (hv : CallV G r f) (hg : Gl X x) (hm : X.mg x = none) (hb : bootBuiltins x = some (.builtin id)) (ha : PA X (e :: es) (rdA G E m))
    (hn : x ≠ "__name__") (hdb : (x == ("__debug__" : Str)) = false) (he : starEach (e :: es) X.env = (false, eval e X.env) :: starEach es X.env) (hpl : ((backTo pos (starEach es X.env)).any fun x => x.fst) = false) : PE X (.Call (.Name x p) (e :: es) [] pos) (rdE G E (eApp f m)) :=
  PE.imp (pe_callB hc hg hm hb ha hn hdb he hpl) fun _ _ _ h => rd_app hv h
theorem q_callTy {es : List Expr} {T : String} {x : Str} {p : Pos} {r : List V → Hp → VK → Prop} {f : List DH.X → Store → O DH.X} {m : EM (List DH.X)} (hc : CallR X (.type T) r) (hv : CallV G r f) (hg : Gl X x) (hm : X.mg x = none) (hb : bootBuiltins x = some (.type T)) (ha : PA X (e :: es) (rdA G E m))
    (hn : x ≠ "__name__") (hdb : (x == ("__debug__" : Str)) = false) (he : starEach (e :: es) X.env = (false, eval e X.env) :: starEach es X.env) (hpl : ((backTo pos (starEach es X.env)).any fun x => x.fst) = false) : PE X (.Call (.Name x p) (e :: es) [] pos) (rdE G E (eApp f m)) :=
  PE.imp (pe_callTy hc hg hm hb ha hn hdb he hpl) fun _ _ _ h => rd_app hv h
/-! ### new things -/
/-- a new list: a thing of the store, or data -/
def newL (mu : Bool) (xs : List D) (st : Store) : O DH.X := match mu with
  | true => .ok (.loc st.length) (st ++ [.lst xs])
  | false => .ok (.d (.lst xs)) st
def newT (xs : List D) (st : Store) : O DH.X := .ok (.d (.tup false xs)) st
/-- the data that values are; a thing of the store is none -/
def datas : List DH.X → Option (List D)
  | [] => some []
  | .d x :: r => (datas r).map (x :: ·)
  | .loc _ :: _ => none
theorem datas_rel {F : Addr → Prop} {ρ : List Addr} {H : Hp} : ∀ {xs : List DH.X} {ds : List D} {vs : List V}, datas xs = some ds → RelXs G F ρ H xs vs → RelDs G (Nn F ρ) H ds vs
  | [], ds, vs, e, h => by
    have e' : ds = [] := by simpa [datas] using e.symm
    rw [e']; exact h
  | .d x :: r, ds, vs, e, h => by
    obtain ⟨v, r', e1, h1, h2⟩ := h
    unfold datas at e
    cases q : datas r with
    | none => rw [q] at e; cases e
    | some ds' =>
      rw [q] at e
      have e' : x :: ds' = ds := Option.some.inj e
      rw [← e']
      exact ⟨v, r', e1, h1, datas_rel q h2⟩
  | .loc l :: r, ds, vs, e, h => by cases e
theorem newL_ok {F : Addr → Prop} {ρ : List Addr} {H : Hp} {st : Store} {mu : Bool} {xs : List D} {vs : List V} {Q : VK} {p : Addr} (R : Rep G F ρ st H) (r : RelDs G (Nn F ρ) H xs vs) (hp : H p = none) (h : PostG G E (rX G) F ρ H (newL mu xs st) Q) : Q (.ref p) (upd H p (.lst vs)) := by
  cases mu with
  | true =>
    have s : Stp ρ H (ρ ++ [p]) (upd H p (.lst vs)) := stp_more hp
    exact h (ρ ++ [p]) (upd H p (.lst vs)) (.ref p) s (R.more hp ⟨vs, upd_same, RelDs.mono s.keeps xs r⟩) ⟨p, by rw [← R.len]; simp, rfl⟩
  | false =>
    have s : Stp ρ H ρ (upd H p (.lst vs)) := stp_new hp
    exact h ρ (upd H p (.lst vs)) (.ref p) s (R.new hp) ⟨p, vs, rfl, ⟨upd_same, R.fresh hp⟩, RelDs.mono s.keeps xs r⟩
theorem newT_ok {F : Addr → Prop} {ρ : List Addr} {H : Hp} {st : Store} {xs : List D} {vs : List V} {Q : VK} {p : Addr} (R : Rep G F ρ st H) (r : RelDs G (Nn F ρ) H xs vs) (hp : H p = none) (h : PostG G E (rX G) F ρ H (newT xs st) Q) : Q (.ref p) (upd H p (.tup vs)) := by
  have s : Stp ρ H ρ (upd H p (.tup vs)) := stp_new hp
  exact h ρ (upd H p (.tup vs)) (.ref p) s (R.new hp) ⟨p, vs, rfl, ⟨upd_same, R.fresh hp⟩, RelDs.mono s.keeps xs r⟩
def small (n : Nat) : Bool := Nat.ble n 16777216
theorem small_ok {n : Nat} (h : small n = true) : n ≤ sizeLine := by
  have := Nat.le_of_ble_eq_true h
  have e : sizeLine = 16777216 := by decide
  omega
def fTup (xs : List DH.X) (st : Store) : O DH.X := match datas xs with
  | some ds => (match small ds.length with
    | true => newT ds st
    | false => .bad)
  | none => .bad
def fLst (mu : Bool) (xs : List DH.X) (st : Store) : O DH.X := match datas xs with
  | some ds => (match small ds.length with
    | true => newL mu ds st
    | false => .bad)
  | none => .bad
theorem q_tup {es : List Expr} {k : Nat} {m : EM (List DH.X)} (h : PA X es (rdA G E m)) : PE X (.Tuple es k pos) (rdE G E (eApp fTup m)) := by
  refine PE.imp (pe_tup h) fun σ H Q h => ?_
  refine rd_app (r := fun vs H1 Q => vs.length ≤ sizeLine ∧ ∀ p, H1 p = none → Q (.ref p) (upd H1 p (.tup vs))) (fun E F ρ H st xs vs Q R rs h => ?_) h
  unfold fTup at h
  cases q : datas xs with
  | none => rw [q] at h; exact h.elim
  | some ds =>
    rw [q] at h
    have rr := datas_rel q rs
    cases z : small ds.length with
    | false => simp only [z] at h; exact h.elim
    | true =>
      simp only [z] at h
      exact ⟨by rw [rr.length]; exact small_ok z, fun p hp => newT_ok R rr hp h⟩
theorem q_lst {es : List Expr} {mu : Bool} {m : EM (List DH.X)} (h : PA X es (rdA G E m)) : PE X (.List es pos) (rdE G E (eApp (fLst mu) m)) := by
  refine PE.imp (pe_lst h) fun σ H Q h => ?_
  refine rd_app (r := fun vs H1 Q => vs.length ≤ sizeLine ∧ ∀ p, H1 p = none → Q (.ref p) (upd H1 p (.lst vs))) (fun E F ρ H st xs vs Q R rs h => ?_) h
  unfold fLst at h
  cases q : datas xs with
  | none => rw [q] at h; exact h.elim
  | some ds =>
    rw [q] at h
    have rr := datas_rel q rs
    cases z : small ds.length with
    | false => simp only [z] at h; exact h.elim
    | true =>
      simp only [z] at h
      exact ⟨by rw [rr.length]; exact small_ok z, fun p hp => newL_ok R rr hp h⟩
end
end DH
namespace DH
open PySem PySem.Spec PyProof.Rows L2
/-! ### statements -/
inductive SO where
  | nx (sl : Slots) (st : Store) | rt (x : X) (st : Store) | bk (sl : Slots) (st : Store) | ct (sl : Slots) (st : Store)
  | exn (c : Nat) (fs : List (Nat × D)) (st : Store) | bad
abbrev SM := Slots → Store → SO
def O.s {α : Type} (o : O α) (k : α → Store → SO) : SO := match o with
  | .ok a st => k a st
  | .exn c fs st => .exn c fs st
  | .bad => .bad
def PostS (G : Gm) (E : XK) (F : Addr → Prop) (ρ : List Addr) (H : Hp) (o : SO) (D : Ends) : Prop := match o with
  | .nx sl st => ∀ ρ' H' σ', Stp ρ H ρ' H' → Rep G F ρ' st H' → SlOk G F ρ' H' sl σ' → D.nx σ' H'
  | .rt x st => ∀ ρ' H' v, Stp ρ H ρ' H' → Rep G F ρ' st H' → RelX G F ρ' H' x v → D.rt v H'
  | .bk sl st => ∀ ρ' H' σ', Stp ρ H ρ' H' → Rep G F ρ' st H' → SlOk G F ρ' H' sl σ' → D.bk σ' H'
  | .ct sl st => ∀ ρ' H' σ', Stp ρ H ρ' H' → Rep G F ρ' st H' → SlOk G F ρ' H' sl σ' → D.ct σ' H'
  | .exn c fs st => ∀ ρ' H' d, Stp ρ H ρ' H' → Rep G F ρ' st H' → RelE G F ρ' H' fs d → E (.ref (G.ca c)) d H'
  | .bad => False
def rdS (G : Gm) (E : XK) (m : SM) : TS := fun D σ H => ∃ F ρ sl st, SlOk G F ρ H sl σ ∧ Rep G F ρ st H ∧ PostS G E F ρ H (m sl st) D
section
variable {G : Gm} {E : XK} {F : Addr → Prop} {ρ ρ1 : List Addr} {H H1 : Hp}
theorem PostS.later {o : SO} {D : Ends} (s : Stp ρ H ρ1 H1) (h : PostS G E F ρ H o D) : PostS G E F ρ1 H1 o D := by
  cases o with
  | nx sl st => exact fun ρ' H' b s' r x => h ρ' H' b (s.trans s') r x
  | rt sl st => exact fun ρ' H' b s' r x => h ρ' H' b (s.trans s') r x
  | bk sl st => exact fun ρ' H' b s' r x => h ρ' H' b (s.trans s') r x
  | ct sl st => exact fun ρ' H' b s' r x => h ρ' H' b (s.trans s') r x
  | exn c fs st => exact fun ρ' H' d s' r x => h ρ' H' d (s.trans s') r x
  | bad => exact h
/-- what is left of a statement behind an expression of it -/
def WentS {α β : Type} (G : Gm) (E : XK) (R : Rl α β) (F : Addr → Prop) (ρ : List Addr) (H : Hp) (k : α → Store → SO) (D : Ends) (b : β) (H1 : Hp) : Prop :=
  ∃ a st1 ρ1, Stp ρ H ρ1 H1 ∧ Rep G F ρ1 st1 H1 ∧ R F ρ1 H1 a b ∧ PostS G E F ρ1 H1 (k a st1) D
theorem PostS.part {α β : Type} {R : Rl α β} {o : O α} {k : α → Store → SO} {D : Ends} (h : PostS G E F ρ H (o.s k) D) : PostG G E R F ρ H o (WentS G E R F ρ H k D) := by
  cases o with
  | ok a st => exact fun ρ' H' b s r x => ⟨a, st, ρ', s, r, x, h.later s⟩
  | exn c fs st => exact h
  | bad => exact h
end
section
variable {X : Cx} {st : Stmt} {rest : List Stmt} {e c : Expr} {pos : Pos} {G : Gm} {E : XK}
def sNx : SM := fun sl st => .nx sl st
def sSeq (m n : SM) : SM := fun sl st => match m sl st with
  | .nx sl' st' => n sl' st'
  | o => o
theorem q_nil : PSs X [] (rdS G E sNx) := PSs.imp pss_nil fun D σ H h => by
  obtain ⟨F, ρ, sl, st, sk, R, h⟩ := h
  exact h ρ H σ (Stp.refl _ _) R sk
theorem q_one {m : SM} (h : PS X st (rdS G E m)) : PSs X [st] (rdS G E m) := pss_one h
theorem q_cons {m n : SM} (h : PS X st (rdS G E m)) (k : PSs X rest (rdS G E n)) : PSs X (st :: rest) (rdS G E (sSeq m n)) := by
  refine PSs.imp (pss_cons h k) fun D σ H h => ?_
  obtain ⟨F, ρ, sl, st, sk, R, h⟩ := h
  refine ⟨F, ρ, sl, st, sk, R, ?_⟩
  unfold sSeq at h
  cases q : m sl st with
  | nx sl' st' =>
    rw [q] at h
    exact fun ρ' H' σ' s' R' sk' => ⟨F, ρ', sl', st', sk', R', PostS.later s' h⟩
  | rt x st' => rw [q] at h; exact h
  | bk sl' st' => rw [q] at h; exact h
  | ct sl' st' => rw [q] at h; exact h
  | exn c fs st' => rw [q] at h; exact h
  | bad => rw [q] at h; exact h
def sSet (i : Nat) (m : EM DH.X) : SM := fun sl st => (m sl st).s fun x st1 => .nx (sl.set i (some x)) st1
theorem rd_set {i : Nat} {m : EM DH.X} {D : Ends} {σ : L2.St} {H : Hp} (h : rdS G E (sSet i m) D σ H) : tAsg (rdE G E m) (gName i) D σ H := by
  obtain ⟨F, ρ, sl, st, sk, R, h⟩ := h
  refine ⟨F, ρ, sl, st, sk, R, PostG.mono (PostS.part (R := rX G) h) fun v H1 h1 => ?_⟩
  obtain ⟨x, st1, ρ1, s1, R1, r1, h1⟩ := h1
  exact h1 ρ1 H1 _ (Stp.refl _ _) R1 ((sk.mono s1).set i r1)
theorem q_set {i : Nat} {x : Str} {px : Pos} {m : EM DH.X} (hN : X.N.Nodup) (hi : X.N[i]? = some x) (hx : Loc X.env.scope x) (hf : X.fn x = true ∨ X.env.scope.names.lookup x = some .local) (he : PE X e (rdE G E m))
    (hs : swapsWithSole [.Name x px] e pos.line X.env = pure false) (hw : swappedStores [.Name x px] e X.env = pure none) : PS X (.Assign [.Name x px] e pos) (rdS G E (sSet i m)) :=
  PS.imp (ps_asg he (pg_name hN hi hx hf) hs hw rfl) fun _ _ _ h => rd_set h
def sExpr (m : EM DH.X) : SM := fun sl st => (m sl st).s fun _ st1 => .nx sl st1
theorem q_expr {m : EM DH.X} (he : PE X e (rdE G E m)) (hs : swapsWith e none pos.line X.env = pure false) : PS X (.Expr e pos) (rdS G E (sExpr m)) := by
  refine PS.imp (ps_expr he hs) fun D σ H h => ?_
  obtain ⟨F, ρ, sl, st, sk, R, h⟩ := h
  refine ⟨F, ρ, sl, st, sk, R, PostG.mono (PostS.part (R := rX G) h) fun v H1 h1 => ?_⟩
  obtain ⟨x, st1, ρ1, s1, R1, r1, h1⟩ := h1
  exact h1 ρ1 H1 _ (Stp.refl _ _) R1 (sk.mono s1)
def sRet (m : EM DH.X) : SM := fun sl st => (m sl st).s fun x st1 => .rt x st1
theorem q_ret {m : EM DH.X} (he : PE X e (rdE G E m)) : PS X (.Return (some e) pos) (rdS G E (sRet m)) := by
  refine PS.imp (ps_ret he) fun D σ H h => ?_
  obtain ⟨F, ρ, sl, st, sk, R, h⟩ := h
  refine ⟨F, ρ, sl, st, sk, R, PostG.mono (PostS.part (R := rX G) h) fun v H1 h1 => ?_⟩
  obtain ⟨x, st1, ρ1, s1, R1, r1, h1⟩ := h1
  exact h1 ρ1 H1 _ (Stp.refl _ _) R1 r1
def sIf (t : EM Bool) (m n : SM) : SM := fun sl st => (t sl st).s fun b st1 => match b with
  | true => m sl st1
  | false => n sl st1
theorem q_if {a b : List Stmt} {t : EM Bool} {m n : SM} (hc : PT X c (rdT G E t)) (ha : PSs X a (rdS G E m)) (hb : PSs X b (rdS G E n)) : PS X (.If c a b pos) (rdS G E (sIf t m n)) := by
  refine PS.imp (ps_if hc ha hb) fun D σ H h => ?_
  obtain ⟨F, ρ, sl, st, sk, R, h⟩ := h
  refine ⟨F, ρ, sl, st, sk, R, PostG.mono (PostS.part (R := rB) h) fun v H1 h1 => ?_⟩
  obtain ⟨x, st1, ρ1, s1, R1, r1, h1⟩ := h1
  obtain rfl : x = v := r1
  cases x with
  | true => exact iteT ⟨F, ρ1, sl, st1, sk.mono s1, R1, h1⟩
  | false => exact iteF ⟨F, ρ1, sl, st1, sk.mono s1, R1, h1⟩
/-- raise C('..'), C without an __init__ of its own -/
def sRaise (c : Nat) : SM := fun _ st => .exn c [] st
theorem q_raise {c : Nat} {t : L2.St → Hp → XK → Prop} (hc : X.calm = true) (tk : Takes X (fun cls d _ H => E cls d H)) (he : PMk X e t) (ht : ∀ σ H Q, Q (.ref (G.ca c)) none H → t σ H Q) : PS X (.Raise (some e) none pos) (rdS G E (sRaise c)) := by
  refine PS.imp (ps_raise hc tk he) fun D σ H h => ?_
  obtain ⟨F, ρ, sl, st, sk, R, h⟩ := h
  exact ht σ H _ (h ρ H none (Stp.refl _ _) R rfl)
/-- while, by fuel -/
def wLoop (t : EM Bool) (b : SM) : Nat → SM
  | 0, _, _ => .bad
  | n + 1, sl, st => (t sl st).s fun k st1 => match k with
    | false => .nx sl st1
    | true => (match b sl st1 with
      | .nx sl' st' => wLoop t b n sl' st'
      | .ct sl' st' => wLoop t b n sl' st'
      | .bk sl' st' => .nx sl' st'
      | o => o)
theorem q_while {body : List Stmt} {t : EM Bool} {b : SM} {n : Nat} (hp : PassesOwn (model X.prog X.w) X.A X.env X.xe) (hc : PT X c (rdT G E t)) (hb : PSs X body (rdS G E b)) : PS X (.While c body [] pos) (rdS G E (wLoop t b n)) := by
  refine PS.imp (ps_while hp hc hb) fun D σ H h => ?_
  refine ⟨fun m σ H => rdS G E (wLoop t b m) D σ H, ⟨n, h⟩, fun m σ H h => ?_⟩
  obtain ⟨F, ρ, sl, st, sk, R, h⟩ := h
  cases m with
  | zero => exact h.elim
  | succ m =>
    refine ⟨F, ρ, sl, st, sk, R, PostG.mono (PostS.part (R := rB) (k := fun k st1 => match k with
    | false => .nx sl st1
    | true => (match b sl st1 with
      | .nx sl' st' => wLoop t b m sl' st'
      | .ct sl' st' => wLoop t b m sl' st'
      | .bk sl' st' => .nx sl' st'
      | o => o)) h) fun v H1 h1 => ?_⟩
    obtain ⟨x, st1, ρ1, s1, R1, r1, h1⟩ := h1
    obtain rfl : x = v := r1
    cases x with
    | false => exact iteF (h1 ρ1 H1 σ (Stp.refl _ _) R1 (sk.mono s1))
    | true =>
      refine iteT ⟨rdS G E (wLoop t b m) D, fun σ' H' z => ⟨m, Nat.lt_succ_self m, z⟩, F, ρ1, sl, st1, sk.mono s1, R1, ?_⟩
      have h2 : PostS G E F ρ1 H1 (match b sl st1 with
        | .nx sl' st' => wLoop t b m sl' st'
        | .ct sl' st' => wLoop t b m sl' st'
        | .bk sl' st' => .nx sl' st'
        | o => o) D := h1
      cases q : b sl st1 with
      | nx sl' st' =>
        rw [q] at h2
        exact fun ρ' H' σ' s' R' sk' => ⟨F, ρ', sl', st', sk', R', PostS.later s' h2⟩
      | ct sl' st' =>
        rw [q] at h2
        exact fun ρ' H' σ' s' R' sk' => ⟨F, ρ', sl', st', sk', R', PostS.later s' h2⟩
      | bk sl' st' => rw [q] at h2; exact h2
      | rt x st' => rw [q] at h2; exact h2
      | exn c fs st' => rw [q] at h2; exact h2
      | bad => rw [q] at h2; exact h2
end
/-! ### defs -/
section
variable {G : Gm} {E : XK}
def spF (G : Gm) (f : Fn) : Sp := fun vs H Q E => ∃ F ρ xs st, RelXs G F ρ H xs vs ∧ Rep G F ρ st H ∧ PostG G E (rX G) F ρ H (f xs st) Q
/-- what a def hands back: a thing of its own is data from then on -/
def backX (x : X) (st : Store) (n : Nat) : O X := match x with
  | .d y => .ok (.d y) (st.take n)
  | .loc l => match Nat.blt l n with
    | true => .ok (.loc l) (st.take n)
    | false => (match st[l]? with
      | some (.lst ys) => .ok (.d (.lst ys)) (st.take n)
      | some (.dct t ys) => .ok (.d (.dct t ys)) (st.take n)
      | some (.ins c fs) => .ok (.d (.obj c fs)) (st.take n)
      | some (.orc _) => .bad
      | none => .bad)
def endF (o : SO) (n : Nat) : O X := match o with
  | .nx _ st => .ok (.d .non) (st.take n)
  | .rt x st => backX x st n
  | .exn c fs st => .exn c fs (st.take n)
  | _ => .bad
/-- a def of k slots -/
def mkF (k : Nat) (b : SM) : Fn := fun xs st => endF (b (xs.map some ++ List.replicate (k - xs.length) none) st) st.length
theorem RelXs.length {F : Addr → Prop} {ρ : List Addr} {H : Hp} : ∀ {xs : List X} {vs : List V}, RelXs G F ρ H xs vs → vs.length = xs.length
  | [], vs, h => by
    have e : vs = [] := h
    rw [e]; rfl
  | x :: xs, vs, h => by
    obtain ⟨v, r, e, h1, h2⟩ := h
    rw [e, List.length_cons, List.length_cons, RelXs.length h2]
theorem RelXs.get {F : Addr → Prop} {ρ : List Addr} {H : Hp} : ∀ {xs : List X} {vs : List V} {i : Nat} {x : X}, RelXs G F ρ H xs vs → xs[i]? = some x → ∃ v, vs[i]? = some v ∧ RelX G F ρ H x v
  | [], vs, i, x, h, e => by simp at e
  | y :: xs, vs, 0, x, h, e => by
    obtain ⟨v, r, e1, h1, h2⟩ := h
    simp at e
    subst e
    exact ⟨v, by rw [e1]; rfl, h1⟩
  | y :: xs, vs, i + 1, x, h, e => by
    obtain ⟨v, r, e1, h1, h2⟩ := h
    obtain ⟨w, e2, h3⟩ := RelXs.get (i := i) h2 (by simpa using e)
    exact ⟨w, by rw [e1]; simpa using e2, h3⟩
theorem sl_start {F : Addr → Prop} {ρ : List Addr} {H : Hp} {xs : List X} {vs : List V} {N : List Str} {k : Nat} (h : RelXs G F ρ H xs vs) (hk : N.length = k) : SlOk G F ρ H (xs.map some ++ List.replicate (k - xs.length) none) (L2.start N vs) := by
  have hl := h.length
  unfold L2.start
  refine ⟨by simp [hl, hk], fun i x e => ?_⟩
  by_cases hi : i < xs.length
  · rw [List.getElem?_append_left (by simpa using hi), List.getElem?_map] at e
    cases q : xs[i]? with
    | none => rw [q] at e; cases e
    | some y =>
      rw [q] at e
      have e' : y = x := by simpa using e
      subst e'
      obtain ⟨v, e1, r⟩ := h.get q
      refine ⟨v, ?_, r⟩
      rw [List.getElem?_append_left (by rw [List.length_map, hl]; exact hi), List.getElem?_map, e1]
      rfl
  · rw [List.getElem?_append_right (by simpa using hi)] at e
    rw [List.getElem?_replicate] at e
    split at e
    · cases e
    · cases e
theorem RelF.back {F : Addr → Prop} {ρ ρ' : List Addr} {H H' : Hp} (s : Stp ρ H ρ' H') {fs : List (Nat × D)} {ps : List (Str × V)} (h : RelF G (Nn F ρ') H' fs ps) : RelF G (Nn F ρ) H' fs ps := by
  obtain ⟨m, e⟩ := s.pre
  exact RelF.mono (fun a o h n k => ⟨h, fun z => k (z.elim .inl fun z => .inr (by rw [e]; exact List.mem_append_left _ z))⟩) fs h
theorem RelE.back {F : Addr → Prop} {ρ ρ' : List Addr} {H H' : Hp} (s : Stp ρ H ρ' H') {fs : List (Nat × D)} {d : Option Addr} (h : RelE G F ρ' H' fs d) : RelE G F ρ H' fs d := by
  cases fs with
  | nil => exact h
  | cons f r =>
    obtain ⟨a, ps, e, n, h1, h2⟩ := h
    obtain ⟨m, e'⟩ := s.pre
    exact ⟨a, ps, e, fun z => n (z.elim .inl fun z => .inr (by rw [e']; exact List.mem_append_left _ z)), h1, RelF.back s h2⟩
theorem len_pre {F : Addr → Prop} {ρ : List Addr} {st : Store} {H : Hp} (R : Rep G F ρ st H) : ρ.length = st.length := R.len
theorem endF_ok {F : Addr → Prop} {ρ : List Addr} {st : Store} {H : Hp} {o : SO} {Q : VK} (R : Rep G F ρ st H) (h : PostG G E (rX G) F ρ H (endF o st.length) Q) : PostS G E F ρ H o { nx := fun _ H' => Q .non H', rt := Q } := by
  rw [← R.len] at h
  cases o with
  | nx sl st' => exact fun ρ' H' σ' s r _ => h ρ H' .non s.cut (r.back s) rfl
  | exn c fs st' => exact fun ρ' H' d s r x => h ρ H' d s.cut (r.back s) (x.back s)
  | bk sl st' => exact h.elim
  | ct sl st' => exact h.elim
  | bad => exact h.elim
  | rt x st' =>
    intro ρ' H' v s r rx
    cases x with
    | d y => exact h ρ H' v s.cut (r.back s) (RelD.back s rx)
    | loc l =>
      obtain ⟨a, e1, e2⟩ := rx
      subst e2
      have h' : PostG G E (rX G) F ρ H (backX (.loc l) st' ρ.length) Q := h
      unfold backX at h'
      obtain ⟨m, em⟩ := s.pre
      cases q : Nat.blt l ρ.length with
      | true =>
        simp only [q] at h'
        have hl : l < ρ.length := Nat.le_of_ble_eq_true q
        exact h' ρ H' (.ref a) s.cut (r.back s) ⟨a, by rw [em, List.getElem?_append_left hl] at e1; exact e1, rfl⟩
      | false =>
        simp only [q] at h'
        have hl : ρ.length ≤ l := by
          refine Nat.le_of_not_lt fun z => ?_
          rw [show Nat.blt l ρ.length = true from Nat.ble_eq_true_of_le z] at q
          cases q
        have am : a ∈ ρ' := List.mem_of_getElem? e1
        have na : ¬ Nn F ρ a := fun z => by
          rcases z with z | z
          · exact r.dis a am z
          · obtain ⟨i, hi, ei⟩ := List.mem_iff_getElem.mp z
            have e3 : ρ'[i]? = some a := by rw [em, List.getElem?_append_left hi, List.getElem?_eq_getElem hi, ei]
            obtain ⟨h1, q1⟩ := List.getElem?_eq_some_iff.mp e1
            obtain ⟨h2, q2⟩ := List.getElem?_eq_some_iff.mp e3
            have := (List.getElem_inj r.nd).mp (q1.trans q2.symm)
            omega
        have ke : Keeps (Nn F ρ') H' (Nn F ρ) H' := fun a o h n k => ⟨h, fun z => k (z.elim .inl fun z => .inr (by rw [em]; exact List.mem_append_left _ z))⟩
        cases qs : st'[l]? with
        | none => simp only [qs] at h'; exact h'.elim
        | some mo =>
          have rm := r.obj l a mo e1 qs
          cases mo with
          | lst ys =>
            simp only [qs] at h'
            obtain ⟨vs, e4, r4⟩ := rm
            exact h' ρ H' (.ref a) s.cut (r.back s) ⟨a, vs, rfl, ⟨e4, na⟩, RelDs.mono ke ys r4⟩
          | dct tk ys =>
            simp only [qs] at h'
            refine h' ρ H' (.ref a) s.cut (r.back s) ⟨a, rfl, na, ?_⟩
            rcases rm with ⟨ps, e4, tt, r4⟩ | ⟨ps, e4, tt, r4⟩
            · exact .inl ⟨ps, e4, tt, RelK.mono ke ys r4⟩
            · exact .inr ⟨ps, e4, tt, RelT.mono ke ys r4⟩
          | ins c fs =>
            simp only [qs] at h'
            obtain ⟨dx, ps, e4, r4⟩ := rm
            exact h' ρ H' (.ref a) s.cut (r.back s) ⟨a, dx, ps, rfl, na, e4, RelF.mono ke fs r4⟩
          | orc l => simp only [qs] at h'; exact h'.elim
end
section
variable {P : Program} {w : World} {K : PySem.W.Frag} {mg : Str → Option Value} {base : Heap} {G : Gm}
/-- a def keeps its mirror -/
theorem def_ok {x qual : Str} {st : Stmt} {f : Addr} {fd : FuncData} {N ps : List Str} {k n : Nat} {b : SM} (F : Fun K x qual st f fd) (S : FnScope N ps (defScope st)) (hn : N.length = n) (hp : ∀ xs st o, mkF n b xs st = o → o ≠ .bad → xs.length = ps.length)
    (hbody : ∀ (cdv : Value) (A : Around) (outer : List Env) (s : Shared) (H : Hp) (E : XK), Room k (A.deeper (envOfC qual (defScope st) s.heap.objs.size f cdv)) →
      PSs (cxOf (L2.CX P w) P w K mg base N qual (defScope st) f cdv A outer s H E) (defBody st) (rdS G E b)) : FnOk P w K mg base (L2.CX P w) (k + 1) f fd ps (spF G (mkF n b)) := by
  refine F.okX S (fun vs H Q E h => ?_) (fun cdv A outer s H vs Q E hr h => ?_)
  · obtain ⟨F, ρ, xs, st, rx, R, h⟩ := h
    rw [rx.length]
    exact hp xs st _ rfl fun z => by rw [z] at h; exact h
  · obtain ⟨F, ρ, xs, st, rx, R, h⟩ := h
    exact ⟨_, hbody cdv A outer s H E hr, F, ρ, _, st, sl_start rx hn, R, endF_ok R h⟩
end
section
variable {X : Cx} {e : Expr} {es : List Expr} {pos p : Pos} {G : Gm} {E : XK} {k : Nat} {f : Addr} {fd : FuncData} {ps : List Str} {x : Str} {g : Fn}
theorem q_call {m : EM (List DH.X)} (F : FnOk X.prog X.w X.K X.mg X.base (L2.CX X.prog X.w) k f fd ps (spF G g)) (hr : Room k X.A) (hg : Gl X x) (hm : X.mg x = some (.ref f)) (hk : PySem.W.keepIn X.K (.ref f) = true) (hb : Binds X.K fd ps []) (tk : Takes X (fun cls d _ H => E cls d H))
    (ha : PA X (e :: es) (rdA G E m)) (hdb : (x == ("__debug__" : Str)) = false) (he : starEach (e :: es) X.env = (false, eval e X.env) :: starEach es X.env) (hpl : (backTo pos (starEach es X.env)).any (·.1) = false) :
    PE X (.Call (.Name x p) (e :: es) [] pos) (rdE G E (eApp g m)) := by
  refine PE.imp (pe_call (E := E) F hr hg hm hk hb .nil (passes_call tk fun _ _ _ _ h => h) ha hdb he hpl) fun σ H Q h => ?_
  obtain ⟨F, ρ, sl, st, sk, R, h⟩ := h
  refine ⟨F, ρ, sl, st, sk, R, PostG.mono (PostG.bind (R := rXs G) h) fun v H1 h1 => ?_⟩
  obtain ⟨y, st1, ρ1, s1, R1, r1, h1⟩ := h1
  rw [List.append_nil]
  exact ⟨F, ρ1, y, st1, r1, R1, h1⟩
theorem q_call0 (F : FnOk X.prog X.w X.K X.mg X.base (L2.CX X.prog X.w) k f fd ps (spF G g)) (hr : Room k X.A) (hg : Gl X x) (hm : X.mg x = some (.ref f)) (hk : PySem.W.keepIn X.K (.ref f) = true) (hb : Binds X.K fd ps []) (tk : Takes X (fun cls d _ H => E cls d H))
    (hdb : (x == ("__debug__" : Str)) = false) : PE X (.Call (.Name x p) [] [] pos) (rdE G E (eApp g aNil)) := by
  refine PE.imp (pe_call0 (E := E) F hr hg hm hk hb .nil (passes_call tk fun _ _ _ _ h => h) hdb) fun σ H Q h => ?_
  obtain ⟨F, ρ, sl, st, sk, R, h⟩ := h
  exact ⟨F, ρ, [], st, rfl, R, h⟩
end
end DH
namespace DH
open PySem PySem.Spec PyProof.Rows L2
/-! ### what a value is now -/
def deref (st : Store) : X → Option D
  | .d x => some x
  | .loc l => match st[l]? with
    | some (.lst xs) => some (.lst xs)
    | some (.dct t kvs) => some (.dct t kvs)
    | some (.ins c fs) => some (.obj c fs)
    | some (.orc _) => none
    | none => none
/-- as RelD, whoever may change the thing itself -/
def RelW (G : Gm) (N : Addr → Prop) (H : Hp) (x : D) (v : V) : Prop := match x with
  | .tup f xs => ∃ a vs, v = .ref a ∧ SqT G.K H a vs ∧ RelDs G N H xs vs
  | .lst xs => ∃ a vs, v = .ref a ∧ H a = some (.lst vs) ∧ RelDs G N H xs vs
  | .dct t kvs => ∃ a, v = .ref a ∧ ((∃ ps : List (Key × V), H a = some (.dK ps) ∧ t = false ∧ RelK G N H kvs ps) ∨ (∃ ps : List (List Key × V), H a = some (.dT ps) ∧ t = true ∧ RelT G N H kvs ps))
  | .obj c fs => ∃ a dx ps, v = .ref a ∧ H a = some (.ins (G.ca c) dx ps) ∧ RelF G N H fs ps
  | x => RelD G N H x v
section
variable {G : Gm} {F : Addr → Prop} {ρ : List Addr} {H : Hp} {st : Store}
theorem RelD.w {N : Addr → Prop} {x : D} {v : V} (h : RelD G N H x v) : RelW G N H x v := by
  cases x with
  | tup f xs =>
    obtain ⟨a, vs, e, f, r⟩ := h
    exact ⟨a, vs, e, f.sq, r⟩
  | lst xs =>
    obtain ⟨a, vs, e, f, r⟩ := h
    exact ⟨a, vs, e, f.1, r⟩
  | dct t kvs =>
    obtain ⟨a, e, n, r⟩ := h
    exact ⟨a, e, r⟩
  | obj c fs =>
    obtain ⟨a, dx, ps, e, n, r⟩ := h
    exact ⟨a, dx, ps, e, r⟩
  | _ => exact h
theorem view {x : X} {v : V} {d : D} (R : Rep G F ρ st H) (h : RelX G F ρ H x v) (e : deref st x = some d) : RelW G (Nn F ρ) H d v := by
  cases x with
  | d y =>
    have e' : y = d := Option.some.inj e
    rw [← e']
    exact RelD.w h
  | loc l =>
    obtain ⟨a, e1, e2⟩ := h
    unfold deref at e
    cases q : st[l]? with
    | none => simp only [q] at e; cases e
    | some m =>
      have rm := R.obj l a m e1 q
      cases m with
      | lst xs =>
        simp only [q] at e
        have e' : D.lst xs = d := Option.some.inj e
        rw [← e']
        obtain ⟨vs, h1, h2⟩ := rm
        exact ⟨a, vs, e2, h1, h2⟩
      | dct t xs =>
        simp only [q] at e
        have e' : D.dct t xs = d := Option.some.inj e
        rw [← e']
        exact ⟨a, e2, rm⟩
      | ins c fs =>
        simp only [q] at e
        have e' : D.obj c fs = d := Option.some.inj e
        rw [← e']
        obtain ⟨dx, ps, h1, h2⟩ := rm
        exact ⟨a, dx, ps, e2, h1, h2⟩
      | orc l => simp only [q] at e; cases e
end
/-- two values as data -/
def f2 (g : D → D → Store → O X) : X → X → Store → O X := fun x y st => match deref st x, deref st y with
  | some a, some b => g a b st
  | _, _ => .bad
def f1 (g : D → Store → O X) : List X → Store → O X := fun xs st => match xs with
  | [x] => (match deref st x with
    | some a => g a st
    | none => .bad)
  | _ => .bad
def f11 (g : D → D → Store → O X) : List X → Store → O X := fun xs st => match xs with
  | [x, y] => f2 g x y st
  | _ => .bad
section
variable {G : Gm} {E : XK}
theorem op2 {r : R2} {g : D → D → Store → O X} (h : ∀ (E : XK) (F : Addr → Prop) (ρ : List Addr) (H : Hp) (st : Store) (a b : D) (v w : V) (Q : VK), Rep G F ρ st H → RelW G (Nn F ρ) H a v → RelW G (Nn F ρ) H b w → PostG G E (rX G) F ρ H (g a b st) Q → r v w H Q) : OpV G r (f2 g) := by
  intro E F ρ H st x y v w Q R rx ry h'
  unfold f2 at h'
  cases q : deref st x with
  | none => rw [q] at h'; exact h'.elim
  | some a =>
    cases q2 : deref st y with
    | none => rw [q, q2] at h'; exact h'.elim
    | some b =>
      rw [q, q2] at h'
      exact h E F ρ H st a b v w Q R (view R rx q) (view R ry q2) h'
theorem cal1 {r : List V → Hp → VK → Prop} {g : D → Store → O X} (h : ∀ (E : XK) (F : Addr → Prop) (ρ : List Addr) (H : Hp) (st : Store) (a : D) (v : V) (Q : VK), Rep G F ρ st H → RelW G (Nn F ρ) H a v → PostG G E (rX G) F ρ H (g a st) Q → r [v] H Q) : CallV G r (f1 g) := by
  intro E F ρ H st xs vs Q R rs h'
  unfold f1 at h'
  cases xs with
  | nil => exact h'.elim
  | cons x t =>
    cases t with
    | cons _ _ => exact h'.elim
    | nil =>
      obtain ⟨v, r', e, rx, e2⟩ := rs
      have e2' : r' = [] := e2
      subst e2'
      subst e
      cases q : deref st x with
      | none => simp only [q] at h'; exact h'.elim
      | some a =>
        simp only [q] at h'
        exact h E F ρ H st a v Q R (view R rx q) h'
theorem cal2 {r : List V → Hp → VK → Prop} {g : D → D → Store → O X} (h : ∀ (E : XK) (F : Addr → Prop) (ρ : List Addr) (H : Hp) (st : Store) (a b : D) (v w : V) (Q : VK), Rep G F ρ st H → RelW G (Nn F ρ) H a v → RelW G (Nn F ρ) H b w → PostG G E (rX G) F ρ H (g a b st) Q → r [v, w] H Q) : CallV G r (f11 g) := by
  intro E F ρ H st xs vs Q R rs h'
  unfold f11 at h'
  cases xs with
  | nil => exact h'.elim
  | cons x t =>
    cases t with
    | nil => exact h'.elim
    | cons y t =>
      cases t with
      | cons _ _ => exact h'.elim
      | nil =>
        obtain ⟨v, r', e, rx, w, r2, e2, ry, e3⟩ := rs
        have e3' : r2 = [] := e3
        subst e3'
        subst e2
        subst e
        exact op2 (G := G) (r := fun v w H Q => r [v, w] H Q) h E F ρ H st x y v w Q R rx ry h'
/-- data that is no thing -/
theorem now1 {F : Addr → Prop} {ρ : List Addr} {H : Hp} {st : Store} {x : D} {v : V} {Q : VK} (R : Rep G F ρ st H) (h : PostG G E (rX G) F ρ H (.ok (.d x) st) Q) (r : RelD G (Nn F ρ) H x v) : Q v H := PostG.now (R := rX G) h R r

/-! ### arithmetic -/
def gAdd (mu : Bool) : D → D → Store → O X
  | .int i, .int j, st => .ok (.d (.int (i + j))) st
  | .str a, .str b, st => (match small (a.length + b.length) with
    | true => .ok (.d (.str (a ++ b))) st
    | false => .bad)
  | .tup _ (x :: a), .tup _ (y :: b), st => (match small ((x :: a).length + (y :: b).length) with
    | true => newT ((x :: a) ++ (y :: b)) st
    | false => .bad)
  | .lst a, .lst b, st => (match small (a.length + b.length) with
    | true => newL mu (a ++ b) st
    | false => .bad)
  | _, _, _ => .bad
theorem str_append (a b : List Nat) : strOf a ++ strOf b = strOf (a ++ b) := by
  show (⟨a.toArray ++ b.toArray⟩ : Str) = ⟨(a ++ b).toArray⟩
  simp
theorem str_len (a : List Nat) : (strOf a).length = a.length := by
  show a.toArray.size = a.length
  simp
abbrev rAddAll (K : PySem.W.Frag) : R2 := fun x y H Q => (rI0 fun i j => .int (i + j)) x y H Q ∨ (∃ i j, x = .str i ∧ y = .str j ∧ i.length + j.length ≤ sizeLine ∧ Q (.str (i ++ j)) H) ∨ rCatT K x y H Q ∨ rCat x y H Q
theorem add_all {X : Cx} : OpR X (binaryOp .Add) (rAddAll X.K) := op_add.or (op_add_str.or (op_catT.or op_cat))
theorem add_v {mu : Bool} : OpV G (rAddAll G.K) (f2 (gAdd mu)) := op2 fun E F ρ H st a b v w Q R ra rb h => by
  cases a with
  | int i =>
    cases b with
    | int j => exact .inl ⟨i, j, ra, rb, now1 R h rfl⟩
    | _ => exact h.elim
  | str i =>
    cases b with
    | str j =>
      unfold gAdd at h
      cases z : small (i.length + j.length) with
      | false => simp only [z] at h; exact h.elim
      | true =>
        simp only [z] at h
        refine .inr (.inl ⟨strOf i, strOf j, ra, rb, by rw [str_len, str_len]; exact small_ok z, ?_⟩)
        rw [str_append]
        exact now1 R h rfl
    | _ => exact h.elim
  | tup f1 i =>
    cases i with
    | nil => exact h.elim
    | cons x i =>
      cases b with
      | tup f2 j =>
        cases j with
        | nil => exact h.elim
        | cons y j =>
          unfold gAdd at h
          cases z : small ((x :: i).length + (y :: j).length) with
          | false => simp only [z] at h; exact h.elim
          | true =>
            simp only [z] at h
            obtain ⟨p, vs, e1, f1, r1⟩ := ra
            obtain ⟨q, ws, e2, f2, r2⟩ := rb
            have l1 := r1.length
            have l2 := r2.length
            refine .inr (.inr (.inl ⟨p, q, vs, ws, e1, e2, f1, f2, ?_, by rw [l1, l2]; exact small_ok z, ?_⟩))
            · rintro rfl; cases l1
            · refine ⟨?_, ?_⟩
              · rintro rfl; cases l2
              · exact fun _ a ha => newT_ok R (r1.append r2) ha h
      | _ => exact h.elim
  | lst i =>
    cases b with
    | lst j =>
      unfold gAdd at h
      cases z : small (i.length + j.length) with
      | false => simp only [z] at h; exact h.elim
      | true =>
        simp only [z] at h
        obtain ⟨p, vs, e1, f1, r1⟩ := ra
        obtain ⟨q, ws, e2, f2, r2⟩ := rb
        exact .inr (.inr (.inr ⟨p, q, vs, ws, e1, e2, f1, f2, by rw [r1.length, r2.length]; exact small_ok z, fun a ha => newL_ok R (r1.append r2) ha h⟩))
    | _ => exact h.elim
  | _ => exact h.elim
def gSub : D → D → Store → O X
  | .int i, .int j, st => .ok (.d (.int (i - j))) st
  | _, _, _ => .bad
theorem sub_v : OpV G (rI0 fun i j => .int (i - j)) (f2 gSub) := op2 fun E F ρ H st a b v w Q R ra rb h => by
  cases a with
  | int i =>
    cases b with
    | int j => exact ⟨i, j, ra, rb, now1 R h rfl⟩
    | _ => exact h.elim
  | _ => exact h.elim
def lowI (i : Int) : Bool := Nat.blt i.natAbs 18446744073709551616
theorem lowI_ok {i : Int} (h : lowI i = true) : -(2 ^ 64) < i ∧ i < 2 ^ 64 := by
  have h' : i.natAbs < 18446744073709551616 := Nat.le_of_ble_eq_true h
  omega
def repL {α : Type} : Nat → List α → List α
  | 0, _ => []
  | n + 1, xs => xs ++ repL n xs
def gMul (mu : Bool) : D → D → Store → O X
  | .int i, .int j, st => (match lowI j || lowI i with
    | true => .ok (.d (.int (i * j))) st
    | false => .bad)
  | .lst a, .int k, st => (match Nat.blt k.natAbs 9223372036854775808 && small (a.length * k.toNat) with
    | true => newL mu (repL k.toNat a) st
    | false => .bad)
  | _, _, _ => .bad
abbrev rMulAll : R2 := fun x y H Q => (rI CMul fun i j => .int (i * j)) x y H Q ∨ rRep x y H Q
theorem mul_all {X : Cx} : OpR X (binaryOp .Mult) rMulAll := op_mul.or op_rep
theorem repL_eq {α : Type} (xs : List α) : ∀ n : Nat, repL n xs = (List.replicate n xs).flatten
  | 0 => rfl
  | n + 1 => by rw [List.replicate_succ, List.flatten_cons, repL, repL_eq xs n]
theorem rel_rep {N : Addr → Prop} {H : Hp} {xs : List D} {vs : List V} (h : RelDs G N H xs vs) : ∀ n : Nat, RelDs G N H (repL n xs) (repL n vs)
  | 0 => rfl
  | n + 1 => h.append (rel_rep h n)
theorem mul_v {mu : Bool} : OpV G rMulAll (f2 (gMul mu)) := op2 fun E F ρ H st a b v w Q R ra rb h => by
  cases a with
  | int i =>
    cases b with
    | int j =>
      unfold gMul at h
      cases z : (lowI j || lowI i) with
      | false => simp only [z] at h; exact h.elim
      | true =>
        simp only [z] at h
        refine .inl ⟨i, j, ra, rb, ?_, now1 R h rfl⟩
        rcases Bool.or_eq_true_iff.mp z with z | z
        · exact .inr (lowI_ok z)
        · exact .inl (lowI_ok z)
    | _ => exact h.elim
  | lst xs =>
    cases b with
    | int k =>
      unfold gMul at h
      cases z : (Nat.blt k.natAbs 9223372036854775808 && small (xs.length * k.toNat)) with
      | false => simp only [z] at h; exact h.elim
      | true =>
        simp only [z] at h
        obtain ⟨z1, z2⟩ := Bool.and_eq_true_iff.mp z
        have z1' : k.natAbs < 9223372036854775808 := Nat.le_of_ble_eq_true z1
        obtain ⟨p, vs, e1, f1, r1⟩ := ra
        refine .inr ⟨p, k, vs, e1, rb, f1, by omega, by omega, by rw [r1.length]; exact small_ok z2, fun a ha => ?_⟩
        have := newL_ok R (rel_rep r1 k.toNat) ha h
        rw [repL_eq] at this
        exact this
    | _ => exact h.elim
  | _ => exact h.elim
def gDiv : D → D → Store → O X
  | .int i, .int j, st => (match Nat.blt 0 j.natAbs && Nat.blt j.natAbs 1073741824 with
    | true => .ok (.d (.int (i.fdiv j))) st
    | false => .bad)
  | _, _, _ => .bad
theorem div_v : OpV G (rI CDivN fun i j => .int (i.fdiv j)) (f2 gDiv) := op2 fun E F ρ H st a b v w Q R ra rb h => by
  cases a with
  | int i =>
    cases b with
    | int j =>
      unfold gDiv at h
      cases z : (Nat.blt 0 j.natAbs && Nat.blt j.natAbs 1073741824) with
      | false => simp only [z] at h; exact h.elim
      | true =>
        simp only [z] at h
        obtain ⟨z1, z2⟩ := Bool.and_eq_true_iff.mp z
        have z1' : 0 < j.natAbs := Nat.le_of_ble_eq_true z1
        have z2' : j.natAbs < 1073741824 := Nat.le_of_ble_eq_true z2
        exact ⟨i, j, ra, rb, ⟨by omega, z2'⟩, now1 R h rfl⟩
    | _ => exact h.elim
  | _ => exact h.elim
def gMod : D → D → Store → O X
  | .int i, .int j, st => (match Nat.blt 0 j.natAbs with
    | true => .ok (.d (.int (i.fmod j))) st
    | false => .bad)
  | _, _, _ => .bad
theorem mod_v : OpV G (rI (fun _ j => j ≠ 0) fun i j => .int (i.fmod j)) (f2 gMod) := op2 fun E F ρ H st a b v w Q R ra rb h => by
  cases a with
  | int i =>
    cases b with
    | int j =>
      unfold gMod at h
      cases z : (Nat.blt 0 j.natAbs) with
      | false => simp only [z] at h; exact h.elim
      | true =>
        simp only [z] at h
        have z1' : 0 < j.natAbs := Nat.le_of_ble_eq_true z
        exact ⟨i, j, ra, rb, by omega, now1 R h rfl⟩
    | _ => exact h.elim
  | _ => exact h.elim
def gPow : D → D → Store → O X
  | .int i, .int (.ofNat j), st => (match Nat.ble j 1000 && lowI i with
    | true => .ok (.d (.int (i ^ j))) st
    | false => .bad)
  | _, _, _ => .bad
theorem pow_v : OpV G (rI CPow fun i j => .int (i ^ j.toNat)) (f2 gPow) := op2 fun E F ρ H st a b v w Q R ra rb h => by
  cases a with
  | int i =>
    cases b with
    | int j =>
      cases j with
      | negSucc j => exact h.elim
      | ofNat j =>
        unfold gPow at h
        cases z : (Nat.ble j 1000 && lowI i) with
        | false => simp only [z] at h; exact h.elim
        | true =>
          simp only [z] at h
          obtain ⟨z1, z2⟩ := Bool.and_eq_true_iff.mp z
          have z1' : j ≤ 1000 := Nat.le_of_ble_eq_true z1
          have z2' : i.natAbs < 18446744073709551616 := Nat.le_of_ble_eq_true z2
          exact ⟨i, Int.ofNat j, ra, rb, ⟨Int.natCast_nonneg j, by show (j : Int) ≤ 1000000; omega, z2'⟩, now1 R h rfl⟩
    | _ => exact h.elim
  | _ => exact h.elim
/-! ### comparisons of ints and texts -/
def ltI (i j : Int) : Bool := match i, j with
  | .ofNat a, .ofNat b => Nat.blt a b
  | .negSucc a, .negSucc b => Nat.blt b a
  | .negSucc _, .ofNat _ => true
  | .ofNat _, .negSucc _ => false
theorem blt_eq (a b : Nat) : Nat.blt a b = decide (a < b) := by
  cases q : Nat.blt a b with
  | true => exact (decide_eq_true (Nat.le_of_ble_eq_true q)).symm
  | false =>
    symm
    refine decide_eq_false fun z => ?_
    have : Nat.blt a b = true := Nat.ble_eq_true_of_le z
    rw [this] at q; cases q
theorem ltI_eq (i j : Int) : ltI i j = decide (i < j) := by
  cases i with
  | ofNat a =>
    cases j with
    | ofNat b =>
      show Nat.blt a b = _
      rw [blt_eq]
      have : ((Int.ofNat a < Int.ofNat b) = (a < b)) := by simp
      simp [this]
    | negSucc b =>
      show false = _
      symm
      refine decide_eq_false fun z => ?_
      have := Int.negSucc_lt_zero b
      have h2 : (0 : Int) ≤ Int.ofNat a := Int.natCast_nonneg a
      omega
  | negSucc a =>
    cases j with
    | ofNat b =>
      show true = _
      symm
      refine decide_eq_true ?_
      have := Int.negSucc_lt_zero a
      have h2 : (0 : Int) ≤ Int.ofNat b := Int.natCast_nonneg b
      omega
    | negSucc b =>
      show Nat.blt b a = _
      rw [blt_eq]
      have e : (Int.negSucc a < Int.negSucc b) ↔ b < a := by
        rw [Int.negSucc_eq, Int.negSucc_eq]
        omega
      rw [decide_eq_decide.mpr e]
def gLt : D → D → Store → O X
  | .int i, .int j, st => .ok (.d (.bl (ltI i j))) st
  | _, _, _ => .bad
def gLe : D → D → Store → O X
  | .int i, .int j, st => .ok (.d (.bl (!ltI j i))) st
  | _, _, _ => .bad
def gGt : D → D → Store → O X
  | .int i, .int j, st => .ok (.d (.bl (ltI j i))) st
  | _, _, _ => .bad
def gGe : D → D → Store → O X
  | .int i, .int j, st => .ok (.d (.bl (!ltI i j))) st
  | _, _, _ => .bad
theorem leI_eq (i j : Int) : decide (i ≤ j) = !decide (j < i) := by
  by_cases h : i ≤ j
  · rw [decide_eq_true h, decide_eq_false (by omega)]; rfl
  · rw [decide_eq_false h, decide_eq_true (by omega)]; rfl
theorem lt_v : OpV G (rI0 fun i j => .bl (decide (i < j))) (f2 gLt) := op2 fun E F ρ H st a b v w Q R ra rb h => by
  cases a with
  | int i =>
    cases b with
    | int j => exact ⟨i, j, ra, rb, now1 R h (by show V.bl _ = V.bl _; rw [ltI_eq])⟩
    | _ => exact h.elim
  | _ => exact h.elim
theorem le_v : OpV G (rI0 fun i j => .bl (decide (i ≤ j))) (f2 gLe) := op2 fun E F ρ H st a b v w Q R ra rb h => by
  cases a with
  | int i =>
    cases b with
    | int j => exact ⟨i, j, ra, rb, now1 R h (by show V.bl _ = V.bl _; rw [ltI_eq, leI_eq])⟩
    | _ => exact h.elim
  | _ => exact h.elim
theorem gt_v : OpV G (rI0 fun i j => .bl (decide (j < i))) (f2 gGt) := op2 fun E F ρ H st a b v w Q R ra rb h => by
  cases a with
  | int i =>
    cases b with
    | int j => exact ⟨i, j, ra, rb, now1 R h (by show V.bl _ = V.bl _; rw [ltI_eq])⟩
    | _ => exact h.elim
  | _ => exact h.elim
theorem ge_v : OpV G (rI0 fun i j => .bl (decide (j ≤ i))) (f2 gGe) := op2 fun E F ρ H st a b v w Q R ra rb h => by
  cases a with
  | int i =>
    cases b with
    | int j => exact ⟨i, j, ra, rb, now1 R h (by show V.bl _ = V.bl _; rw [ltI_eq, leI_eq])⟩
    | _ => exact h.elim
  | _ => exact h.elim
end
end DH
namespace DH
open PySem PySem.Spec PyProof.Rows L2
/-! ### equality of data -/
def eqN : List Nat → List Nat → Bool
  | [], [] => true
  | x :: xs, y :: ys => (match Nat.beq x y with
    | true => eqN xs ys
    | false => false)
  | _, _ => false
theorem eqN_eq : ∀ a b : List Nat, eqN a b = decide (a = b)
  | [], [] => rfl
  | [], y :: ys => rfl
  | x :: xs, [] => rfl
  | x :: xs, y :: ys => by
    unfold eqN
    cases q : Nat.beq x y with
    | true =>
      have e := Nat.eq_of_beq_eq_true q
      subst e
      simp only [eqN_eq xs ys, List.cons.injEq, true_and]
    | false =>
      have e := Nat.ne_of_beq_eq_false q
      simp [e]
def eqI (i j : Int) : Bool := match i, j with
  | .ofNat a, .ofNat b => Nat.beq a b
  | .negSucc a, .negSucc b => Nat.beq a b
  | _, _ => false
theorem eqI_eq (i j : Int) : eqI i j = (i == j) := by
  cases i with
  | ofNat a =>
    cases j with
    | ofNat b =>
      show Nat.beq a b = _
      cases q : Nat.beq a b with
      | true =>
        have e := Nat.eq_of_beq_eq_true q
        subst e
        simp
      | false =>
        have e := Nat.ne_of_beq_eq_false q
        symm
        rw [beq_eq_false_iff_ne]
        intro z
        cases z
        exact e rfl
    | negSucc b =>
      symm
      show ((Int.ofNat a) == (Int.negSucc b)) = false
      rw [beq_eq_false_iff_ne]
      intro z
      cases z
  | negSucc a =>
    cases j with
    | ofNat b =>
      symm
      show ((Int.negSucc a) == (Int.ofNat b)) = false
      rw [beq_eq_false_iff_ne]
      intro z
      cases z
    | negSucc b =>
      show Nat.beq a b = _
      cases q : Nat.beq a b with
      | true =>
        have e := Nat.eq_of_beq_eq_true q
        subst e
        simp
      | false =>
        have e := Nat.ne_of_beq_eq_false q
        symm
        rw [beq_eq_false_iff_ne]
        intro z
        cases z
        exact e rfl
def allB {α : Type} (f : α → Bool) : List α → Bool
  | [] => true
  | x :: xs => (match f x with
    | true => allB f xs
    | false => false)
def all2 {α : Type} (f : α → α → Bool) : List α → List α → Bool
  | [], [] => true
  | x :: xs, y :: ys => (match f x y with
    | true => all2 f xs ys
    | false => false)
  | _, _ => false
/-- data without dicts and objects, not too deep -/
def okD : Nat → D → Bool
  | _, .non => true
  | _, .bl _ => true
  | _, .int _ => true
  | _, .str cs => allB (fun c => Nat.blt c 1114112) cs
  | n + 1, .tup _ xs => allB (okD n) xs
  | n + 1, .lst xs => allB (okD n) xs
  | _, _ => false
def eqD : Nat → D → D → Bool
  | _, .non, .non => true
  | _, .bl a, .bl b => (match a, b with
    | true, true => true
    | false, false => true
    | _, _ => false)
  | _, .bl a, .int j => eqI (match a with | true => 1 | false => 0) j
  | _, .int i, .bl b => eqI i (match b with | true => 1 | false => 0)
  | _, .int i, .int j => eqI i j
  | _, .str a, .str b => eqN a b
  | n + 1, .tup _ a, .tup _ b => all2 (eqD n) a b
  | n + 1, .lst a, .lst b => all2 (eqD n) a b
  | _, _, _ => false
mutual
def toPy : D → PyData
  | .non => .none
  | .bl b => .bool b
  | .int i => .int i
  | .str cs => .str (strOf cs)
  | .tup _ xs => .tuple (toPys xs)
  | .lst xs => .list (toPys xs)
  | .dct _ _ => .none
  | .obj _ _ => .none
def toPys : List D → List PyData
  | [] => []
  | x :: xs => toPy x :: toPys xs
end
theorem allB_iff {α : Type} (f : α → Bool) : ∀ xs : List α, allB f xs = true ↔ ∀ x ∈ xs, f x = true
  | [] => by simp [allB]
  | x :: xs => by
    unfold allB
    cases q : f x with
    | true => simp [q, allB_iff f xs]
    | false => simp [q]
theorem all2_iff {α : Type} (f : α → α → Bool) : ∀ xs ys : List α, all2 f xs ys = true ↔ xs.length = ys.length ∧ ∀ (i : Nat) (x y : α), xs[i]? = some x → ys[i]? = some y → f x y = true
  | [], [] => by simp [all2]
  | [], y :: ys => by simp [all2]
  | x :: xs, [] => by simp [all2]
  | x :: xs, y :: ys => by
    unfold all2
    cases q : f x y with
    | true =>
      simp only [all2_iff f xs ys, List.length_cons, Nat.add_right_cancel_iff]
      constructor
      · rintro ⟨h1, h2⟩
        refine ⟨h1, fun i a b ha hb => ?_⟩
        cases i with
        | zero => simp at ha hb; rw [← ha, ← hb]; exact q
        | succ i => exact h2 i a b (by simpa using ha) (by simpa using hb)
      · rintro ⟨h1, h2⟩
        exact ⟨h1, fun i a b ha hb => h2 (i + 1) a b (by simpa using ha) (by simpa using hb)⟩
    | false =>
      constructor
      · intro h; cases h
      · rintro ⟨_, h⟩
        have := h 0 x y rfl rfl
        rw [q] at this; cases this
theorem toPys_map : ∀ xs : List D, toPys xs = xs.map toPy
  | [] => rfl
  | x :: xs => by rw [toPys, List.map_cons, toPys_map xs]
theorem okD_depth : ∀ (n : Nat) (x : D), okD n x = true → (toPy x).depth ≤ n ∧ (toPy x).canLay0 = true := by
  have all : ∀ (n : Nat) (xs : List D), (∀ x, okD n x = true → (toPy x).depth ≤ n ∧ (toPy x).canLay0 = true) → allB (okD n) xs = true → PyData.depthAll (toPys xs) ≤ n ∧ PyData.canLayAll0 (toPys xs) = true := by
    intro n xs hk
    induction xs with
    | nil => intro _; exact ⟨Nat.zero_le _, rfl⟩
    | cons x xs ih =>
      intro h
      have h' := (allB_iff _ _).mp h
      obtain ⟨a1, a2⟩ := hk x (h' x List.mem_cons_self)
      obtain ⟨b1, b2⟩ := ih ((allB_iff _ _).mpr fun y hy => h' y (List.mem_cons_of_mem _ hy))
      refine ⟨?_, ?_⟩
      · show max (toPy x).depth (PyData.depthAll (toPys xs)) ≤ n
        exact Nat.max_le.mpr ⟨a1, b1⟩
      · show ((toPy x).canLay0 && PyData.canLayAll0 (toPys xs)) = true
        rw [a2, b2]; rfl
  have str : ∀ cs : List Nat, allB (fun c => Nat.blt c 1114112) cs = true → PyData.canLay0 (.str (strOf cs)) = true := by
    intro cs h
    have h' := (allB_iff _ _).mp h
    show (strOf cs).cps.all (· < 0x110000) = true
    show cs.toArray.all (· < 0x110000) = true
    rw [List.all_toArray, List.all_eq_true]
    intro c hc
    have : c < 1114112 := Nat.le_of_ble_eq_true (h' c hc)
    exact decide_eq_true this
  intro n
  induction n with
  | zero =>
    intro x h
    cases x with
    | str cs => exact ⟨Nat.le_refl _, str cs h⟩
    | tup f xs => cases h
    | lst xs => cases h
    | dct t xs => cases h
    | obj c xs => cases h
    | _ => exact ⟨Nat.le_refl _, rfl⟩
  | succ n ih =>
    intro x h
    cases x with
    | str cs => exact ⟨Nat.zero_le _, str cs h⟩
    | tup f xs =>
      obtain ⟨a, b⟩ := all n xs ih h
      exact ⟨Nat.succ_le_succ a, b⟩
    | lst xs =>
      obtain ⟨a, b⟩ := all n xs ih h
      exact ⟨Nat.succ_le_succ a, b⟩
    | dct t xs => cases h
    | obj c xs => cases h
    | _ => exact ⟨Nat.zero_le _, rfl⟩
theorem okD_shaped {x : D} (h : okD 64 x = true) : SeqAt.shaped (toPy x) = true := by
  obtain ⟨a, b⟩ := okD_depth 64 x h
  unfold SeqAt.shaped
  rw [b, decide_eq_true a]; rfl
theorem strOf_beq (a b : List Nat) : (strOf a == strOf b) = eqN a b := by
  rw [eqN_eq]
  by_cases e : a = b
  · subst e; simp
  · rw [decide_eq_false e, beq_eq_false_iff_ne]
    intro z
    exact e (by have q := congrArg (fun s : Str => s.cps.toList) z; simpa [strOf] using q)
theorem bool_case (a b : Bool) : (match a, b with | true, true => true | false, false => true | _, _ => false) = (a == b) := by cases a <;> cases b <;> rfl
theorem eqv_all : ∀ (n : Nat), (∀ x y, okD n x = true → okD n y = true → PyData.eqv (toPy x) (toPy y) = eqD n x y) → ∀ xs ys : List D, allB (okD n) xs = true → allB (okD n) ys = true → PyData.eqvAll (toPys xs) (toPys ys) = all2 (eqD n) xs ys
  | n, k, [], [], _, _ => rfl
  | n, k, [], y :: ys, _, _ => rfl
  | n, k, x :: xs, [], _, _ => rfl
  | n, k, x :: xs, y :: ys, h1, h2 => by
    have h1' := (allB_iff _ _).mp h1
    have h2' := (allB_iff _ _).mp h2
    show (PyData.eqv (toPy x) (toPy y) && PyData.eqvAll (toPys xs) (toPys ys)) = all2 (eqD n) (x :: xs) (y :: ys)
    rw [k x y (h1' x List.mem_cons_self) (h2' y List.mem_cons_self), eqv_all n k xs ys ((allB_iff _ _).mpr fun z hz => h1' z (List.mem_cons_of_mem _ hz)) ((allB_iff _ _).mpr fun z hz => h2' z (List.mem_cons_of_mem _ hz))]
    conv => rhs; unfold all2
    cases eqD n x y <;> rfl
theorem eqv_eq : ∀ (n : Nat) (x y : D), okD n x = true → okD n y = true → PyData.eqv (toPy x) (toPy y) = eqD n x y := by
  intro n
  induction n with
  | zero =>
    intro x y h1 h2
    cases x <;> first
      | (cases h1; done)
      | (cases y <;> first
          | (cases h2; done)
          | rfl
          | exact (bool_case _ _).symm
          | (exact (strOf_beq _ _))
          | (show (_ == _) = eqI _ _; rw [eqI_eq]; done)
          | (rename_i a b; show (_ == _) = eqI _ _; rw [eqI_eq]; cases a <;> rfl)
          | (rename_i a b; show (_ == _) = eqI _ _; rw [eqI_eq]; cases b <;> rfl))
  | succ n ih =>
    intro x y h1 h2
    cases x <;> first
      | (cases h1; done)
      | (cases y <;> first
          | (cases h2; done)
          | rfl
          | exact (bool_case _ _).symm
          | (exact (strOf_beq _ _))
          | (show (_ == _) = eqI _ _; rw [eqI_eq]; done)
          | (rename_i a b; show (_ == _) = eqI _ _; rw [eqI_eq]; cases a <;> rfl)
          | (rename_i a b; show (_ == _) = eqI _ _; rw [eqI_eq]; cases b <;> rfl)
          | exact eqv_all n ih _ _ h1 h2)
section
variable {G : Gm} {N : Addr → Prop} {H : Hp}
mutual
theorem RelD.dp : ∀ (x : D) {n : Nat} {v : V}, RelD G N H x v → okD n x = true → Dp G.K H v (toPy x)
  | .non, n, v, h, k => by
    have e : v = .non := h
    rw [e]; exact .non
  | .bl b, n, v, h, k => by
    have e : v = .bl b := h
    rw [e]; exact .bl b
  | .int i, n, v, h, k => by
    have e : v = .int i := h
    rw [e]; exact .int i
  | .str cs, n, v, h, k => by
    have e : v = .str (strOf cs) := h
    rw [e]; exact .str _
  | .tup _ xs, 0, v, h, k => by cases k
  | .tup _ xs, n + 1, v, h, k => by
    obtain ⟨a, vs, e, f, r⟩ := h
    rw [e]
    exact .tup f.sq (RelDs.dp xs r k)
  | .lst xs, 0, v, h, k => by cases k
  | .lst xs, n + 1, v, h, k => by
    obtain ⟨a, vs, e, f, r⟩ := h
    rw [e]
    exact .lst f.sq (RelDs.dp xs r k)
  | .dct t xs, n, v, h, k => by cases n <;> cases k
  | .obj c xs, n, v, h, k => by cases n <;> cases k
theorem RelDs.dp : ∀ (xs : List D) {n : Nat} {vs : List V}, RelDs G N H xs vs → allB (okD n) xs = true → DpAll G.K H vs (toPys xs)
  | [], n, vs, h, k => by
    have e : vs = [] := h
    rw [e]; exact .nil
  | x :: xs, n, vs, h, k => by
    obtain ⟨v, r, e, h1, h2⟩ := h
    have k' := (allB_iff _ _).mp k
    rw [e]
    exact .cons (RelD.dp x h1 (k' x List.mem_cons_self)) (RelDs.dp xs h2 ((allB_iff _ _).mpr fun z hz => k' z (List.mem_cons_of_mem _ hz)))
end
theorem RelW.dp {x : D} {n : Nat} {v : V} (h : RelW G N H x v) (k : okD n x = true) : Dp G.K H v (toPy x) := by
  cases x with
  | tup f xs =>
    cases n with
    | zero => cases k
    | succ n =>
      obtain ⟨a, vs, e, f, r⟩ := h
      rw [e]
      exact .tup f (RelDs.dp xs r k)
  | lst xs =>
    cases n with
    | zero => cases k
    | succ n =>
      obtain ⟨a, vs, e, f, r⟩ := h
      rw [e]
      exact .lst (SqL.of f) (RelDs.dp xs r k)
  | dct t xs => cases n <;> cases k
  | obj c xs => cases n <;> cases k
  | non => exact RelD.dp _ (show RelD G N H _ v from h) k
  | bl b => exact RelD.dp _ (show RelD G N H _ v from h) k
  | int i => exact RelD.dp _ (show RelD G N H _ v from h) k
  | str cs => exact RelD.dp _ (show RelD G N H _ v from h) k
def gEq : D → D → Store → O X := fun a b st => match okD 64 a with
  | true => (match okD 64 b with
    | true => .ok (.d (.bl (eqD 64 a b))) st
    | false => .bad)
  | false => .bad
def gNe : D → D → Store → O X := fun a b st => match okD 64 a with
  | true => (match okD 64 b with
    | true => .ok (.d (.bl (!eqD 64 a b))) st
    | false => .bad)
  | false => .bad
theorem eq_v : OpV G (rEqD G.K) (f2 gEq) := op2 fun E F ρ H st a b v w Q R ra rb h => by
  unfold gEq at h
  cases z1 : okD 64 a with
  | false => simp only [z1] at h; exact h.elim
  | true =>
    cases z2 : okD 64 b with
    | false => simp only [z1, z2] at h; exact h.elim
    | true =>
      simp only [z1, z2] at h
      refine ⟨toPy a, toPy b, ra.dp z1, rb.dp z2, okD_shaped z1, okD_shaped z2, ?_⟩
      rw [eqv_eq 64 a b z1 z2]
      exact now1 R h rfl
theorem ne_v : OpV G (rNeD G.K) (f2 gNe) := op2 fun E F ρ H st a b v w Q R ra rb h => by
  unfold gNe at h
  cases z1 : okD 64 a with
  | false => simp only [z1] at h; exact h.elim
  | true =>
    cases z2 : okD 64 b with
    | false => simp only [z1, z2] at h; exact h.elim
    | true =>
      simp only [z1, z2] at h
      refine ⟨toPy a, toPy b, ra.dp z1, rb.dp z2, okD_shaped z1, okD_shaped z2, ?_⟩
      rw [eqv_eq 64 a b z1 z2]
      exact now1 R h rfl
end
end DH
namespace DH
open PySem PySem.Spec PyProof.Rows L2
/-! ### targets: a name, a tuple of targets -/
inductive Tgt where
  | nm (i : Nat) | tp (ts : List Tgt) | lp (ts : List Tgt)
mutual
def tgTG (K : PySem.W.Frag) : Tgt → TG
  | .nm i => gName i
  | .tp ts => gTup K ts.length (tgTGs K ts)
  | .lp ts => gUnl K ts.length (tgTGs K ts)
def tgTGs (K : PySem.W.Frag) : List Tgt → TGs
  | [] => gNil
  | t :: r => gCons (tgTG K t) (tgTGs K r)
end
mutual
def tgM : Tgt → D → Slots → Option Slots
  | .nm i, x, sl => some (sl.set i (some (.d x)))
  | .tp ts, .tup _ xs, sl => tgMs ts xs sl
  | .tp _, _, _ => none
  | .lp ts, .lst xs, sl => tgMs ts xs sl
  | .lp _, _, _ => none
def tgMs : List Tgt → List D → Slots → Option Slots
  | [], [], sl => some sl
  | t :: ts, x :: xs, sl => (match tgM t x sl with
    | some sl1 => tgMs ts xs sl1
    | none => none)
  | _, _, _ => none
end
mutual
def tgIn (vs : List Nat) : Tgt → Bool
  | .nm i => vs.contains i
  | .tp ts => tgIns vs ts
  | .lp ts => tgIns vs ts
def tgIns (vs : List Nat) : List Tgt → Bool
  | [] => true
  | t :: r => tgIn vs t && tgIns vs r
end
theorem wipe_at (σ : L2.St) (j : Nat) : ∀ vs : List Nat, (wipe σ vs)[j]? = if j ∈ vs then (if j < σ.length then some none else none) else σ[j]?
  | [] => by simp [wipe]
  | v :: vs => by
    unfold wipe
    by_cases h : v = j
    · subst h
      simp only [List.mem_cons, true_or, if_true]
      by_cases hl : v < σ.length
      · rw [List.getElem?_set_self (by rw [wipe_length]; exact hl), if_pos hl]
      · rw [List.getElem?_eq_none (by rw [List.length_set, wipe_length]; omega), if_neg hl]
    · rw [List.getElem?_set_ne h, wipe_at σ j vs]
      simp only [List.mem_cons, show (j = v) = False from eq_false fun e => h e.symm, false_or]
theorem wipe_set {σ : L2.St} {i : Nat} {o : Option V} {vs : List Nat} (h : i ∈ vs) : wipe (σ.set i o) vs = wipe σ vs := by
  refine List.ext_getElem? fun j => ?_
  rw [wipe_at, wipe_at, List.length_set]
  by_cases hj : j ∈ vs
  · rw [if_pos hj, if_pos hj]
  · rw [if_neg hj, if_neg hj, List.getElem?_set_ne]
    rintro rfl
    exact hj h
theorem wipe_wipe (σ : L2.St) (vs : List Nat) : wipe (wipe σ vs) vs = wipe σ vs := by
  refine List.ext_getElem? fun j => ?_
  rw [wipe_at, wipe_at, wipe_length]
  by_cases hj : j ∈ vs
  · rw [if_pos hj, if_pos hj]
  · rw [if_neg hj, if_neg hj]
section
variable {G : Gm} {F : Addr → Prop} {ρ : List Addr} {H : Hp}
mutual
theorem tg_ok {vs : List Nat} : ∀ (t : Tgt) {x : D} {v : V} {sl sl' : Slots} {σ : L2.St} {Q : L2.St → Hp → Prop}, RelD G (Nn F ρ) H x v → tgM t x sl = some sl' → SlOk G F ρ H sl σ →
    (∀ σ', SlOk G F ρ H sl' σ' → (tgIn vs t = true → wipe σ' vs = wipe σ vs) → Q σ' H) → tgTG G.K t v σ H Q
  | .nm i, x, v, sl, sl', σ, Q, r, e, sk, h => by
    have e' : sl.set i (some (.d x)) = sl' := Option.some.inj e
    rw [← e'] at h
    exact h _ (sk.set i (x := .d x) r) fun z => wipe_set (by simpa [tgIn] using z)
  | .tp ts, x, v, sl, sl', σ, Q, r, e, sk, h => by
    cases x with
    | tup f xs =>
      obtain ⟨a, ws, ev, fz, rs⟩ := r
      have hl : ts.length = xs.length := tgMs_len ts xs e
      exact ⟨a, ws, ev, fz.sq, by rw [rs.length, hl], tgs_ok (vs := vs) ts rs e sk h⟩
    | _ => cases e
  | .lp ts, x, v, sl, sl', σ, Q, r, e, sk, h => by
    cases x with
    | lst xs =>
      obtain ⟨a, ws, ev, fz, rs⟩ := r
      have hl : ts.length = xs.length := tgMs_len ts xs e
      exact ⟨a, ws, ev, SqL.of fz.1, by rw [rs.length, hl], tgs_ok (vs := vs) ts rs e sk h⟩
    | _ => cases e
theorem tgs_ok {vs : List Nat} : ∀ (ts : List Tgt) {xs : List D} {ws : List V} {sl sl' : Slots} {σ : L2.St} {Q : L2.St → Hp → Prop}, RelDs G (Nn F ρ) H xs ws → tgMs ts xs sl = some sl' → SlOk G F ρ H sl σ →
    (∀ σ', SlOk G F ρ H sl' σ' → (tgIns vs ts = true → wipe σ' vs = wipe σ vs) → Q σ' H) → tgTGs G.K ts ws σ H Q
  | [], xs, ws, sl, sl', σ, Q, r, e, sk, h => by
    cases xs with
    | nil =>
      have e' : sl = sl' := Option.some.inj e
      rw [← e'] at h
      exact ⟨r, h σ sk fun _ => rfl⟩
    | cons _ _ => cases e
  | t :: ts, xs, ws, sl, sl', σ, Q, r, e, sk, h => by
    cases xs with
    | nil => cases e
    | cons x xs =>
      obtain ⟨v, rest, ew, r1, r2⟩ := r
      have e' : (match tgM t x sl with | some sl1 => tgMs ts xs sl1 | none => none) = some sl' := e
      cases q : tgM t x sl with
      | none => rw [q] at e'; cases e'
      | some sl1 =>
        rw [q] at e'
        refine ⟨v, rest, ew, tg_ok (vs := vs) t r1 q sk fun σ1 sk1 w1 => tgs_ok (vs := vs) ts r2 e' sk1 fun σ2 sk2 w2 => h σ2 sk2 fun z => ?_⟩
        obtain ⟨z1, z2⟩ := Bool.and_eq_true_iff.mp (show (tgIn vs t && tgIns vs ts) = true from z)
        rw [w2 z2, w1 z1]
theorem tgMs_len : ∀ (ts : List Tgt) (xs : List D) {sl sl' : Slots}, tgMs ts xs sl = some sl' → ts.length = xs.length
  | [], [], sl, sl', e => rfl
  | [], x :: xs, sl, sl', e => by cases e
  | t :: ts, [], sl, sl', e => by cases e
  | t :: ts, x :: xs, sl, sl', e => by
    have e' : (match tgM t x sl with | some sl1 => tgMs ts xs sl1 | none => none) = some sl' := e
    cases q : tgM t x sl with
    | none => rw [q] at e'; cases e'
    | some sl1 =>
      rw [q] at e'
      rw [List.length_cons, List.length_cons, tgMs_len ts xs e']
end
end
/-! ### what is walked -/
structure ItOk (G : Gm) (F : Addr → Prop) (ρ0 : List Addr) (H0 : Hp) (xs : List D) (J : It) : Prop where
  stop : ∀ ρ H, Stp ρ0 H0 ρ H → J.stop xs.length H
  go : ∀ (F' : Addr → Prop) (i : Nat) x ρ H st, (∀ a, F' a → F a ∨ H0 a = none) → xs[i]? = some x → Stp ρ0 H0 ρ H → Rep G F' ρ st H → J.go i H ∧ ∀ v H', J.yld i H v H' → (H' = H ∨ ∃ p o, H p = none ∧ NT o ∧ H' = upd H p o) ∧ RelD G (Nn F' ρ) H' x v
def rIt (G : Gm) : Rl (List D) It := fun F ρ H xs J => ItOk G F ρ H xs J
abbrev rdI (G : Gm) (E : XK) (m : EM (List D)) : TI := rd G E (rIt G) m
theorem PI.imp {X : Cx} {tg it : Expr} {t t' : TI} (h : PI X tg it t) (k : ∀ σ H Q, t' σ H Q → t σ H Q) : PI X tg it t' := ⟨fun p s σ H Q I q => h.run p s σ H Q I (k σ H Q q)⟩
section
variable {G : Gm} {E : XK}
/-- for target in xs: body -/
def fLoop (t : Tgt) (b : SM) : List D → SM
  | [], sl, st => .nx sl st
  | x :: xs, sl, st => (match tgM t x sl with
    | none => .bad
    | some sl1 => (match b sl1 st with
      | .nx sl' st' => fLoop t b xs sl' st'
      | .ct sl' st' => fLoop t b xs sl' st'
      | .bk sl' st' => .nx sl' st'
      | o => o))
def sFor (m : EM (List D)) (t : Tgt) (b : SM) : SM := fun sl st => (m sl st).s fun xs st1 => fLoop t b xs sl st1
theorem stp_yld {ρ : List Addr} {H H' : Hp} (h : H' = H ∨ ∃ p o, H p = none ∧ NT o ∧ H' = upd H p o) : Stp ρ H ρ H' := by
  rcases h with e | ⟨p, o, n, _, e⟩
  · rw [e]; exact Stp.refl _ _
  · rw [e]; exact stp_new n
theorem rep_yld {F : Addr → Prop} {ρ : List Addr} {st : Store} {H H' : Hp} (R : Rep G F ρ st H) (h : H' = H ∨ ∃ p o, H p = none ∧ NT o ∧ H' = upd H p o) : Rep G F ρ st H' := by
  rcases h with e | ⟨p, o, n, _, e⟩
  · rw [e]; exact R
  · rw [e]; exact R.new n
theorem rd_for {m : EM (List D)} {t : Tgt} {b : SM} {D : Ends} {σ : L2.St} {H : Hp} (h : rdS G E (sFor m t b) D σ H) : tFor (rdI G E m) (tgTG G.K t) (rdS G E b) D σ H := by
  obtain ⟨F, ρ, sl, st, sk, R, h⟩ := h
  refine ⟨F, ρ, sl, st, sk, R, PostG.mono (PostS.part (R := rIt G) h) fun J H1 h1 => ?_⟩
  obtain ⟨xs, st1, ρ1, s1, R1, it, h1⟩ := h1
  -- the invariant: what is left of the items
  refine ⟨fun i n σ H => n = xs.length - i ∧ i ≤ xs.length ∧ ∃ ρ sl st, Stp ρ1 H1 ρ H ∧ SlOk G F ρ H sl σ ∧ Rep G F ρ st H ∧ PostS G E F ρ H (fLoop t b (xs.drop i) sl st) D,
    ⟨xs.length, by simp, Nat.zero_le _, ρ1, sl, st1, Stp.refl _ _, sk.mono s1, R1, h1⟩, ?_⟩
  rintro i n σ2 H2 ⟨rfl, hi, ρ2, sl2, st2, s2, sk2, R2, h2⟩
  by_cases hlt : i < xs.length
  · right
    have hx : xs[i]? = some xs[i] := List.getElem?_eq_getElem hlt
    obtain ⟨go, yl⟩ := it.go F i xs[i] ρ2 H2 st2 (fun _ z => .inl z) hx s2 R2
    refine ⟨go, fun σ H => i + 1 ≤ xs.length ∧ ∃ ρ sl st, Stp ρ1 H1 ρ H ∧ SlOk G F ρ H sl σ ∧ Rep G F ρ st H ∧ PostS G E F ρ H (fLoop t b (xs.drop (i + 1)) sl st) D,
      fun σ' H' z => ⟨xs.length - (i + 1), by omega, rfl, z⟩, fun v H3 y3 => ?_⟩
    obtain ⟨e3, r3⟩ := yl v H3 y3
    have s3 : Stp ρ2 H2 ρ2 H3 := stp_yld e3
    have R3 := rep_yld R2 e3
    rw [List.drop_eq_getElem_cons hlt] at h2
    have h2' : PostS G E F ρ2 H2 (match tgM t xs[i] sl2 with
      | none => .bad
      | some sl1 => (match b sl1 st2 with
        | .nx sl' st' => fLoop t b (xs.drop (i + 1)) sl' st'
        | .ct sl' st' => fLoop t b (xs.drop (i + 1)) sl' st'
        | .bk sl' st' => .nx sl' st'
        | o => o)) D := h2
    cases q : tgM t xs[i] sl2 with
    | none => rw [q] at h2'; exact h2'.elim
    | some sl3 =>
      rw [q] at h2'
      refine tg_ok (vs := []) t r3 q (sk2.mono s3) fun σ3 sk3 _ => ⟨F, ρ2, sl3, st2, sk3, R3, ?_⟩
      have h3 : PostS G E F ρ2 H3 (match b sl3 st2 with
        | .nx sl' st' => fLoop t b (xs.drop (i + 1)) sl' st'
        | .ct sl' st' => fLoop t b (xs.drop (i + 1)) sl' st'
        | .bk sl' st' => .nx sl' st'
        | o => o) D := PostS.later s3 h2'
      cases q2 : b sl3 st2 with
      | nx sl' st' =>
        rw [q2] at h3
        exact fun ρ' H' σ' s' R' sk' => ⟨hlt, ρ', sl', st', (s2.trans s3).trans s', sk', R', PostS.later s' h3⟩
      | ct sl' st' =>
        rw [q2] at h3
        exact fun ρ' H' σ' s' R' sk' => ⟨hlt, ρ', sl', st', (s2.trans s3).trans s', sk', R', PostS.later s' h3⟩
      | bk sl' st' => rw [q2] at h3; exact h3
      | rt x st' => rw [q2] at h3; exact h3
      | exn c fs st' => rw [q2] at h3; exact h3
      | bad => rw [q2] at h3; exact h3
  · left
    have e : i = xs.length := by omega
    subst e
    rw [List.drop_length] at h2
    exact ⟨it.stop ρ2 H2 s2, h2 ρ2 H2 σ2 (Stp.refl _ _) R2 sk2⟩
theorem q_for {X : Cx} {tg iter : Expr} {body : List Stmt} {pos : Pos} {m : EM (List D)} {t : Tgt} {b : SM} (hK : G.K = X.K) (hp : PassesOwn (model X.prog X.w) X.A X.env X.xe) (hc : X.calm = true) (hi : PI X tg iter (rdI G E m)) (hg : PG X tg (tgTG X.K t)) (hb : PSs X body (rdS G E b))
    (hs : ∀ x, foldedSetIterable iter X.env x = pure x) : PS X (.For tg iter body [] pos) (rdS G E (sFor m t b)) := by
  refine PS.imp (ps_for hp hc hi hg hb hs) fun D σ H h => ?_
  have := rd_for h
  rw [hK] at this
  exact this
/-! ### comprehensions -/
def wipeS (sl : Slots) : List Nat → Slots
  | [] => sl
  | v :: vs => (wipeS sl vs).set v none
theorem SlOk.setN {F : Addr → Prop} {ρ : List Addr} {H : Hp} {sl : Slots} {σ : L2.St} {o : Option V} (h : SlOk G F ρ H sl σ) (i : Nat) : SlOk G F ρ H (sl.set i none) (σ.set i o) := by
  refine ⟨by rw [List.length_set, List.length_set, h.1], fun j y e => ?_⟩
  by_cases hj : i = j
  · subst hj
    by_cases hl : i < sl.length
    · rw [List.getElem?_set_self hl] at e; cases e
    · rw [List.getElem?_eq_none (by simpa using hl)] at e; cases e
  · rw [List.getElem?_set_ne hj] at e ⊢
    exact h.2 j y e
theorem wipeS_ok {F : Addr → Prop} {ρ : List Addr} {H : Hp} {sl : Slots} {σ : L2.St} (h : SlOk G F ρ H sl σ) : ∀ vs : List Nat, SlOk G F ρ H (wipeS sl vs) (wipe σ vs)
  | [] => h
  | v :: vs => (wipeS_ok h vs).setN v
/-- what is raised within a block is not told -/
def O.calm {α : Type} : O α → O α
  | .exn _ _ _ => .bad
  | o => o
/-- the block's turns: sl0, the slots with the block's own forgotten; acc, the items so far, the last first -/
def cLoop (t : Tgt) (c : EM Bool) (e : EM X) (sl0 : Slots) : List D → List D → Store → O (List D)
  | [], acc, st => .ok acc st
  | x :: xs, acc, st => (match tgM t x sl0 with
    | none => .bad
    | some sl1 => (match c sl1 st with
      | .ok true st1 => (match e sl1 st1 with
        | .ok (.d y) st2 => cLoop t c e sl0 xs (y :: acc) st2
        | _ => .bad)
      | .ok false st1 => cLoop t c e sl0 xs acc st1
      | _ => .bad))
def revD : List D → List D → List D
  | [], acc => acc
  | x :: xs, acc => revD xs (x :: acc)
theorem revD_eq : ∀ xs acc : List D, revD xs acc = xs.reverse ++ acc
  | [], acc => rfl
  | x :: xs, acc => by rw [revD, revD_eq xs, List.reverse_cons, List.append_assoc]; rfl
def eComp (mu : Bool) (vs : List Nat) (m : EM (List D)) (t : Tgt) (c : EM Bool) (e : EM X) : EM X := fun sl st => (m sl st).bind fun xs st1 => (match small xs.length with
  | true => (cLoop t c e (wipeS sl vs) xs [] st1).bind fun acc st2 => newL mu (revD acc []) st2
  | false => .bad)
/-- from one owner's eyes to another's -/
theorem RelX.mv {F F' : Addr → Prop} {ρ ρ' : List Addr} {H H' : Hp} (k : Keeps (Nn F ρ) H (Nn F' ρ') H') (pre : ∃ m, ρ' = ρ ++ m) {x : X} {v : V} (h : RelX G F ρ H x v) : RelX G F' ρ' H' x v := by
  cases x with
  | d y => exact RelD.mono k y h
  | loc l =>
    obtain ⟨a, e, r⟩ := h
    obtain ⟨m, q⟩ := pre
    refine ⟨a, ?_, r⟩
    rw [q, List.getElem?_append_left (List.getElem?_eq_some_iff.mp e).1]
    exact e
theorem SlOk.mv {F F' : Addr → Prop} {ρ ρ' : List Addr} {H H' : Hp} (k : Keeps (Nn F ρ) H (Nn F' ρ') H') (pre : ∃ m, ρ' = ρ ++ m) {sl : Slots} {σ : L2.St} (h : SlOk G F ρ H sl σ) : SlOk G F' ρ' H' sl σ :=
  ⟨h.1, fun i x e => by
    obtain ⟨v, q, r⟩ := h.2 i x e
    exact ⟨v, q, r.mv k pre⟩⟩
/-- the owner's eyes with one more thing in them -/
def F1 (F : Addr → Prop) (d : Addr) : Addr → Prop := fun a => F a ∨ a = d
theorem keeps_F1 {F : Addr → Prop} {ρ ρ' : List Addr} {H H' : Hp} {d : Addr} (s : Stp ρ H ρ' H') (hd : H d = none) : Keeps (Nn F ρ) H (Nn (F1 F d) ρ') H' := fun a o h n k => by
  obtain ⟨e, n'⟩ := (s.keeps (F := F)) a o h n k
  refine ⟨e, fun z => ?_⟩
  rcases z with (z | z) | z
  · exact n' (.inl z)
  · rw [z, hd] at h; cases h
  · exact n' (.inr z)
theorem keeps_unF1 {F : Addr → Prop} {ρ : List Addr} {H : Hp} {d : Addr} : Keeps (Nn (F1 F d) ρ) H (Nn F ρ) H := fun a o h n k => ⟨h, fun z => k (z.elim (fun z => .inl (.inl z)) .inr)⟩
/-- the block's new list changes: only that -/
theorem stp_own {ρ ρ' : List Addr} {H H' : Hp} {d : Addr} {o : HO} (s : Stp ρ H ρ' H') (hd : H d = none) : Stp ρ H ρ' (upd H' d o) := by
  refine ⟨fun a u e n hr => ?_, s.pre, s.new, fun a u e n => ?_⟩
  · rw [upd_ne (ne_of_none e hd)]; exact s.keep a u e n hr
  · obtain ⟨u', e', n'⟩ := s.some a u e n
    exact ⟨u', by rw [upd_ne (ne_of_none e hd)]; exact e', n'⟩
theorem keeps_own {F : Addr → Prop} {ρ : List Addr} {H : Hp} {d : Addr} {o : HO} : Keeps (Nn (F1 F d) ρ) H (Nn (F1 F d) ρ) (upd H d o) := fun a u h n k => by
  refine ⟨?_, k⟩
  rw [upd_ne]
  · exact h
  · rintro rfl; exact k (.inl (.inr rfl))
theorem rep_own {F : Addr → Prop} {ρ : List Addr} {st : Store} {H : Hp} {d : Addr} {xs ys : List V} (R : Rep G (F1 F d) ρ st H) (hd : H d = some (.lst xs)) : Rep G (F1 F d) ρ st (upd H d (.lst ys)) := by
  refine ⟨R.len, R.nd, R.dis, fun a z => ?_, fun l a m e1 e2 => ?_, fun p hp => ?_⟩
  · by_cases q : a = d
    · rw [q]; exact ⟨_, upd_same, (fun ps z => by cases z), fun vs z => by cases z⟩
    · rw [upd_ne q]; exact R.fin a z
  · refine (R.obj l a m e1 e2).mono keeps_own ?_
    rw [upd_ne]
    rintro rfl
    exact R.dis _ (List.mem_of_getElem? e1) (.inr rfl)
  · obtain ⟨ps, h1, h2, h3⟩ := R.tab p hp
    refine ⟨ps, ?_, h2, fun pos cv hcv => ?_⟩
    · rw [upd_ne]
      · exact h1
      · rintro q
        rw [q, hd] at h1
        cases h1
    · obtain ⟨c, e1, e2⟩ := h3 pos cv hcv
      refine ⟨c, e1, ?_⟩
      rw [upd_ne]
      · exact e2
      · rintro q
        rw [q, hd] at e2
        unfold LamX.CodeO at e2
        cases e2
theorem rep_F1 {F : Addr → Prop} {ρ : List Addr} {st : Store} {H : Hp} {d : Addr} (R : Rep G F ρ st H) (hd : H d = none) : Rep G (F1 F d) ρ st (upd H d (.lst [])) := by
  have R1 : Rep G F ρ st (upd H d (.lst [])) := R.new hd
  refine ⟨R1.len, R1.nd, fun a ha z => ?_, fun a z => ?_, fun l a m e1 e2 => ?_, R1.tab⟩
  · rcases z with z | z
    · exact R1.dis a ha z
    · rw [z] at ha; exact R.fresh hd (.inr ha)
  · rcases z with z | z
    · exact R1.fin a z
    · rw [z]; exact ⟨_, upd_same, (fun ps z => by cases z), fun vs z => by cases z⟩
  · refine (R.obj l a m e1 e2).mono (keeps_F1 (stp_new hd) hd) ?_
    rw [upd_ne]
    rintro rfl
    exact R.fresh hd (.inr (List.mem_of_getElem? e1))
theorem rep_unF1 {F : Addr → Prop} {ρ : List Addr} {st : Store} {H : Hp} {d : Addr} (R : Rep G (F1 F d) ρ st H) : Rep G F ρ st H :=
  ⟨R.len, R.nd, fun a ha z => R.dis a ha (.inl z), fun a z => R.fin a (.inl z), fun l a m e1 e2 => (R.obj l a m e1 e2).mono keeps_unF1 rfl, R.tab⟩
/-- a part of a block that raises nothing -/
theorem PostG.calm {α β : Type} {R : Rl α β} {F : Addr → Prop} {ρ : List Addr} {H : Hp} {o : O α} {Q : β → Hp → Prop} (ok : ∃ a st, o = .ok a st) (h : PostG G E R F ρ H o Q) : PostG G E0 R F ρ H o Q := by
  obtain ⟨a, st, e⟩ := ok
  subst e
  exact h
theorem cLoop_cons {t : Tgt} {c : EM Bool} {e : EM X} {sl0 : Slots} {x : D} {xs acc : List D} {st : Store} {r : List D × Store} (h : cLoop t c e sl0 (x :: xs) acc st = .ok r.1 r.2) :
    ∃ sl1 b st1, tgM t x sl0 = some sl1 ∧ c sl1 st = .ok b st1 ∧ ((b = false ∧ cLoop t c e sl0 xs acc st1 = .ok r.1 r.2) ∨ (b = true ∧ ∃ y st2, e sl1 st1 = .ok (.d y) st2 ∧ cLoop t c e sl0 xs (y :: acc) st2 = .ok r.1 r.2)) := by
  unfold cLoop at h
  cases q : tgM t x sl0 with
  | none => rw [q] at h; cases h
  | some sl1 =>
    rw [q] at h
    simp only at h
    cases q2 : c sl1 st with
    | bad => rw [q2] at h; cases h
    | exn _ _ _ => rw [q2] at h; cases h
    | ok b st1 =>
      rw [q2] at h
      cases b with
      | false => exact ⟨sl1, false, st1, rfl, q2, .inl ⟨rfl, h⟩⟩
      | true =>
        simp only at h
        cases q3 : e sl1 st1 with
        | bad => rw [q3] at h; cases h
        | exn _ _ _ => rw [q3] at h; cases h
        | ok y st2 =>
          rw [q3] at h
          cases y with
          | loc l => cases h
          | d y => exact ⟨sl1, true, st1, rfl, q2, .inr ⟨rfl, y, st2, q3, h⟩⟩
theorem cLoop_exn {t : Tgt} {c : EM Bool} {e : EM X} {sl0 : Slots} : ∀ (xs acc : List D) (st : Store) (k : Nat) (fs : List (Nat × D)) (st' : Store), cLoop t c e sl0 xs acc st ≠ .exn k fs st'
  | [], acc, st, k, fs, st' => by unfold cLoop; intro z; cases z
  | x :: xs, acc, st, k, fs, st' => by
    unfold cLoop
    cases tgM t x sl0 with
    | none => intro z; cases z
    | some sl1 =>
      simp only
      cases c sl1 st with
      | bad => intro z; cases z
      | exn _ _ _ => intro z; cases z
      | ok b st1 =>
        cases b with
        | false => exact cLoop_exn xs acc st1 k fs st'
        | true =>
          simp only
          cases e sl1 st1 with
          | bad => intro z; cases z
          | exn _ _ _ => intro z; cases z
          | ok y st2 =>
            cases y with
            | loc l => intro z; cases z
            | d y => exact cLoop_exn xs (y :: acc) st2 k fs st'
theorem keeps_eq {F : Addr → Prop} {ρ : List Addr} {H : Hp} {d : Addr} : Keeps (Nn (F1 F d) ρ) H (Nn F (ρ ++ [d])) H := fun a o h n k => ⟨h, fun z => k (by
  rcases z with z | z
  · exact .inl (.inl z)
  · rcases List.mem_append.mp z with z | z
    · exact .inr z
    · exact .inl (.inr (by simpa using z)))⟩
theorem rep_adopt {F : Addr → Prop} {ρ : List Addr} {st : Store} {H : Hp} {d : Addr} {xs : List D} {ws : List V} (R : Rep G (F1 F d) ρ st H) (nF : ¬ F d) (hd : H d = some (.lst ws)) (r : RelDs G (Nn (F1 F d) ρ) H xs ws) : Rep G F (ρ ++ [d]) (st ++ [.lst xs]) H := by
  have nd : d ∉ ρ := fun z => R.dis d z (.inr rfl)
  refine ⟨by rw [List.length_append, List.length_append, R.len]; rfl, ?_, fun a z => ?_, fun a z => R.fin a (.inl z), fun l a u e1 e2 => ?_, R.tab⟩
  · rw [List.nodup_append]
    exact ⟨R.nd, by simp, fun a ha b hb => by
      have e : b = d := by simpa using hb
      rw [e]; rintro rfl; exact nd ha⟩
  · rcases List.mem_append.mp z with z | z
    · exact fun y => R.dis a z (.inl y)
    · have e : a = d := by simpa using z
      rw [e]; exact nF
  · by_cases hl : l < ρ.length
    · rw [List.getElem?_append_left hl] at e1
      rw [List.getElem?_append_left (by rw [← R.len]; exact hl)] at e2
      exact (R.obj l a u e1 e2).mono keeps_eq rfl
    · have e : l = ρ.length := by
        have := (List.getElem?_eq_some_iff.mp e1).1
        rw [List.length_append] at this
        simp at this
        omega
      subst e
      rw [List.getElem?_append_right (Nat.le_refl _)] at e1
      rw [List.getElem?_append_right (by rw [R.len]; exact Nat.le_refl _), R.len] at e2
      simp at e1 e2
      rw [← e1, ← e2]
      exact ⟨ws, hd, RelDs.mono keeps_eq xs r⟩
theorem rd_comp {mu : Bool} {vs : List Nat} {m : EM (List D)} {t : Tgt} {c : EM Bool} {e : EM X} {σ : L2.St} {H : Hp} {Q : VK} (hin : tgIn vs t = true) (h : rdE G E (eComp mu vs m t c e) σ H Q) : tLc (rdI G E m) (tgTG G.K t) (rdT G E0 c) (rdE G E0 e) vs σ H Q := by
  obtain ⟨F, ρ, sl, st, sk, R, h⟩ := h
  refine ⟨F, ρ, sl, st, sk, R, PostG.mono (PostG.bind (R := rIt G) h) fun J H1 h1 => ?_⟩
  obtain ⟨xs, st1, ρ1, s1, R1, it, h1⟩ := h1
  intro d hd
  cases z : small xs.length with
  | false => simp only [z] at h1; exact h1.elim
  | true =>
    simp only [z] at h1
    have hsz : xs.length ≤ 16777216 := Nat.le_of_ble_eq_true z
    have hline : sizeLine = 16777216 := by decide
    have nF : ¬ F d := fun y => by
      obtain ⟨o, q, _⟩ := R1.fin d y
      rw [hd] at q; cases q
    cases ql : cLoop t c e (wipeS sl vs) xs [] st1 with
    | bad => rw [ql] at h1; exact h1.elim
    | exn k fs st' => exact absurd ql (cLoop_exn xs [] st1 k fs st')
    | ok acc' st' =>
      rw [ql] at h1
      have h1 : PostG G E (rX G) F ρ1 H1 (newL mu (revD acc' []) st') Q := h1
      refine ⟨fun i n H => n = xs.length - i ∧ i ≤ xs.length ∧ ∃ ρ st acc ws, Stp ρ1 H1 ρ H ∧ Rep G (F1 F d) ρ st H ∧ H d = some (.lst ws) ∧ RelDs G (Nn (F1 F d) ρ) H acc.reverse ws ∧ acc.length ≤ i ∧ cLoop t c e (wipeS sl vs) (xs.drop i) acc st = .ok acc' st',
        ⟨xs.length, by simp, Nat.zero_le _, ρ1, st1, [], [], stp_new hd, rep_F1 R1 hd, upd_same, (show RelDs G (Nn (F1 F d) ρ1) (upd H1 d (.lst [])) [] [] from rfl), Nat.le_refl _, ql⟩, ?_⟩
      rintro i n H2 ⟨rfl, hi, ρ2, st2, acc, ws, s2, R2, hD2, rel2, hacc, hl2⟩
      have nd2 : d ∉ ρ2 := fun y => R2.dis d y (.inr rfl)
      by_cases hlt : i < xs.length
      · right
        have hx : xs[i]? = some xs[i] := List.getElem?_eq_getElem hlt
        obtain ⟨go, yl⟩ := it.go (F1 F d) i xs[i] ρ2 H2 st2 (fun a y => y.imp id fun q => by rw [q]; exact hd) hx s2 R2
        refine ⟨go, fun H => i + 1 ≤ xs.length ∧ ∃ ρ st acc ws, Stp ρ1 H1 ρ H ∧ Rep G (F1 F d) ρ st H ∧ H d = some (.lst ws) ∧ RelDs G (Nn (F1 F d) ρ) H acc.reverse ws ∧ acc.length ≤ i + 1 ∧ cLoop t c e (wipeS sl vs) (xs.drop (i + 1)) acc st = .ok acc' st',
          fun H' y => ⟨xs.length - (i + 1), by omega, rfl, y⟩, fun v H3 y3 => ?_⟩
        obtain ⟨e3, r3⟩ := yl v H3 y3
        have s3 : Stp ρ2 H2 ρ2 H3 := stp_yld e3
        have R3 := rep_yld R2 e3
        have hD3 : H3 d = some (.lst ws) := s3.keep d _ hD2 (fun ps y => by cases y) nd2
        rw [List.drop_eq_getElem_cons hlt] at hl2
        obtain ⟨sl1, b, st3, q1, q2, q3⟩ := cLoop_cons (r := (acc', st')) hl2
        have sk' : SlOk G (F1 F d) ρ2 H3 (wipeS sl vs) (wipe σ vs) := (wipeS_ok (sk.mono s1) vs).mv (keeps_F1 (s2.trans s3) hd) (s2.trans s3).pre
        refine tg_ok (vs := vs) t r3 q1 sk' fun σ3 sk3 w3 => ⟨by rw [w3 hin, wipe_wipe], F1 F d, ρ2, sl1, st2, sk3, R3, ?_⟩
        rw [q2]
        intro ρ4 H4 b' s4 R4 eb
        obtain rfl : b = b' := eb
        have hD4 : H4 d = some (.lst ws) := s4.keep d _ hD3 (fun ps y => by cases y) nd2
        rcases q3 with ⟨hb, q3⟩ | ⟨hb, y, st4, q3, q4⟩
        · subst hb
          refine iteF ⟨hlt, ρ4, st3, acc, ws, (s2.trans s3).trans s4, R4, hD4, RelDs.mono (s3.trans s4).keeps _ rel2, by omega, q3⟩
        · subst hb
          refine iteT ⟨F1 F d, ρ4, sl1, st3, sk3.mono s4, R4, ?_⟩
          rw [q3]
          intro ρ5 H5 w s5 R5 rw5
          have nd4 : d ∉ ρ4 := fun y => R4.dis d y (.inr rfl)
          have hD5 : H5 d = some (.lst ws) := s5.keep d _ hD4 (fun ps y => by cases y) nd4
          have hws : ws.length = acc.length := by rw [rel2.length, List.length_reverse]
          refine ⟨ws, hD5, by omega, hlt, ρ5, st4, y :: acc, ws ++ [w], stp_own (((s2.trans s3).trans s4).trans s5) hd, rep_own R5 hD5, upd_same, ?_, by rw [List.length_cons]; omega, q4⟩
          rw [List.reverse_cons]
          exact RelDs.append (RelDs.mono keeps_own _ (RelDs.mono ((s3.trans s4).trans s5).keeps _ rel2)) (RelDs.one (RelD.mono keeps_own y rw5))
      · left
        have ei : i = xs.length := by omega
        subst ei
        rw [List.drop_length] at hl2
        have e1 : acc = acc' ∧ st2 = st' := by
          unfold cLoop at hl2
          injection hl2 with a1 a2
          exact ⟨a1, a2⟩
        obtain ⟨e1, e2⟩ := e1
        subst e1 e2
        refine ⟨it.stop ρ2 H2 s2, ?_⟩
        have er : revD acc [] = acc.reverse := by rw [revD_eq, List.append_nil]
        cases mu with
        | false =>
          refine h1 ρ2 H2 (.ref d) s2 (rep_unF1 R2) ⟨d, ws, rfl, ⟨hD2, fun y => y.elim nF nd2⟩, ?_⟩
          rw [er]
          exact RelDs.mono keeps_unF1 _ rel2
        | true =>
          refine h1 (ρ2 ++ [d]) H2 (.ref d) ⟨s2.keep, ?_, fun a y => ?_, s2.some⟩ ?_ ⟨d, ?_, rfl⟩
          · obtain ⟨mm, em⟩ := s2.pre
            exact ⟨mm ++ [d], by rw [em, List.append_assoc]⟩
          · rcases List.mem_append.mp y with y | y
            · exact s2.new a y
            · have : a = d := by simpa using y
              rw [this]; exact .inr fun o q => by rw [hd] at q; cases q
          · rw [er]; exact rep_adopt R2 nF hD2 rel2
          · rw [← R2.len]; simp
theorem q_comp {X : Cx} {elt tg iter : Expr} {ifs : List Expr} {scope : Scope} {own : List (Str × Nat)} {pos : Pos} {mu : Bool} {m : EM (List D)} {t : Tgt} {c : EM Bool} {e : EM DH.X} (hK : G.K = X.K) (hc : X.calm = true) (hN : X.N.Nodup) (hi : PI X tg iter (rdI G E m)) (ok : BlkOk X.N X.env.scope scope own) (hin : tgIn (own.map (·.2)) t = true)
    (hg : ∀ (s : Shared) (H : Hp) (C : Addr) (cl : List (Str × Addr)) (fp : List Addr), PG (X.blk s H scope (compEnvC scope cl C X.env) fp) tg (tgTG X.K t)) (ht : ∀ (s : Shared) (H : Hp) (C : Addr) (cl : List (Str × Addr)) (fp : List Addr), PTs (X.blk s H scope (compEnvC scope cl C X.env) fp) ifs (rdT G E0 c))
    (he : ∀ (s : Shared) (H : Hp) (C : Addr) (cl : List (Str × Addr)) (fp : List Addr), PE (X.blk s H scope (compEnvC scope cl C X.env) fp) elt (rdE G E0 e)) (hs : ∀ x, foldedSetIterable iter X.env x = pure x) :
    PE X (.ListComp elt [⟨tg, iter, ifs, 0⟩] scope pos) (rdE G E (eComp mu (own.map (·.2)) m t c e)) := by
  refine PE.imp (pe_lc hc hN hi ok hg ht he hs) fun σ H Q h => ?_
  have := rd_comp hin h
  rw [hK] at this
  exact this
theorem q_setComp {X : Cx} {i : Nat} {y : Str} {py spos : Pos} {elt tg iter : Expr} {ifs : List Expr} {scope : Scope} {own : List (Str × Nat)} {pos : Pos} {mu : Bool} {m : EM (List D)} {t : Tgt} {c : EM Bool} {e : EM DH.X} (hK : G.K = X.K) (hc : X.calm = true) (hN : X.N.Nodup) (hy : X.N[i]? = some y) (hyl : X.env.scope.names.lookup y = some .local)
    (hsw : swapsWith (.ListComp elt [⟨tg, iter, ifs, 0⟩] scope pos) (some (.Name y py)) spos.line X.env = pure true) (hi : PI X tg iter (rdI G E m)) (ok : BlkOk X.N X.env.scope scope own) (hin : tgIn (own.map (·.2)) t = true)
    (hg : ∀ (s : Shared) (H : Hp) (C : Addr) (cl : List (Str × Addr)) (fp : List Addr), PG (X.blk s H scope (compEnvC scope cl C X.env) fp) tg (tgTG X.K t)) (ht : ∀ (s : Shared) (H : Hp) (C : Addr) (cl : List (Str × Addr)) (fp : List Addr), PTs (X.blk s H scope (compEnvC scope cl C X.env) fp) ifs (rdT G E0 c))
    (he : ∀ (s : Shared) (H : Hp) (C : Addr) (cl : List (Str × Addr)) (fp : List Addr), PE (X.blk s H scope (compEnvC scope cl C X.env) fp) elt (rdE G E0 e)) (hs : ∀ x, foldedSetIterable iter X.env x = pure x) :
    PS X (.Assign [.Name y py] (.ListComp elt [⟨tg, iter, ifs, 0⟩] scope pos) spos) (rdS G E (sSet i (eComp mu (own.map (·.2)) m t c e))) := by
  refine PS.imp (ps_setLc hc hN hy hyl hsw hi ok hg ht he hs) fun D σ H h => ?_
  have h' := rd_set h
  have := rd_comp hin h'
  rw [hK] at this
  exact this
end
end DH
namespace DH
open PySem PySem.Spec PyProof.Rows L2
/-! ### ranges -/
def upI (lo c : Int) : Nat → List D
  | 0 => []
  | n + 1 => .int lo :: upI (lo + c) c n
theorem upI_len (c : Int) : ∀ (n : Nat) (lo : Int), (upI lo c n).length = n
  | 0, lo => rfl
  | n + 1, lo => by rw [upI, List.length_cons, upI_len c n]
theorem upI_get (c : Int) : ∀ (n i : Nat) (lo : Int) (x : D), (upI lo c n)[i]? = some x → i < n ∧ x = .int (lo + (i : Nat) * c)
  | 0, i, lo, x, h => by simp [upI] at h
  | n + 1, 0, lo, x, h => by
    have h' : D.int lo = x := by simpa [upI] using h
    exact ⟨Nat.succ_pos n, by rw [← h']; simp⟩
  | n + 1, i + 1, lo, x, h => by
    obtain ⟨a, b⟩ := upI_get c n i (lo + c) x (by simpa [upI] using h)
    refine ⟨Nat.succ_lt_succ a, ?_⟩
    rw [b]
    congr 1
    rw [show ((i + 1 : Nat) : Int) = (i : Int) + 1 from rfl, Int.add_mul]
    omega
def int62 (i : Int) : Bool := Nat.blt i.natAbs 4611686018427387904
theorem int62_ok {i : Int} (h : int62 i = true) : -(2 ^ 62) ≤ i ∧ i < 2 ^ 62 := by
  have h' : i.natAbs < 4611686018427387904 := Nat.le_of_ble_eq_true h
  omega
/-- how many: a step above nought -/
def rgMany (lo hi : Int) (c : Nat) : Nat := match (hi - lo).toNat with
  | 0 => 0
  | n + 1 => n / c + 1
def range1M (xs : List X) : Option (List D) := match xs with
  | [.d (.int j)] => (match int62 j with
    | true => some (upI 0 1 j.toNat)
    | false => none)
  | _ => none
def range2M (xs : List X) : Option (List D) := match xs with
  | [.d (.int i), .d (.int j)] => (match int62 i && int62 j with
    | true => some (upI i 1 (j - i).toNat)
    | false => none)
  | _ => none
def range3M (xs : List X) : Option (List D) := match xs with
  | [.d (.int i), .d (.int j), .d (.int (.ofNat (k + 1)))] => (match int62 i && int62 j && Nat.blt k 1000000 with
    | true => some (upI i (Int.ofNat (k + 1)) (rgMany i j (k + 1)))
    | false => none)
  | _ => none
def iRg (f : List X → Option (List D)) (m : EM (List X)) : EM (List D) := fun sl st => (m sl st).bind fun xs st1 => match f xs with
  | some ds => .ok ds st1
  | none => .bad
section
variable {G : Gm} {E : XK}
theorem it_range {F : Addr → Prop} {ρ : List Addr} {H : Hp} {lo : Int} {n : Nat} : ItOk G F ρ H (upI lo 1 n) (Itr lo n) where
  stop := fun ρ H s => by rw [upI_len]; exact Nat.le_refl _
  go := fun F' i x ρ H st hF hx s R => by
    obtain ⟨a, b⟩ := upI_get 1 n i lo x hx
    refine ⟨a, fun v H' y => ?_⟩
    obtain ⟨e1, e2⟩ := y
    refine ⟨.inl e1, ?_⟩
    rw [b, e2]
    show V.int _ = V.int _
    congr 1
    omega
theorem it_rangeC {F : Addr → Prop} {ρ : List Addr} {H : Hp} {lo c : Int} {n : Nat} : ItOk G F ρ H (upI lo c n) (Itc lo c n) where
  stop := fun ρ H s => by rw [upI_len]; exact Nat.le_refl _
  go := fun F' i x ρ H st hF hx s R => by
    obtain ⟨a, b⟩ := upI_get c n i lo x hx
    refine ⟨a, fun v H' y => ?_⟩
    obtain ⟨e1, e2⟩ := y
    refine ⟨.inl e1, ?_⟩
    rw [b, e2]
    exact rfl
variable {X : Cx} {tg a b c : Expr} {p pos : Pos} {m : EM (List DH.X)}
theorem range1_inv {xs : List DH.X} {ds : List D} (h : range1M xs = some ds) : ∃ j, xs = [.d (.int j)] ∧ int62 j = true ∧ ds = upI 0 1 j.toNat := by
  unfold range1M at h
  split at h
  · rename_i j
    cases q : int62 j with
    | false => rw [q] at h; cases h
    | true => rw [q] at h; exact ⟨j, rfl, q, (Option.some.inj h).symm⟩
  · cases h
theorem range2_inv {xs : List DH.X} {ds : List D} (h : range2M xs = some ds) : ∃ i j, xs = [.d (.int i), .d (.int j)] ∧ int62 i = true ∧ int62 j = true ∧ ds = upI i 1 (j - i).toNat := by
  unfold range2M at h
  split at h
  · rename_i i j
    cases q : (int62 i && int62 j) with
    | false => rw [q] at h; cases h
    | true =>
      rw [q] at h
      obtain ⟨q1, q2⟩ := Bool.and_eq_true_iff.mp q
      exact ⟨i, j, rfl, q1, q2, (Option.some.inj h).symm⟩
  · cases h
theorem range3_inv {xs : List DH.X} {ds : List D} (h : range3M xs = some ds) : ∃ i j k, xs = [.d (.int i), .d (.int j), .d (.int (Int.ofNat (k + 1)))] ∧ int62 i = true ∧ int62 j = true ∧ k < 1000000 ∧ ds = upI i (Int.ofNat (k + 1)) (rgMany i j (k + 1)) := by
  unfold range3M at h
  split at h
  · rename_i i j k
    cases q : (int62 i && int62 j && Nat.blt k 1000000) with
    | false => rw [q] at h; cases h
    | true =>
      rw [q] at h
      obtain ⟨q1, q2⟩ := Bool.and_eq_true_iff.mp q
      obtain ⟨q3, q4⟩ := Bool.and_eq_true_iff.mp q1
      exact ⟨i, j, k, rfl, q3, q4, Nat.le_of_ble_eq_true q2, (Option.some.inj h).symm⟩
  · cases h
theorem rd_rg {f : List DH.X → Option (List D)} {σ : L2.St} {H : Hp} {Q : It → Hp → Prop} {P : List V → (It → Prop) → Prop} (h : rdI G E (iRg f m) σ H Q)
    (k : ∀ F ρ H xs vs ds, RelXs G F ρ H xs vs → f xs = some ds → P vs fun J => ItOk G F ρ H ds J) : rdA G E m σ H fun vs H1 => ∃ S : It → Prop, P vs S ∧ ∀ J, S J → Q J H1 := by
  obtain ⟨F, ρ, sl, st, sk, R, h⟩ := h
  refine ⟨F, ρ, sl, st, sk, R, PostG.mono (PostG.bind (R := rXs G) h) fun v H1 h1 => ?_⟩
  obtain ⟨xs, st1, ρ1, s1, R1, r1, h1⟩ := h1
  cases q : f xs with
  | none => simp only [q] at h1; exact h1.elim
  | some ds =>
    simp only [q] at h1
    exact ⟨_, k F ρ1 H1 xs v ds r1 q, fun J hJ => h1 ρ1 H1 J (Stp.refl _ _) R1 hJ⟩
theorem q_range1 (hg : Gl X "range") (hm : X.mg "range" = none) (ha : PA X [a] (rdA G E m)) (hs : starEach [a] X.env = [(false, eval a X.env)]) : PI X tg (.Call (.Name "range" p) [a] [] pos) (rdI G E (iRg range1M m)) := by
  refine PI.imp (pi_range1 hg hm ha hs) fun σ H Q h => ?_
  obtain ⟨F, ρ, sl, st, sk, R, h⟩ := rd_rg (P := fun vs S => ∃ j, vs = [.int j] ∧ int62 j = true ∧ S (Itr 0 j.toNat)) h fun F ρ H xs vs ds r e => by
    obtain ⟨j, e1, e2, e3⟩ := range1_inv e
    subst e1 e3
    obtain ⟨u, r', a1, a2, a3⟩ := r
    have a3 : r' = [] := a3
    have a2 : u = .int j := a2
    subst a3 a2
    exact ⟨j, a1, e2, it_range⟩
  refine ⟨F, ρ, sl, st, sk, R, PostG.mono h fun vs H1 h1 => ?_⟩
  obtain ⟨S, ⟨j, e1, e2, e3⟩, q⟩ := h1
  obtain ⟨b1, b2⟩ := int62_ok e2
  exact ⟨j, e1, b1, b2, q _ e3⟩
theorem q_range2 (hg : Gl X "range") (hm : X.mg "range" = none) (ha : PA X [a, b] (rdA G E m)) (hs : starEach [a, b] X.env = [(false, eval a X.env), (false, eval b X.env)]) (hs2 : starEach [b] X.env = [(false, eval b X.env)]) : PI X tg (.Call (.Name "range" p) [a, b] [] pos) (rdI G E (iRg range2M m)) := by
  refine PI.imp (pi_range2 hg hm ha hs hs2) fun σ H Q h => ?_
  obtain ⟨F, ρ, sl, st, sk, R, h⟩ := rd_rg (P := fun vs S => ∃ i j, vs = [.int i, .int j] ∧ int62 i = true ∧ int62 j = true ∧ S (Itr i (j - i).toNat)) h fun F ρ H xs vs ds r e => by
    obtain ⟨i, j, e1, e2, e3, e4⟩ := range2_inv e
    subst e1 e4
    obtain ⟨u, r', a1, a2, u2, r2, a3, a4, a5⟩ := r
    have a5 : r2 = [] := a5
    have a2 : u = .int i := a2
    have a4 : u2 = .int j := a4
    subst a5 a2 a4 a3
    exact ⟨i, j, a1, e2, e3, it_range⟩
  refine ⟨F, ρ, sl, st, sk, R, PostG.mono h fun vs H1 h1 => ?_⟩
  obtain ⟨S, ⟨i, j, e1, e2, e3, e4⟩, q⟩ := h1
  obtain ⟨b1, b2⟩ := int62_ok e2
  obtain ⟨b3, b4⟩ := int62_ok e3
  exact ⟨i, j, e1, ⟨b1, b2, b3, b4⟩, q _ e4⟩
theorem rg_size (i j : Int) (k : Nat) : Builtin.Range.rangeSize i j (Int.ofNat (k + 1)) = (rgMany i j (k + 1) : Nat) := by
  unfold Builtin.Range.rangeSize rgMany
  have hc : (Int.ofNat (k + 1)) > 0 := by show ((k + 1 : Nat) : Int) > 0; omega
  rw [if_pos hc]
  cases q : (j - i).toNat with
  | zero => rw [if_neg (by omega)]; rfl
  | succ n =>
    rw [if_pos (by omega)]
    have e : j - i - 1 = (n : Int) := by omega
    rw [e]
    show (n : Int) / ((k + 1 : Nat) : Int) + 1 = ((n / (k + 1) + 1 : Nat) : Int)
    rw [← Int.natCast_ediv]
    rfl
theorem rg_small {i j : Int} {k : Nat} (b1 : -(2 ^ 62) ≤ i) (b2 : i < 2 ^ 62) (b3 : -(2 ^ 62) ≤ j) (b4 : j < 2 ^ 62) (hk : k < 1000000) : Builtin.Range.small i j (Int.ofNat (k + 1)) = true := by
  have hc : (Int.ofNat (k + 1)) > 0 := by show ((k + 1 : Nat) : Int) > 0; omega
  have hn : (0 : Int) ≤ Builtin.Range.rangeSize i j (Int.ofNat (k + 1)) ∧ Builtin.Range.rangeSize i j (Int.ofNat (k + 1)) ≤ 2 ^ 63 - 1 := by
    rw [rg_size]
    refine ⟨Int.natCast_nonneg _, ?_⟩
    unfold rgMany
    cases q : (j - i).toNat with
    | zero => show ((0 : Nat) : Int) ≤ 2 ^ 63 - 1; decide
    | succ n =>
      have h1 : n / (k + 1) ≤ n := Nat.div_le_self _ _
      show ((n / (k + 1) + 1 : Nat) : Int) ≤ 2 ^ 63 - 1
      omega
  have hk' : (Int.ofNat (k + 1)) < 1000001 := by show ((k + 1 : Nat) : Int) < 1000001; omega
  unfold Builtin.Range.small
  simp only [Builtin.Range.rangeFitsLong, Bool.and_eq_true, Bool.or_eq_true, decide_eq_true_eq, beq_iff_eq, hc, if_true]
  generalize Builtin.Range.rangeSize i j (Int.ofNat (k + 1)) = z at hn
  generalize Int.ofNat (k + 1) = c at hc hk'
  omega
theorem q_range3 (hg : Gl X "range") (hm : X.mg "range" = none) (ha : PA X [a, b, c] (rdA G E m)) (hs : starEach [a, b, c] X.env = (false, eval a X.env) :: starEach [b, c] X.env) (hpl : (backTo pos (starEach [b, c] X.env)).any (·.1) = false) : PI X tg (.Call (.Name "range" p) [a, b, c] [] pos) (rdI G E (iRg range3M m)) := by
  refine PI.imp (pi_range3 hg hm ha hs hpl) fun σ H Q h => ?_
  obtain ⟨F, ρ, sl, st, sk, R, h⟩ := rd_rg (P := fun vs S => ∃ i j k, vs = [.int i, .int j, .int (Int.ofNat (k + 1))] ∧ int62 i = true ∧ int62 j = true ∧ k < 1000000 ∧ S (Itc i (Int.ofNat (k + 1)) (rgMany i j (k + 1)))) h fun F ρ H xs vs ds r e => by
    obtain ⟨i, j, k, e1, e2, e3, e4, e5⟩ := range3_inv e
    subst e1 e5
    obtain ⟨u, r', a1, a2, u2, r2, a3, a4, u3, r3, a5, a6, a7⟩ := r
    have a7 : r3 = [] := a7
    have a2 : u = .int i := a2
    have a4 : u2 = .int j := a4
    have a6 : u3 = .int (Int.ofNat (k + 1)) := a6
    subst a7 a2 a4 a6 a5 a3
    exact ⟨i, j, k, a1, e2, e3, e4, it_rangeC⟩
  refine ⟨F, ρ, sl, st, sk, R, PostG.mono h fun vs H1 h1 => ?_⟩
  obtain ⟨S, ⟨i, j, k, e1, e2, e3, e4, e5⟩, q⟩ := h1
  obtain ⟨b1, b2⟩ := int62_ok e2
  obtain ⟨b3, b4⟩ := int62_ok e3
  refine ⟨i, j, Int.ofNat (k + 1), rgMany i j (k + 1), e1, ⟨(by intro z; cases z), (by show k + 1 < 1073741824; omega), ?_, ?_⟩, q _ e5⟩
  · exact rg_small b1 b2 b3 b4 e4
  · exact rg_size i j k
/-! ### things that stand -/
def seqM : DH.X → Option (List D)
  | .d (.tup _ xs) => some xs
  | .d (.lst xs) => some xs
  | _ => none
def iSeq (m : EM DH.X) : EM (List D) := fun sl st => (m sl st).bind fun x st1 => match seqM x with
  | some ds => .ok ds st1
  | none => .bad
theorem pi_seq {l : Expr} {tl : TE} (hl : PE X l tl) : PI X tg l (fun σ H R => tl σ H fun x H1 => ∃ a, x = .ref a ∧ (((∃ xs, SqL X.K H1 a xs) ∧ R (Itl X.K a) H1) ∨ ((∃ xs, SqT X.K H1 a xs) ∧ R (Itt X.K a) H1))) := by
  refine ⟨fun pins s σ H R I h => ?_⟩
  refine thn (hl.run pins s σ H _ I h) fun v s1 ⟨x, H1, I1, r1, q1⟩ => ?_
  obtain ⟨a, e, q1⟩ := q1
  subst e
  cases r1
  rcases q1 with ⟨⟨xs, hq⟩, q⟩ | ⟨⟨xs, hq⟩, q⟩
  · obtain ⟨its, rv, p, hz⟩ := I1.list hq
    refine wpAny_pyIter_list p.isList ?_
    refine ⟨s1.heap.objs.size, [s1.heap.objs.size], _, _, H1, rfl, I1.kept (t' := s1.toks) fun b o e => Heap.get?_push_of_some _ e, turn_list a _, ⟨_, Heap.get?_push_size _ rfl, rfl, rfl⟩, fun b hb => ?_, q⟩
    have e : b = s1.heap.objs.size := by simpa using hb
    subst e
    exact I1.fpOk (Nat.le_refl _) (I1.hok.fresh (Nat.le_refl _))
  · obtain ⟨its, rv, p, hz⟩ := I1.tuple hq
    refine wpAny_pyIter_tuple (show s1.heap.IsTuple a its.toArray from p) ?_
    refine ⟨s1.heap.objs.size, [s1.heap.objs.size], _, _, H1, rfl, I1.kept (t' := s1.toks) fun b o e => Heap.get?_push_of_some _ e, turn_tuple a _, ⟨_, Heap.get?_push_size _ rfl, rfl, rfl⟩, fun b hb => ?_, q⟩
    have e : b = s1.heap.objs.size := by simpa using hb
    subst e
    exact I1.fpOk (Nat.le_refl _) (I1.hok.fresh (Nat.le_refl _))
theorem keeps_go {F F' : Addr → Prop} {ρ0 ρ : List Addr} {H0 H : Hp} (hF : ∀ a, F' a → F a ∨ H0 a = none) (s : Stp ρ0 H0 ρ H) : Keeps (Nn F ρ0) H0 (Nn F' ρ) H := fun a o h n k => by
  obtain ⟨e, n'⟩ := (s.keeps (F := F)) a o h n k
  refine ⟨e, fun z => ?_⟩
  rcases z with z | z
  · rcases hF a z with z | z
    · exact n' (.inl z)
    · rw [h] at z; cases z
  · exact n' (.inr z)
theorem it_list {F : Addr → Prop} {ρ : List Addr} {H : Hp} {a : Addr} {vs : List V} {xs : List D} (f : FzL G (Nn F ρ) H a vs) (r : RelDs G (Nn F ρ) H xs vs) : ItOk G F ρ H xs (Itl G.K a) where
  stop := fun ρ' H' s => ⟨vs, SqL.of (s.keep a _ f.1 (fun ps z => by cases z) fun z => f.2 (.inr z)), by rw [r.length]; exact Nat.le_refl _⟩
  go := fun F' i x ρ' H' st hF hx s R => by
    have e : H' a = some (.lst vs) := s.keep a _ f.1 (fun ps z => by cases z) fun z => f.2 (.inr z)
    obtain ⟨v, hv, rv⟩ := r.get hx
    refine ⟨⟨vs, v, SqL.of e, hv⟩, fun w H2 y => ?_⟩
    obtain ⟨e1, e2⟩ := y
    refine ⟨.inl e1, ?_⟩
    have hw := e2 vs (SqL.of e)
    rw [hv] at hw
    cases hw
    rw [e1]
    exact RelD.mono (keeps_go hF s) x rv
theorem it_tup {F : Addr → Prop} {ρ : List Addr} {H : Hp} {b : Bool} {a : Addr} {vs : List V} {xs : List D} (f : FzT G (Nn F ρ) H b a vs) (r : RelDs G (Nn F ρ) H xs vs) : ItOk G F ρ H xs (Itt G.K a) where
  stop := fun ρ' H' s => ⟨vs, ((s.keeps (F := F)).fzT f).sq, by rw [r.length]; exact Nat.le_refl _⟩
  go := fun F' i x ρ' H' st hF hx s R => by
    have e : SqT G.K H' a vs := ((s.keeps (F := F)).fzT f).sq
    obtain ⟨v, hv, rv⟩ := r.get hx
    refine ⟨⟨vs, v, e, hv⟩, fun w H2 y => ?_⟩
    obtain ⟨e1, e2⟩ := y
    refine ⟨.inl e1, ?_⟩
    have hw := e2 vs e
    rw [hv] at hw
    cases hw
    rw [e1]
    exact RelD.mono (keeps_go hF s) x rv
theorem q_seq {l : Expr} {m : EM DH.X} (hK : G.K = X.K) (hl : PE X l (rdE G E m)) : PI X tg l (rdI G E (iSeq m)) := by
  refine PI.imp (pi_seq hl) fun σ H Q h => ?_
  obtain ⟨F, ρ, sl, st, sk, R, h⟩ := h
  refine ⟨F, ρ, sl, st, sk, R, PostG.mono (PostG.bind (R := rX G) h) fun v H1 h1 => ?_⟩
  obtain ⟨x, st1, ρ1, s1, R1, r1, h1⟩ := h1
  rw [← hK]
  match x, r1, h1 with
  | .d (.tup b xs), r1, h1 =>
    obtain ⟨a, vs, e, f, r⟩ := r1
    exact ⟨a, e, .inr ⟨⟨vs, f.sq⟩, h1 ρ1 H1 _ (Stp.refl _ _) R1 (it_tup f r)⟩⟩
  | .d (.lst xs), r1, h1 =>
    obtain ⟨a, vs, e, f, r⟩ := r1
    exact ⟨a, e, .inl ⟨⟨vs, f.sq⟩, h1 ρ1 H1 _ (Stp.refl _ _) R1 (it_list f r)⟩⟩
  | .loc l, r1, h1 => exact h1.elim
  | .d .non, r1, h1 => exact h1.elim
  | .d (.bl _), r1, h1 => exact h1.elim
  | .d (.int _), r1, h1 => exact h1.elim
  | .d (.str _), r1, h1 => exact h1.elim
  | .d (.dct _ _), r1, h1 => exact h1.elim
  | .d (.obj _ _), r1, h1 => exact h1.elim
/-- a text, sign by sign -/
def sgn (cs : List Nat) : List D := match cs with
  | [] => []
  | c :: r => .str [c] :: sgn r
def strM : DH.X → Option (List D)
  | .d (.str cs) => some (sgn cs)
  | _ => none
def iStrM (m : EM DH.X) : EM (List D) := fun sl st => (m sl st).bind fun x st1 => match strM x with
  | some ds => .ok ds st1
  | none => .bad
theorem sgn_map : ∀ cs : List Nat, sgn cs = cs.map fun c => D.str [c]
  | [] => rfl
  | c :: r => by rw [sgn, List.map_cons, sgn_map r]
theorem it_str {F : Addr → Prop} {ρ : List Addr} {H : Hp} {cs : List Nat} : ItOk G F ρ H (sgn cs) (Its (strOf cs)) where
  stop := fun ρ' H' s => by
    show (strOf cs).cps.size ≤ (sgn cs).length
    rw [sgn_map, List.length_map]
    show cs.toArray.size ≤ cs.length
    simp
  go := fun F' i x ρ' H' st hF hx s R => by
    rw [sgn_map, List.getElem?_map] at hx
    cases q : cs[i]? with
    | none => rw [q] at hx; cases hx
    | some c =>
      rw [q] at hx
      have ex : D.str [c] = x := by simpa using hx
      refine ⟨?_, fun w H2 y => ?_⟩
      · show i < cs.toArray.size
        simpa using (List.getElem?_eq_some_iff.mp q).1
      · obtain ⟨e1, c', e2, e3⟩ := y
        refine ⟨.inl e1, ?_⟩
        have e2' : cs.toArray[i]? = some c' := e2
        have : c = c' := by
          rw [List.getElem?_toArray, q] at e2'
          exact Option.some.inj e2'
        rw [← ex, e3, this]
        exact rfl
theorem q_strI {l : Expr} {m : EM DH.X} (hl : PE X l (rdE G E m)) : PI X tg l (rdI G E (iStrM m)) := by
  refine PI.imp (pi_str hl) fun σ H Q h => ?_
  obtain ⟨F, ρ, sl, st, sk, R, h⟩ := h
  refine ⟨F, ρ, sl, st, sk, R, PostG.mono (PostG.bind (R := rX G) h) fun v H1 h1 => ?_⟩
  obtain ⟨x, st1, ρ1, s1, R1, r1, h1⟩ := h1
  match x, r1, h1 with
  | .d (.str cs), r1, h1 => exact ⟨strOf cs, r1, h1 ρ1 H1 _ (Stp.refl _ _) R1 it_str⟩
  | .d (.tup b xs), r1, h1 => exact h1.elim
  | .d (.lst xs), r1, h1 => exact h1.elim
  | .loc l, r1, h1 => exact h1.elim
  | .d .non, r1, h1 => exact h1.elim
  | .d (.bl _), r1, h1 => exact h1.elim
  | .d (.int _), r1, h1 => exact h1.elim
  | .d (.dct _ _), r1, h1 => exact h1.elim
  | .d (.obj _ _), r1, h1 => exact h1.elim
end
end DH
namespace DH
open PySem PySem.Spec PyProof.Rows L2
/-! ### subscripts -/
def ixM (n : Nat) (i : Int) : Option Nat := match i with
  | .ofNat k => (match Nat.blt k n with
    | true => some k
    | false => none)
  | .negSucc k => (match Nat.blt k n with
    | true => some (n - (k + 1))
    | false => none)
theorem ixM_eq (n : Nat) (i : Int) : ixM n i = ixN n i := by
  unfold ixM ixN
  cases i with
  | ofNat k =>
    show (match Nat.blt k n with | true => some k | false => none) = if (0 : Int) ≤ (k : Int) then (if (k : Int) < n then some (k : Int).toNat else none) else _
    rw [if_pos (by omega)]
    cases q : Nat.blt k n with
    | true =>
      have h : k < n := Nat.le_of_ble_eq_true q
      rw [if_pos (by omega)]; simp
    | false =>
      have h : ¬ k < n := fun z => by rw [show Nat.blt k n = true from Nat.ble_eq_true_of_le z] at q; cases q
      rw [if_neg (by omega)]
  | negSucc k =>
    show (match Nat.blt k n with | true => some (n - (k + 1)) | false => none) = if (0 : Int) ≤ Int.negSucc k then _ else if -(n : Int) ≤ Int.negSucc k then some (Int.negSucc k + n).toNat else none
    rw [if_neg (by omega)]
    cases q : Nat.blt k n with
    | true =>
      have h : k < n := Nat.le_of_ble_eq_true q
      rw [if_pos (by omega)]
      show some (n - (k + 1)) = some (Int.negSucc k + (n : Int)).toNat
      congr 1
      omega
    | false =>
      have h : ¬ k < n := fun z => by rw [show Nat.blt k n = true from Nat.ble_eq_true_of_le z] at q; cases q
      rw [if_neg (by omega)]
def getM {α : Type} (xs : List α) (i : Int) : Option α := match ixM xs.length i with
  | some k => xs[k]?
  | none => none
theorem getM_eq {α : Type} (xs : List α) (i : Int) : getM xs i = atI xs i := by
  unfold getM atI
  rw [ixM_eq]
  cases ixN xs.length i <;> rfl
def gIx : D → D → Store → O X
  | .tup _ xs, .int i, st => (match getM xs i with
    | some x => .ok (.d x) st
    | none => .bad)
  | .lst xs, .int i, st => (match getM xs i with
    | some x => .ok (.d x) st
    | none => .bad)
  | .str cs, .int i, st => (match small cs.length with
    | true => (match getM cs i with
      | some c => .ok (.d (.str [c])) st
      | none => .bad)
    | false => .bad)
  | _, _, _ => .bad
section
variable {G : Gm} {E : XK}
theorem RelDs.atI {N : Addr → Prop} {H : Hp} {xs : List D} {vs : List V} {i : Int} {x : D} (r : RelDs G N H xs vs) (h : getM xs i = some x) : ∃ v, L2.atI vs i = some v ∧ RelD G N H x v := by
  unfold getM at h
  rw [ixM_eq] at h
  unfold L2.atI
  rw [r.length]
  cases q : ixN xs.length i with
  | none => rw [q] at h; cases h
  | some k =>
    rw [q] at h
    obtain ⟨v, hv, rv⟩ := r.get h
    exact ⟨v, hv, rv⟩
theorem ix_v : OpV G (rIx G.K) (f2 gIx) := op2 fun E F ρ H st a b v w Q R ra rb h => by
  cases a with
  | tup f xs =>
    cases b with
    | int i =>
      unfold gIx at h
      cases q : getM xs i with
      | none => simp only [q] at h; exact h.elim
      | some x =>
        simp only [q] at h
        obtain ⟨p, vs, e, fz, r⟩ := ra
        obtain ⟨u, hu, ru⟩ := r.atI q
        exact .inr (.inl ⟨p, vs, i, u, e, rb, fz, hu, now1 R h ru⟩)
    | _ => exact h.elim
  | lst xs =>
    cases b with
    | int i =>
      unfold gIx at h
      cases q : getM xs i with
      | none => simp only [q] at h; exact h.elim
      | some x =>
        simp only [q] at h
        obtain ⟨p, vs, e, fz, r⟩ := ra
        obtain ⟨u, hu, ru⟩ := r.atI q
        exact .inl ⟨p, vs, i, u, e, rb, SqL.of fz, hu, now1 R h ru⟩
    | _ => exact h.elim
  | str cs =>
    cases b with
    | int i =>
      unfold gIx at h
      cases z : small cs.length with
      | false => simp only [z] at h; exact h.elim
      | true =>
        simp only [z] at h
        cases q : getM cs i with
        | none => simp only [q] at h; exact h.elim
        | some c =>
          simp only [q] at h
          refine .inr (.inr ⟨strOf cs, i, c, ra, rb, by rw [str_len]; exact small_ok z, ?_, now1 R h rfl⟩)
          show L2.atI cs.toArray.toList i = some c
          rw [← getM_eq]; exact q
    | _ => exact h.elim
  | _ => exact h.elim
/-! ### xs[i] = x -/
def setAt (x : X) (i : X) (y : X) (st : Store) : Option Store := match x, deref st i, y with
  | .loc l, some (.int k), .d z => (match st[l]? with
    | some (.lst xs) => (match ixM xs.length k with
      | some j => some (st.set l (.lst (xs.set j z)))
      | none => none)
    | _ => none)
  | _, _, _ => none
/-- a target o[i] -/
def tgSub (o i : EM X) (y : X) : EM Unit := fun sl st => (o sl st).bind fun x st1 => (i sl st1).bind fun k st2 => match setAt x k y st2 with
  | some st3 => .ok () st3
  | none => .bad
theorem codeO_lst {a : Addr} {vs : List V} (q : Str) : HO.lst vs ≠ LamX.CodeO a q := fun z => by unfold LamX.CodeO at z; cases z
theorem setAt_ok {F : Addr → Prop} {ρ : List Addr} {H : Hp} {st st' : Store} {x i y : X} {o k v : V} {Q : Hp → Prop} (R : Rep G F ρ st H) (rx : RelX G F ρ H x o) (ri : RelX G F ρ H i k) (ry : RelX G F ρ H y v) (h : setAt x i y st = some st')
    (hQ : ∀ H', Stp ρ H ρ H' → Rep G F ρ st' H' → Q H') : rSetL o k v H Q := by
  unfold setAt at h
  split at h
  · rename_i l kk z q
    have ri' : k = .int kk := view R ri q
    split at h
    · rename_i xs q2
      split at h
      · rename_i j q3
        obtain ⟨a, e1, e2⟩ := rx
        obtain ⟨vs, e3, r3⟩ := R.obj l a _ e1 q2
        have e4 := Option.some.inj h
        refine ⟨a, vs, kk, j, e2, ri', e3, by rw [r3.length, ← ixM_eq]; exact q3, ?_⟩
        have s : Stp ρ H ρ (upd H a (.lst (vs.set j v))) := stp_set e1
        refine hQ _ s ?_
        rw [← e4]
        exact R.set e1 e3 (fun ps z => by cases z) (fun q => codeO_lst q) ⟨_, upd_same, (RelDs.mono s.keeps xs r3).set j (RelD.mono s.keeps z ry)⟩
      · cases h
    · cases h
  · cases h
def sSetIx (e o i : EM X) : SM := fun sl st => (e sl st).s fun y st1 => (tgSub o i y sl st1).s fun _ st2 => .nx sl st2
theorem q_setIx {X : Cx} {e o i : Expr} {pos p : Pos} {me mo mi : EM DH.X} (he : PE X e (rdE G E me)) (ho : PE X o (rdE G E mo)) (hi : PE X i (rdE G E mi)) (hs : swapsWithSole [.Subscript o i p] e pos.line X.env = pure false) (hw : swappedStores [.Subscript o i p] e X.env = pure none)
    (h1 : (assignEach [.Subscript o i p] X.env).map (·.2) = [assign (.Subscript o i p) X.env])
    (ha : ∀ v, assign (.Subscript o i p) X.env v = (do
      let ov ← holding [v] (eval o X.env)
      let iv ← holding [v, ov] (eval i X.env)
      standAt p
      holding [v, ov, iv] (setItem ov iv v)
      release [v, ov, iv] [])) : PS X (.Assign [.Subscript o i p] e pos) (rdS G E (sSetIx me mo mi)) := by
  refine PS.imp (ps_asg he (pg_sub ho hi set_list ha) hs hw h1) fun D σ H h => ?_
  obtain ⟨F, ρ, sl, st, sk, R, h⟩ := h
  refine ⟨F, ρ, sl, st, sk, R, PostG.mono (PostS.part (R := rX G) h) fun v H1 h1 => ?_⟩
  obtain ⟨y, st1, ρ1, s1, R1, ry, h1⟩ := h1
  have h1 : PostS G E F ρ1 H1 (((mo sl st1).bind fun x st1 => (mi sl st1).bind fun k st2 => match setAt x k y st2 with | some st3 => .ok () st3 | none => .bad).s fun _ st2 => .nx sl st2) D := h1
  refine ⟨F, ρ1, sl, st1, sk.mono s1, R1, ?_⟩
  cases q1 : mo sl st1 with
  | bad => rw [q1] at h1; exact h1.elim
  | exn c fs st2 => rw [q1] at h1; exact h1
  | ok x st2 =>
    rw [q1] at h1
    intro ρ2 H2 ov s2 R2 rx
    refine ⟨F, ρ2, sl, st2, (sk.mono s1).mono s2, R2, ?_⟩
    cases q2 : mi sl st2 with
    | bad => simp only [O.bind, q2] at h1; exact h1.elim
    | exn c fs st3 => simp only [O.bind, q2] at h1; exact PostS.later s2 h1
    | ok k st3 =>
      simp only [O.bind, q2] at h1
      intro ρ3 H3 iv s3 R3 ri
      cases q3 : setAt x k y st3 with
      | none => simp only [q3] at h1; exact h1.elim
      | some st4 =>
        simp only [q3] at h1
        refine setAt_ok R3 (rx.mono s3) ri ((ry.mono s2).mono s3) q3 fun H4 s4 R4 => ?_
        exact h1 ρ3 H4 _ ((s2.trans s3).trans s4) R4 ((((sk.mono s1).mono s2).mono s3).mono s4)
/-! ### targets of any form -/
abbrev TM := D → Slots → Store → O Slots
abbrev TMs := List D → Slots → Store → O Slots
def rSl (G : Gm) : Rl Slots L2.St := fun F ρ H sl σ => SlOk G F ρ H sl σ
def rdTG (G : Gm) (E : XK) (t : TM) : TG := fun v σ H Q => ∃ F ρ sl st x, SlOk G F ρ H sl σ ∧ Rep G F ρ st H ∧ RelD G (Nn F ρ) H x v ∧ PostG G E (rSl G) F ρ H (t x sl st) Q
def rdTGs (G : Gm) (E : XK) (t : TMs) : TGs := fun vs σ H Q => ∃ F ρ sl st xs, SlOk G F ρ H sl σ ∧ Rep G F ρ st H ∧ RelDs G (Nn F ρ) H xs vs ∧ PostG G E (rSl G) F ρ H (t xs sl st) Q
def mNm (i : Nat) : TM := fun x sl st => .ok (sl.set i (some (.d x))) st
def mSub (o i : EM X) : TM := fun y sl st => (tgSub o i (.d y) sl st).bind fun _ st1 => .ok sl st1
def mNil : TMs := fun xs sl st => match xs with
  | [] => .ok sl st
  | _ => .bad
def mCons (t : TM) (u : TMs) : TMs := fun xs sl st => match xs with
  | x :: r => (t x sl st).bind fun sl1 st1 => u r sl1 st1
  | [] => .bad
def mTup (n : Nat) (u : TMs) : TM := fun x sl st => match x with
  | .tup _ xs => (match Nat.beq xs.length n with
    | true => u xs sl st
    | false => .bad)
  | _ => .bad
theorem PG.imp {X : Cx} {tg : Expr} {t t' : TG} (h : PG X tg t) (k : ∀ v σ H Q, t' v σ H Q → t v σ H Q) : PG X tg t' := ⟨fun p s σ H v u Q I r q => h.run p s σ H v u Q I r (k v σ H Q q)⟩
theorem PGs.imp {X : Cx} {tg : List Expr} {t t' : TGs} (h : PGs X tg t) (k : ∀ v σ H Q, t' v σ H Q → t v σ H Q) : PGs X tg t' := ⟨fun p s σ H v u Q I r q => h.run p s σ H v u Q I r (k v σ H Q q)⟩
variable {X : Cx}
theorem q_gname {i : Nat} {x : Str} {pos : Pos} (hN : X.N.Nodup) (hi : X.N[i]? = some x) (hx : Loc X.env.scope x) (hf : X.fn x = true ∨ X.env.scope.names.lookup x = some .local) : PG X (.Name x pos) (rdTG G E (mNm i)) := by
  refine PG.imp (pg_name hN hi hx hf) fun v σ H Q h => ?_
  obtain ⟨F, ρ, sl, st, x, sk, R, r, h⟩ := h
  exact h ρ H _ (Stp.refl _ _) R (sk.set i (x := .d x) r)
theorem q_gsub {o i : Expr} {p : Pos} {mo mi : EM DH.X} (ho : PE X o (rdE G E mo)) (hi : PE X i (rdE G E mi)) 
    (ha : ∀ v, assign (.Subscript o i p) X.env v = (do
      let ov ← holding [v] (eval o X.env)
      let iv ← holding [v, ov] (eval i X.env)
      standAt p
      holding [v, ov, iv] (setItem ov iv v)
      release [v, ov, iv] [])) : PG X (.Subscript o i p) (rdTG G E (mSub mo mi)) := by
  refine PG.imp (pg_sub ho hi set_list ha) fun v σ H Q h => ?_
  obtain ⟨F, ρ, sl, st1, y, sk, R1, ry, h1⟩ := h
  have ry : RelX G F ρ H (.d y) v := ry
  have h1 : PostG G E (rSl G) F ρ H ((((mo sl st1).bind fun x st1 => (mi sl st1).bind fun k st2 => match setAt x k (.d y) st2 with | some st3 => .ok () st3 | none => .bad) : O Unit).bind fun _ st2 => .ok sl st2) Q := h1
  refine ⟨F, ρ, sl, st1, sk, R1, ?_⟩
  cases q1 : mo sl st1 with
  | bad => rw [q1] at h1; exact h1.elim
  | exn c fs st2 => rw [q1] at h1; exact h1
  | ok x st2 =>
    rw [q1] at h1
    intro ρ2 H2 ov s2 R2 rx
    refine ⟨F, ρ2, sl, st2, sk.mono s2, R2, ?_⟩
    cases q2 : mi sl st2 with
    | bad => simp only [O.bind, q2] at h1; exact h1.elim
    | exn c fs st3 => simp only [O.bind, q2] at h1; exact PostG.later (R := rSl G) s2 h1
    | ok k st3 =>
      simp only [O.bind, q2] at h1
      intro ρ3 H3 iv s3 R3 ri
      cases q3 : setAt x k (.d y) st3 with
      | none => simp only [q3] at h1; exact h1.elim
      | some st4 =>
        simp only [q3] at h1
        refine setAt_ok R3 (rx.mono s3) ri ((ry.mono s2).mono s3) q3 fun H4 s4 R4 => ?_
        exact h1 ρ3 H4 σ ((s2.trans s3).trans s4) R4 (((sk.mono s2).mono s3).mono s4)
theorem q_gsnil : PGs X [] (rdTGs G E mNil) := by
  refine PGs.imp pgs_nil fun v σ H Q h => ?_
  obtain ⟨F, ρ, sl, st, xs, sk, R, r, h⟩ := h
  cases xs with
  | nil => exact ⟨r, h ρ H σ (Stp.refl _ _) R sk⟩
  | cons _ _ => exact h.elim
theorem q_gscons {e : Expr} {es : List Expr} {t : TM} {u : TMs} (h1 : PG X e (rdTG G E t)) (h2 : PGs X es (rdTGs G E u)) (hs : (assignEach (e :: es) X.env).map (·.2) = assign e X.env :: (assignEach es X.env).map (·.2)) : PGs X (e :: es) (rdTGs G E (mCons t u)) := by
  refine PGs.imp (pgs_cons h1 h2 hs) fun v σ H Q h => ?_
  obtain ⟨F, ρ, sl, st, xs, sk, R, r, h⟩ := h
  cases xs with
  | nil => exact h.elim
  | cons x xs =>
    obtain ⟨w, ws, e1, r1, r2⟩ := r
    refine ⟨w, ws, e1, F, ρ, sl, st, x, sk, R, r1, PostG.mono (PostG.bind (R := rSl G) h) fun σ1 H1 h1 => ?_⟩
    obtain ⟨sl1, st1, ρ1, s1, R1, sk1, h1⟩ := h1
    exact ⟨F, ρ1, sl1, st1, xs, sk1, R1, RelDs.mono s1.keeps xs r2, h1⟩
theorem q_gtup {es : List Expr} {k n : Nat} {pos : Pos} {u : TMs} (hK : G.K = X.K) (hc : X.calm = true) (h : PGs X es (rdTGs G E u)) (hn : (assignEach es X.env).length = n) (hst : (assignEach es X.env).findIdx? (·.1) = none) : PG X (.Tuple es k pos) (rdTG G E (mTup n u)) := by
  refine PG.imp (pg_tup hc h hn hst) fun v σ H Q h => ?_
  obtain ⟨F, ρ, sl, st, x, sk, R, r, h⟩ := h
  cases x with
  | tup f xs =>
    unfold mTup at h
    cases q : Nat.beq xs.length n with
    | false => simp only [q] at h; exact h.elim
    | true =>
      simp only [q] at h
      obtain ⟨a, vs, e, fz, rs⟩ := r
      exact ⟨a, vs, e, by rw [← hK]; exact fz.sq, by rw [rs.length]; exact Nat.eq_of_beq_eq_true q, F, ρ, sl, st, xs, sk, R, rs, h⟩
  | _ => exact h.elim
/-- target = value -/
def sAsg (m : EM DH.X) (t : TM) : SM := fun sl st => (m sl st).s fun x st1 => match x with
  | .d y => (t y sl st1).s fun sl2 st2 => .nx sl2 st2
  | .loc _ => .bad
theorem q_asg {tg e : Expr} {pos : Pos} {m : EM DH.X} {t : TM} (he : PE X e (rdE G E m)) (hg : PG X tg (rdTG G E t)) (hs : swapsWithSole [tg] e pos.line X.env = pure false) (hw : swappedStores [tg] e X.env = pure none) (h1 : (assignEach [tg] X.env).map (·.2) = [assign tg X.env]) : PS X (.Assign [tg] e pos) (rdS G E (sAsg m t)) := by
  refine PS.imp (ps_asg he hg hs hw h1) fun D σ H h => ?_
  obtain ⟨F, ρ, sl, st, sk, R, h⟩ := h
  refine ⟨F, ρ, sl, st, sk, R, PostG.mono (PostS.part (R := rX G) h) fun v H1 h1 => ?_⟩
  obtain ⟨x, st1, ρ1, s1, R1, r1, h1⟩ := h1
  cases x with
  | loc l => exact h1.elim
  | d y =>
    refine ⟨F, ρ1, sl, st1, y, sk.mono s1, R1, r1, ?_⟩
    have h2 := PostS.part (R := rSl G) h1
    refine PostG.mono h2 fun σ2 H2 h2 => ?_
    obtain ⟨sl2, st2, ρ2, s2, R2, sk2, h2⟩ := h2
    exact h2 ρ2 H2 σ2 (Stp.refl _ _) R2 sk2
/-- a, b = (e, f): two local names -/
def sPar (i j : Nat) (a b : EM DH.X) : SM := fun sl st => (a sl st).s fun x st1 => (b sl st1).s fun y st2 => .nx ((sl.set i (some x)).set j (some y)) st2
theorem q_par {x y : Str} {a b : Expr} {i j kt k2 : Nat} {px py pt pt2 pos : Pos} {ma mb : EM DH.X} (hc : X.calm = true) (hN : X.N.Nodup) (hi : X.N[i]? = some x) (hj : X.N[j]? = some y) (hij : i ≠ j) (hx : X.env.scope.names.lookup x = some .local) (hy : X.env.scope.names.lookup y = some .local)
    (ha : PE X a (rdE G E ma)) (hb : PE X b (rdE G E mb)) (he : starEach [a, b] X.env = (false, eval a X.env) :: starEach [b] X.env) (he2 : starEach [b] X.env = (false, eval b X.env) :: starEach [] X.env)
    (hw : swappedStores [.Tuple [.Name x px, .Name y py] kt pt] (.Tuple [a, b] k2 pt2) X.env = pure (some [x, y])) (hs : swapsWithSole [.Tuple [.Name x px, .Name y py] kt pt] (.Tuple [a, b] k2 pt2) pos.line X.env = pure false) :
    PS X (.Assign [.Tuple [.Name x px, .Name y py] kt pt] (.Tuple [a, b] k2 pt2) pos) (rdS G E (sPar i j ma mb)) := by
  refine PS.imp (ps_par hc hN hi hj hij hx hy (pa_cons ha (pa_cons hb pa_nil he2) he) hw hs) fun D σ H h => ?_
  obtain ⟨F, ρ, sl, st, sk, R, h⟩ := h
  refine ⟨F, ρ, sl, st, sk, R, PostG.mono (PostS.part (R := rX G) h) fun v H1 h1 => ?_⟩
  obtain ⟨x, st1, ρ1, s1, R1, r1, h1⟩ := h1
  refine ⟨F, ρ1, sl, st1, sk.mono s1, R1, PostG.mono (PostS.part (R := rX G) h1) fun w H2 h2 => ?_⟩
  obtain ⟨y, st2, ρ2, s2, R2, r2, h2⟩ := h2
  exact ⟨v, w, rfl, h2 ρ2 H2 _ (Stp.refl _ _) R2 ((((sk.mono s1).mono s2).set i (r1.mono s2)).set j r2)⟩
/-- x op= e -/
def sAug (i : Nat) (f : DH.X → DH.X → Store → O DH.X) (m : EM DH.X) : SM := fun sl st => match sl[i]? with
  | some (some x) => (m sl st).s fun y st1 => (f x y st1).s fun z st2 => .nx (sl.set i (some z)) st2
  | _ => .bad
theorem q_aug {i : Nat} {x : Str} {e : Expr} {op : Operator} {r : R2} {f : DH.X → DH.X → Store → O DH.X} {m : EM DH.X} {pos pos' : Pos} (hN : X.N.Nodup) (hi : X.N[i]? = some x) (hx : Loc X.env.scope x) (hf : X.fn x = true ∨ X.env.scope.names.lookup x = some .local) (he : PE X e (rdE G E m)) (ho : PIp X op r) (hv : OpV G r f) : PS X (.AugAssign (.Name x pos') op e pos) (rdS G E (sAug i f m)) := by
  refine PS.imp (ps_aug hN hi hx he ho hf) fun D σ H h => ?_
  obtain ⟨F, ρ, sl, st, sk, R, h⟩ := h
  unfold sAug at h
  cases q : sl[i]? with
  | none => simp only [q] at h; exact h.elim
  | some o =>
    cases o with
    | none => simp only [q] at h; exact h.elim
    | some y =>
      simp only [q] at h
      obtain ⟨v, e1, rv⟩ := sk.2 i y q
      refine ⟨v, e1, F, ρ, sl, st, sk, R, PostG.mono (PostS.part (R := rX G) h) fun w H1 h1 => ?_⟩
      obtain ⟨z, st1, ρ1, s1, R1, r1, h1⟩ := h1
      refine hv E F ρ1 H1 st1 y z v w _ R1 (rv.mono s1) r1 (PostG.mono (PostS.part (R := rX G) h1) fun u H2 h2 => ?_)
      obtain ⟨z', st2, ρ2, s2, R2, r2, h2⟩ := h2
      exact h2 ρ2 H2 _ (Stp.refl _ _) R2 (((sk.mono s1).mono s2).set i r2)
/-! ### methods of lists, by values -/
/-- the value is of that built-in type; a tuple that is known to its object too -/
def TyW (K : PySem.W.Frag) (T : String) (x : V) (H : Hp) : Prop := tyV K T x H ∨ (T = "tuple" ∧ ∃ p o xs, x = .ref p ∧ H p = some (.frz o (.tup xs)) ∧ o.dict = none)
theorem tyW_is {pins : List (Addr × Obj)} {σ : L2.St} {H : Hp} {s : Shared} {T : String} {x : V} {v : Value} (I : Inv X pins σ H s) (r : RelV x v) (ty : TyW X.K T x H) :
    s.TypeIs v T ∧ ∀ a, v = .ref a → ∃ ob, s.heap.get? a = some ob ∧ ob.dict = none := by
  rcases ty with ty | ⟨rfl, p, o, xs, rfl, e, d⟩
  · exact tyV_is I r ty
  · cases r
    obtain ⟨h1, _, its, _, ob, h2, hc, _⟩ := I.hok p _ e
    rw [h1] at h2
    cases h2
    exact ⟨⟨o, h1, hc⟩, fun a e => by cases e; exact ⟨o, h1, d⟩⟩
section
variable {o e : Expr} {es : List Expr} {to : TE} {t : TA} {name : Str} {apos cpos : Pos} {T id : String} {r : V → List V → Hp → VK → Prop}
theorem pw_bm0 (pa : PlainAttrs T) (slot : Slot T name id) (hty : typeOf (.builtin id) = pure (.type "method_descriptor")) (hm : MtR X id r) (ho : PE X o to)
    (hbase : attributeBase o name X.env (eval o X.env) = eval o X.env) (hline : (apos.endLine == cpos.line) = true) : PE X (.Call (.Attribute o name apos) [] [] cpos) (fun σ H Q => to σ H fun x H1 => TyW X.K T x H1 ∧ r x [] H1 Q) := by
  refine ⟨fun pins s σ H Q I h => ?_⟩
  refine wpAny_Call_method0_late hbase hline (thn (ho.run pins s σ H _ I h) fun v s1 ⟨x, H1, I1, r1, ty, q1⟩ => ?_)
  obtain ⟨h1, h2⟩ := tyW_is I1 r1 ty
  exact ⟨T, id, pa, slot, hty, h1, h2, Calls.callWith_builtin rfl (PySem.evalArgs_none (hm pins s1 σ H1 x [] v [] Q I1 r1 .nil q1))⟩
theorem pw_bm (pa : PlainAttrs T) (slot : Slot T name id) (hty : typeOf (.builtin id) = pure (.type "method_descriptor")) (hm : MtR X id r) (ho : PE X o to) (ha : PA X (e :: es) t)
    (hbase : attributeBase o name X.env (eval o X.env) = eval o X.env)
    (hfew : ((backTo cpos (starEach (e :: es) X.env)).all (fun x => !x.1) && (backToKw cpos (keywordEach [] X.env)).all (fun x => x.1.isSome)
      && decide ((e :: es).length + ([] : List Keyword).length + (if ([] : List Keyword).isEmpty then 0 else 1) < 30)) = true)
    (hline : (apos.endLine == cpos.line) = true) (hs : starEach (e :: es) X.env = (false, eval e X.env) :: starEach es X.env) (hplain : (backTo cpos (starEach es X.env)).any (·.1) = false) :
    PE X (.Call (.Attribute o name apos) (e :: es) [] cpos) (fun σ H Q => to σ H fun x H1 => TyW X.K T x H1 ∧ t σ H1 fun xs H2 => r x xs H2 Q) := by
  refine ⟨fun pins s σ H Q I h => ?_⟩
  refine wpAny_Call_method_late hbase hfew hline rfl (thn (ho.run pins s σ H _ I h) fun v s1 ⟨x, H1, I1, r1, ty, q1⟩ => ?_)
  obtain ⟨h1, h2⟩ := tyW_is I1 r1 ty
  refine ⟨T, id, pa, slot, hty, h1, h2, ?_⟩
  have hA := ha.run cpos pins s1 σ H1 _ I1 q1
  rw [hs] at hA ⊢
  refine Calls.callWith_builtin (by show (false || (backTo cpos (starEach es X.env)).any (·.1)) = false; rw [hplain] <;> rfl) (Calls.evalArgs_plain ?_)
  exact thn hA fun us s2 ⟨vs, H2, I2, r2, q2⟩ => hm pins s2 σ H2 x vs v us Q I2 r1 r2 q2
end
/-- o.m(e, ..) of a built-in's own: k, the kind of thing -/
inductive Kd where
  | l | t | s | d
def isKd (k : Kd) (st : Store) (x : DH.X) : Bool := match k, deref st x with
  | .l, some (.lst _) => true
  | .t, some (.tup true _) => true
  | .s, some (.str _) => true
  | .d, some (.dct _ _) => true
  | _, _ => false
def Kd.T : Kd → String
  | .l => "list" | .t => "tuple" | .s => "str" | .d => "dict"
theorem kd_ok {k : Kd} {F : Addr → Prop} {ρ : List Addr} {H : Hp} {st : Store} {x : DH.X} {v : V} (R : Rep G F ρ st H) (rx : RelX G F ρ H x v) (h : isKd k st x = true) : TyW G.K k.T v H := by
  unfold isKd at h
  cases q : deref st x with
  | none => rw [q] at h; cases k <;> cases h
  | some d =>
    have w := view R rx q
    rw [q] at h
    cases k with
    | l =>
      cases d with
      | lst xs =>
        obtain ⟨a, vs, e, f, r⟩ := w
        rw [e]
        exact .inl (.inl ⟨rfl, vs, SqL.of f⟩)
      | _ => cases h
    | s =>
      cases d with
      | str cs =>
        have w : v = .str (strOf cs) := w
        rw [w]
        exact .inl rfl
      | _ => cases h
    | d =>
      cases d with
      | dct t kvs =>
        obtain ⟨a, e, r⟩ := w
        rw [e]
        refine .inl (.inr (.inr (.inl ⟨rfl, ?_⟩)))
        rcases r with ⟨ps, h, _⟩ | ⟨ps, h, _⟩
        · exact .inl ⟨ps, h⟩
        · exact .inr ⟨ps, h⟩
      | _ => cases h
    | t =>
      cases d with
      | tup f xs =>
        cases f with
        | false => cases h
        | true =>
          cases x with
          | loc l =>
            unfold deref at q
            simp only at q
            split at q <;> cases q
          | d y =>
            have q' : y = .tup true xs := Option.some.inj q
            rw [q'] at rx
            obtain ⟨a, vs, e, fz, r⟩ := rx
            rw [e]
            rcases fz with ⟨o, h1, h2, h3⟩ | ⟨o, its, n, h1, h2, h3, h4⟩
            · exact .inr ⟨rfl, a, o, vs, rfl, h1, h2⟩
            · exact .inl (.inr (.inl ⟨rfl, o, h1, h3, h2⟩))
      | _ => cases h
def eMeth (k : Kd) (f : DH.X → List DH.X → Store → O DH.X) (o : EM DH.X) (m : EM (List DH.X)) : EM DH.X := fun sl st => (o sl st).bind fun x st1 => match isKd k st1 x with
  | true => (m sl st1).bind fun xs st2 => f x xs st2
  | false => .bad
def MethV (G : Gm) (r : V → List V → Hp → VK → Prop) (f : DH.X → List DH.X → Store → O DH.X) : Prop :=
  ∀ (E : XK) (F : Addr → Prop) (ρ : List Addr) (H : Hp) (st : Store) (x : DH.X) (v : V) (xs : List DH.X) (vs : List V) (Q : VK), Rep G F ρ st H → RelX G F ρ H x v → RelXs G F ρ H xs vs → PostG G E (rX G) F ρ H (f x xs st) Q → r v vs H Q
theorem q_meth {o e : Expr} {es : List Expr} {name : Str} {apos cpos : Pos} {id : String} {k : Kd} {r : V → List V → Hp → VK → Prop} {f : DH.X → List DH.X → Store → O DH.X} {mo : EM DH.X} {m : EM (List DH.X)} (hK : G.K = X.K) (pa : PlainAttrs k.T) (slot : Slot k.T name id) (hty : typeOf (.builtin id) = pure (.type "method_descriptor")) (hm : MtR X id r) (hv : MethV G r f) (ho : PE X o (rdE G E mo)) (ha : PA X (e :: es) (rdA G E m))
    (hbase : attributeBase o name X.env (eval o X.env) = eval o X.env)
    (hfew : ((backTo cpos (starEach (e :: es) X.env)).all (fun x => !x.1) && (backToKw cpos (keywordEach [] X.env)).all (fun x => x.1.isSome)
      && decide ((e :: es).length + ([] : List Keyword).length + (if ([] : List Keyword).isEmpty then 0 else 1) < 30)) = true)
    (hline : (apos.endLine == cpos.line) = true) (hs : starEach (e :: es) X.env = (false, eval e X.env) :: starEach es X.env) (hplain : (backTo cpos (starEach es X.env)).any (·.1) = false) :
    PE X (.Call (.Attribute o name apos) (e :: es) [] cpos) (rdE G E (eMeth k f mo m)) := by
  refine PE.imp (pw_bm pa slot hty hm ho ha hbase hfew hline hs hplain) fun σ H Q h => ?_
  obtain ⟨F, ρ, sl, st, sk, R, h⟩ := h
  refine ⟨F, ρ, sl, st, sk, R, PostG.mono (PostG.bind (R := rX G) h) fun v H1 h1 => ?_⟩
  obtain ⟨x, st1, ρ1, s1, R1, r1, h1⟩ := h1
  cases q : isKd k st1 x with
  | false => simp only [q] at h1; exact h1.elim
  | true =>
    simp only [q] at h1
    refine ⟨by rw [← hK]; exact kd_ok R1 r1 q, F, ρ1, sl, st1, sk.mono s1, R1, PostG.mono (PostG.bind (R := rXs G) h1) fun w H2 h2 => ?_⟩
    obtain ⟨xs, st2, ρ2, s2, R2, r2, h2⟩ := h2
    exact hv E F ρ2 H2 st2 x v xs w Q R2 (r1.mono s2) r2 h2
theorem q_meth0 {o : Expr} {name : Str} {apos cpos : Pos} {id : String} {k : Kd} {r : V → List V → Hp → VK → Prop} {f : DH.X → List DH.X → Store → O DH.X} {mo : EM DH.X} (hK : G.K = X.K) (pa : PlainAttrs k.T) (slot : Slot k.T name id) (hty : typeOf (.builtin id) = pure (.type "method_descriptor")) (hm : MtR X id r) (hv : MethV G r f) (ho : PE X o (rdE G E mo))
    (hbase : attributeBase o name X.env (eval o X.env) = eval o X.env) (hline : (apos.endLine == cpos.line) = true) :
    PE X (.Call (.Attribute o name apos) [] [] cpos) (rdE G E (eMeth k f mo aNil)) := by
  refine PE.imp (pw_bm0 pa slot hty hm ho hbase hline) fun σ H Q h => ?_
  obtain ⟨F, ρ, sl, st, sk, R, h⟩ := h
  refine ⟨F, ρ, sl, st, sk, R, PostG.mono (PostG.bind (R := rX G) h) fun v H1 h1 => ?_⟩
  obtain ⟨x, st1, ρ1, s1, R1, r1, h1⟩ := h1
  cases q : isKd k st1 x with
  | false => simp only [q] at h1; exact h1.elim
  | true =>
    simp only [q] at h1
    exact ⟨by rw [← hK]; exact kd_ok R1 r1 q, hv E F ρ1 H1 st1 x v [] [] Q R1 r1 rfl h1⟩
/-- xs.append(y) -/
def mAppend (x : DH.X) (xs : List DH.X) (st : Store) : O DH.X := match x, xs with
  | .loc l, [.d y] => (match st[l]? with
    | some (.lst ys) => (match small (ys.length + 1) with
      | true => .ok (.d .non) (st.set l (.lst (ys ++ [y])))
      | false => .bad)
    | _ => .bad)
  | _, _ => .bad
theorem append_v : MethV G rAppend mAppend := fun E F ρ H st x v xs vs Q R rx rs h => by
  unfold mAppend at h
  split at h
  · rename_i l y
    split at h
    · rename_i ys q
      cases z : small (ys.length + 1) with
      | false => simp only [z] at h; exact h.elim
      | true =>
        simp only [z] at h
        obtain ⟨a, e1, e2⟩ := rx
        obtain ⟨ws, e3, r3⟩ := R.obj l a _ e1 q
        obtain ⟨w, r', e4, ry, e5⟩ := rs
        have e5 : r' = [] := e5
        subst e5
        have hz := small_ok z
        refine ⟨a, ws, w, e2, e4, e3, by rw [r3.length]; omega, ?_⟩
        have s : Stp ρ H ρ (upd H a (.lst (ws ++ [w]))) := stp_set e1
        exact h ρ _ .non s (R.set e1 e3 (fun ps z => by cases z) (fun q => codeO_lst q) ⟨_, upd_same, (RelDs.mono s.keeps ys r3).append (RelDs.one (RelD.mono s.keeps y ry))⟩) rfl
    · exact h.elim
  · exact h.elim
/-- xs.pop(), xs.pop(i) -/
def mPop (x : DH.X) (xs : List DH.X) (st : Store) : O DH.X := match x, xs with
  | .loc l, [] => (match st[l]? with
    | some (.lst ys) => (match ys[ys.length - 1]? with
      | some y => .ok (.d y) (st.set l (.lst ys.dropLast))
      | none => .bad)
    | _ => .bad)
  | _, _ => .bad
def mPopAt (x : DH.X) (xs : List DH.X) (st : Store) : O DH.X := match x, xs with
  | .loc l, [.d (.int i)] => (match st[l]? with
    | some (.lst ys) => (match Nat.blt i.natAbs 4611686018427387904, ixM ys.length i with
      | true, some k => (match ys[k]? with
        | some y => .ok (.d y) (st.set l (.lst (ys.eraseIdx k)))
        | none => .bad)
      | _, _ => .bad)
    | _ => .bad)
  | _, _ => .bad
theorem RelDs.dropLast {N : Addr → Prop} {H : Hp} {xs : List D} {vs : List V} (r : RelDs G N H xs vs) : RelDs G N H xs.dropLast vs.dropLast := by
  rw [List.dropLast_eq_take, List.dropLast_eq_take, r.length]
  exact r.take _
theorem pop_v : MethV G rPop mPop := fun E F ρ H st x v xs vs Q R rx rs h => by
  unfold mPop at h
  split at h
  · rename_i l
    split at h
    · rename_i ys q
      split at h
      · rename_i y q2
        obtain ⟨a, e1, e2⟩ := rx
        obtain ⟨ws, e3, r3⟩ := R.obj l a _ e1 q
        obtain ⟨w, hw, rw'⟩ := r3.get q2
        refine ⟨a, ws, w, e2, rs, e3, by rw [r3.length]; exact hw, ?_⟩
        have s : Stp ρ H ρ (upd H a (.lst ws.dropLast)) := stp_set e1
        exact h ρ _ w s (R.set e1 e3 (fun ps z => by cases z) (fun q => codeO_lst q) ⟨_, upd_same, (RelDs.mono s.keeps ys r3).dropLast⟩) (RelD.mono s.keeps y rw')
      · exact h.elim
    · exact h.elim
  · exact h.elim
theorem popAt_v : MethV G rPopAt mPopAt := fun E F ρ H st x v xs vs Q R rx rs h => by
  unfold mPopAt at h
  split at h
  · rename_i l i
    split at h
    · rename_i ys q
      split at h
      · rename_i k hb q1
        split at h
        · rename_i y q2
          obtain ⟨a, e1, e2⟩ := rx
          obtain ⟨ws, e3, r3⟩ := R.obj l a _ e1 q
          obtain ⟨w, hw, rw'⟩ := r3.get q2
          obtain ⟨u, r', e4, ry, e5⟩ := rs
          have e5 : r' = [] := e5
          have ry : u = .int i := ry
          subst e5 ry
          have hb' : i.natAbs < 4611686018427387904 := Nat.le_of_ble_eq_true hb
          have q1' : ixN ws.length i = some k := by rw [r3.length, ← ixM_eq]; exact q1
          refine ⟨a, ws, i, k, w, e2, e4, e3, by omega, by omega, (ixN_seq q1').1, hw, ?_⟩
          have s : Stp ρ H ρ (upd H a (.lst (ws.eraseIdx k))) := stp_set e1
          exact h ρ _ w s (R.set e1 e3 (fun ps z => by cases z) (fun q => codeO_lst q) ⟨_, upd_same, (RelDs.mono s.keeps ys r3).eraseIdx k⟩) (RelD.mono s.keeps y rw')
        · exact h.elim
      · exact h.elim
    · exact h.elim
  · exact h.elim
end
end DH
namespace DH
open PySem PySem.Spec PyProof.Rows L2
section
variable {G : Gm} {E : XK}
theorem RelK.length {N : Addr → Prop} {H : Hp} : ∀ {xs : List (D × D)} {ps : List (Key × V)}, RelK G N H xs ps → ps.length = xs.length
  | [], ps, h => by
    have e : ps = [] := h
    rw [e]; rfl
  | (k, x) :: xs, ps, h => by
    obtain ⟨q, v, r, e, _, _, h2⟩ := h
    rw [e, List.length_cons, List.length_cons, RelK.length h2]
theorem RelT.length {N : Addr → Prop} {H : Hp} : ∀ {xs : List (D × D)} {ps : List (List Key × V)}, RelT G N H xs ps → ps.length = xs.length
  | [], ps, h => by
    have e : ps = [] := h
    rw [e]; rfl
  | (k, x) :: xs, ps, h => by
    obtain ⟨q, v, r, e, _, _, h2⟩ := h
    rw [e, List.length_cons, List.length_cons, RelT.length h2]
/-! ### len -/
def gLen : D → Store → O X
  | .lst xs, st => .ok (.d (.int xs.length)) st
  | .tup _ xs, st => .ok (.d (.int xs.length)) st
  | .dct _ xs, st => .ok (.d (.int xs.length)) st
  | .str cs, st => (match small cs.length with
    | true => .ok (.d (.int cs.length)) st
    | false => .bad)
  | _, _ => .bad
abbrev rLenAll (K : PySem.W.Frag) : List V → Hp → VK → Prop := fun xs H Q =>
  (∃ p ys, xs = [.ref p] ∧ (SqL K H p ys ∨ SqT K H p ys) ∧ Q (.int ys.length) H) ∨ (∃ z, xs = [.str z] ∧ z.length ≤ sizeLine ∧ Q (.int z.length) H) ∨ (∃ a kvs, xs = [V.ref a] ∧ H a = some (.dK kvs) ∧ Q (.int kvs.length) H) ∨ rLenT xs H Q
theorem len_all {X : Cx} : CallR X (.builtin "len") (rLenAll X.K) := call_len_seq.or (call_len_str.or (call_lenD.or call_len_dT))
theorem len_v : CallV G (rLenAll G.K) (f1 gLen) := cal1 fun E F ρ H st a v Q R ra h => by
  cases a with
  | lst xs =>
    obtain ⟨p, vs, e, f, r⟩ := ra
    subst e
    exact .inl ⟨p, vs, rfl, .inl (SqL.of f), now1 R h (by show V.int _ = V.int _; rw [r.length])⟩
  | tup g xs =>
    obtain ⟨p, vs, e, f, r⟩ := ra
    subst e
    exact .inl ⟨p, vs, rfl, .inr f, now1 R h (by show V.int _ = V.int _; rw [r.length])⟩
  | str cs =>
    unfold gLen at h
    cases z : small cs.length with
    | false => simp only [z] at h; exact h.elim
    | true =>
      simp only [z] at h
      have e : v = .str (strOf cs) := ra
      subst e
      exact .inr (.inl ⟨strOf cs, rfl, by rw [str_len]; exact small_ok z, by rw [str_len]; exact now1 R h rfl⟩)
  | dct tk xs =>
    obtain ⟨p, e, r⟩ := ra
    subst e
    rcases r with ⟨ps, h1, _, r⟩ | ⟨ps, h1, _, r⟩
    · exact .inr (.inr (.inl ⟨p, ps, rfl, h1, now1 R h (by show V.int _ = V.int _; rw [r.length])⟩))
    · exact .inr (.inr (.inr ⟨p, ps, rfl, h1, now1 R h (by show V.int _ = V.int _; rw [r.length])⟩))
  | _ => exact h.elim
/-! ### list(x), tuple(x) -/
def gList (mu : Bool) : D → Store → O X
  | .lst xs, st => newL mu xs st
  | .tup _ xs, st => newL mu xs st
  | _, _ => .bad
abbrev rListOf (K : PySem.W.Frag) : List V → Hp → VK → Prop := fun xs H Q => ∃ p ys, xs = [.ref p] ∧ (SqL K H p ys ∨ SqT K H p ys) ∧ ∀ l, H l = none → Q (.ref l) (upd H l (.lst ys))
theorem list_v {mu : Bool} : CallV G (rListOf G.K) (f1 (gList mu)) := cal1 fun E F ρ H st a v Q R ra h => by
  cases a with
  | lst xs =>
    obtain ⟨p, vs, e, f, r⟩ := ra
    subst e
    exact ⟨p, vs, rfl, .inl (SqL.of f), fun l hl => newL_ok R r hl h⟩
  | tup g xs =>
    obtain ⟨p, vs, e, f, r⟩ := ra
    subst e
    exact ⟨p, vs, rfl, .inr f, fun l hl => newL_ok R r hl h⟩
  | _ => exact h.elim
/-- a new tuple, its methods to be called (fl) or not -/
def newTf (fl : Bool) (xs : List D) (st : Store) : O X := .ok (.d (.tup fl xs)) st
def tupH (fl : Bool) (o : Obj) (vs : List V) : HO := match fl with
  | false => .tup vs
  | true => .frz o (.tup vs)
theorem newTf_ok {F : Addr → Prop} {ρ : List Addr} {H : Hp} {st : Store} {fl : Bool} {o : Obj} {xs : List D} {vs : List V} {Q : VK} {p : Addr} (R : Rep G F ρ st H) (r : RelDs G (Nn F ρ) H xs vs) (hp : H p = none) (ho : fl = true → o.dict = none) (h : PostG G E (rX G) F ρ H (newTf fl xs st) Q) : Q (.ref p) (upd H p (tupH fl o vs)) := by
  cases fl with
  | false =>
    have s : Stp ρ H ρ (upd H p (.tup vs)) := stp_new hp
    exact h ρ (upd H p (.tup vs)) (.ref p) s (R.new hp) ⟨p, vs, rfl, ⟨upd_same, R.fresh hp⟩, RelDs.mono s.keeps xs r⟩
  | true =>
    have s : Stp ρ H ρ (upd H p (.frz o (.tup vs))) := stp_new hp
    exact h ρ (upd H p (.frz o (.tup vs))) (.ref p) s (R.new hp) ⟨p, vs, rfl, .inl ⟨o, upd_same, ho rfl, R.fresh hp⟩, RelDs.mono s.keeps xs r⟩
abbrev rTupOf (K : PySem.W.Frag) (fl : Bool) : List V → Hp → VK → Prop := fun xs H Q => ∃ p ys, xs = [.ref p] ∧ ((SqL K H p ys ∧ ∀ l o, H l = none → (fl = true → o.dict = none) → Q (.ref l) (upd H l (tupH fl o ys))) ∨ (SqT K H p ys ∧ Q (.ref p) H))
theorem tup_of {X : Cx} {fl : Bool} : CallR X (.type "tuple") (rTupOf X.K fl) := by
  cases fl with
  | false =>
    intro pins s σ H xs us Q I r h
    obtain ⟨p, ys, e, h⟩ := h
    refine call_tuple_of pins s σ H xs us Q I r ⟨p, ys, e, ?_⟩
    rcases h with ⟨h1, h2⟩ | h
    · exact .inl ⟨h1, fun l hl => h2 l default hl (fun z => by cases z)⟩
    · exact .inr h
  | true =>
    intro pins s σ H xs us Q I r h
    obtain ⟨p, ys, e, h⟩ := h
    subst e
    obtain ⟨u, rfl, rx⟩ := vals1 r
    cases rx
    rcases h with ⟨hq, q⟩ | ⟨hq, q⟩
    · obtain ⟨its, r', pl, hz⟩ := I.list hq
      have hlen := r'.length
      refine call_tuple_list pl.isList (fun h' kp => ?_) (by simp only [List.size_toArray] <;> omega)
      have I1 : Inv X pins σ H { s with heap := h' } := I.kept (t' := s.toks) kp
      have I2 : Inv X pins σ (upd H h'.objs.size (.frz { cls := .type "tuple", data := .seq its.toArray } (.tup ys))) { s with heap := h'.push { cls := .type "tuple", data := .seq its.toArray } } :=
        I1.laid (t' := s.toks) (fun b o e => Heap.get?_push_of_some _ e) (Nat.le_refl _) (show ObjOk X.prog X.w _ _ _ (.frz _ (.tup ys)) from ⟨Heap.get?_push_size _ rfl, show ObjOk X.prog X.w _ _ _ (.tup ys) from ⟨hz, its, r', IsTup.new _ _⟩⟩)
      exact ⟨.ref h'.objs.size, _, I2, rfl, q _ _ (I1.hok.fresh (Nat.le_refl _)) (fun _ => rfl)⟩
    · obtain ⟨its, r', pl, hz⟩ := I.tuple hq
      exact call_tuple_same pl ⟨.ref p, H, I, rfl, q⟩
def selfT (x : X) (st : Store) : O X := match x with
  | .d (.tup f ys) => .ok (.d (.tup f ys)) st
  | _ => .bad
def gTupOf (fl : Bool) : List X → Store → O X := fun xs st => match xs with
  | [x] => (match deref st x with
    | some (.lst ys) => newTf fl ys st
    | _ => selfT x st)
  | _ => .bad
theorem tup_v {fl : Bool} : CallV G (rTupOf G.K fl) (gTupOf fl) := by
  intro E F ρ H st xs vs Q R rs h
  unfold gTupOf at h
  cases xs with
  | nil => exact h.elim
  | cons x t =>
    cases t with
    | cons _ _ => exact h.elim
    | nil =>
      obtain ⟨v, r', e, rx, e2⟩ := rs
      have e2' : r' = [] := e2
      subst e2'
      subst e
      simp only at h
      have fin : PostG G E (rX G) F ρ H (selfT x st) Q → rTupOf G.K fl [v] H Q := fun h => by
        unfold selfT at h
        cases x with
        | loc l => exact h.elim
        | d y =>
          cases y with
          | tup f ys =>
            have rx2 := id rx
            obtain ⟨p, ws, e, fz, r⟩ := rx
            subst e
            exact ⟨p, ws, rfl, .inr ⟨fz.sq, PostG.now (R := rX G) h R rx2⟩⟩
          | _ => exact h.elim
      cases q : deref st x with
      | none => rw [q] at h; exact fin h
      | some d =>
        rw [q] at h
        cases d with
        | lst ys =>
          obtain ⟨p, ws, e, f, r⟩ := view R rx q
          subst e
          exact ⟨p, ws, rfl, .inl ⟨SqL.of f, fun l o hl ho => newTf_ok R r hl ho h⟩⟩
        | _ => exact fin h
/-! ### ints -/
def gAbs : D → Store → O X
  | .int i, st => .ok (.d (.int (match i with | .ofNat n => .ofNat n | .negSucc n => .ofNat (n + 1)))) st
  | _, _ => .bad
theorem abs_eq (i : Int) : (match i with | .ofNat n => Int.ofNat n | .negSucc n => .ofNat (n + 1)) = if i < 0 then -i else i := by
  cases i with
  | ofNat n => rw [if_neg (by simp)]
  | negSucc n => rw [if_pos (Int.negSucc_lt_zero n)]; rfl
abbrev rAbs : List V → Hp → VK → Prop := fun xs H Q => ∃ i, xs = [V.int i] ∧ Q (.int (if i < 0 then -i else i)) H
theorem abs_v : CallV G rAbs (f1 gAbs) := cal1 fun E F ρ H st a v Q R ra h => by
  cases a with
  | int i =>
    have e : v = .int i := ra
    subst e
    refine ⟨i, rfl, ?_⟩
    rw [← abs_eq]
    exact now1 R h rfl
  | _ => exact h.elim
def gInt : D → Store → O X
  | .int i, st => .ok (.d (.int i)) st
  | .bl b, st => .ok (.d (.int (match b with | true => 1 | false => 0))) st
  | _, _ => .bad
abbrev rInt1 : List V → Hp → VK → Prop := fun xs H Q => (∃ i, xs = [V.int i] ∧ Q (.int i) H) ∨ ∃ k, xs = [V.bl k] ∧ Q (.int (if k then 1 else 0)) H
theorem int_v : CallV G rInt1 (f1 gInt) := cal1 fun E F ρ H st a v Q R ra h => by
  cases a with
  | int i =>
    have e : v = .int i := ra
    subst e
    exact .inl ⟨i, rfl, now1 R h rfl⟩
  | bl b =>
    have e : v = .bl b := ra
    subst e
    refine .inr ⟨b, rfl, ?_⟩
    cases b <;> exact now1 R h rfl
  | _ => exact h.elim
def gMin2 : D → D → Store → O X
  | .int i, .int j, st => .ok (.d (.int (match ltI j i with | true => j | false => i))) st
  | _, _, _ => .bad
def gMax2 : D → D → Store → O X
  | .int i, .int j, st => .ok (.d (.int (match ltI i j with | true => j | false => i))) st
  | _, _, _ => .bad
abbrev rMin2 : List V → Hp → VK → Prop := fun xs H Q => ∃ i j, xs = [V.int i, .int j] ∧ Q (.int (if j < i then j else i)) H
abbrev rMax2 : List V → Hp → VK → Prop := fun xs H Q => ∃ i j, xs = [V.int i, .int j] ∧ Q (.int (if j > i then j else i)) H
theorem minI_eq (i j : Int) : (if j < i then j else i) = (match ltI j i with | true => j | false => i) := by
  rw [ltI_eq]
  by_cases h : j < i
  · rw [if_pos h, decide_eq_true h]
  · rw [if_neg h, decide_eq_false h]
theorem maxI_eq (i j : Int) : (if j > i then j else i) = (match ltI i j with | true => j | false => i) := by
  rw [ltI_eq]
  by_cases h : j > i
  · rw [if_pos h, decide_eq_true h]
  · rw [if_neg h, decide_eq_false h]
theorem min2_v : CallV G rMin2 (f11 gMin2) := cal2 fun E F ρ H st a b v w Q R ra rb h => by
  cases a with
  | int i =>
    cases b with
    | int j =>
      have e : v = .int i := ra
      have e2 : w = .int j := rb
      subst e
      subst e2
      exact ⟨i, j, rfl, now1 R h (by show V.int _ = V.int _; rw [minI_eq])⟩
    | _ => exact h.elim
  | _ => exact h.elim
theorem max2_v : CallV G rMax2 (f11 gMax2) := cal2 fun E F ρ H st a b v w Q R ra rb h => by
  cases a with
  | int i =>
    cases b with
    | int j =>
      have e : v = .int i := ra
      have e2 : w = .int j := rb
      subst e
      subst e2
      exact ⟨i, j, rfl, now1 R h (by show V.int _ = V.int _; rw [maxI_eq])⟩
    | _ => exact h.elim
  | _ => exact h.elim
/-! ### sum of a list of ints -/
def intsD : List D → Option (List Int)
  | [] => some []
  | .int i :: r => (match intsD r with
    | some is => some (i :: is)
    | none => none)
  | _ => none
def sumI : List Int → Int
  | [] => 0
  | i :: r => i + sumI r
theorem sumI_eq : ∀ is : List Int, sumI is = is.sum
  | [] => rfl
  | i :: r => by rw [sumI, sumI_eq r, List.sum_cons]
theorem intsD_rel {N : Addr → Prop} {H : Hp} : ∀ {xs : List D} {is : List Int} {vs : List V}, intsD xs = some is → RelDs G N H xs vs → vs = is.map V.int
  | [], is, vs, e, h => by
    have e' : is = [] := (Option.some.inj e).symm
    rw [e']; exact h
  | x :: r, is, vs, e, h => by
    obtain ⟨v, r', e1, h1, h2⟩ := h
    cases x with
    | int i =>
      unfold intsD at e
      cases q : intsD r with
      | none => rw [q] at e; cases e
      | some is' =>
        rw [q] at e
        have e' : is = i :: is' := (Option.some.inj e).symm
        rw [e', e1, intsD_rel q h2]
        have h1' : v = .int i := h1
        rw [h1']; rfl
    | _ => cases e
def gSum : D → Store → O X
  | .lst xs, st => (match intsD xs with
    | some is => .ok (.d (.int (sumI is))) st
    | none => .bad)
  | _, _ => .bad
theorem sum_v : CallV G (rSum G.K) (f1 gSum) := cal1 fun E F ρ H st a v Q R ra h => by
  cases a with
  | lst xs =>
    unfold gSum at h
    cases z : intsD xs with
    | none => simp only [z] at h; exact h.elim
    | some is =>
      simp only [z] at h
      obtain ⟨p, vs, e, f, r⟩ := ra
      subst e
      rw [intsD_rel z r] at f
      refine ⟨p, is, rfl, SqL.of f, ?_⟩
      rw [← sumI_eq]
      exact now1 R h rfl
  | _ => exact h.elim
/-! ### in, not in -/
def anyB {α : Type} (f : α → Bool) : List α → Bool
  | [] => false
  | x :: xs => (match f x with
    | true => true
    | false => anyB f xs)
theorem anyB_eq {α : Type} (f : α → Bool) : ∀ xs : List α, anyB f xs = xs.any f
  | [] => rfl
  | x :: xs => by
    unfold anyB
    rw [List.any_cons]
    cases f x with
    | true => rfl
    | false => rw [anyB_eq f xs]; rfl
abbrev rInT (K : PySem.W.Frag) : R2 := fun x y H Q => ∃ d ds, Dp K H x d ∧ Dp K H y (.tuple ds) ∧ SeqAt.shaped d = true ∧ SeqAt.shaped (.tuple ds) = true ∧ Q (.bl (ds.any fun z => PyData.eqv z d)) H
abbrev rNotInT (K : PySem.W.Frag) : R2 := fun x y H Q => ∃ d ds, Dp K H x d ∧ Dp K H y (.tuple ds) ∧ SeqAt.shaped d = true ∧ SeqAt.shaped (.tuple ds) = true ∧ Q (.bl (!ds.any fun z => PyData.eqv z d)) H
theorem op_inT {X : Cx} (hu : X.A.units + 65 < cLine) : OpR X (compareOp .In) (rInT X.K) := by
  intro pins s σ H x y v u Q I rx ry h
  obtain ⟨d, ds, hd, he, sd, se, q⟩ := h
  obtain ⟨as, r1⟩ := Dp.reads I d x v hd rx
  obtain ⟨bs, r2⟩ := Dp.reads I (.tuple ds) y u he ry
  exact SeqAt.in_tuple_reads r2 r1 (SeqAt.canLay_of_shaped se) (SeqAt.canLay_of_shaped sd) (room_in_shaped sd hu) ⟨.bl _, H, I, rfl, q⟩
theorem op_notInT {X : Cx} (hu : X.A.units + 65 < cLine) : OpR X (compareOp .NotIn) (rNotInT X.K) := by
  intro pins s σ H x y v u Q I rx ry h
  obtain ⟨d, ds, hd, he, sd, se, q⟩ := h
  obtain ⟨as, r1⟩ := Dp.reads I d x v hd rx
  obtain ⟨bs, r2⟩ := Dp.reads I (.tuple ds) y u he ry
  exact SeqAt.notIn_tuple_reads r2 r1 (SeqAt.canLay_of_shaped se) (SeqAt.canLay_of_shaped sd) (room_in_shaped sd hu) ⟨.bl _, H, I, rfl, q⟩
def inD (x : D) (y : D) : Option Bool := match okD 64 x with
  | false => none
  | true => (match okD 64 y with
    | false => none
    | true => (match y with
      | .lst ys => some (anyB (fun z => eqD 64 z x) ys)
      | .tup _ ys => some (anyB (fun z => eqD 64 z x) ys)
      | _ => none))
theorem okD_more : ∀ (n : Nat) (x : D), okD n x = true → okD (n + 1) x = true
  | n, .non, h => rfl
  | n, .bl _, h => rfl
  | n, .int _, h => rfl
  | n, .str cs, h => by cases n <;> exact h
  | 0, .tup _ xs, h => by cases h
  | 0, .lst xs, h => by cases h
  | n + 1, .tup f xs, h => by
    show allB (okD (n + 1)) xs = true
    rw [allB_iff]
    have h' : allB (okD n) xs = true := h
    rw [allB_iff] at h'
    exact fun x hx => okD_more n x (h' x hx)
  | n + 1, .lst xs, h => by
    show allB (okD (n + 1)) xs = true
    rw [allB_iff]
    have h' : allB (okD n) xs = true := h
    rw [allB_iff] at h'
    exact fun x hx => okD_more n x (h' x hx)
  | 0, .dct _ _, h => by cases h
  | n + 1, .dct _ _, h => by cases h
  | 0, .obj _ _, h => by cases h
  | n + 1, .obj _ _, h => by cases h
theorem any_eqv {x : D} (hx : okD 64 x = true) (ys : List D) (hy : allB (okD 63) ys = true) : (toPys ys).any (fun z => PyData.eqv z (toPy x)) = anyB (fun z => eqD 64 z x) ys := by
  rw [anyB_eq, toPys_map, List.any_map]
  rw [allB_iff] at hy
  induction ys with
  | nil => rfl
  | cons y ys ih =>
    rw [List.any_cons, List.any_cons, ih fun z hz => hy z (List.mem_cons_of_mem _ hz)]
    congr 1
    exact eqv_eq 64 y x (okD_more 63 y (hy y (List.mem_cons_self ..))) hx
theorem inD_some {x y : D} {b : Bool} (h : inD x y = some b) : okD 64 x = true ∧ okD 64 y = true ∧ ((∃ ys, y = .lst ys ∧ (toPys ys).any (fun z => PyData.eqv z (toPy x)) = b) ∨ (∃ f ys, y = .tup f ys ∧ (toPys ys).any (fun z => PyData.eqv z (toPy x)) = b)) := by
  unfold inD at h
  cases z1 : okD 64 x with
  | false => rw [z1] at h; cases h
  | true =>
    cases z2 : okD 64 y with
    | false => rw [z1, z2] at h; cases h
    | true =>
      rw [z1, z2] at h
      refine ⟨rfl, rfl, ?_⟩
      cases y with
      | lst ys =>
        have h' : anyB (fun z => eqD 64 z x) ys = b := Option.some.inj h
        exact .inl ⟨ys, rfl, by rw [any_eqv z1 ys z2]; exact h'⟩
      | tup f ys =>
        have h' : anyB (fun z => eqD 64 z x) ys = b := Option.some.inj h
        exact .inr ⟨f, ys, rfl, by rw [any_eqv z1 ys z2]; exact h'⟩
      | _ => cases h
def gIn : D → D → Store → O X := fun x y st => match inD x y with
  | some b => .ok (.d (.bl b)) st
  | none => .bad
def gNotIn : D → D → Store → O X := fun x y st => match inD x y with
  | some b => .ok (.d (.bl (!b))) st
  | none => .bad
abbrev rInLT (K : PySem.W.Frag) : R2 := fun x y H Q => rInD K x y H Q ∨ rInT K x y H Q
abbrev rNotInLT (K : PySem.W.Frag) : R2 := fun x y H Q => rNotInD K x y H Q ∨ rNotInT K x y H Q
theorem op_inLT {X : Cx} (hu : X.A.units + 65 < cLine) : OpR X (compareOp .In) (rInLT X.K) := (op_inD hu).or (op_inT hu)
theorem op_notInLT {X : Cx} (hu : X.A.units + 65 < cLine) : OpR X (compareOp .NotIn) (rNotInLT X.K) := (op_notInD hu).or (op_notInT hu)
theorem in_v : OpV G (rInLT G.K) (f2 gIn) := op2 fun E F ρ H st a b v w Q R ra rb h => by
  unfold gIn at h
  cases z : inD a b with
  | none => rw [z] at h; exact h.elim
  | some k =>
    rw [z] at h
    obtain ⟨o1, o2, y⟩ := inD_some z
    rcases y with ⟨ys, e, y⟩ | ⟨f, ys, e, y⟩
    · subst e
      exact .inl ⟨_, toPys ys, ra.dp o1, rb.dp o2, okD_shaped o1, okD_shaped o2, by rw [y]; exact now1 R h rfl⟩
    · subst e
      exact .inr ⟨_, toPys ys, ra.dp o1, rb.dp o2, okD_shaped o1, okD_shaped o2, by rw [y]; exact now1 R h rfl⟩
theorem notIn_v : OpV G (rNotInLT G.K) (f2 gNotIn) := op2 fun E F ρ H st a b v w Q R ra rb h => by
  unfold gNotIn at h
  cases z : inD a b with
  | none => rw [z] at h; exact h.elim
  | some k =>
    rw [z] at h
    obtain ⟨o1, o2, y⟩ := inD_some z
    rcases y with ⟨ys, e, y⟩ | ⟨f, ys, e, y⟩
    · subst e
      exact .inl ⟨_, toPys ys, ra.dp o1, rb.dp o2, okD_shaped o1, okD_shaped o2, by rw [y]; exact now1 R h rfl⟩
    · subst e
      exact .inr ⟨_, toPys ys, ra.dp o1, rb.dp o2, okD_shaped o1, okD_shaped o2, by rw [y]; exact now1 R h rfl⟩
end
end DH
namespace DH
open PySem PySem.Spec PyProof.Rows L2
section
variable {X : Cx} {e a b c : Expr} {pos p : Pos} {G : Gm} {E : XK}
/-! ### a < b < c -/
def eChain (f g : DH.X → DH.X → Store → O DH.X) (a b c : EM DH.X) : EM DH.X := fun sl st => (a sl st).bind fun x st1 => (b sl st1).bind fun y st2 => (f x y st2).bind fun z st3 => match z with
  | .d (.bl true) => (c sl st3).bind fun w st4 => g y w st4
  | .d (.bl false) => .ok (.d (.bl false)) st3
  | _ => .bad
theorem rd_chain {r r' : R2} {f g : DH.X → DH.X → Store → O DH.X} {ma mb mc : EM DH.X} (hv : OpV G r f) (hv' : OpV G r' g) {σ : L2.St} {H : Hp} {Q : VK} (h : rdE G E (eChain f g ma mb mc) σ H Q) : tChain r r' (rdE G E ma) (rdE G E mb) (rdE G E mc) σ H Q := by
  obtain ⟨F, ρ, sl, st, sk, R, h⟩ := h
  refine ⟨F, ρ, sl, st, sk, R, PostG.mono (PostG.bind (R := rX G) h) fun v H1 h1 => ?_⟩
  obtain ⟨x, st1, ρ1, s1, R1, r1, h1⟩ := h1
  refine ⟨F, ρ1, sl, st1, sk.mono s1, R1, PostG.mono (PostG.bind (R := rX G) h1) fun w H2 h2 => ?_⟩
  obtain ⟨y, st2, ρ2, s2, R2, r2, h2⟩ := h2
  refine hv E F ρ2 H2 st2 x y v w _ R2 (r1.mono s2) r2 (PostG.mono (PostG.bind (R := rX G) h2) fun z H3 h3 => ?_)
  obtain ⟨z', st3, ρ3, s3, R3, r3, h3⟩ := h3
  cases z' with
  | loc l => exact h3.elim
  | d u =>
    cases u with
    | bl k =>
      refine ⟨k, r3, ?_⟩
      cases k with
      | true =>
        refine iteT ⟨F, ρ3, sl, st3, ((sk.mono s1).mono s2).mono s3, R3, PostG.mono (PostG.bind (R := rX G) h3) fun w' H4 h4 => ?_⟩
        obtain ⟨y4, st4, ρ4, s4, R4, r4, h4⟩ := h4
        exact hv' E F ρ4 H4 st4 y y4 w w' Q R4 ((r2.mono s3).mono s4) r4 h4
      | false => exact iteF (PostG.now (R := rX G) h3 R3 (show RelX G F ρ3 H3 (.d (.bl false)) (.bl false) from rfl))
    | _ => exact h3.elim
theorem q_chain {op op' : CmpOp} {r r' : R2} {f g : DH.X → DH.X → Store → O DH.X} {ma mb mc : EM DH.X} (ho : OpR X (compareOp op) r) (hv : OpV G r f) (ho' : OpR X (compareOp op') r') (hv' : OpV G r' g) (ha : PE X a (rdE G E ma)) (hb : PE X b (rdE G E mb)) (hc : PE X c (rdE G E mc)) (hm : lastMarks [op, op'] [b, c] = false) : PE X (.Compare a [op, op'] [b, c] pos) (rdE G E (eChain f g ma mb mc)) :=
  PE.imp (pe_chain ho ho' ha hb hc hm) fun _ _ _ h => rd_chain hv hv' h
theorem q_tchain {op op' : CmpOp} {r r' : R2} {f g : DH.X → DH.X → Store → O DH.X} {ma mb mc : EM DH.X} (ho : OpR X (compareOp op) r) (hv : OpV G r f) (ho' : OpR X (compareOp op') r') (hv' : OpV G r' g) (ha : PE X a (rdE G E ma)) (hb : PE X b (rdE G E mb)) (hc : PE X c (rdE G E mc)) (hm : lastMarks [op, op'] [b, c] = false) : PT X (.Compare a [op, op'] [b, c] pos) (rdT G E (eTest (eChain f g ma mb mc))) := by
  refine PT.imp (pt_chain ho ho' ha hb hc hm) fun σ H Q h => ?_
  obtain ⟨F, ρ, sl, st, sk, R, h⟩ := rd_test h
  exact rd_chain hv hv' ⟨F, ρ, sl, st, sk, R, h⟩
/-! ### list(range(..)), tuple(range(..)) -/
def gListRg (mu : Bool) : DH.X → DH.X → Store → O DH.X := fun x y st => match x, y with
  | .d (.int i), .d (.int j) => (match int62 i && int62 j && Nat.ble (j - i).toNat 16777216 with
    | true => newL mu (upI i 1 (j - i).toNat) st
    | false => .bad)
  | _, _ => .bad
def gTupRg : DH.X → DH.X → Store → O DH.X := fun x y st => match x, y with
  | .d (.int i), .d (.int j) => (match int62 i && int62 j && Nat.ble (j - i).toNat 16777216 with
    | true => newT (upI i 1 (j - i).toNat) st
    | false => .bad)
  | _, _ => .bad
theorem upI_rel {N : Addr → Prop} {H : Hp} : ∀ (n : Nat) (i : Int), RelDs G N H (upI i 1 n) ((List.range n).map fun k => V.int (i + (k : Nat)))
  | 0, i => rfl
  | n + 1, i => by
    rw [List.range_succ_eq_map, List.map_cons, List.map_map]
    refine ⟨_, _, rfl, by show V.int _ = V.int _; simp, ?_⟩
    have := upI_rel (N := N) (H := H) n (i + 1)
    have e : ((fun k : Nat => V.int (i + (k : Nat))) ∘ Nat.succ) = fun k : Nat => V.int (i + 1 + (k : Nat)) := by
      funext k
      show V.int (i + ((k + 1 : Nat) : Int)) = V.int (i + 1 + (k : Int))
      congr 1
      omega
    rw [e]
    exact this
theorem rgOk_of {i j : Int} (h : (int62 i && int62 j && Nat.ble (j - i).toNat 16777216) = true) : RgOk i j := by
  rw [Bool.and_eq_true, Bool.and_eq_true] at h
  obtain ⟨b1, b2⟩ := int62_ok h.1.1
  obtain ⟨b3, b4⟩ := int62_ok h.1.2
  have := Nat.le_of_ble_eq_true h.2
  exact ⟨b1, b2, b3, b4, by omega⟩
def eRg1 (g : DH.X → DH.X → Store → O DH.X) (a : EM DH.X) : EM DH.X := fun sl st => (a sl st).bind fun x st1 => g (.d (.int 0)) x st1
theorem rd_rg1 {g : DH.X → DH.X → Store → O DH.X} {W : Int → Int → Hp → VK → Prop} (hg : ∀ (E : XK) F ρ H st i j Q, Rep G F ρ st H → PostG G E (rX G) F ρ H (g (.d (.int i)) (.d (.int j)) st) Q → W i j H Q) (hb : ∀ x st, g (.d (.int 0)) x st ≠ .bad → ∃ j, x = .d (.int j)) {ma : EM DH.X} {σ : L2.St} {H : Hp} {Q : VK} (h : rdE G E (eRg1 g ma) σ H Q) :
    tRg1 (rdE G E ma) σ H fun i j H1 => W i j H1 Q := by
  obtain ⟨F, ρ, sl, st, sk, R, h⟩ := h
  refine ⟨F, ρ, sl, st, sk, R, PostG.mono (PostG.bind (R := rX G) h) fun v H1 h1 => ?_⟩
  obtain ⟨x, st1, ρ1, s1, R1, r1, h1⟩ := h1
  have h1 : PostG G E (rX G) F ρ1 H1 (g (.d (.int 0)) x st1) Q := h1
  obtain ⟨j, rfl⟩ := hb x st1 fun z => by rw [z] at h1; exact h1
  exact ⟨j, r1, hg E F ρ1 H1 st1 0 j Q R1 h1⟩
theorem rd_rg2 {g : DH.X → DH.X → Store → O DH.X} {W : Int → Int → Hp → VK → Prop} (hg : ∀ (E : XK) F ρ H st i j Q, Rep G F ρ st H → PostG G E (rX G) F ρ H (g (.d (.int i)) (.d (.int j)) st) Q → W i j H Q) (hb : ∀ x y st, g x y st ≠ .bad → ∃ i j, x = .d (.int i) ∧ y = .d (.int j)) {ma mb : EM DH.X} {σ : L2.St} {H : Hp} {Q : VK} (h : rdE G E (eBin g ma mb) σ H Q) :
    tRg2 (rdE G E ma) (rdE G E mb) σ H fun i j H1 => W i j H1 Q := by
  obtain ⟨F, ρ, sl, st, sk, R, h⟩ := h
  refine ⟨F, ρ, sl, st, sk, R, PostG.mono (PostG.bind (R := rX G) h) fun v H1 h1 => ?_⟩
  obtain ⟨x, st1, ρ1, s1, R1, r1, h1⟩ := h1
  refine ⟨F, ρ1, sl, st1, sk.mono s1, R1, PostG.mono (PostG.bind (R := rX G) h1) fun w H2 h2 => ?_⟩
  obtain ⟨y, st2, ρ2, s2, R2, r2, h2⟩ := h2
  have h2 : PostG G E (rX G) F ρ2 H2 (g x y st2) Q := h2
  obtain ⟨i, j, rfl, rfl⟩ := hb x y st2 fun z => by rw [z] at h2; exact h2
  exact ⟨i, j, r1, r2, hg E F ρ2 H2 st2 i j Q R2 h2⟩
theorem listRg_ok {mu : Bool} (E : XK) (F : Addr → Prop) (ρ : List Addr) (H : Hp) (st : Store) (i j : Int) (Q : VK) (R : Rep G F ρ st H) (h : PostG G E (rX G) F ρ H (gListRg mu (.d (.int i)) (.d (.int j)) st) Q) : RgOk i j ∧ ∀ q, H q = none → Q (.ref q) (upd H q (.lst (rgV i j))) := by
  unfold gListRg at h
  simp only at h
  cases z : (int62 i && int62 j && Nat.ble (j - i).toNat 16777216) with
  | false => rw [z] at h; exact h.elim
  | true =>
    rw [z] at h
    exact ⟨rgOk_of z, fun q hq => newL_ok R (upI_rel _ _) hq h⟩
theorem tupRg_ok (E : XK) (F : Addr → Prop) (ρ : List Addr) (H : Hp) (st : Store) (i j : Int) (Q : VK) (R : Rep G F ρ st H) (h : PostG G E (rX G) F ρ H (gTupRg (.d (.int i)) (.d (.int j)) st) Q) : RgOk i j ∧ ∀ q, H q = none → Q (.ref q) (upd H q (.tup (rgV i j))) := by
  unfold gTupRg at h
  simp only at h
  cases z : (int62 i && int62 j && Nat.ble (j - i).toNat 16777216) with
  | false => rw [z] at h; exact h.elim
  | true =>
    rw [z] at h
    exact ⟨rgOk_of z, fun q hq => newT_ok R (upI_rel _ _) hq h⟩
theorem listRg_bad {mu : Bool} (x y : DH.X) (st : Store) (h : gListRg mu x y st ≠ .bad) : ∃ i j, x = .d (.int i) ∧ y = .d (.int j) := by
  cases x with
  | loc l => exact absurd rfl h
  | d u =>
    cases u with
    | int i =>
      cases y with
      | loc l => exact absurd rfl h
      | d w =>
        cases w with
        | int j => exact ⟨i, j, rfl, rfl⟩
        | _ => exact absurd rfl h
    | _ => exact absurd rfl h
theorem tupRg_bad (x y : DH.X) (st : Store) (h : gTupRg x y st ≠ .bad) : ∃ i j, x = .d (.int i) ∧ y = .d (.int j) := by
  cases x with
  | loc l => exact absurd rfl h
  | d u =>
    cases u with
    | int i =>
      cases y with
      | loc l => exact absurd rfl h
      | d w =>
        cases w with
        | int j => exact ⟨i, j, rfl, rfl⟩
        | _ => exact absurd rfl h
    | _ => exact absurd rfl h
variable {p2 pos2 : Pos} {ma mb : EM DH.X}
theorem q_listRg1 {mu : Bool} (hc : X.calm = true) (hg : Gl X "list") (hm : X.mg "list" = none) (hg2 : Gl X "range") (hm2 : X.mg "range" = none) (ha : PE X a (rdE G E ma)) (na : starEach [a] X.env = (false, eval a X.env) :: starEach [] X.env)
    (nb : starEach [.Call (.Name "range" p2) [a] [] pos2] X.env = (false, eval (.Call (.Name "range" p2) [a] [] pos2) X.env) :: starEach [] X.env) : PE X (.Call (.Name "list" p) [.Call (.Name "range" p2) [a] [] pos2] [] pos) (rdE G E (eRg1 (gListRg mu) ma)) :=
  PE.imp (pe_listRg hc hg hm (prg_1 hg2 hm2 ha na) nb) fun _ _ _ h => rd_rg1 listRg_ok (fun x st z => (listRg_bad _ _ st z).elim fun _ h => h.elim fun j h => ⟨j, h.2⟩) h
theorem q_tupRg1 (hc : X.calm = true) (hg : Gl X "tuple") (hm : X.mg "tuple" = none) (hg2 : Gl X "range") (hm2 : X.mg "range" = none) (ha : PE X a (rdE G E ma)) (na : starEach [a] X.env = (false, eval a X.env) :: starEach [] X.env)
    (nb : starEach [.Call (.Name "range" p2) [a] [] pos2] X.env = (false, eval (.Call (.Name "range" p2) [a] [] pos2) X.env) :: starEach [] X.env) : PE X (.Call (.Name "tuple" p) [.Call (.Name "range" p2) [a] [] pos2] [] pos) (rdE G E (eRg1 gTupRg ma)) :=
  PE.imp (pe_tupRg hc hg hm (prg_1 hg2 hm2 ha na) nb) fun _ _ _ h => rd_rg1 tupRg_ok (fun x st z => (tupRg_bad _ _ st z).elim fun _ h => h.elim fun j h => ⟨j, h.2⟩) h
theorem q_listRg2 {mu : Bool} (hc : X.calm = true) (hg : Gl X "list") (hm : X.mg "list" = none) (hg2 : Gl X "range") (hm2 : X.mg "range" = none) (ha : PE X a (rdE G E ma)) (hb : PE X b (rdE G E mb)) (na : starEach [a, b] X.env = (false, eval a X.env) :: starEach [b] X.env) (nb : starEach [b] X.env = (false, eval b X.env) :: starEach [] X.env) (hp : (backTo pos2 (starEach [b] X.env)).any (·.1) = false)
    (nc : starEach [.Call (.Name "range" p2) [a, b] [] pos2] X.env = (false, eval (.Call (.Name "range" p2) [a, b] [] pos2) X.env) :: starEach [] X.env) : PE X (.Call (.Name "list" p) [.Call (.Name "range" p2) [a, b] [] pos2] [] pos) (rdE G E (eBin (gListRg mu) ma mb)) :=
  PE.imp (pe_listRg hc hg hm (prg_2 hg2 hm2 ha hb na nb hp) nc) fun _ _ _ h => rd_rg2 listRg_ok listRg_bad h
theorem q_tupRg2 (hc : X.calm = true) (hg : Gl X "tuple") (hm : X.mg "tuple" = none) (hg2 : Gl X "range") (hm2 : X.mg "range" = none) (ha : PE X a (rdE G E ma)) (hb : PE X b (rdE G E mb)) (na : starEach [a, b] X.env = (false, eval a X.env) :: starEach [b] X.env) (nb : starEach [b] X.env = (false, eval b X.env) :: starEach [] X.env) (hp : (backTo pos2 (starEach [b] X.env)).any (·.1) = false)
    (nc : starEach [.Call (.Name "range" p2) [a, b] [] pos2] X.env = (false, eval (.Call (.Name "range" p2) [a, b] [] pos2) X.env) :: starEach [] X.env) : PE X (.Call (.Name "tuple" p) [.Call (.Name "range" p2) [a, b] [] pos2] [] pos) (rdE G E (eBin gTupRg ma mb)) :=
  PE.imp (pe_tupRg hc hg hm (prg_2 hg2 hm2 ha hb na nb hp) nc) fun _ _ _ h => rd_rg2 tupRg_ok tupRg_bad h
/-! ### slots forgotten -/
def keepO (ks : List Nat) : Nat → Slots → Slots
  | _, [] => []
  | i, x :: r => (match ks.contains i with
    | true => x
    | false => none) :: keepO ks (i + 1) r
theorem keepO_len (ks : List Nat) : ∀ (sl : Slots) (i : Nat), (keepO ks i sl).length = sl.length
  | [], i => rfl
  | x :: r, i => by unfold keepO; rw [List.length_cons, List.length_cons, keepO_len ks r]
theorem keepO_get (ks : List Nat) : ∀ (sl : Slots) (i j : Nat) (x : DH.X), (keepO ks i sl)[j]? = some (some x) → sl[j]? = some (some x)
  | [], i, j, x, h => by cases h
  | y :: r, i, 0, x, h => by
    unfold keepO at h
    simp only [List.getElem?_cons_zero] at h ⊢
    cases q : ks.contains i with
    | true => rw [q] at h; exact h
    | false => rw [q] at h; cases h
  | y :: r, i, j + 1, x, h => by
    unfold keepO at h
    simp only [List.getElem?_cons_succ] at h ⊢
    exact keepO_get ks r (i + 1) j x h
def sOnly (ks : List Nat) (m : SM) : SM := fun sl st => m (keepO ks 0 sl) st
theorem rd_only {ks : List Nat} {m : SM} {D : Ends} {σ : L2.St} {H : Hp} (h : rdS G E (sOnly ks m) D σ H) : rdS G E m D σ H := by
  obtain ⟨F, ρ, sl, st, sk, R, h⟩ := h
  exact ⟨F, ρ, keepO ks 0 sl, st, ⟨by rw [keepO_len]; exact sk.1, fun i x z => sk.2 i x (keepO_get ks sl 0 i x z)⟩, R, h⟩
theorem q_only {ks : List Nat} {m : SM} {ss : List Stmt} (h : PSs X ss (rdS G E m)) : PSs X ss (rdS G E (sOnly ks m)) := PSs.imp h fun _ _ _ h => rd_only h
end
end DH
namespace DH
open PySem PySem.Spec PyProof.Rows L2
/-! ### the order of data -/
def ltN : List Nat → List Nat → Bool
  | [], [] => false
  | [], _ :: _ => true
  | _ :: _, [] => false
  | a :: r, b :: t => (match Nat.blt a b with
    | true => true
    | false => (match Nat.beq a b with
      | true => ltN r t
      | false => false))
theorem ltN_eq : ∀ a b : List Nat, ltN a b = decide (a < b)
  | [], [] => by simp [ltN]
  | [], _ :: _ => by simp [ltN]
  | _ :: _, [] => by simp [ltN]
  | a :: r, b :: t => by
    unfold ltN
    cases q : Nat.blt a b with
    | true =>
      have h : a < b := Nat.le_of_ble_eq_true q
      symm
      exact decide_eq_true (List.Lex.rel h)
    | false =>
      have h : ¬ a < b := fun z => by
        rw [show Nat.blt a b = true from Nat.ble_eq_true_of_le z] at q; cases q
      cases q2 : Nat.beq a b with
      | true =>
        have e := Nat.eq_of_beq_eq_true q2
        subst e
        simp only
        rw [ltN_eq r t]
        refine decide_eq_decide.mpr ?_
        rw [List.cons_lt_cons_iff]
        simp
      | false =>
        have e := Nat.ne_of_beq_eq_false q2
        symm
        refine decide_eq_false ?_
        rw [List.cons_lt_cons_iff]
        rintro (z | z)
        · exact h z
        · exact e z.1
abbrev Tok := Int ⊕ List Nat
def ltT : Tok → Tok → Bool
  | .inl a, .inl b => ltI a b
  | .inl _, .inr _ => true
  | .inr _, .inl _ => false
  | .inr a, .inr b => ltN a b
theorem ltT_eq (a b : Tok) : ltT a b = itemLt a b := by
  cases a with
  | inl a =>
    cases b with
    | inl b => exact ltI_eq a b
    | inr b => rfl
  | inr a =>
    cases b with
    | inl b => rfl
    | inr b => exact ltN_eq a b
def lexB : List Tok → List Tok → Bool
  | [], [] => false
  | [], _ :: _ => true
  | _ :: _, [] => false
  | x :: r, y :: t => (match ltT x y with
    | true => true
    | false => (match ltT y x with
      | true => false
      | false => lexB r t))
theorem lexB_eq : ∀ a b : List Tok, lexB a b = lexLt itemOrd a b
  | [], [] => rfl
  | [], _ :: _ => rfl
  | _ :: _, [] => rfl
  | x :: r, y :: t => by
    unfold lexB
    show _ = (itemLt x y || (!itemLt y x && lexLt itemOrd r t))
    rw [ltT_eq, ltT_eq, lexB_eq r t]
    cases itemLt x y <;> cases itemLt y x <;> rfl
def tokF (f : D → List Tok) : List D → List Tok
  | [] => [.inl 0]
  | x :: xs => .inl 1 :: (f x ++ tokF f xs)
def toksD : Nat → D → List Tok
  | _, .bl b => [.inl (match b with | true => 1 | false => 0)]
  | _, .int i => [.inl i]
  | _, .str cs => [.inr cs]
  | n + 1, .tup _ xs => tokF (toksD n) xs
  | n + 1, .lst xs => tokF (toksD n) xs
  | _, _ => []
theorem toksD_eq : ∀ (n : Nat) (x : D), okD n x = true → toksD n x = PySem.W.keyToks (toPy x)
  | n, .non, h => by cases n <;> rfl
  | n, .bl b, h => by cases n <;> cases b <;> rfl
  | n, .int i, h => by cases n <;> rfl
  | n, .str cs, h => by
    have e : PySem.W.keyToks (toPy (.str cs)) = [.inr (strOf cs).cps.toList] := rfl
    rw [e]
    cases n <;> rfl
  | 0, .tup _ xs, h => by cases h
  | 0, .lst xs, h => by cases h
  | n + 1, .tup f xs, h => by
    have h' : allB (okD n) xs = true := h
    show tokF (toksD n) xs = PySem.W.keyToksAll (toPys xs)
    rw [allB_iff] at h'
    induction xs with
    | nil => rfl
    | cons y ys ih =>
      show Sum.inl 1 :: (toksD n y ++ tokF (toksD n) ys) = PySem.W.keyToksAll (toPy y :: toPys ys)
      rw [PySem.W.keyToksAll, toksD_eq n y (h' y (List.mem_cons_self ..)), ih (by show allB (okD n) ys = true; rw [allB_iff]; exact fun z hz => h' z (List.mem_cons_of_mem _ hz)) fun z hz => h' z (List.mem_cons_of_mem _ hz)]
  | n + 1, .lst xs, h => by
    have h' : allB (okD n) xs = true := h
    show tokF (toksD n) xs = PySem.W.keyToksAll (toPys xs)
    rw [allB_iff] at h'
    induction xs with
    | nil => rfl
    | cons y ys ih =>
      show Sum.inl 1 :: (toksD n y ++ tokF (toksD n) ys) = PySem.W.keyToksAll (toPy y :: toPys ys)
      rw [PySem.W.keyToksAll, toksD_eq n y (h' y (List.mem_cons_self ..)), ih (by show allB (okD n) ys = true; rw [allB_iff]; exact fun z hz => h' z (List.mem_cons_of_mem _ hz)) fun z hz => h' z (List.mem_cons_of_mem _ hz)]
  | 0, .dct _ _, h => by cases h
  | n + 1, .dct _ _, h => by cases h
  | 0, .obj _ _, h => by cases h
  | n + 1, .obj _ _, h => by cases h
/-! ### sorting -/
def insB {α : Type} (le : α → α → Bool) (x : α) : List α → List α
  | [] => [x]
  | y :: ys => (match le x y with
    | true => x :: y :: ys
    | false => y :: insB le x ys)
def sortB {α : Type} (le : α → α → Bool) : List α → List α
  | [] => []
  | x :: xs => insB le x (sortB le xs)
section
variable {α : Type} {le : α → α → Bool}
theorem insB_mem (x : α) : ∀ (l : List α) (z : α), z ∈ insB le x l → z = x ∨ z ∈ l
  | [], z, h => by
    unfold insB at h
    exact .inl (by simpa using h)
  | y :: ys, z, h => by
    unfold insB at h
    cases q : le x y with
    | true =>
      rw [q] at h
      rcases List.mem_cons.mp h with h | h
      · exact .inl h
      · exact .inr h
    | false =>
      rw [q] at h
      rcases List.mem_cons.mp h with h | h
      · exact .inr (by rw [h]; exact List.mem_cons_self ..)
      · rcases insB_mem x ys z h with h | h
        · exact .inl h
        · exact .inr (List.mem_cons_of_mem _ h)
theorem insB_pw (T : PySem.W.TotalLe le) (x : α) : ∀ l : List α, l.Pairwise (fun a b => le a b = true) → (insB le x l).Pairwise (fun a b => le a b = true)
  | [], _ => by unfold insB; exact List.pairwise_singleton ..
  | y :: ys, h => by
    unfold insB
    rw [List.pairwise_cons] at h
    cases q : le x y with
    | true =>
      simp only
      rw [List.pairwise_cons]
      refine ⟨fun z hz => ?_, List.pairwise_cons.mpr h⟩
      rcases List.mem_cons.mp hz with e | hz
      · rw [e]; exact q
      · exact T.trans x y z q (h.1 z hz)
    | false =>
      simp only
      rw [List.pairwise_cons]
      refine ⟨fun z hz => ?_, insB_pw T x ys h.2⟩
      rcases insB_mem x ys z hz with e | hz
      · rw [e]
        rcases T.total x y with t | t
        · rw [q] at t; cases t
        · exact t
      · exact h.1 z hz
theorem insB_filter (T : PySem.W.TotalLe le) (c x : α) : ∀ l : List α, (insB le x l).filter (PySem.W.sameRank le c) = (x :: l).filter (PySem.W.sameRank le c)
  | [] => rfl
  | y :: ys => by
    unfold insB
    cases q : le x y with
    | true => rfl
    | false =>
      simp only
      rw [List.filter_cons, insB_filter T c x ys, List.filter_cons (x := x), List.filter_cons (x := x), List.filter_cons (x := y)]
      cases r1 : PySem.W.sameRank le c x with
      | false => simp
      | true =>
        cases r2 : PySem.W.sameRank le c y with
        | false => simp
        | true =>
          exfalso
          unfold PySem.W.sameRank at r1 r2
          rw [Bool.and_eq_true] at r1 r2
          have := T.trans x c y r1.2 r2.1
          rw [q] at this; cases this
theorem sortB_eq (T : PySem.W.TotalLe le) (l : List α) : sortB le l = l.mergeSort le := by
  refine PySem.W.sort_unique T ?_ fun c => ?_
  · induction l with
    | nil => exact List.Pairwise.nil
    | cons x xs ih => exact insB_pw T x _ ih
  · induction l with
    | nil => rfl
    | cons x xs ih =>
      show (insB le x (sortB le xs)).filter _ = _
      rw [insB_filter T, List.filter_cons, ih, List.filter_cons]
end
def sameS : Nat → D → D → Bool
  | _, .bl _, .bl _ => true
  | _, .int _, .int _ => true
  | _, .str _, .str _ => true
  | n + 1, .tup _ a, .tup _ b => all2 (sameS n) a b
  | n + 1, .lst a, .lst b => all2 (sameS n) a b
  | _, _, _ => false
theorem alike_all {n : Nat} (ih : ∀ c a b : D, sameS n c a = true → sameS n c b = true → PySem.W.alike (toPy a) (toPy b) = true) : ∀ cs xs ys : List D, all2 (sameS n) cs xs = true → all2 (sameS n) cs ys = true → PySem.W.alikeAll (toPys xs) (toPys ys) = true
  | [], [], [], _, _ => rfl
  | [], x :: xs, ys, h, _ => by cases h
  | [], [], y :: ys, _, h => by cases h
  | c :: cs, [], ys, h, _ => by cases h
  | c :: cs, x :: xs, [], _, h => by cases h
  | c :: cs, x :: xs, y :: ys, h1, h2 => by
    unfold all2 at h1 h2
    cases q1 : sameS n c x with
    | false => rw [q1] at h1; cases h1
    | true =>
      cases q2 : sameS n c y with
      | false => rw [q2] at h2; cases h2
      | true =>
        rw [q1] at h1
        rw [q2] at h2
        show PySem.W.alikeAll (toPy x :: toPys xs) (toPy y :: toPys ys) = true
        rw [PySem.W.alikeAll, ih c x y q1 q2, alike_all ih cs xs ys h1 h2]
        rfl
theorem sameS_alike : ∀ (n : Nat) (c a b : D), sameS n c a = true → sameS n c b = true → PySem.W.alike (toPy a) (toPy b) = true := by
  intro n
  induction n with
  | zero =>
    intro c a b h1 h2
    cases c <;> cases a <;> cases b <;> first | rfl | exact Bool.noConfusion (show false = true from h1) | exact Bool.noConfusion (show false = true from h2)
  | succ n ih =>
    intro c a b h1 h2
    cases c with
    | tup f cs =>
      cases a with
      | tup f1 xs =>
        cases b with
        | tup f2 ys =>
          show PySem.W.alikeAll (toPys xs) (toPys ys) = true
          exact alike_all ih cs xs ys h1 h2
        | _ => cases h2
      | _ => cases h1
    | lst cs =>
      cases a with
      | lst xs =>
        cases b with
        | lst ys =>
          show PySem.W.alikeAll (toPys xs) (toPys ys) = true
          exact alike_all ih cs xs ys h1 h2
        | _ => cases h2
      | _ => cases h1
    | _ => cases a <;> cases b <;> first | rfl | exact Bool.noConfusion (show false = true from h1) | exact Bool.noConfusion (show false = true from h2)
/-- a tuple of integers, not empty -/
def isI : D → Bool
  | .int _ => true
  | _ => false
def intTup : D → Bool
  | .tup _ (x :: r) => isI x && allB isI r
  | _ => false
/-- may be sorted -/
def sortOk (xs : List D) : Bool := match xs with
  | [] => true
  | c :: _ => (match c with
    | .tup _ [] => false
    | _ => (match allB (fun x => okD 62 x && sameS 62 c x) xs with
      | true => true
      | false => allB (fun x => okD 62 x && intTup x) xs))
theorem alike_ints : ∀ (xs ys : List D), (∀ x ∈ xs, isI x = true) → (∀ y ∈ ys, isI y = true) → PySem.W.alikeAll (toPys xs) (toPys ys) = true
  | [], ys, _, _ => by cases ys <;> rfl
  | x :: xs, [], _, _ => rfl
  | x :: xs, y :: ys, h1, h2 => by
    have i1 := h1 x (List.mem_cons_self ..)
    have i2 := h2 y (List.mem_cons_self ..)
    cases x with
    | int a =>
      cases y with
      | int b =>
        show PySem.W.alikeAll (PyData.int a :: toPys xs) (PyData.int b :: toPys ys) = true
        rw [PySem.W.alikeAll, alike_ints xs ys (fun x hx => h1 x (List.mem_cons_of_mem _ hx)) (fun y hy => h2 y (List.mem_cons_of_mem _ hy))]
        rfl
      | _ => cases i2
    | _ => cases i1
theorem intTup_iff {x : D} (h : intTup x = true) : ∃ f y r, x = .tup f (y :: r) ∧ ∀ z ∈ y :: r, isI z = true := by
  cases x with
  | tup f ys =>
    cases ys with
    | nil => cases h
    | cons y r =>
      have h : (isI y && allB isI r) = true := h
      obtain ⟨h1, h2⟩ := Bool.and_eq_true_iff.mp h
      rw [allB_iff] at h2
      refine ⟨f, y, r, rfl, fun z hz => ?_⟩
      rcases List.mem_cons.mp hz with rfl | hz
      · exact h1
      · exact h2 z hz
  | _ => cases h
def leD (a b : D) : Bool := match a, b with
  | .int i, .int j => !ltI j i
  | .str i, .str j => !ltN j i
  | _, _ => !lexB (toksD 62 b) (toksD 62 a)
theorem lex1 (a b : Tok) : lexB [a] [b] = ltT a b := by
  unfold lexB
  cases q : ltT a b with
  | true => rfl
  | false =>
    show (match ltT b a with | true => false | false => lexB [] []) = false
    cases ltT b a <;> rfl
theorem leD_lex (a b : D) : leD a b = !lexB (toksD 62 b) (toksD 62 a) := by
  unfold leD
  split
  · show _ = !lexB [.inl _] [.inl _]
    rw [lex1]
    rfl
  · show _ = !lexB [.inr _] [.inr _]
    rw [lex1]
    rfl
  · rfl
theorem leD_eq {a b : D} (ha : okD 62 a = true) (hb : okD 62 b = true) : leD a b = PySem.W.dataLe false toPy a b := by
  rw [leD_lex]
  rw [PySem.W.dataLe_eq, toksD_eq 62 a ha, toksD_eq 62 b hb, lexB_eq]
  rfl
theorem sortOk_all {xs : List D} (h : sortOk xs = true) : ∀ x ∈ xs, okD 62 x = true := by
  cases xs with
  | nil => exact fun x hx => by cases hx
  | cons c r =>
    unfold sortOk at h
    simp only at h
    split at h
    · cases h
    · split at h
      · rename_i h'
        rw [allB_iff] at h'
        exact fun x hx => (Bool.and_eq_true_iff.mp (h' x hx)).1
      · rw [allB_iff] at h
        exact fun x hx => (Bool.and_eq_true_iff.mp (h x hx)).1
theorem sortOk_alike {xs : List D} (h : sortOk xs = true) : PySem.W.AllAlike (xs.map toPy) ∧ PySem.W.Sortable (xs.map toPy) := by
  cases xs with
  | nil => exact ⟨(fun d hd => by cases hd), Or.inl (fun d hd => by cases hd)⟩
  | cons c r =>
    unfold sortOk at h
    simp only at h
    split at h
    · cases h
    split at h
    rotate_left
    · rw [allB_iff] at h
      have ht : ∀ x ∈ c :: r, intTup x = true := fun x hx => (Bool.and_eq_true_iff.mp (h x hx)).2
      refine ⟨fun d hd d' hd' => ?_, .inl fun d hd => ?_⟩
      · obtain ⟨x, hx, rfl⟩ := List.mem_map.mp hd
        obtain ⟨y, hy, rfl⟩ := List.mem_map.mp hd'
        obtain ⟨f1, x0, xr, rfl, a1⟩ := intTup_iff (ht x hx)
        obtain ⟨f2, y0, yr, rfl, a2⟩ := intTup_iff (ht y hy)
        show PySem.W.alikeAll (toPys (x0 :: xr)) (toPys (y0 :: yr)) = true
        exact alike_ints _ _ a1 a2
      · obtain ⟨x, hx, rfl⟩ := List.mem_map.mp hd
        obtain ⟨f1, x0, xr, rfl, a1⟩ := intTup_iff (ht x hx)
        exact ⟨_, _, rfl⟩
    · rename_i hne _ h0
      clear h
      have h := h0
      rw [allB_iff] at h
      have hs : ∀ x ∈ c :: r, sameS 62 c x = true := fun x hx => (Bool.and_eq_true_iff.mp (h x hx)).2
      refine ⟨fun d hd d' hd' => ?_, ?_⟩
      · obtain ⟨x, hx, rfl⟩ := List.mem_map.mp hd
        obtain ⟨y, hy, rfl⟩ := List.mem_map.mp hd'
        exact sameS_alike 62 c x y (hs x hx) (hs y hy)
      · cases c with
        | tup f cs =>
          cases cs with
          | nil => exact absurd rfl (hne f)
          | cons c0 cr =>
            refine .inl fun d hd => ?_
            obtain ⟨x, hx, rfl⟩ := List.mem_map.mp hd
            have := hs x hx
            cases x with
            | tup f2 ys =>
              cases ys with
              | nil => cases this
              | cons y0 yr => exact ⟨_, _, rfl⟩
            | _ => cases this
        | non =>
          have := hs .non (List.mem_cons_self ..)
          cases this
        | dct tk kv =>
          have := hs (.dct tk kv) (List.mem_cons_self ..)
          cases this
        | obj k fs =>
          have := hs (.obj k fs) (List.mem_cons_self ..)
          cases this
        | bl b0 =>
          refine .inr fun d hd => ?_
          obtain ⟨x, hx, rfl⟩ := List.mem_map.mp hd
          have := hs x hx
          cases x <;> first | exact Bool.noConfusion (show false = true from this) | exact ⟨(fun z => by cases z), (fun xs z => by cases z)⟩
        | int b0 =>
          refine .inr fun d hd => ?_
          obtain ⟨x, hx, rfl⟩ := List.mem_map.mp hd
          have := hs x hx
          cases x <;> first | exact Bool.noConfusion (show false = true from this) | exact ⟨(fun z => by cases z), (fun xs z => by cases z)⟩
        | str b0 =>
          refine .inr fun d hd => ?_
          obtain ⟨x, hx, rfl⟩ := List.mem_map.mp hd
          have := hs x hx
          cases x <;> first | exact Bool.noConfusion (show false = true from this) | exact ⟨(fun z => by cases z), (fun xs z => by cases z)⟩
        | lst b0 =>
          refine .inr fun d hd => ?_
          obtain ⟨x, hx, rfl⟩ := List.mem_map.mp hd
          have := hs x hx
          cases x <;> first | exact Bool.noConfusion (show false = true from this) | exact ⟨(fun z => by cases z), (fun xs z => by cases z)⟩
theorem total_data {β : Type} (k : β → PyData) : PySem.W.TotalLe (PySem.W.dataLe false k) := PySem.W.sortLe_total _ false _
theorem sort_pairs {bs : List (V × D)} (h : sortOk (bs.map (·.2)) = true) : (bs.mergeSort (PySem.W.dataLe false fun b => toPy b.2)).map (·.2) = sortB leD (bs.map (·.2)) := by
  have e1 : (bs.mergeSort (PySem.W.dataLe false fun b => toPy b.2)).map (·.2) = (bs.map (·.2)).mergeSort (PySem.W.dataLe false toPy) := PySem.W.sort_maps (r := PySem.W.dataLe false fun b : V × D => toPy b.2) (s := PySem.W.dataLe false toPy) (fun p : V × D => p.2) fun a _ b _ => rfl
  have all := sortOk_all h
  rw [e1]
  generalize bs.map (·.2) = xs at all
  rw [← sortB_eq (total_data toPy)]
  -- the two orders agree on the items
  have ins : ∀ (x : D) (l : List D), okD 62 x = true → (∀ y ∈ l, okD 62 y = true) → insB (PySem.W.dataLe false toPy) x l = insB leD x l := by
    intro x l hx
    induction l with
    | nil => exact fun _ => rfl
    | cons y ys ih =>
      intro hl
      unfold insB
      rw [leD_eq hx (hl y (List.mem_cons_self ..)), ih fun z hz => hl z (List.mem_cons_of_mem _ hz)]
  have mem : ∀ (l : List D), ∀ z ∈ sortB leD l, z ∈ l := by
    intro l
    induction l with
    | nil => exact fun z hz => hz
    | cons y ys ih =>
      intro z hz
      rcases insB_mem y _ z hz with e | hz
      · rw [e]; exact List.mem_cons_self ..
      · exact List.mem_cons_of_mem _ (ih z hz)
  induction xs with
  | nil => rfl
  | cons x xs ih =>
    show insB _ x (sortB _ xs) = insB _ x (sortB _ xs)
    rw [ih fun z hz => all z (List.mem_cons_of_mem _ hz), ins x _ (all x (List.mem_cons_self ..)) fun y hy => all y (List.mem_cons_of_mem _ (mem xs y hy))]
/-! ### sorted(x) -/
abbrev enc2 : V × D → PyData := fun b => toPy b.2
def SortIn (K : PySem.W.Frag) (H : Hp) (bs : List (V × D)) (Q : VK) : Prop :=
  (∀ b ∈ bs, Dp K H b.1 (toPy b.2)) ∧ sortOk (bs.map (·.2)) = true ∧ bs.length ≤ sizeLine ∧ ∀ p, H p = none → Q (.ref p) (upd H p (.lst ((bs.mergeSort (PySem.W.dataLe false enc2)).map (·.1))))
theorem each_vals {X : Cx} {pins : List (Addr × Obj)} {σ : L2.St} {H : Hp} {s : Shared} (I : Inv X pins σ H s) : ∀ {bs : List (V × D)} {its : List Value}, Vals (bs.map (·.1)) its → (∀ b ∈ bs, Dp X.K H b.1 (toPy b.2)) →
    PySem.W.EachIs (fun v b => RelV b.1 v) its bs ∧ PySem.W.EachIs (fun v b => ∃ as, Reads s.heap v (enc2 b) as) its bs
  | [], its, r, h => by
    have r' : Vals [] its := r
    cases r'
    exact ⟨.nil, .nil⟩
  | b :: bs, its, r, h => by
    have r' : Vals (b.1 :: bs.map (·.1)) its := r
    cases r' with
    | cons r1 r2 =>
      obtain ⟨e1, e2⟩ := each_vals I r2 fun x hx => h x (List.mem_cons_of_mem _ hx)
      exact ⟨.cons r1 e1, .cons (Dp.reads I _ _ _ (h b (List.mem_cons_self ..)) r1) e2⟩
theorem vals_each : ∀ {bs : List (V × D)} {out : List Value}, PySem.W.EachIs (fun v (b : V × D) => RelV b.1 v) out bs → Vals (bs.map (·.1)) out
  | _, _, .nil => .nil
  | _, _, .cons h t => .cons h (vals_each t)
theorem okD_depth62 {x : D} (h : okD 62 x = true) : (toPy x).depth ≤ 62 := (okD_depth 62 x h).1
theorem room62 {u : Nat} {x : D} (hu : u + 65 < cLine) (h : okD 62 x = true) : u + 2 + (toPy x).depth < cLine := by
  have := okD_depth62 h
  omega
abbrev rSortL (K : PySem.W.Frag) : List V → Hp → VK → Prop := fun vs H Q => ∃ (a : Addr) (bs : List (V × D)), vs = [V.ref a] ∧ SqL K H a (bs.map (·.1)) ∧ SortIn K H bs Q
theorem enc_map (bs : List (V × D)) : bs.map enc2 = (bs.map (·.2)).map toPy := by rw [List.map_map]; rfl
theorem sort_list {X : Cx} (hu : X.A.units + 65 < cLine) : CallR X (.builtin "sorted") (rSortL X.K) := by
  intro pins s σ H vs us Q I r h
  obtain ⟨a, bs, rfl, hs, hd, ok, hL, q⟩ := h
  obtain ⟨its, rv, hl, _⟩ := I.list hs
  rw [Vals.ref1 r]
  obtain ⟨e1, e2⟩ := each_vals I rv hd
  obtain ⟨al, so⟩ := sortOk_alike ok
  have all := sortOk_all ok
  refine PySem.W.sorted_data (enc := enc2) hl.isList e1 e2 (by rw [enc_map]; exact al) (by rw [enc_map]; exact so) hL (fun b hb => room62 hu (all b.2 (List.mem_map.mpr ⟨b, hb, rfl⟩))) fun out ho eo => ?_
  obtain ⟨ep, he'⟩ := PyProof.Rows.sortedAll_at s.heap its out.toArray
  have rv2 := vals_each eo
  have hlen : ((bs.mergeSort (PySem.W.dataLe false enc2)).map (·.1)).length ≤ sizeLine := by rw [List.length_map, List.length_mergeSort]; exact hL
  exact ⟨.ref _, upd H (s.heap.objs.size + 1) (.lst _), I.laid (t' := s.toks) (fun _ _ => PyProof.Rows.sortedAll_old) (Nat.le_succ _) ⟨hlen, out, ep, rv2, he'⟩, rfl, q _ (I.hok.fresh (Nat.le_succ _))⟩
mutual
theorem reads_at {h : Heap} : ∀ (d : PyData) (v : Value) (as : List Addr), PySem.W.alike d d = true → Reads h v d as → ∀ a ∈ as, ∃ o, h.get? a = some o
  | .none, _, _, _, r => by cases r; exact fun a ha => by cases ha
  | .bool _, _, _, _, r => by cases r; exact fun a ha => by cases ha
  | .int _, _, _, _, r => by cases r; exact fun a ha => by cases ha
  | .str _, _, _, _, r => by cases r; exact fun a ha => by cases ha
  | .list xs, _, _, hal, r => by
    cases r with
    | list h1 h2 h3 h4 =>
      intro a ha
      rcases List.mem_cons.mp ha with e | ha
      · rw [e]; exact ⟨_, h1⟩
      · exact readsAll_at xs _ _ (by simpa [PySem.W.alike] using hal) h4 a ha
  | .tuple xs, _, _, hal, r => by
    cases r with
    | tuple h1 h2 h3 h4 => exact readsAll_at xs _ _ (by simpa [PySem.W.alike] using hal) h4
  | .dict _, _, _, hal, _ => absurd hal (by simp [PySem.W.alike])
theorem readsAll_at {h : Heap} : ∀ (ds : List PyData) (vs : List Value) (as : List Addr), PySem.W.alikeAll ds ds = true → ReadsAll h vs ds as → ∀ a ∈ as, ∃ o, h.get? a = some o
  | [], _, _, _, r => by cases r; exact fun a ha => by cases ha
  | d :: ds, _, _, hal, r => by
    cases r with
    | cons h1 h2 =>
      intro a ha
      rcases List.mem_append.mp ha with ha | ha
      · exact reads_at d _ _ (PySem.W.alike_all_cons hal).1 h1 a ha
      · exact readsAll_at ds _ _ (PySem.W.alike_all_cons hal).2 h2 a ha
end
theorem each_not {h : Heap} {D0 : Addr} (hn : h.get? D0 = none) : ∀ {bs : List (V × D)} {its : List Value}, PySem.W.EachIs (fun v b => ∃ as, Reads h v (enc2 b) as) its bs → (∀ b ∈ bs, PySem.W.alike (enc2 b) (enc2 b) = true) → PySem.W.EachIs (fun v b => ∃ as, Reads h v (enc2 b) as ∧ D0 ∉ as) its bs
  | _, _, .nil, _ => .nil
  | _, _, .cons h1 t, al => by
    obtain ⟨as, r⟩ := h1
    refine .cons ⟨as, r, fun z => ?_⟩ (each_not hn t fun b hb => al b (List.mem_cons_of_mem _ hb))
    obtain ⟨o, e⟩ := reads_at _ _ _ (al _ (List.mem_cons_self ..)) r D0 z
    rw [hn] at e; cases e
/-- sorted(x), x's items collected -/
theorem sort_coll {X : Cx} {pins : List (Addr × Obj)} {σ : L2.St} {H : Hp} {s : Shared} {a : Addr} {bs : List (V × D)} {Q : VK} (hu : X.A.units + 65 < cLine) (I : Inv X pins σ H s)
    (coll : ∀ R' : List Value → Shared → Prop, (∀ (h' : Heap) (tk : Nat) (acc : Array Value), (∀ b o, s.heap.get? b = some o → h'.get? b = some o) → Vals (bs.map (·.1)) acc.toList → R' acc.toList { s with heap := h', toks := tk }) → ∀ E', wpAny (model X.prog X.w) X.A.in1 (collect (.ref a)) R' E' s)
    (qq : SortIn X.K H bs Q) : wpAny (model X.prog X.w) X.A (call (.builtin "sorted") [.ref a]) (EP X pins σ Q) X.xe s := by
  obtain ⟨hd, ok, hL, q⟩ := qq
  obtain ⟨al, so⟩ := sortOk_alike ok
  have all := sortOk_all ok
  refine Calls.call_function_entry PyProof.Rows.kind_sorted PyProof.Rows.plain_sorted PyProof.Rows.entry_sorted (PyProof.Rows.args_sorted1 _) ?_
  unfold Builtin.«sorted»
  refine wpAny_bind (m := checkCount "sorted" 1 1 _) (wpAny_pure ?_)
  refine wpAny_bind (coll _ (fun h' tk acc hk rv => ?_) _)
  have I1 : Inv X pins σ H { s with heap := h', toks := tk } := I.kept hk
  have hal : acc.toList.length = bs.length := by rw [← rv.length, List.length_map]
  obtain ⟨e1, e2⟩ := each_vals I1 rv hd
  refine wpAny_bind (wpAny_newList ?_ (by rw [hal]; exact hL))
  have hoL : (h'.push (seqObj "list" acc.toList.toArray 0)).get? h'.objs.size = some (seqObj "list" acc.toList.toArray 0) := Heap.get?_push_size _ rfl
  show wpAny _ _ _ _ _ { s with heap := h'.push (seqObj "list" acc.toList.toArray 0), toks := tk }
  have al1 : ∀ b ∈ bs, PySem.W.alike (enc2 b) (enc2 b) = true := fun b hb => al _ (List.mem_map.mpr ⟨b.2, List.mem_map.mpr ⟨b, hb, rfl⟩, rfl⟩) _ (List.mem_map.mpr ⟨b.2, List.mem_map.mpr ⟨b, hb, rfl⟩, rfl⟩)
  have hn0 : h'.get? h'.objs.size = none := by
    cases z : h'.get? h'.objs.size with
    | none => rfl
    | some o => exact absurd (Heap.lt_size z) (Nat.lt_irrefl _)
  have e3 : PySem.W.EachIs (fun v b => ∃ as, Reads (h'.push (seqObj "list" acc.toList.toArray 0)) v (enc2 b) as ∧ h'.objs.size ∉ as) acc.toList bs :=
    (each_not hn0 e2 al1).mono fun v b ⟨as, r, n⟩ => ⟨as, PyProof.Rows.Reads.keeps (fun _ _ e => Heap.get?_push_of_some _ e) r, n⟩
  refine wpAny_bind (wpAny_holding (PySem.W.list_sort_data (enc := enc2) (s := { s with heap := h'.push (seqObj "list" acc.toList.toArray 0), toks := tk }) hoL e1 e3 (by rw [enc_map]; exact al) (by rw [enc_map]; exact so) hL (fun b hb => by
    have := room62 hu (all b.2 (List.mem_map.mpr ⟨b, hb, rfl⟩))
    show X.A.in1.units + 1 + (enc2 b).depth < cLine
    have e : X.A.in1.units = X.A.units + 1 := rfl
    rw [e]
    show X.A.units + 1 + 1 + (toPy b.2).depth < cLine
    omega) fun out ho eo => ?_))
  obtain ⟨e', he'⟩ := PyProof.Rows.sortedHeap_at (vs := acc.toList) (out := out.toArray) hoL
  have rv2 := vals_each eo
  have hlen : ((bs.mergeSort (PySem.W.dataLe false enc2)).map (·.1)).length ≤ sizeLine := by rw [List.length_map, List.length_mergeSort]; exact hL
  refine wpAny_pure ⟨_, rfl, .ref h'.objs.size, upd H h'.objs.size (.lst _), I1.laid (t' := tk) (fun b u e => ?_) (Nat.le_refl _)
    (show ObjOk X.prog X.w _ _ _ (.lst _) from ⟨hlen, out, e', rv2, he'⟩), rfl, q _ (I1.hok.fresh (Nat.le_refl _))⟩
  have hb : b < h'.objs.size := Heap.lt_size e
  rw [PyProof.Rows.sortedHeap_old (Nat.ne_of_lt hb) (by rw [size_push']; exact Nat.lt_succ_of_lt hb)]
  exact Heap.get?_push_of_some _ e
/-- sorted(d): ints, texts; tuples of such -/
abbrev rSortK (K : PySem.W.Frag) : List V → Hp → VK → Prop := fun vs H Q => ∃ (a : Addr) (kvs : List (Key × V)) (bs : List (V × D)), vs = [V.ref a] ∧ H a = some (.dK kvs) ∧ bs.map (·.1) = kvs.map (fun p => kV p.1) ∧ SortIn K H bs Q
abbrev rSortT (K : PySem.W.Frag) : List V → Hp → VK → Prop := fun vs H Q => ∃ (a : Addr) (kvs : List (List Key × V)), vs = [V.ref a] ∧ H a = some (.dT kvs) ∧ ∀ ps : List Addr, IsKeys H kvs ps → ∃ bs : List (V × D), bs.map (·.1) = ps.map V.ref ∧ SortIn K H bs Q
theorem sort_dT {X : Cx} (hc : X.calm = true) (hu : X.A.units + 65 < cLine) : CallR X (.builtin "sorted") (rSortT X.K) := by
  intro pins s σ H xs us Q I r h
  obtain ⟨d, kvs, rfl, hd, q⟩ := h
  rw [Vals.ref1 r]
  obtain ⟨z, hs, ks, pr, o, es, ep, ho, hx, hdt, he, hn⟩ := (show ObjOk X.prog X.w H s.heap d (.dT kvs) from I.hok d _ hd)
  have l1 : es.size = ks.length := size_of_entries he
  have l2 : kvs.length = ks.length := Paired.length pr
  obtain ⟨bs, eb, q⟩ := q _ (isKeys_of pr)
  refine sort_coll hu I (fun R' hR E' => ?_) q
  refine PySem.W.kdu_collect (A := X.A.in1) (kdl_raw hs hx hdt) (I.ok.hd hc) ho (by omega) fun h' tk acc' kp it => ?_
  refine hR h' tk acc' kp ?_
  have ea : acc'.toList = ks.map fun x => Value.ref x.2.1 := by
    have hl : acc'.toList.length = ks.length := by rw [Array.length_toList, it.1]; exact l1
    apply List.ext_getElem?
    intro j
    rw [List.getElem?_map]
    cases hj : acc'.toList[j]? with
    | none =>
      have h1 := List.getElem?_eq_none_iff.mp hj
      rw [List.getElem?_eq_none (by omega)]
      all_goals rfl
    | some v =>
      obtain ⟨en, hen, hv⟩ := it.2 j v (by rw [← Array.getElem?_toList]; exact hj)
      have qe := entry_at he j
      rw [hen] at qe
      cases hb : ks[j]? with
      | none =>
        rw [hb] at qe
        exact nomatch (show some en = none from qe)
      | some b =>
        rw [hb] at qe
        have e2 : en = entryOfKey (tupleKind (mixKind X.prog X.w)) b := Option.some.inj qe
        rw [hv, e2]
        all_goals rfl
  have eb2 : acc'.toList = (ks.map fun x => x.2.1).map Value.ref := by rw [ea, List.map_map]; all_goals rfl
  rw [eb2, eb]
  exact vals_refs _
theorem sort_dK {X : Cx} (hc : X.calm = true) (hu : X.A.units + 65 < cLine) : CallR X (.builtin "sorted") (rSortK X.K) := by
  intro pins s σ H xs us Q I r h
  obtain ⟨a, kvs, bs, rfl, hd, eb, q⟩ := h
  rw [Vals.ref1 r]
  obtain ⟨z, lo, vs, rel, dd⟩ := dk_rd I.hok (.inl hd)
  obtain ⟨ep, hat⟩ := dd.dictAt
  have l2 := rel.length
  refine sort_coll hu I (fun R' hR E' => ?_) q
  refine PySem.W.kdu_collect (A := X.A.in1) (PySem.W.kdl_dict (knd := mixKind X.prog X.w) (kvs := vs) (ep := ep) lo) (I.ok.hd hc) hat (by rw [← l2]; exact z) fun h' tk acc hk hacc => ?_
  refine hR h' tk acc hk ?_
  rw [eb]
  have hkeys : kvs.map (·.1) = vs.map (·.1) := rel.keys
  have e1 : kvs.map (fun p => kV p.1) = (vs.map (·.1)).map kV := by rw [← hkeys, List.map_map]; rfl
  rw [e1]
  have hal : acc.toList.length = (vs.map (·.1)).length := by rw [Array.length_toList, hacc.1, List.length_map]
  have key : ∀ (ks : List Key) (us : List Value), us.length = ks.length → (∀ (j : Nat) (v : Value), us[j]? = some v → ∃ k, ks[j]? = some k ∧ keyIs k v = true) → Vals (ks.map kV) us := by
    intro ks
    induction ks with
    | nil =>
      intro us hl _
      cases us with
      | nil => exact .nil
      | cons _ _ => cases hl
    | cons k ks ih =>
      intro us hl h
      cases us with
      | nil => cases hl
      | cons u us =>
        obtain ⟨k', e, hk'⟩ := h 0 u rfl
        have e' : k = k' := Option.some.inj e
        subst e'
        refine .cons ?_ (ih us (by simpa using hl) fun j v e => h (j + 1) v e)
        rcases keyIs_shape hk' with ⟨i, t, ek, ev⟩ | ⟨z, t, ek, ev⟩
        · subst ek ev
          exact ⟨t, rfl⟩
        · subst ek ev
          exact ⟨t, rfl⟩
  refine key _ _ hal fun j v e => ?_
  obtain ⟨k, x, e1, e2⟩ := hacc.2 j v (by rw [← Array.getElem?_toList]; exact e)
  exact ⟨k, by rw [List.getElem?_map, e1]; rfl, e2⟩
section
variable {G : Gm} {E : XK}
theorem Rep.notTup {F : Addr → Prop} {ρ : List Addr} {st : Store} {H : Hp} (R : Rep G F ρ st H) {b : Addr} {vs : List V} (h : H b = some (.tup vs)) : ¬ Nn F ρ b := fun z => by
  rcases z with z | z
  · obtain ⟨o, e, _, e2⟩ := R.fin b z
    rw [h] at e
    exact e2 vs (Option.some.inj e).symm
  · obtain ⟨l, hl, e⟩ := List.mem_iff_getElem.mp z
    have hs : l < st.length := by rw [← R.len]; exact hl
    have q := R.obj l b st[l] (by rw [List.getElem?_eq_getElem hl, e]) (List.getElem?_eq_getElem hs)
    cases ho : st[l] with
    | lst xs =>
      rw [ho] at q
      obtain ⟨vs, e, _⟩ := q
      rw [h] at e; cases e
    | dct tk kvs =>
      rw [ho] at q
      rcases q with ⟨ps, e, _⟩ | ⟨ps, e, _⟩ <;> (rw [h] at e; cases e)
    | ins c fs =>
      rw [ho] at q
      obtain ⟨dx, ps, e, _⟩ := q
      rw [h] at e; cases e
    | orc l =>
      rw [ho] at q
      obtain ⟨x, y, z, e, _⟩ := q
      rw [h] at e; cases e
theorem rel_zip {N : Addr → Prop} {H : Hp} : ∀ {xs : List D} {vs : List V}, RelDs G N H xs vs → ∃ bs : List (V × D), bs.map (·.1) = vs ∧ bs.map (·.2) = xs ∧ ∀ b ∈ bs, RelD G N H b.2 b.1
  | [], vs, h => ⟨[], (show vs = [] from h).symm, rfl, fun b hb => by cases hb⟩
  | x :: xs, vs, h => by
    obtain ⟨v, r, e, h1, h2⟩ := h
    obtain ⟨bs, e1, e2, e3⟩ := rel_zip h2
    refine ⟨(v, x) :: bs, by rw [e, ← e1]; rfl, by rw [← e2]; rfl, fun b hb => ?_⟩
    rcases List.mem_cons.mp hb with z | hb
    · rw [z]; exact h1
    · exact e3 b hb
theorem zip_rel {N : Addr → Prop} {H : Hp} : ∀ {bs : List (V × D)}, (∀ b ∈ bs, RelD G N H b.2 b.1) → RelDs G N H (bs.map (·.2)) (bs.map (·.1))
  | [], _ => rfl
  | b :: bs, h => ⟨b.1, bs.map (·.1), rfl, h b (List.mem_cons_self ..), zip_rel fun x hx => h x (List.mem_cons_of_mem _ hx)⟩
theorem sortIn_ok {F : Addr → Prop} {ρ : List Addr} {H : Hp} {st : Store} {mu : Bool} {bs : List (V × D)} {Q : VK} (R : Rep G F ρ st H) (hr : ∀ b ∈ bs, RelD G (Nn F ρ) H b.2 b.1) (ok : sortOk (bs.map (·.2)) = true) (hz : small bs.length = true) (h : PostG G E (rX G) F ρ H (newL mu (sortB leD (bs.map (·.2))) st) Q) : SortIn G.K H bs Q := by
  have all := sortOk_all ok
  refine ⟨fun b hb => RelD.dp b.2 (hr b hb) (all b.2 (List.mem_map.mpr ⟨b, hb, rfl⟩)), ok, small_ok hz, fun p hp => newL_ok R ?_ hp h⟩
  rw [← sort_pairs ok]
  exact zip_rel fun b hb => hr b (List.mem_mergeSort.mp hb)
def gSorted (mu : Bool) : D → Store → O X := fun a st => match a with
  | .lst xs => (match sortOk xs && small xs.length with
    | true => newL mu (sortB leD xs) st
    | false => .bad)
  | .dct _ kvs => (match sortOk (kvs.map (·.1)) && small kvs.length with
    | true => newL mu (sortB leD (kvs.map (·.1))) st
    | false => .bad)
  | _ => .bad
theorem key_rel {N : Addr → Prop} {H : Hp} {k : D} {q : Key} (h : keyOf k = some q) : RelD G N H k (kV q) := by
  cases k with
  | int i =>
    have e : Sum.inl i = q := Option.some.inj h
    subst e
    exact (rfl : V.int i = V.int i)
  | str cs =>
    have e : Sum.inr (strOf cs) = q := Option.some.inj h
    subst e
    exact (rfl : V.str _ = V.str _)
  | _ => cases h
theorem keys_rel {N : Addr → Prop} {H : Hp} : ∀ {ks : List D} {q : List Key}, keysOf ks = some q → RelDs G N H ks (q.map kV)
  | [], q, h => by
    have e : [] = q := Option.some.inj h
    rw [← e]; rfl
  | k :: ks, q, h => by
    unfold keysOf at h
    cases z1 : keyOf k with
    | none => rw [z1] at h; cases h
    | some p =>
      cases z2 : keysOf ks with
      | none => rw [z1, z2] at h; cases h
      | some ps =>
        rw [z1, z2] at h
        have e : p :: ps = q := Option.some.inj h
        rw [← e]
        exact ⟨kV p, ps.map kV, rfl, key_rel z1, keys_rel z2⟩
theorem relK_bs {N : Addr → Prop} {H : Hp} : ∀ {kvs : List (D × D)} {ps : List (Key × V)}, RelK G N H kvs ps → ∃ bs : List (V × D), bs.map (·.1) = ps.map (fun p => kV p.1) ∧ bs.map (·.2) = kvs.map (·.1) ∧ ∀ b ∈ bs, RelD G N H b.2 b.1
  | [], ps, h => ⟨[], by rw [show ps = [] from h]; rfl, rfl, fun b hb => by cases hb⟩
  | (k, x) :: xs, ps, h => by
    obtain ⟨q, v, r, e, hk, _, h2⟩ := h
    obtain ⟨bs, e1, e2, e3⟩ := relK_bs h2
    refine ⟨(kV q, k) :: bs, by rw [e, List.map_cons, List.map_cons, e1], by rw [List.map_cons, List.map_cons, e2], fun b hb => ?_⟩
    rcases List.mem_cons.mp hb with z | hb
    · rw [z]; exact key_rel hk
    · exact e3 b hb
theorem relT_bs {F : Addr → Prop} {ρ : List Addr} {st : Store} {H : Hp} (R : Rep G F ρ st H) : ∀ {kvs : List (D × D)} {ps : List (List Key × V)} {as : List Addr}, RelT G (Nn F ρ) H kvs ps → IsKeys H ps as → ∃ bs : List (V × D), bs.map (·.1) = as.map V.ref ∧ bs.map (·.2) = kvs.map (·.1) ∧ ∀ b ∈ bs, RelD G (Nn F ρ) H b.2 b.1
  | [], ps, as, h, ik => by
    have e : ps = [] := h
    subst e
    have ik' : Paired (fun (p : List Key × V) b => H b = some (.tup (p.1.map kV))) [] as := ik
    cases ik'
    exact ⟨[], rfl, rfl, fun b hb => by cases hb⟩
  | (k, x) :: xs, ps, as, h, ik => by
    obtain ⟨q, v, r, e, ⟨ks, hk, hq⟩, _, h2⟩ := h
    subst e
    have ik' : Paired (fun (p : List Key × V) b => H b = some (.tup (p.1.map kV))) ((q, v) :: r) as := ik
    cases ik' with
    | cons i1 i2 =>
      rename_i b0 bt
      obtain ⟨bs, e1, e2, e3⟩ := relT_bs R h2 i2
      refine ⟨(.ref b0, k) :: bs, by rw [List.map_cons, List.map_cons, e1], by rw [List.map_cons, List.map_cons, e2], fun b hb => ?_⟩
      rcases List.mem_cons.mp hb with z | hb
      · rw [z, hk]
        exact ⟨b0, q.map kV, rfl, ⟨i1, R.notTup i1⟩, keys_rel hq⟩
      · exact e3 b hb
abbrev rSortAll (K : PySem.W.Frag) : List V → Hp → VK → Prop := fun vs H Q => rSortL K vs H Q ∨ rSortK K vs H Q ∨ rSortT K vs H Q
theorem sort_all {X : Cx} (hc : X.calm = true) (hu : X.A.units + 65 < cLine) : CallR X (.builtin "sorted") (rSortAll X.K) := (sort_list hu).or ((sort_dK hc hu).or (sort_dT hc hu))
theorem sorted_v {mu : Bool} : CallV G (rSortAll G.K) (f1 (gSorted mu)) := cal1 fun E F ρ H st a v Q R ra h => by
  cases a with
  | lst xs =>
    unfold gSorted at h
    cases z : (sortOk xs && small xs.length) with
    | false => simp only [z] at h; exact h.elim
    | true =>
      simp only [z] at h
      obtain ⟨z1, z2⟩ := Bool.and_eq_true_iff.mp z
      obtain ⟨p, vs, e, f, r⟩ := ra
      subst e
      obtain ⟨bs, e1, e2, e3⟩ := rel_zip r
      have hl : bs.length = xs.length := by rw [← e2, List.length_map]
      refine .inl ⟨p, bs, rfl, SqL.of (by rw [e1]; exact f), sortIn_ok (mu := mu) R e3 (by rw [e2]; exact z1) (by rw [hl]; exact z2) (by rw [e2]; exact h)⟩
  | dct tk kvs =>
    unfold gSorted at h
    cases z : (sortOk (kvs.map (·.1)) && small kvs.length) with
    | false => simp only [z] at h; exact h.elim
    | true =>
      simp only [z] at h
      obtain ⟨z1, z2⟩ := Bool.and_eq_true_iff.mp z
      obtain ⟨p, e, r⟩ := ra
      subst e
      rcases r with ⟨ps, f, _, r⟩ | ⟨ps, f, _, r⟩
      · obtain ⟨bs, e1, e2, e3⟩ := relK_bs r
        have hl : bs.length = kvs.length := by rw [← List.length_map (f := (·.2)) (as := bs), e2, List.length_map]
        exact .inr (.inl ⟨p, ps, bs, rfl, f, e1, sortIn_ok (mu := mu) R e3 (by rw [e2]; exact z1) (by rw [hl]; exact z2) (by rw [e2]; exact h)⟩)
      · refine .inr (.inr ⟨p, ps, rfl, f, fun as ik => ?_⟩)
        obtain ⟨bs, e1, e2, e3⟩ := relT_bs R r ik
        have hl : bs.length = kvs.length := by rw [← List.length_map (f := (·.2)) (as := bs), e2, List.length_map]
        exact ⟨bs, e1, sortIn_ok (mu := mu) R e3 (by rw [e2]; exact z1) (by rw [hl]; exact z2) (by rw [e2]; exact h)⟩
  | _ => exact h.elim
end
end DH
namespace DH
open PySem PySem.Spec PyProof.Rows L2
/-! ### keys -/
def eqK1 : D → D → Bool
  | .int i, .int j => eqI i j
  | .str a, .str b => eqN a b
  | _, _ => false
def eqK : D → D → Bool
  | .tup _ a, .tup _ b => all2 eqK1 a b
  | a, b => eqK1 a b
/-- a key of that kind of dict -/
def keyOk (t : Bool) (k : D) : Bool := match t, k with
  | false, .int _ => true
  | false, .str _ => true
  | true, .tup false ks => allB (fun x => match x with
    | .int _ => true
    | .str _ => true
    | _ => false) ks
  | _, _ => false
def findD (k : D) : List (D × D) → Option D
  | [] => none
  | (k', x) :: r => (match eqK k' k with
    | true => some x
    | false => findD k r)
def mapD (k x : D) : List (D × D) → List (D × D)
  | [] => []
  | (k', y) :: r => (match eqK k' k with
    | true => (k', x) :: mapD k x r
    | false => (k', y) :: mapD k x r)
def putD (k x : D) (kvs : List (D × D)) : List (D × D) := match findD k kvs with
  | some _ => mapD k x kvs
  | none => kvs ++ [(k, x)]
theorem strOf_inj {a b : List Nat} (h : strOf a = strOf b) : a = b := by
  have : (strOf a).cps.toList = (strOf b).cps.toList := by rw [h]
  simpa [strOf] using this
theorem eqK1_eq {a b : D} {p q : Key} (ha : keyOf a = some p) (hb : keyOf b = some q) : eqK1 a b = decide (p = q) := by
  cases a with
  | int i =>
    have ea : Sum.inl i = p := Option.some.inj ha
    cases b with
    | int j =>
      have eb : Sum.inl j = q := Option.some.inj hb
      subst ea eb
      show eqI i j = _
      rw [eqI_eq]
      by_cases h : i = j
      · subst h; simp
      · rw [beq_eq_false_iff_ne.mpr h]
        exact (decide_eq_false fun z => h (Sum.inl.inj z)).symm
    | str y =>
      have eb : Sum.inr (strOf y) = q := Option.some.inj hb
      subst ea eb
      exact (decide_eq_false fun z => by cases z).symm
    | _ => cases hb
  | str x =>
    have ea : Sum.inr (strOf x) = p := Option.some.inj ha
    cases b with
    | str y =>
      have eb : Sum.inr (strOf y) = q := Option.some.inj hb
      subst ea eb
      show eqN x y = _
      rw [eqN_eq]
      exact decide_eq_decide.mpr ⟨fun z => by rw [z], fun z => strOf_inj (Sum.inr.inj z)⟩
    | int j =>
      have eb : Sum.inl j = q := Option.some.inj hb
      subst ea eb
      exact (decide_eq_false fun z => by cases z).symm
    | _ => cases hb
  | _ => cases ha
theorem keysOf_cons {k : D} {ks : List D} {q : List Key} (h : keysOf (k :: ks) = some q) : ∃ p ps, keyOf k = some p ∧ keysOf ks = some ps ∧ q = p :: ps := by
  unfold keysOf at h
  cases z1 : keyOf k with
  | none => rw [z1] at h; cases h
  | some p =>
    cases z2 : keysOf ks with
    | none => rw [z1, z2] at h; cases h
    | some ps =>
      rw [z1, z2] at h
      exact ⟨p, ps, rfl, rfl, (Option.some.inj h).symm⟩
theorem eqKs_eq : ∀ {a b : List D} {p q : List Key}, keysOf a = some p → keysOf b = some q → all2 eqK1 a b = decide (p = q)
  | [], [], p, q, ha, hb => by
    have ea : [] = p := Option.some.inj ha
    have eb : [] = q := Option.some.inj hb
    subst ea eb
    rfl
  | [], y :: b, p, q, ha, hb => by
    have ea : [] = p := Option.some.inj ha
    obtain ⟨_, _, _, _, e⟩ := keysOf_cons hb
    subst ea e
    exact (decide_eq_false fun z => by cases z).symm
  | x :: a, [], p, q, ha, hb => by
    have eb : [] = q := Option.some.inj hb
    obtain ⟨_, _, _, _, e⟩ := keysOf_cons ha
    subst eb e
    exact (decide_eq_false fun z => by cases z).symm
  | x :: a, y :: b, p, q, ha, hb => by
    obtain ⟨p1, ps, h1, h2, e⟩ := keysOf_cons ha
    obtain ⟨q1, qs, h3, h4, e2⟩ := keysOf_cons hb
    subst e e2
    unfold all2
    rw [eqK1_eq h1 h3]
    by_cases h : p1 = q1
    · subst h
      simp only [decide_true]
      rw [eqKs_eq h2 h4]
      exact decide_eq_decide.mpr ⟨fun z => by rw [z], fun z => by injection z⟩
    · rw [decide_eq_false h]
      exact (decide_eq_false fun z => h (by injection z)).symm
theorem keyOk_k {k : D} (h : keyOk false k = true) : ∃ q, keyOf k = some q := by
  cases k with
  | int i => exact ⟨_, rfl⟩
  | str i => exact ⟨_, rfl⟩
  | _ => cases h
theorem keyOk_t {k : D} (h : keyOk true k = true) : ∃ ks q, k = .tup false ks ∧ keysOf ks = some q := by
  cases k with
  | tup f ks =>
    cases f with
    | true => cases h
    | false =>
      have h' : allB (fun x => match x with | .int _ => true | .str _ => true | _ => false) ks = true := h
      rw [allB_iff] at h'
      have : ∃ q, keysOf ks = some q := by
        clear h
        induction ks with
        | nil => exact ⟨[], rfl⟩
        | cons x xs ih =>
          obtain ⟨q, e⟩ := ih fun y hy => h' y (List.mem_cons_of_mem _ hy)
          have hx := h' x (List.mem_cons_self ..)
          unfold keysOf
          rw [e]
          cases x with
          | int i => exact ⟨_, rfl⟩
          | str i => exact ⟨_, rfl⟩
          | _ => cases hx
      obtain ⟨q, e⟩ := this
      exact ⟨ks, q, rfl, e⟩
  | _ => cases h
theorem eqK_k {a b : D} {p q : Key} (ha : keyOf a = some p) (hb : keyOf b = some q) : eqK a b = decide (p = q) := by
  rw [← eqK1_eq ha hb]
  cases a with
  | tup f xs => cases ha
  | int i => cases b <;> rfl
  | str i => cases b <;> rfl
  | _ => cases ha
section
variable {G : Gm} {E : XK} {N : Addr → Prop} {H : Hp}
theorem findD_k {k : D} {q : Key} (hk : keyOf k = some q) : ∀ {kvs : List (D × D)} {ps : List (Key × V)}, RelK G N H kvs ps → match findD k kvs with
    | some x => ∃ v, valV ps q = some v ∧ RelD G N H x v
    | none => valV ps q = none
  | [], ps, h => by
    have e : ps = [] := h
    subst e
    exact valV_nil
  | (k', x) :: r, ps, h => by
    obtain ⟨p, v, t, e, hp, hx, hr⟩ := h
    subst e
    have ih := findD_k hk hr
    unfold findD
    rw [eqK_k hp hk]
    by_cases z : p = q
    · rw [decide_eq_true z]
      exact ⟨v, valV_pos z, hx⟩
    · rw [decide_eq_false z, valV_neg (p := (p, v)) z]
      exact ih
theorem findD_t {ks : List D} {q : List Key} (hk : keysOf ks = some q) : ∀ {kvs : List (D × D)} {ps : List (List Key × V)}, RelT G N H kvs ps → match findD (.tup false ks) kvs with
    | some x => ∃ v, valV ps q = some v ∧ RelD G N H x v
    | none => valV ps q = none
  | [], ps, h => by
    have e : ps = [] := h
    subst e
    exact valV_nil
  | (k', x) :: r, ps, h => by
    obtain ⟨p, v, t, e, ⟨ks', e2, hp⟩, hx, hr⟩ := h
    subst e e2
    have ih := findD_t hk hr
    unfold findD
    have e3 : eqK (.tup false ks') (.tup false ks) = decide (p = q) := eqKs_eq hp hk
    rw [e3]
    by_cases z : p = q
    · rw [decide_eq_true z]
      exact ⟨v, valV_pos z, hx⟩
    · rw [decide_eq_false z, valV_neg (p := (p, v)) z]
      exact ih
end
section
variable {G : Gm} {E : XK} {N : Addr → Prop} {H : Hp}
theorem RelK.append : ∀ {a b : List (D × D)} {p q : List (Key × V)}, RelK G N H a p → RelK G N H b q → RelK G N H (a ++ b) (p ++ q)
  | [], b, p, q, h, k => by
    have e : p = [] := h
    rw [e]; exact k
  | (x, y) :: a, b, p, q, h, k => by
    obtain ⟨c, v, r, e, h0, h1, h2⟩ := h
    exact ⟨c, v, r ++ q, by rw [e]; rfl, h0, h1, RelK.append h2 k⟩
theorem RelT.append : ∀ {a b : List (D × D)} {p q : List (List Key × V)}, RelT G N H a p → RelT G N H b q → RelT G N H (a ++ b) (p ++ q)
  | [], b, p, q, h, k => by
    have e : p = [] := h
    rw [e]; exact k
  | (x, y) :: a, b, p, q, h, k => by
    obtain ⟨c, v, r, e, h0, h1, h2⟩ := h
    exact ⟨c, v, r ++ q, by rw [e]; rfl, h0, h1, RelT.append h2 k⟩
theorem mapD_k {k x : D} {q : Key} {w : V} (hk : keyOf k = some q) (hw : RelD G N H x w) : ∀ {kvs : List (D × D)} {ps : List (Key × V)}, RelK G N H kvs ps → RelK G N H (mapD k x kvs) (ps.map fun kv => if kv.1 = q then (kv.1, w) else kv)
  | [], ps, h => by
    have e : ps = [] := h
    subst e
    exact rfl
  | (k', y) :: r, ps, h => by
    obtain ⟨p, v, t, e, hp, hx, hr⟩ := h
    subst e
    unfold mapD
    rw [eqK_k hp hk, List.map_cons]
    by_cases z : p = q
    · rw [decide_eq_true z, if_pos z]
      exact ⟨p, w, _, rfl, hp, hw, mapD_k hk hw hr⟩
    · rw [decide_eq_false z, if_neg z]
      exact ⟨p, v, _, rfl, hp, hx, mapD_k hk hw hr⟩
theorem mapD_t {ks : List D} {x : D} {q : List Key} {w : V} (hk : keysOf ks = some q) (hw : RelD G N H x w) : ∀ {kvs : List (D × D)} {ps : List (List Key × V)}, RelT G N H kvs ps → RelT G N H (mapD (.tup false ks) x kvs) (ps.map fun kv => if kv.1 = q then (kv.1, w) else kv)
  | [], ps, h => by
    have e : ps = [] := h
    subst e
    exact rfl
  | (k', y) :: r, ps, h => by
    obtain ⟨p, v, t, e, ⟨ks', e2, hp⟩, hx, hr⟩ := h
    subst e e2
    unfold mapD
    have e3 : eqK (.tup false ks') (.tup false ks) = decide (p = q) := eqKs_eq hp hk
    rw [e3, List.map_cons]
    by_cases z : p = q
    · rw [decide_eq_true z, if_pos z]
      exact ⟨p, w, _, rfl, ⟨ks', rfl, hp⟩, hw, mapD_t hk hw hr⟩
    · rw [decide_eq_false z, if_neg z]
      exact ⟨p, v, _, rfl, ⟨ks', rfl, hp⟩, hx, mapD_t hk hw hr⟩
theorem putD_k {k x : D} {q : Key} {w : V} (hk : keyOf k = some q) (hw : RelD G N H x w) {kvs : List (D × D)} {ps : List (Key × V)} (h : RelK G N H kvs ps) : RelK G N H (putD k x kvs) (putK ps q w) := by
  have fk := findD_k hk h
  unfold putD putK
  cases z : findD k kvs with
  | some y =>
    rw [z] at fk
    obtain ⟨v, e, _⟩ := fk
    rw [if_pos (by rw [valV_any, e]; rfl)]
    exact mapD_k hk hw h
  | none =>
    rw [z] at fk
    have e : valV ps q = none := fk
    rw [if_neg (by rw [valV_any, e]; simp)]
    exact h.append ⟨q, w, [], rfl, hk, hw, rfl⟩
theorem putD_t {ks : List D} {x : D} {q : List Key} {w : V} (hk : keysOf ks = some q) (hw : RelD G N H x w) {kvs : List (D × D)} {ps : List (List Key × V)} (h : RelT G N H kvs ps) : RelT G N H (putD (.tup false ks) x kvs) (putK ps q w) := by
  have fk := findD_t hk h
  unfold putD putK
  cases z : findD (.tup false ks) kvs with
  | some y =>
    rw [z] at fk
    obtain ⟨v, e, _⟩ := fk
    rw [if_pos (by rw [valV_any, e]; rfl)]
    exact mapD_t hk hw h
  | none =>
    rw [z] at fk
    have e : valV ps q = none := fk
    rw [if_neg (by rw [valV_any, e]; simp)]
    exact h.append ⟨q, w, [], rfl, ⟨ks, rfl, hk⟩, hw, rfl⟩
theorem key_val {k : D} {p : Key} {v : V} (h : keyOf k = some p) (r : RelD G N H k v) : v = kV p := by
  cases k with
  | int i =>
    have e : Sum.inl i = p := Option.some.inj h
    rw [← e]; exact r
  | str i =>
    have e : Sum.inr (strOf i) = p := Option.some.inj h
    rw [← e]; exact r
  | _ => cases h
/-- the values of a tuple of keys -/
theorem keys_vals : ∀ {ks : List D} {q : List Key} {vs : List V}, keysOf ks = some q → RelDs G N H ks vs → vs = q.map kV
  | [], q, vs, h, r => by
    have e : [] = q := Option.some.inj h
    have e2 : vs = [] := r
    rw [← e, e2]; rfl
  | k :: ks, q, vs, h, r => by
    obtain ⟨p, ps, h1, h2, e⟩ := keysOf_cons h
    obtain ⟨v, t, e2, r1, r2⟩ := r
    rw [e, e2, List.map_cons, keys_vals h2 r2]
    congr 1
    exact key_val h1 r1
end
section
variable {G : Gm} {E : XK}
/-! ### d[k], d.get(k, x), k in d -/
def RelOp (G : Gm) (N : Addr → Prop) (H : Hp) (o : Option D) (w : Option V) : Prop := match o with
  | some x => ∃ v, w = some v ∧ RelD G N H x v
  | none => w = none
/-- what the dict has at the key: none, out of the rules -/
def lookD (st : Store) (x k : X) : Option (Option D) := match deref st x with
  | some (.dct t kvs) => (match k with
    | .d kd => (match keyOk t kd with
      | true => some (findD kd kvs)
      | false => none)
    | .loc _ => none)
  | _ => none
theorem lookD_ok {F : Addr → Prop} {ρ : List Addr} {H : Hp} {st : Store} {x k : X} {v y : V} {o : Option D} (R : Rep G F ρ st H) (rx : RelX G F ρ H x v) (rk : RelX G F ρ H k y) (h : lookD st x k = some o) :
    ∃ a w, v = .ref a ∧ IsD H a ∧ DGet H a y w ∧ RelOp G (Nn F ρ) H o w := by
  unfold lookD at h
  cases q : deref st x with
  | none => rw [q] at h; cases h
  | some d =>
    rw [q] at h
    cases d with
    | dct t kvs =>
      cases k with
      | loc l => cases h
      | d kd =>
        simp only at h
        cases z : keyOk t kd with
        | false => rw [z] at h; cases h
        | true =>
          rw [z] at h
          have e := Option.some.inj h
          obtain ⟨a, ev, r⟩ := view R rx q
          rcases r with ⟨ps, f, tt, r⟩ | ⟨ps, f, tt, r⟩
          · subst tt
            obtain ⟨kk, hk⟩ := keyOk_k z
            have fk := findD_k hk r
            have ey : y = kV kk := key_val hk rk
            refine ⟨a, valV ps kk, ev, .inl ⟨ps, .inl f⟩, by rw [ey]; exact DGet.k f, ?_⟩
            rw [e] at fk
            exact fk
          · subst tt
            obtain ⟨ks, kk, ek, hk⟩ := keyOk_t z
            subst ek
            have fk := findD_t hk r
            obtain ⟨b, vs, ey, fz, rv⟩ := rk
            have fz1 : H b = some (.tup vs) := fz.1
            rw [keys_vals hk rv] at fz1
            refine ⟨a, valV ps kk, ev, .inr ⟨ps, .inl f⟩, by rw [ey]; exact DGet.t f fz1, ?_⟩
            rw [e] at fk
            exact fk
    | _ => cases h
variable {X : Cx} {o i e f value : Expr} {pos pos' apos cpos : Pos} {mo mi me mf : EM DH.X}
def eDGet (o i : EM DH.X) : EM DH.X := fun sl st => (o sl st).bind fun x st1 => (i sl st1).bind fun k st2 => match lookD st2 x k with
  | some (some d) => .ok (.d d) st2
  | _ => .bad
theorem q_dget (hu : X.A.units + 65 < cLine) (ho : PE X o (rdE G E mo)) (hi : PE X i (rdE G E mi)) (hs : NoSl i) : PE X (.Subscript o i pos) (rdE G E (eDGet mo mi)) := by
  refine PE.imp (pe_dget (by omega) ho hi hs) fun σ H Q h => ?_
  obtain ⟨F, ρ, sl, st, sk, R, h⟩ := h
  refine ⟨F, ρ, sl, st, sk, R, PostG.mono (PostG.bind (R := rX G) h) fun v H1 h1 => ?_⟩
  obtain ⟨x, st1, ρ1, s1, R1, r1, h1⟩ := h1
  refine ⟨F, ρ1, sl, st1, sk.mono s1, R1, PostG.mono (PostG.bind (R := rX G) h1) fun y H2 h2 => ?_⟩
  obtain ⟨k, st2, ρ2, s2, R2, r2, h2⟩ := h2
  have h2 : PostG G E (rX G) F ρ2 H2 (match lookD st2 x k with | some (some d) => .ok (.d d) st2 | _ => .bad) Q := h2
  cases q : lookD st2 x k with
  | none => rw [q] at h2; exact h2.elim
  | some od =>
    cases od with
    | none => rw [q] at h2; exact h2.elim
    | some d =>
      rw [q] at h2
      obtain ⟨a, w, ev, _, g, u, ew, ru⟩ := lookD_ok R2 (r1.mono s2) r2 q
      subst ew
      exact ⟨a, u, ev, g, PostG.now (R := rX G) h2 R2 (show RelX G F ρ2 H2 (.d d) u from ru)⟩
def isDct (st : Store) (x : DH.X) : Bool := match deref st x with
  | some (.dct _ _) => true
  | _ => false
def eDGet2 (o i f : EM DH.X) : EM DH.X := fun sl st => (o sl st).bind fun x st1 => match isDct st1 x with
  | false => .bad
  | true => (i sl st1).bind fun k st2 => (f sl st2).bind fun z st3 => match lookD st3 x k with
    | some (some d) => .ok (.d d) st3
    | some none => .ok z st3
    | none => .bad
theorem isDct_ok {F : Addr → Prop} {ρ : List Addr} {H : Hp} {st : Store} {x : DH.X} {v : V} (R : Rep G F ρ st H) (rx : RelX G F ρ H x v) (h : isDct st x = true) : ∃ a, v = .ref a ∧ IsD H a := by
  unfold isDct at h
  cases q : deref st x with
  | none => rw [q] at h; cases h
  | some d =>
    rw [q] at h
    cases d with
    | dct t kvs =>
      obtain ⟨a, ev, r⟩ := view R rx q
      rcases r with ⟨ps, f, _⟩ | ⟨ps, f, _⟩
      · exact ⟨a, ev, .inl ⟨ps, .inl f⟩⟩
      · exact ⟨a, ev, .inr ⟨ps, .inl f⟩⟩
    | _ => cases h
theorem q_dget2 (hu : X.A.units + 65 < cLine) (ho : PE X o (rdE G E mo)) (he : PE X e (rdE G E mi)) (hf : PE X f (rdE G E mf)) (m : M2 X o "get" apos e f cpos) : PE X (.Call (.Attribute o "get" apos) [e, f] [] cpos) (rdE G E (eDGet2 mo mi mf)) := by
  refine PE.imp (pe_dget2 (by omega) ho he hf m) fun σ H Q h => ?_
  obtain ⟨F, ρ, sl, st, sk, R, h⟩ := h
  refine ⟨F, ρ, sl, st, sk, R, PostG.mono (PostG.bind (R := rX G) h) fun v H1 h1 => ?_⟩
  obtain ⟨x, st1, ρ1, s1, R1, r1, h1⟩ := h1
  cases qd : isDct st1 x with
  | false => simp only [qd] at h1; exact h1.elim
  | true =>
    simp only [qd] at h1
    obtain ⟨a, ev, hd⟩ := isDct_ok R1 r1 qd
    refine ⟨a, ev, hd, F, ρ1, sl, st1, sk.mono s1, R1, PostG.mono (PostG.bind (R := rX G) h1) fun y H2 h2 => ?_⟩
    obtain ⟨k, st2, ρ2, s2, R2, r2, h2⟩ := h2
    refine ⟨F, ρ2, sl, st2, (sk.mono s1).mono s2, R2, PostG.mono (PostG.bind (R := rX G) h2) fun z H3 h3 => ?_⟩
    obtain ⟨zx, st3, ρ3, s3, R3, r3, h3⟩ := h3
    have h3 : PostG G E (rX G) F ρ3 H3 (match lookD st3 x k with | some (some d) => .ok (.d d) st3 | some none => .ok zx st3 | none => .bad) Q := h3
    cases q : lookD st3 x k with
    | none => rw [q] at h3; exact h3.elim
    | some od =>
      rw [q] at h3
      obtain ⟨a', w, ev', _, g, hw⟩ := lookD_ok R3 ((r1.mono s2).mono s3) (r2.mono s3) q
      rw [ev] at ev'
      cases ev'
      cases od with
      | none =>
        have hw : w = none := hw
        subst hw
        exact ⟨none, g, PostG.now (R := rX G) h3 R3 r3⟩
      | some d =>
        obtain ⟨u, ew, ru⟩ := hw
        subst ew
        exact ⟨some u, g, PostG.now (R := rX G) h3 R3 (show RelX G F ρ3 H3 (.d d) u from ru)⟩
/-! ### {} and d[k] = x -/
def eDNew (t : Bool) : EM DH.X := fun _ st => .ok (.loc st.length) (st ++ [.dct t []])
theorem q_dnewK : PE X (.Dict [] [] pos) (rdE G E (eDNew false)) := by
  refine PE.imp pe_dnewK fun σ H Q h => ?_
  obtain ⟨F, ρ, sl, st, sk, R, h⟩ := h
  intro p hp
  exact h (ρ ++ [p]) (upd H p (.dK [])) (.ref p) (stp_more hp) (R.more hp (.inl ⟨[], upd_same, rfl, rfl⟩)) ⟨p, by rw [← R.len]; simp, rfl⟩
theorem q_dnewT : PE X (.Dict [] [] pos) (rdE G E (eDNew true)) := by
  refine PE.imp pe_dnewT fun σ H Q h => ?_
  obtain ⟨F, ρ, sl, st, sk, R, h⟩ := h
  intro p hp
  exact h (ρ ++ [p]) (upd H p (.dT [])) (.ref p) (stp_more hp) (R.more hp (.inr ⟨[], upd_same, rfl, rfl⟩)) ⟨p, by rw [← R.len]; simp, rfl⟩
/-- d[k] = x -/
def putAt (x k y : DH.X) (st : Store) : Option Store := match x, k, y with
  | .loc l, .d kd, .d z => (match st[l]? with
    | some (.dct t kvs) => (match keyOk t kd && small (kvs.length + 1) with
      | true => some (st.set l (.dct t (putD kd z kvs)))
      | false => none)
    | _ => none)
  | _, _, _ => none
theorem codeO_dK {a : Addr} {ps : List (Key × V)} (q : Str) : HO.dK ps ≠ LamX.CodeO a q := fun z => by unfold LamX.CodeO at z; cases z
theorem codeO_dT {a : Addr} {ps : List (List Key × V)} (q : Str) : HO.dT ps ≠ LamX.CodeO a q := fun z => by unfold LamX.CodeO at z; cases z
theorem putAt_ok {F : Addr → Prop} {ρ : List Addr} {H : Hp} {st st' : Store} {x k y : DH.X} {v kv w : V} (R : Rep G F ρ st H) (rx : RelX G F ρ H x v) (rk : RelX G F ρ H k kv) (ry : RelX G F ρ H y w) (h : putAt x k y st = some st') :
    ∃ a H', v = .ref a ∧ DPut H a kv w H' ∧ Stp ρ H ρ H' ∧ Rep G F ρ st' H' := by
  cases x with
  | d _ => cases h
  | loc l =>
    cases k with
    | loc _ => cases h
    | d kd =>
      cases y with
      | loc _ => cases h
      | d z =>
        unfold putAt at h
        simp only at h
        cases q : st[l]? with
        | none => rw [q] at h; cases h
        | some m =>
          rw [q] at h
          cases m with
          | lst _ => cases h
          | ins _ _ => cases h
          | orc _ => cases h
          | dct t kvs =>
            simp only at h
            cases z1 : (keyOk t kd && small (kvs.length + 1)) with
            | false => rw [z1] at h; cases h
            | true =>
              rw [z1] at h
              have e := Option.some.inj h
              obtain ⟨k1, k2⟩ := Bool.and_eq_true_iff.mp z1
              have hz := small_ok k2
              obtain ⟨a, e1, e2⟩ := rx
              have rm := R.obj l a _ e1 q
              rcases rm with ⟨ps, f, tt, r⟩ | ⟨ps, f, tt, r⟩
              · subst tt
                obtain ⟨kk, hk⟩ := keyOk_k k1
                have ey : kv = kV kk := key_val hk rk
                have s : Stp ρ H ρ (upd H a (.dK (putK ps kk w))) := stp_set e1
                refine ⟨a, _, e2, by rw [ey]; exact DPut.k f (by rw [r.length]; omega), s, ?_⟩
                rw [← e]
                exact R.set e1 f (fun ps z => by cases z) (fun q => codeO_dK q) (.inl ⟨_, upd_same, rfl, putD_k hk (RelD.mono s.keeps z ry) (RelK.mono s.keeps kvs r)⟩)
              · subst tt
                obtain ⟨ks, kk, ek, hk⟩ := keyOk_t k1
                subst ek
                obtain ⟨b, vs, ey, fz, rv⟩ := rk
                have fz1 : H b = some (.tup vs) := fz.1
                rw [keys_vals hk rv] at fz1
                have s : Stp ρ H ρ (upd H a (.dT (putK ps kk w))) := stp_set e1
                refine ⟨a, _, e2, by rw [ey]; exact DPut.t f fz1 (by rw [r.length]; omega), s, ?_⟩
                rw [← e]
                exact R.set e1 f (fun ps z => by cases z) (fun q => codeO_dT q) (.inr ⟨_, upd_same, rfl, putD_t hk (RelD.mono s.keeps z ry) (RelT.mono s.keeps kvs r)⟩)
def sDPutM (e o i : EM DH.X) : SM := fun sl st => (e sl st).s fun y st1 => (o sl st1).s fun x st2 => (i sl st2).s fun k st3 => match putAt x k y st3 with
  | some st4 => .nx sl st4
  | none => .bad
theorem q_dput (hu : X.A.units + 65 < cLine) (hv : PE X value (rdE G E me)) (ho : PE X o (rdE G E mo)) (hi : PE X i (rdE G E mi)) (hs : swapsWith value (some (.Subscript o i pos')) pos.line X.env = pure false) :
    PS X (.Assign [.Subscript o i pos'] value pos) (rdS G E (sDPutM me mo mi)) := by
  refine PS.imp (ps_dput (by omega) ho hi hv hs) fun D σ H h => ?_
  obtain ⟨F, ρ, sl, st, sk, R, h⟩ := h
  refine ⟨F, ρ, sl, st, sk, R, PostG.mono (PostS.part (R := rX G) h) fun w H1 h1 => ?_⟩
  obtain ⟨y, st1, ρ1, s1, R1, ry, h1⟩ := h1
  refine ⟨F, ρ1, sl, st1, sk.mono s1, R1, PostG.mono (PostS.part (R := rX G) h1) fun v H2 h2 => ?_⟩
  obtain ⟨x, st2, ρ2, s2, R2, rx, h2⟩ := h2
  refine ⟨F, ρ2, sl, st2, (sk.mono s1).mono s2, R2, PostG.mono (PostS.part (R := rX G) h2) fun kv H3 h3 => ?_⟩
  obtain ⟨k, st3, ρ3, s3, R3, rk, h3⟩ := h3
  have h3 : PostS G E F ρ3 H3 (match putAt x k y st3 with | some st4 => .nx sl st4 | none => .bad) D := h3
  cases q : putAt x k y st3 with
  | none => rw [q] at h3; exact h3.elim
  | some st4 =>
    rw [q] at h3
    obtain ⟨a, H4, ev, dp, s4, R4⟩ := putAt_ok R3 (rx.mono s3) rk ((ry.mono s2).mono s3) q
    exact ⟨a, H4, ev, dp, h3 ρ3 H4 σ s4 R4 ((((sk.mono s1).mono s2).mono s3).mono s4)⟩
end
end DH
namespace DH
open PySem PySem.Spec PyProof.Rows L2
open PySem.Sem (wp)
open PySem.AutoSeq1 (wpAny_loadPart')
/-! ### enumerate(tuple) -/
theorem meets_enumT (l : Addr) (items : Array Value) (n : Nat) (dct : Option Addr) (sl : Array (Option Value)) :
    Meets (Builtin.«enumerate.__new__» ⟨[.type "enumerate", .ref l], []⟩) (fun _ R s => s.heap.get? l = some { cls := .type "tuple", dict := dct, data := .seq items n, slots := sl } ∧
      R (.ok (.ret (.ref (s.heap.push { cls := .type "tuple_iterator", data := .fields #[.ref l, .int 0 0] }).objs.size)))
        { s with heap := (s.heap.push { cls := .type "tuple_iterator", data := .fields #[.ref l, .int 0 0] }).push { cls := .type "enumerate", data := .fields #[.none, .bool false, .ref s.heap.objs.size, rawInt 0, .none, .none] } }) :=
  .of_wp fun prog w A R s h => by
    obtain ⟨hp, g, d, tk, os⟩ := s; obtain ⟨hl, h⟩ := h
    have hsub := sub_enumerate
    have hL : Heap.IsTuple (Shared.heap ⟨hp, g, d, tk, os⟩) l items := ⟨_, hl, rfl, n, rfl⟩
    wp_walk using wpAny_loadPart' hl
    refine wpAny_stack_any fun st => wpAny_pure ?_
    split
    · rename_i c _ _ _ _ _
      cases (c == Value.type "enumerate")
      · wp_walk using wpAny_loadPart' hl, wpAny_pyIter_tuple hL
        exact ⟨_, rfl, h⟩
      · wp_walk using wpAny_loadPart' hl, wpAny_pyIter_tuple hL
        exact ⟨_, rfl, h⟩
    · wp_walk using wpAny_loadPart' hl, wpAny_pyIter_tuple hL
      exact ⟨_, rfl, h⟩
section
variable {prog : Program} {w : World} {A : Around} {E : Value → Shared → Prop} {s : Shared}
theorem call_enumT {l : Addr} {items : Array Value} {Q : Value → Shared → Prop} (hL : s.heap.IsTuple l items)
    (h : ∀ h', IsEnum h' (s.heap.objs.size + 1) s.heap.objs.size 0 .none → h'.IsTupleIter s.heap.objs.size l 0 → h'.objs.size = s.heap.objs.size + 2 →
      (∀ b o, s.heap.get? b = some o → h'.get? b = some o) → Q (.ref (s.heap.objs.size + 1)) { s with heap := h' }) :
    wpAny (model prog w) A (call (.type "enumerate") [.ref l]) Q E s := by
  obtain ⟨⟨c, dct, dt, sl⟩, hl, hc, n, hd⟩ := hL
  replace hc : c = .type "tuple" := hc
  replace hd : dt = .seq items n := hd
  subst hc hd
  refine callType_new F.called_enumerate (by decide) (F.typeCall_enumerate_1 _) (F.newCall_enumerate_1 _) (fun obj => F.args_object_init_2 obj _) F.entry_enumerate_new
    (meets_enumT l items n dct sl) ⟨hl, ?_⟩
  have hz : (s.heap.push { cls := .type "tuple_iterator", data := .fields #[.ref l, .int 0 0] }).objs.size = s.heap.objs.size + 1 := Heap.size_push ..
  show _ ∧ _
  rw [hz]
  have he : IsEnum ((s.heap.push { cls := .type "tuple_iterator", data := .fields #[.ref l, .int 0 0] }).push
      { cls := .type "enumerate", data := .fields #[.none, .bool false, .ref s.heap.objs.size, rawInt 0, .none, .none] }) (s.heap.objs.size + 1) s.heap.objs.size 0 .none := by
    have := Heap.get?_push_size (s.heap.push { cls := .type "tuple_iterator", data := .fields #[.ref l, .int 0 0] })
      (o := { cls := .type "enumerate", data := .fields #[.none, .bool false, .ref s.heap.objs.size, rawInt 0, .none, .none] }) rfl
    rw [hz] at this; exact this
  refine ⟨⟨_, he, rfl⟩, h _ he ⟨_, Heap.get?_push_of_some _ (Heap.get?_push_size _ rfl), rfl, rfl⟩ (by rw [Heap.size_push, hz]) fun b o x => Heap.get?_push_of_some _ (Heap.get?_push_of_some _ x)⟩
end
/-- the tuple at a, each item in a new pair -/
def ItE (K : PySem.W.Frag) (a : Addr) : It :=
  ⟨fun i H => ∃ (xs : List V) (x : V), SqT K H a xs ∧ xs[i]? = some x, fun i H v H' => ∃ T x, v = .ref T ∧ H T = none ∧ H' = upd H T (.tup [.int (i : Nat), x]) ∧ ∀ xs, SqT K H a xs → xs[i]? = some x, fun i H => ∃ xs : List V, SqT K H a xs ∧ xs.length = i⟩
theorem turn_enumT {P : Program} {w : World} {K : PySem.W.Frag} {elts : List Expr} {kk : Nat} {tpos : Pos} (a e it : Addr) :
    Turn P w K (.Tuple elts kk tpos) (ItE K a) [e, it] e (fun i h => (∃ old, IsEnum h e it ((i : Nat) : Int) old) ∧ h.IsTupleIter it a i ∧ e ≠ it ∧ e ≠ a ∧ a ≠ it) where
  mem := by simp
  obj := fun i h st b hb => by
    obtain ⟨⟨old, he⟩, ⟨o, ho, hc, hd⟩, _⟩ := st
    have e' : b = e ∨ b = it := by simpa using hb
    rcases e' with z | z
    · rw [z]; exact ⟨_, he, fun v q => nomatch q⟩
    · rw [z]; exact ⟨o, ho, fun v q => by rw [hd] at q; cases q⟩
  keep := fun i h h' st k => let ⟨⟨old, he⟩, hi, hne⟩ := st; ⟨⟨old, k e (by simp) _ he⟩, hi.at fun o q => k it (by simp) o q, hne⟩
  item := by
    intro X hP hw hK hc i pins s σ H E I hf st hg
    subst hP hw hK
    obtain ⟨⟨old, he⟩, hit, hne, hea, hai⟩ := st
    obtain ⟨xs, x, hq, hx⟩ := hg
    obtain ⟨its, rv, p, hz⟩ := I.tuple hq
    obtain ⟨u, hu, ru⟩ := rv.get hx
    have hel : e < s.heap.objs.size := Heap.lt_size he
    have hil : it < s.heap.objs.size := by obtain ⟨_, q, _⟩ := hit; exact Heap.lt_size q
    have hlt : i < its.toArray.size := by
      have := (List.getElem?_eq_some_iff.mp hu).1
      simpa using this
    refine wpAny_pyNext_enum_itemD (A := X.A) (Draws.tuple (prog := X.prog) (w := X.w) (A := X.A.in1) (I.ok.hd hc) it a hai its.toArray) he ⟨hit, p⟩ hlt hne (by simp [hne, hea]) fun x' h' tk hx' ho hit' hT hsz hk => ?_
    have ex : x' = u := by
      have h1 : its.toArray[i]? = some u := by simpa using hu
      rw [h1] at hx'
      exact (Option.some.inj hx').symm
    subst ex
    refine ⟨_, rfl, wpAny_letOwnedTupleGo_enum (s := { s with heap := h', toks := tk + 1 }) ho fun h'' he' sb => ?_⟩
    have hT2 : h''.get? s.heap.objs.size = some { cls := .type "tuple", data := .seq #[.int i tk, x'] } := (sb.2 _ (Nat.ne_of_gt hel)).trans hT
    have new : ObjOk X.prog X.w (upd H s.heap.objs.size (.tup [.int (i : Nat), x])) h'' s.heap.objs.size (.tup [.int (i : Nat), x]) :=
      ⟨by show 2 ≤ sizeLine; decide, [.int i tk, x'], .cons ⟨_, rfl⟩ (.cons ru .nil), ⟨_, hT2, rfl, _, rfl⟩⟩
    have I1 : Inv X pins σ (upd H s.heap.objs.size (.tup [.int (i : Nat), x])) { s with heap := h'', toks := tk + 1 } :=
      I.turnedNew (ch := [e, it]) (fun b ob hb q => (sb.2 b (fun z => hb (by simp [z]))).trans (hk b ob (fun z => hb (by simp [z])) (fun z => hb (by simp [z])) q)) hf (Nat.le_refl _) new
    refine ⟨.ref s.heap.objs.size, _, I1, rfl, ⟨_, x, rfl, I.hok.fresh (Nat.le_refl _), rfl, fun ys hy => by rw [I.tuple_inj hy hq]; exact hx⟩, ⟨⟨x', ?_⟩, hit'.1.at fun o q => (sb.2 it (Ne.symm hne)).trans q, hne, hea, hai⟩, fun b hb => ?_⟩
    · have e1 : ((i + 1 : Nat) : Int) = (i : Int) + 1 := by omega
      rw [e1]; exact he'
    · have hb' : b < s.heap.objs.size := by
        have e' : b = e ∨ b = it := by simpa using hb
        rcases e' with z | z
        · rw [z]; exact hel
        · rw [z]; exact hil
      rw [upd_ne (Nat.ne_of_lt hb')]
      exact (hf b hb).1
  done := by
    intro X hP hw hK hc i pins s σ H E I hf st hg
    subst hP hw hK
    obtain ⟨⟨old, he⟩, hit, hne, hea, hai⟩ := st
    obtain ⟨xs, hq, hx⟩ := hg
    obtain ⟨its, rv, p, hz⟩ := I.tuple hq
    obtain ⟨f0, f1, f2, f3, f4, f5⟩ := hf it (by simp)
    have hl := rv.length
    have hi : i = its.toArray.size := by simp; omega
    subst hi
    exact wpAny_pyNext_enum_endD (A := X.A) (Draws.tuple (prog := X.prog) (w := X.w) (A := X.A.in1) (I.ok.hd hc) it a hai its.toArray) he ⟨hit, p⟩ fun h' eb => ⟨rfl, I.turned (t' := s.toks) (fun b o hb q => eb b o hb q) f0 f1 f3 f4 f5⟩
  self := fun A i s Q E st h => let ⟨⟨_, he⟩, _⟩ := st; wpAny_pyIter_enum he h
/-- enumerate(e), e a list or a tuple -/
def iEnumA (K : PySem.W.Frag) (ta : TA) : TI := fun σ H R => ta σ H fun vs H1 => ∃ a xs, vs = [.ref a] ∧ ((SqL K H1 a xs ∧ R (Ite K a) H1) ∨ (SqT K H1 a xs ∧ R (ItE K a) H1))
theorem pi_enumA {X : Cx} {e : Expr} {ta : TA} {p pos tpos : Pos} {elts : List Expr} {kk : Nat} (hg : Gl X "enumerate") (hm : X.mg "enumerate" = none) (ha : PA X [e] ta) (hs : starEach [e] X.env = [(false, eval e X.env)]) :
    PI X (.Tuple elts kk tpos) (.Call (.Name "enumerate" p) [e] [] pos) (iEnumA X.K ta) := by
  refine ⟨fun pins s σ H R I h => ?_⟩
  refine Call_ (ld_blt I hg hm boot_enumerate (PyProof.Rows.callWith_type1 (thn (ha.run pos pins s σ H _ I h) fun us s1 ⟨vs, H1, I1, r1, q1⟩ => ?_) hs rfl))
  obtain ⟨a, xs, ex, q⟩ := q1
  subst ex
  cases r1 with
  | cons r rr =>
    cases rr
    cases r
    have fp : ∀ b, b ∈ [s1.heap.objs.size + 1, s1.heap.objs.size] → s1.heap.objs.size ≤ b := fun b hb => by
      have e' : b = s1.heap.objs.size + 1 ∨ b = s1.heap.objs.size := by simpa using hb
      rcases e' with z | z
      · rw [z]; exact Nat.le_add_right _ _
      · rw [z]; exact Nat.le_refl _
    rcases q with ⟨hq, q⟩ | ⟨hq, q⟩
    · obtain ⟨its, rv, p', hz⟩ := I1.list hq
      refine call_enumerate_list p'.isList fun h' he hit hsz hk => wpAny_pyIter_enum he ?_
      have I2 : Inv X pins σ H1 { s1 with heap := h' } := I1.kept (t' := s1.toks) hk
      exact ⟨s1.heap.objs.size + 1, [s1.heap.objs.size + 1, s1.heap.objs.size], _, _, H1, rfl, I2, turn_enum a (s1.heap.objs.size + 1) s1.heap.objs.size, ⟨⟨.none, he⟩, hit, Nat.succ_ne_self _⟩, fun b hb => I1.fpOk (fp b hb) (I1.hok.fresh (fp b hb)), q⟩
    · obtain ⟨its, rv, p', hz⟩ := I1.tuple hq
      have hal : a < s1.heap.objs.size := by obtain ⟨_, q, _⟩ := p'; exact Heap.lt_size q
      refine call_enumT p' fun h' he hit hsz hk => wpAny_pyIter_enum he ?_
      have I2 : Inv X pins σ H1 { s1 with heap := h' } := I1.kept (t' := s1.toks) hk
      exact ⟨s1.heap.objs.size + 1, [s1.heap.objs.size + 1, s1.heap.objs.size], _, _, H1, rfl, I2, turn_enumT a (s1.heap.objs.size + 1) s1.heap.objs.size, ⟨⟨.none, he⟩, hit, Nat.succ_ne_self _, Nat.ne_of_gt (Nat.lt_succ_of_lt hal), Nat.ne_of_lt hal⟩, fun b hb => I1.fpOk (fp b hb) (I1.hok.fresh (fp b hb)), q⟩
section
variable {G : Gm} {E : XK}
def numD : Nat → List D → List D
  | _, [] => []
  | i, x :: xs => .tup false [.int (Int.ofNat i), x] :: numD (i + 1) xs
theorem numD_len : ∀ (xs : List D) (i : Nat), (numD i xs).length = xs.length
  | [], i => rfl
  | x :: xs, i => by unfold numD; rw [List.length_cons, List.length_cons, numD_len xs]
theorem numD_get : ∀ (xs : List D) (i j : Nat) (y : D), (numD i xs)[j]? = some y → ∃ x, xs[j]? = some x ∧ y = .tup false [.int (Int.ofNat (i + j)), x]
  | [], i, j, y, h => by cases h
  | x :: xs, i, 0, y, h => by
    unfold numD at h
    simp only [List.getElem?_cons_zero] at h
    exact ⟨x, rfl, (Option.some.inj h).symm⟩
  | x :: xs, i, j + 1, y, h => by
    unfold numD at h
    simp only [List.getElem?_cons_succ] at h
    obtain ⟨z, e1, e2⟩ := numD_get xs (i + 1) j y h
    refine ⟨z, by simpa using e1, ?_⟩
    rw [e2, show i + 1 + j = i + (j + 1) by omega]
def iEnum1 (m : EM DH.X) : EM (List D) := fun sl st => (m sl st).bind fun x st1 => match seqM x with
  | some xs => .ok (numD 0 xs) st1
  | none => .bad
theorem it_enumL {F : Addr → Prop} {ρ : List Addr} {H : Hp} {a : Addr} {vs : List V} {xs : List D} (f : FzL G (Nn F ρ) H a vs) (r : RelDs G (Nn F ρ) H xs vs) : ItOk G F ρ H (numD 0 xs) (Ite G.K a) where
  stop := fun ρ' H' s => by
    have f' : FzL G (Nn F ρ') H' a vs := (s.keeps (F := F)).fzL f
    exact ⟨vs, SqL.of f'.1, by rw [numD_len, r.length]; exact Nat.le_refl _⟩
  go := fun F' i x ρ' H' st hF hx s R => by
    have k := keeps_go hF s
    have f' : FzL G (Nn F' ρ') H' a vs := k.fzL f
    have r' := RelDs.mono k xs r
    obtain ⟨y, e1, e2⟩ := numD_get xs 0 i x hx
    obtain ⟨v, ev, rv⟩ := r'.get e1
    refine ⟨⟨vs, v, SqL.of f'.1, ev⟩, fun w H2 hy => ?_⟩
    obtain ⟨T, x2, ew, hT, eH, hall⟩ := hy
    have e3 : x2 = v := by
      have := hall vs (SqL.of f'.1)
      rw [ev] at this
      exact (Option.some.inj this).symm
    subst e3
    refine ⟨.inr ⟨T, _, hT, (fun ps z => by cases z), eH⟩, ?_⟩
    rw [e2, eH, ew]
    have s2 : Stp ρ' H' ρ' (upd H' T (.tup [.int (i : Nat), x2])) := stp_new hT
    exact ⟨T, _, rfl, ⟨upd_same, R.fresh hT⟩, ⟨_, _, rfl, by rw [Nat.zero_add]; rfl, ⟨_, _, rfl, RelD.mono s2.keeps y rv, rfl⟩⟩⟩
theorem it_enumT {F : Addr → Prop} {ρ : List Addr} {H : Hp} {b : Bool} {a : Addr} {vs : List V} {xs : List D} (f : FzT G (Nn F ρ) H b a vs) (r : RelDs G (Nn F ρ) H xs vs) : ItOk G F ρ H (numD 0 xs) (ItE G.K a) where
  stop := fun ρ' H' s => by
    have f' : FzT G (Nn F ρ') H' b a vs := (s.keeps (F := F)).fzT f
    exact ⟨vs, f'.sq, by rw [numD_len, r.length]⟩
  go := fun F' i x ρ' H' st hF hx s R => by
    have k := keeps_go hF s
    have f' : FzT G (Nn F' ρ') H' b a vs := k.fzT f
    have r' := RelDs.mono k xs r
    obtain ⟨y, e1, e2⟩ := numD_get xs 0 i x hx
    obtain ⟨v, ev, rv⟩ := r'.get e1
    refine ⟨⟨vs, v, f'.sq, ev⟩, fun w H2 hy => ?_⟩
    obtain ⟨T, x2, ew, hT, eH, hall⟩ := hy
    have e3 : x2 = v := by
      have := hall vs f'.sq
      rw [ev] at this
      exact (Option.some.inj this).symm
    subst e3
    refine ⟨.inr ⟨T, _, hT, (fun ps z => by cases z), eH⟩, ?_⟩
    rw [e2, eH, ew]
    have s2 : Stp ρ' H' ρ' (upd H' T (.tup [.int (i : Nat), x2])) := stp_new hT
    exact ⟨T, _, rfl, ⟨upd_same, R.fresh hT⟩, ⟨_, _, rfl, by rw [Nat.zero_add]; rfl, ⟨_, _, rfl, RelD.mono s2.keeps y rv, rfl⟩⟩⟩
theorem q_enum {X : Cx} {e : Expr} {p pos tpos : Pos} {elts : List Expr} {kk : Nat} {m : EM DH.X} (hK : G.K = X.K) (hg : Gl X "enumerate") (hm : X.mg "enumerate" = none) (ha : PA X [e] (rdA G E (aCons m aNil))) (hs : starEach [e] X.env = [(false, eval e X.env)]) :
    PI X (.Tuple elts kk tpos) (.Call (.Name "enumerate" p) [e] [] pos) (rdI G E (iEnum1 m)) := by
  refine PI.imp (pi_enumA hg hm ha hs) fun σ H Q h => ?_
  obtain ⟨F, ρ, sl, st, sk, R, h⟩ := h
  refine ⟨F, ρ, sl, st, sk, R, ?_⟩
  unfold iEnum1 at h
  unfold aCons
  have h2 := PostG.bind (R := rX G) h
  cases q : m sl st with
  | bad => rw [q] at h; exact h
  | exn c fs st1 => rw [q] at h; exact h
  | ok x st1 =>
    rw [q] at h2
    intro ρ1 H1 vs s1 R1 r1
    obtain ⟨v, r', e1, rx, e2⟩ := r1
    have e2' : r' = [] := e2
    subst e2' e1
    obtain ⟨x', st1', ρ1', s1', R1', rx', h3⟩ := h2 ρ1 H1 v s1 R1 rx
    rw [q] at h
    have h : PostG G E (rIt G) F ρ H (match seqM x with | some xs => .ok (numD 0 xs) st1 | none => .bad) Q := h
    have h := PostG.later (R := rIt G) s1 h
    rw [← hK]
    match x, rx, h with
    | .d (.lst xs), rx, h =>
      obtain ⟨a, ws, ev, fz, rr⟩ := rx
      rw [ev]
      exact ⟨a, ws, rfl, .inl ⟨fz.sq, PostG.now (R := rIt G) h R1 (it_enumL fz rr)⟩⟩
    | .d (.tup f xs), rx, h =>
      obtain ⟨a, ws, ev, fz, rr⟩ := rx
      rw [ev]
      exact ⟨a, ws, rfl, .inr ⟨fz.sq, PostG.now (R := rIt G) h R1 (it_enumT fz rr)⟩⟩
    | .d .non, rx, h => exact h.elim
    | .d (.bl _), rx, h => exact h.elim
    | .d (.int _), rx, h => exact h.elim
    | .d (.str _), rx, h => exact h.elim
    | .d (.dct _ _), rx, h => exact h.elim
    | .d (.obj _ _), rx, h => exact h.elim
    | .loc _, rx, h => exact h.elim
end
end DH
namespace DH
open PySem PySem.Spec PyProof.Rows L2
theorem u65 {k : Nat} {A : Around} (r : Room k A) : A.units + 65 < cLine := by have := r.un; omega
/-! ### defs by the head's data -/
/-- a def of np parameters and n slots -/
def mkD (np n : Nat) (b : SM) : Fn := fun xs st => match Nat.beq xs.length np with
  | true => mkF n b xs st
  | false => .bad
section
variable {P : Program} {w : World} {K : PySem.W.Frag} {mg : Str → Option Value} {base : Heap} {G : Gm}
theorem def_okD {x qual : Str} {params : Arguments} {body : List Stmt} {scope : Scope} {f : Addr} {fd : FuncData} {N ps : List Str} {k n np : Nat} {b : SM} (F : FunD K x qual params body scope [] [] f fd) (S : FnScope N ps scope) (hn : N.length = n) (hp : ps.length = np)
    (hbody : ∀ (cdv : Value), fd.code = cdv → PySem.W.codeIn K cdv qual = true → ∀ (A : Around) (outer : List Env) (s : Shared) (H : Hp) (E : XK), Room k (A.deeper (envOfC qual scope s.heap.objs.size f cdv)) →
      PSs (cxOf (L2.CX P w) P w K mg base N qual scope f cdv A outer s H E) body (rdS G E b)) : FnOk P w K mg base (L2.CX P w) (k + 1) f fd ps (spF G (mkD np n b)) := by
  obtain ⟨oc, od, dV, kV, doc, pm, an, cdv, ct, osl, rfl, lk, hcd, _, _⟩ := F.ex
  have key : ∀ {F : Addr → Prop} {ρ : List Addr} {H : Hp} {xs : List X} {st : Store} {Q : VK} {E : XK}, PostG G E (rX G) F ρ H (mkD np n b xs st) Q → xs.length = np ∧ PostG G E (rX G) F ρ H (mkF n b xs st) Q := fun {F ρ H xs st Q E} h => by
    unfold mkD at h
    cases q : Nat.beq xs.length np with
    | false => rw [q] at h; exact h.elim
    | true => rw [q] at h; exact ⟨Nat.eq_of_beq_eq_true q, h⟩
  refine fn_of lk hcd S (fun vs H Q E h => ?_) fun A outer s H vs Q E hr h => ?_
  · obtain ⟨F, ρ, xs, st, rx, R, h⟩ := h
    rw [rx.length, (key h).1, hp]
  · obtain ⟨F, ρ, xs, st, rx, R, h⟩ := h
    exact ⟨_, hbody cdv rfl hcd A outer s H E hr, F, ρ, _, st, sl_start rx hn, R, endF_ok R (key h).2⟩
end
/-! ### told(lambda: e) -/
inductive ToldOk (ca : Nat → Addr) : List (Value × (Addr → Value → Option Addr → TS)) → List (Nat × List Nat) → Prop
  | nil : ToldOk ca [] []
  | cons {x : Str} {cs : List Nat} {c : Nat} {l : List (Value × (Addr → Value → Option Addr → TS))} {hs : List (Nat × List Nat)} (e : x = strOf cs) (r : ToldOk ca l hs) : ToldOk ca ((.ref (ca c), fun _ _ _ => tRet (tC (.str x))) :: l) ((c, cs) :: hs)
def findN (c : Nat) : List (Nat × List Nat) → Option (List Nat)
  | [] => none
  | (d, s) :: r => (match Nat.beq c d with
    | true => some s
    | false => findN c r)
theorem wMany_told {K : PySem.W.Frag} {ca : Nat → Addr} {c : Nat} {d : Option Addr} {σ : L2.St} {H : Hp} {Q : VK} {nx : L2.St → Hp → Prop} {s : List Nat} : ∀ {l : List (Value × (Addr → Value → Option Addr → TS))} {hs : List (Nat × List Nat)}, ToldOk ca l hs →
    (∀ h ∈ hs, PySem.W.exmOne K (.ref (ca c)) (.ref (ca h.1)) = some (Nat.beq c h.1)) → findN c hs = some s → Q (.str (strOf s)) H → wMany K (fun _ _ _ _ => False) { nx := nx, rt := Q } l (.ref (ca c)) d σ H
  | _, _, .nil, _, e, _ => by cases e
  | _, _, .cons (c := d') (cs := cs) e r, hx, ef, q => by
    refine ⟨_, hx _ (List.mem_cons_self ..), fun z a ha => ?_, fun z => ?_⟩
    · unfold findN at ef
      simp only at z
      rw [z] at ef
      have : cs = s := Option.some.inj ef
      subst this
      rw [e]
      exact q
    · unfold findN at ef
      simp only at z
      rw [z] at ef
      exact wMany_told r (fun h hh => hx h (List.mem_cons_of_mem _ hh)) ef q
/-- what the def makes of the lambda's reading -/
def TT8 (K : PySem.W.Frag) (l : List (Value × (Addr → Value → Option Addr → TS))) : (XK → Hp → VK → Prop) → Hp → VK → Prop := fun tl H Q =>
  tl (fun cls d H' => ∀ σ', wMany K (fun _ _ _ _ => False) { nx := fun _ H' => Q .non H', rt := Q } l cls d σ' H') H Q
section
variable {X : Cx}
theorem told_many {Ng : List Str} {x a q : Str} {sg : Scope} {g : Addr} {cdg : Value} {h₀ : ExceptHandler} {hds : List ExceptHandler} {l : List (Value × (Addr → Value → Option Addr → TS))} {p1 p2 p3 p8 : Pos}
    (hh : ∀ (s : Shared) (H : Hp), HdsOk (cxOf C8.CX0 X.prog X.w X.K X.mg X.base Ng x sg g cdg X.A X.stack s H C8.E0).nox (h₀ :: hds) l) (h0 : ∀ f : Addr, (L2.start Ng [V.ref f])[0]? = some (some (V.ref f))) :
    LamX.GivesTo X Ng x sg g cdg [.Try [.Return (some (.Call (.Name a p1) [] [] p2)) p3] (h₀ :: hds) [] [] p8] a q (TT8 X.K l) := by
  intro f c' s H Q tl act hc h
  refine ⟨_, pss_one (ps_try_many (X := (cxOf C8.CX0 X.prog X.w X.K X.mg X.base Ng x sg g cdg X.A X.stack s H C8.E0).nox)
      (tb := fun W D σ H => ∃ Ech : XK, (∀ cls d σ' H', Ech cls d H' → W cls d σ' H') ∧ σ[0]? = some (some (.ref f)) ∧ H c' = some (LamX.CodeO c' q) ∧ tl Ech H D.rt)
      rfl rfl LamX.takes0 (fun W pn xe tk _ => ?_) (hh s H)), ?_⟩
  · refine ⟨fun pins s' σ H' D I h' => ?_⟩
    obtain ⟨Ech, hW, h1, h2, h3⟩ := h'
    have hp := act W pn xe Ech p1 p2 tk hW
    have hq := pss_one (ps_ret (pos := p3) hp)
    exact hq.run pins s' σ H' D I ⟨h1, h2, h3⟩
  · exact ⟨_, fun cls d σ' H' z => z σ', h0 f, hc, h⟩
variable {G : Gm} {E : XK}
theorem Rep.ext {F : Addr → Prop} {ρ : List Addr} {st : Store} {H H1 : Hp} (R : Rep G F ρ st H) (e : LamX.ExtN H H1) (t : LamX.Tabs G.T H1) : Rep G F ρ st H1 ∧ Stp ρ H ρ H1 := by
  have s : Stp ρ H ρ H1 := ⟨fun a o h n _ => e a o h n, ⟨[], by simp⟩, fun _ z => .inl z, fun a o h n => ⟨o, e a o h n, n⟩⟩
  refine ⟨⟨R.len, R.nd, R.dis, fun a z => ?_, fun l a m e1 e2 => ?_, t⟩, s⟩
  · obtain ⟨o, q, q1, q2⟩ := R.fin a z
    exact ⟨o, e a o q q1, q1, q2⟩
  · have rm := R.obj l a m e1 e2
    have key : ∀ o, H a = some o → NT o → H1 a = H a := fun o h n => by rw [h]; exact e a o h n
    refine rm.mono s.keeps ?_
    cases m with
    | lst xs =>
      obtain ⟨vs, q, _⟩ := rm
      exact key _ q (fun ps z => by cases z)
    | dct t kvs =>
      rcases rm with ⟨ps, q, _⟩ | ⟨ps, q, _⟩
      · exact key _ q (fun ps z => by cases z)
      · exact key _ q (fun ps z => by cases z)
    | ins c fs =>
      obtain ⟨dx, ps, q, _⟩ := rm
      exact key _ q (fun ps z => by cases z)
    | orc l =>
      obtain ⟨x, y, z, q, _⟩ := rm
      exact key _ q (fun ps z => by cases z)
def toldF (rs : List Nat) (hs : List (Nat × List Nat)) (c : Nat) : Option (List Nat) := match rs.contains c with
  | true => findN c hs
  | false => none
def eTold (rs : List Nat) (hs : List (Nat × List Nat)) (m : EM DH.X) : EM DH.X := fun sl st => match m sl st with
  | .ok x st1 => .ok x st1
  | .exn c _ st1 => (match toldF rs hs c with
    | some s => .ok (.d (.str s)) st1
    | none => .bad)
  | .bad => .bad
theorem rd_told {rs : List Nat} {hs : List (Nat × List Nat)} {l : List (Value × (Addr → Value → Option Addr → TS))} {m : EM DH.X} (tk : ToldOk G.ca l hs) (hx : ∀ c ∈ rs, ∀ h ∈ hs, PySem.W.exmOne G.K (.ref (G.ca c)) (.ref (G.ca h.1)) = some (Nat.beq c h.1)) {σ : L2.St} {H : Hp} {Q : VK}
    (h : rdE G E (eTold rs hs m) σ H Q) : LamX.tLam G.T (TT8 G.K l) (fun E' => rdE G E' m) σ H Q := by
  obtain ⟨F, ρ, sl, st, sk, R, h⟩ := h
  refine ⟨R.tab, fun H1 e1 t1 => ?_⟩
  obtain ⟨R1, s1⟩ := R.ext e1 t1
  refine ⟨F, ρ, sl, st, sk.mono s1, R1, ?_⟩
  unfold eTold at h
  cases q : m sl st with
  | bad => rw [q] at h; exact h
  | ok x st1 =>
    rw [q] at h
    exact PostG.later (R := rX G) s1 h
  | exn c fs st1 =>
    rw [q] at h
    simp only at h
    cases q2 : toldF rs hs c with
    | none => rw [q2] at h; exact h.elim
    | some s =>
      rw [q2] at h
      intro ρ' H' d s' R' re σ'
      unfold toldF at q2
      cases q3 : rs.contains c with
      | false => rw [q3] at q2; cases q2
      | true =>
        rw [q3] at q2
        refine wMany_told tk (hx c (by simpa using q3)) q2 ?_
        exact h ρ' H' _ (s1.trans s') R' (show RelX G F ρ' H' (.d (.str s)) (.str (strOf s)) from rfl)
/-- x(lambda: body), x's def a try with many clauses -/
theorem q_told {rs : List Nat} {hs : List (Nat × List Nat)} {l : List (Value × (Addr → Value → Option Addr → TS))} {x a : Str} {g c Pt : Addr} {k : Nat} {pg : Arguments} {sg : Scope} {fd : FuncData} {Ng : List Str}
    {params : Arguments} {body : Expr} {scope : Scope} {m : EM DH.X} {p lpos pos p1 p2 p3 p8 : Pos} {h₀ : ExceptHandler} {hds : List ExceptHandler} (hK : G.K = X.K)
    (F : FunD X.K x x pg [.Try [.Return (some (.Call (.Name a p1) [] [] p2)) p3] (h₀ :: hds) [] [] p8] sg [] [] g fd) (hb : L2.Binds X.K fd [a] []) (Sg : FnScope Ng [a] sg) (hNg : Ng[0]? = some a) (hva : Vis sg a)
    (hh : ∀ (cdg : Value) (s : Shared) (H : Hp), HdsOk (cxOf C8.CX0 X.prog X.w X.K X.mg X.base Ng x sg g cdg X.A X.stack s H C8.E0).nox (h₀ :: hds) l) (tk : ToldOk G.ca l hs) (hx : ∀ c ∈ rs, ∀ h ∈ hs, PySem.W.exmOne G.K (.ref (G.ca c)) (.ref (G.ca h.1)) = some (Nat.beq c h.1))
    (hg : Gl X x) (hm : X.mg x = some (.ref g))
    (TB : LamX.TabB X.base X.mg c Pt) (hcode : X.env.code = .ref c) (hmT : (Pt, X.env.qual ++ "<lambda>") ∈ G.T) (hu : ∀ p ∈ G.T, p.1 = Pt → p.2 = X.env.qual ++ "<lambda>") (hr : Room (k + 2) X.A) (L : LamX.LamS X.env.scope scope) (hdef : defaultsOf params X.env = ([], []))
    (hbind : ∀ (q : Str) (cl : List (Str × Addr)) (pm cv ctv : Value), bindArgs (PySem.W.kla_fn "<lambda>" q params body scope cl pm cv ctv) ⟨[], []⟩ = pure [])
    (hbody : ∀ (A : Around) (outer : List Env) (s : Shared) (H : Hp) (E : XK) (f c' : Addr), Room k (A.deeper (LamX.lamEnv X scope s.heap.objs.size f c')) → PE (LamX.lamCx X A outer s H E scope f c') body (rdE G E m))
    (hdb : (x == ("__debug__" : Str)) = false) (hd : (a == ("__debug__" : Str)) = false) (hcd : (a == ("__classdict__" : Str)) = false) :
    PE X (.Call (.Name x p) [.Lambda params body scope lpos] [] pos) (rdE G E (eTold rs hs m)) := by
  obtain ⟨oc, od, dV, kV, doc, pm, an, cdv, ct, osl, rfl, lk, hcdv, _, _⟩ := F.ex
  refine PE.imp (LamX.pe_lamcall (T := G.T) (TT := TT8 X.K l) hg hm F.kp lk hcdv hb Sg hNg hva (told_many (hh cdv) fun f => ?_) TB hcode hmT hu hr L hdef hbind hbody hdb hd hcd) fun σ H Q h => ?_
  · have hlen : Ng.length ≠ 0 := fun z => by
      cases Ng with
      | nil => cases hNg
      | cons _ _ => cases z
    unfold L2.start
    rfl
  · rw [← hK]
    exact rd_told tk hx h
end
/-! ### raise C('..') -/
section
variable {X : Cx} {G : Gm} {E : XK} {x m : Str} {c j : Nat} {p p2 pos pos' : Pos}
theorem q_raiseC (hK : G.K = X.K) (hc : X.calm = true) (tk : Takes X (fun cls d _ H => E cls d H)) (he : PySem.W.excIn X.K (G.ca c) [.type "ValueError", .type "Exception", .type "BaseException", .type "object"] "ValueError.__new__" = true) (kC : PySem.W.keepIn X.K (.ref (G.ca c)) = true)
    (hb : PySem.W.subIn X.K (.ref (G.ca c)) (.type "BaseException") = some true) (ht : PySem.W.typeIn X.K (.ref (G.ca c)) = some (.type "type")) (gC : X.mg x = some (.ref (G.ca c))) (hg : Gl X x) (hdb : (x == ("__debug__" : Str)) = false) :
    PS X (.Raise (some (.Call (.Name x p) [.Constant (.str m) j p2] [] pos)) none pos') (rdS G E (sRaise c)) :=
  q_raise hc tk (pmk_own PySem.F.excBase_ValueError he gC kC (raises_own hb ht) hg hdb) fun _ _ _ h => h
end
end DH
namespace DH
open PySem PySem.Spec PyProof.Rows L2
/-! ### the rounds of the script's first cell -/
abbrev tRest (K : PySem.W.Frag) : TS := tAsg (tSl (rSlL K) (tVar 0) tNoPart (tPart (tVar 1))) (gName 2)
/-- three numbers -/
abbrev diceV (x y z : Int) : List V := [.int x, .int y, .int z]
abbrev diceD (x y z : Int) : List D := [.int x, .int y, .int z]
def spRounds (G : Gm) : Sp := fun vs H Q _ => ∃ (s0 : Addr) (ns : List Int), vs = [.ref s0, .int 1] ∧ SqL G.K H s0 (ns.map V.int) ∧ LamX.Tabs G.T H ∧
  ∀ (a b : Addr) (x y z : Int) (H' : Hp), H' a = some (.lst [.ref b]) → H' b = some (.lst (diceV x y z)) → LamX.Tabs G.T H' → Q (.ref a) H'
section
variable {P : Program} {w : World} {K : PySem.W.Frag} {mg : Str → Option Value} {base : Heap} {G : Gm}
theorem cut1 (ns : List Int) : cutV (ns.map V.int) none (some 1) = (ns.take 1).map V.int := by
  unfold cutV
  have e : HT.sIx (ns.map V.int).length (ns.map V.int).length (some 1) = min 1 (ns.map V.int).length := HT.sIx_nat _ _ 1
  rw [e, HT.sIx_none]
  cases ns with
  | nil => rfl
  | cons n r =>
    have : min 1 (List.map V.int (n :: r)).length = 1 := by simp
    rw [this]
    rfl
theorem rel_ints {N : Addr → Prop} {H : Hp} : ∀ ns : List Int, RelDs G N H (ns.map D.int) (ns.map V.int)
  | [] => rfl
  | n :: r => ⟨_, _, rfl, rfl, rel_ints r⟩
theorem rounds_ok {x qual : Str} {params : Arguments} {s1 : Stmt} {rest : List Stmt} {scope : Scope} {f : Addr} {fd : FuncData} {N ps : List Str} {k n : Nat} {b : SM} (hK : G.K = K) (F : FunD K x qual params (s1 :: rest) scope [] [] f fd) (S : FnScope N ps scope) (hn : N.length = n + 3) (hp : ps.length = 2)
    (hbody : ∀ (cdv : Value) (A : Around) (outer : List Env) (s : Shared) (H : Hp) (E : XK), Room k (A.deeper (envOfC qual scope s.heap.objs.size f cdv)) →
      PS (cxOf (L2.CX P w) P w K mg base N qual scope f cdv A outer s H E) s1 (tRest K) ∧ PSs (cxOf (L2.CX P w) P w K mg base N qual scope f cdv A outer s H E) rest (rdS G E b))
    (hm : ∀ ns : List Int, ∃ x y z st, b (none :: some (.d (.int 1)) :: some (.d (.lst ((ns.take 1).map D.int))) :: List.replicate n none) [] = .rt (.d (.lst [.lst (diceD x y z)])) st) :
    FnOk P w K mg base (L2.CX P w) (k + 1) f fd ps (spRounds G) := by
  obtain ⟨oc, od, dV, kV, doc, pm, an, cdv, ct, osl, rfl, lk, hcd, _, _⟩ := F.ex
  refine fn_of lk hcd S (fun vs H Q E h => ?_) fun A outer s H vs Q E hr h => ?_
  · obtain ⟨s0, ns, rfl, _⟩ := h
    rw [hp]; rfl
  · obtain ⟨h1, h2⟩ := hbody cdv A outer s H E hr
    refine ⟨_, pss_cons h1 h2, ?_⟩
    obtain ⟨s0, ns, rfl, hs, hT, hQ⟩ := h
    refine ⟨.ref s0, rfl, ⟨.int 1, rfl, 1, rfl, s0, ns.map V.int, rfl, by rw [← hK]; exact hs, fun p hp0 => ?_⟩⟩
    rw [cut1]
    show rdS G E b _ ((L2.start N [.ref s0, .int 1]).set 2 (some (.ref p))) (upd H p (.lst ((ns.take 1).map V.int)))
    obtain ⟨x, y, z, st, e⟩ := hm ns
    have hT1 : LamX.Tabs G.T (upd H p (.lst ((ns.take 1).map V.int))) := tabs_new hp0 hT
    refine ⟨fun _ => False, [], none :: some (.d (.int 1)) :: some (.d (.lst ((ns.take 1).map D.int))) :: List.replicate n none, [], ⟨?_, fun i v hv => ?_⟩, ⟨rfl, List.nodup_nil, (fun a ha => by cases ha), (fun a ha => False.elim ha), (fun l a o e => by cases e), hT1⟩, ?_⟩
    · unfold L2.start
      simp [hn]
    · match i, hv with
      | 0, hv => cases hv
      | 1, hv =>
        have hv : some (some (X.d (.int 1))) = some (some v) := hv
        cases hv
        refine ⟨.int 1, ?_, rfl⟩
        unfold L2.start
        rfl
      | 2, hv =>
        have hv : some (some (X.d (.lst ((ns.take 1).map D.int)))) = some (some v) := hv
        cases hv
        refine ⟨.ref p, ?_, p, _, rfl, ⟨upd_same, fun z => z.elim id fun z => by cases z⟩, rel_ints _⟩
        rw [List.getElem?_set_self]
        unfold L2.start
        simp [hn]
      | i + 3, hv =>
        have hv : (List.replicate n (none : Option X))[i]? = some (some v) := hv
        rw [List.getElem?_replicate] at hv
        split at hv <;> cases hv
    · rw [e]
      intro ρ' H' v s' R' rv
      obtain ⟨a, vs, rfl, fa, rs⟩ := rv
      obtain ⟨v1, r1, e1, rb, e2⟩ := rs
      have e2' : r1 = [] := e2
      subst e2' e1
      obtain ⟨b', ws, rfl, fb, rw'⟩ := rb
      obtain ⟨w1, t1, q1, u1, w2, t2, q2, u2, w3, t3, q3, u3, q4⟩ := rw'
      have q4' : t3 = [] := q4
      have u1' : w1 = .int x := u1
      have u2' : w2 = .int y := u2
      have u3' : w3 = .int z := u3
      subst q4' q3 q2 q1 u1' u2' u3'
      exact hQ a b' x y z H' fa.1 fb.1 R'.tab
/-! ### the law -/
def spLaw (G : Gm) : Sp := fun vs H Q _ => ∃ (s0 : Addr) (ns : List Int), vs = [.ref s0] ∧ SqL G.K H s0 (ns.map V.int) ∧ LamX.Tabs G.T H ∧ ∀ H', Q (.bl true) H'
abbrev tRounds (G : Gm) (E : XK) : TE := tCall (spRounds G) [] E (tCons (tVar 0) (tCons (tC (.int 1)) tNil))
abbrev tiRounds (G : Gm) (K : PySem.W.Frag) (E : XK) : TI := fun σ H R => tRounds G E σ H fun x H1 => ∃ a, x = .ref a ∧ (((∃ xs, SqL K H1 a xs) ∧ R (Itl K a) H1) ∨ ((∃ xs, SqT K H1 a xs) ∧ R (Itt K a) H1))
theorem law_ok {x qual : Str} {params : Arguments} {body : List Stmt} {scope : Scope} {f : Addr} {fd : FuncData} {N ps : List Str} {k n : Nat} {b : SM} (hK : G.K = K) (F : FunD K x qual params body scope [] [] f fd) (S : FnScope N ps scope) (hn : N.length = n + 2) (hp : ps.length = 1)
    (hbody : ∀ (cdv : Value), fd.code = cdv → PySem.W.codeIn K cdv qual = true → ∀ (A : Around) (outer : List Env) (s : Shared) (H : Hp) (E : XK), Room k (A.deeper (envOfC qual scope s.heap.objs.size f cdv)) →
      PSs (cxOf (L2.CX P w) P w K mg base N qual scope f cdv A outer s H E) body (tSeq (tFor (tiRounds G K E) (gName 1) (rdS G E b)) (tRet (tC (.bl true)))))
    (hm : ∀ x y z : Int, ∃ sl st, b (none :: some (.loc 0) :: List.replicate n none) [.lst (diceD x y z)] = .nx sl st) :
    FnOk P w K mg base (L2.CX P w) (k + 1) f fd ps (spLaw G) := by
  obtain ⟨oc, od, dV, kV, doc, pm, an, cdv, ct, osl, rfl, lk, hcd, _, _⟩ := F.ex
  refine fn_of lk hcd S (fun vs H Q E h => ?_) fun A outer s H vs Q E hr h => ?_
  · obtain ⟨s0, ns, rfl, _⟩ := h
    rw [hp]; rfl
  · refine ⟨_, hbody cdv rfl hcd A outer s H E hr, ?_⟩
    obtain ⟨s0, ns, rfl, hs, hT, hQ⟩ := h
    refine ⟨.ref s0, rfl, s0, ns, rfl, hs, hT, fun a b' x y z H' ha hb hT' => ⟨a, rfl, .inl ⟨⟨_, SqL.of ha⟩, ?_⟩⟩⟩
    have nab : a ≠ b' := fun e => by
      rw [e, hb] at ha
      cases ha
    obtain ⟨sl, st, em⟩ := hm x y z
    refine ⟨fun i m σ H2 => (i = 0 ∧ m = 1 ∧ σ.length = n + 2 ∧ H2 = H') ∨ (i = 1 ∧ m = 0 ∧ H2 a = some (.lst [.ref b'])), ⟨1, .inl ⟨rfl, rfl, by unfold L2.start; simp [hn], rfl⟩⟩, ?_⟩
    rintro i m σ2 H2 (⟨rfl, rfl, hl, rfl⟩ | ⟨rfl, rfl, h2⟩)
    · right
      refine ⟨⟨[.ref b'], .ref b', SqL.of ha, rfl⟩, fun _ H3 => H3 a = some (.lst [.ref b']), fun σ' H3 h3 => ⟨0, Nat.lt_succ_self 0, .inr ⟨rfl, rfl, h3⟩⟩, fun v H3 hy => ?_⟩
      obtain ⟨rfl, hall⟩ := hy
      have ev : some (V.ref b') = some v := hall _ (SqL.of ha)
      cases ev
      show rdS G E b _ (σ2.set 1 (some (.ref b'))) H3
      refine ⟨fun _ => False, [b'], none :: some (.loc 0) :: List.replicate n none, [.lst (diceD x y z)], ⟨?_, fun i v hv => ?_⟩, ⟨rfl, by simp, (fun _ _ z => z), (fun a ha => False.elim ha), fun l a o e1 e2 => ?_, hT'⟩, ?_⟩
      · rw [List.length_set, hl]
        simp
      · match i, hv with
        | 0, hv => cases hv
        | 1, hv =>
          have hv : some (some (X.loc 0)) = some (some v) := hv
          cases hv
          exact ⟨.ref b', by rw [List.getElem?_set_self (by omega)], b', rfl, rfl⟩
        | i + 2, hv =>
          have hv : (List.replicate n (none : Option X))[i]? = some (some v) := hv
          rw [List.getElem?_replicate] at hv
          split at hv <;> cases hv
      · match l, e1, e2 with
        | 0, e1, e2 =>
          cases e1
          cases e2
          exact ⟨_, hb, rel_ints [x, y, z]⟩
        | l + 1, e1, e2 => cases e2
      · rw [em]
        intro ρ' H4 σ' s' R' sk'
        exact s'.keep a _ ha (fun ps z => by cases z) (by simpa using nab)
    · left
      exact ⟨⟨_, SqL.of h2, Nat.le_refl _⟩, hQ H2⟩
end
end DH
namespace DH
open PySem PySem.Spec PyProof.Rows L2
section
variable {X : Cx} {G : Gm} {E : XK} {pos : Pos}
/-! ### a, b, .. = (e, f, ..) -/
def gNames : List Nat → TGs
  | [] => gNil
  | i :: r => gCons (gName i) (gNames r)
def setAll : List Nat → List DH.X → Slots → Option Slots
  | [], [], sl => some sl
  | i :: r, x :: xs, sl => setAll r xs (sl.set i (some x))
  | _, _, _ => none
def sTupN (is : List Nat) (m : EM (List DH.X)) : SM := fun sl st => (m sl st).s fun xs st1 => match small xs.length with
  | true => (match setAll is xs sl with
    | some sl' => .nx sl' st1
    | none => .bad)
  | false => .bad
theorem setAll_len : ∀ {is : List Nat} {xs : List DH.X} {sl sl' : Slots}, setAll is xs sl = some sl' → xs.length = is.length
  | [], [], _, _, _ => rfl
  | [], _ :: _, _, _, h => by cases h
  | _ :: _, [], _, _, h => by cases h
  | i :: is, x :: xs, sl, sl', h => by
    have h' : setAll is xs (sl.set i (some x)) = some sl' := h
    rw [List.length_cons, List.length_cons, setAll_len h']
theorem names_ok {F : Addr → Prop} {ρ : List Addr} {H : Hp} {Q : L2.St → Hp → Prop} : ∀ {is : List Nat} {xs : List DH.X} {vs : List V} {sl sl' : Slots} {σ : L2.St}, RelXs G F ρ H xs vs → setAll is xs sl = some sl' → SlOk G F ρ H sl σ → (∀ σ', SlOk G F ρ H sl' σ' → Q σ' H) → gNames is vs σ H Q
  | [], [], vs, sl, sl', σ, r, h, sk, k => by
    have e : sl = sl' := Option.some.inj h
    subst e
    exact ⟨r, k σ sk⟩
  | [], _ :: _, _, _, _, _, _, h, _, _ => by cases h
  | _ :: _, [], _, _, _, _, _, h, _, _ => by cases h
  | i :: is, x :: xs, vs, sl, sl', σ, r, h, sk, k => by
    obtain ⟨v, t, e, r1, r2⟩ := r
    exact ⟨v, t, e, names_ok r2 (show setAll is xs (sl.set i (some x)) = some sl' from h) (sk.set i r1) k⟩
theorem q_tupN {ts es : List Expr} {is : List Nat} {k k2 : Nat} {p p2 : Pos} {m : EM (List DH.X)} (hK : G.K = X.K) (hc : X.calm = true) (ha : PA X es (rdA G E m)) (hg : PGs X ts (gNames is)) (hn : (assignEach ts X.env).length = is.length) (hst : (assignEach ts X.env).findIdx? (·.1) = none)
    (hs : swapsWithSole [.Tuple ts k p] (.Tuple es k2 p2) pos.line X.env = pure false) (hw : swappedStores [.Tuple ts k p] (.Tuple es k2 p2) X.env = pure none) (h1 : (assignEach [.Tuple ts k p] X.env).map (·.2) = [assign (.Tuple ts k p) X.env]) :
    PS X (.Assign [.Tuple ts k p] (.Tuple es k2 p2) pos) (rdS G E (sTupN is m)) := by
  refine PS.imp (ps_asg (pe_tup ha) (pg_tup hc hg hn hst) hs hw h1) fun D σ H h => ?_
  obtain ⟨F, ρ, sl, st, sk, R, h⟩ := h
  refine ⟨F, ρ, sl, st, sk, R, PostG.mono (PostS.part (R := rXs G) h) fun vs H1 h1 => ?_⟩
  obtain ⟨xs, st1, ρ1, s1, R1, r1, h1⟩ := h1
  have h1 : PostS G E F ρ1 H1 (match small xs.length with | true => (match setAll is xs sl with | some sl' => .nx sl' st1 | none => .bad) | false => .bad) D := h1
  cases z : small xs.length with
  | false => rw [z] at h1; exact h1.elim
  | true =>
    rw [z] at h1
    simp only at h1
    cases q : setAll is xs sl with
    | none => rw [q] at h1; exact h1.elim
    | some sl' =>
      rw [q] at h1
      have hl := r1.length
      refine ⟨by rw [hl]; exact small_ok z, fun p0 hp => ?_⟩
      have s2 : Stp ρ1 H1 ρ1 (upd H1 p0 (.tup vs)) := stp_new hp
      refine ⟨p0, vs, rfl, .inl (.inl upd_same), by rw [hl]; exact setAll_len q, names_ok (r1.mono s2) q ((sk.mono s1).mono s2) fun σ' sk' => ?_⟩
      exact h1 ρ1 _ σ' s2 (R1.new hp) sk'
/-! ### constants of the module -/
theorem q_gint {x : Str} {i : Int} (hg : Gl X x) (hm : ∃ t, X.mg x = some (.int i t)) (hd : (x == ("__debug__" : Str)) = false) : PE X (.Name x pos) (rdE G E (eC (.int i))) := by
  obtain ⟨t, hm⟩ := hm
  exact q_c (v := .int i) (pe_glob hg hm ⟨t, rfl⟩ hd) fun _ _ => rfl
/-! ### str(i) -/
def digs (n : Nat) : Option (List Nat) := match Nat.blt n 10 with
  | true => some [48 + n]
  | false => (match Nat.blt n 100 with
    | true => some [48 + n / 10, 48 + n % 10]
    | false => none)
def gStr : D → Store → O DH.X
  | .int (.ofNat n), st => (match digs n with
    | some cs => .ok (.d (.str cs)) st
    | none => .bad)
  | _, _ => .bad
theorem digs_lt {n : Nat} {cs : List Nat} (h : digs n = some cs) : n < 100 := by
  unfold digs at h
  cases q : Nat.blt n 10 with
  | true =>
    have := Nat.le_of_ble_eq_true q
    omega
  | false =>
    rw [q] at h
    simp only at h
    cases q2 : Nat.blt n 100 with
    | true => exact Nat.le_of_ble_eq_true q2
    | false => rw [q2] at h; cases h
def strB (n : Nat) : Bool := match digs n with
  | some cs => decide ((toString (Int.ofNat n) : Str) = strOf cs)
  | none => false
theorem strB_all : ∀ n, n < 100 → strB n = true := by decide +kernel
theorem digs_ok {n : Nat} {cs : List Nat} (h : digs n = some cs) : (toString (Int.ofNat n) : Str) = strOf cs := by
  have := strB_all n (digs_lt h)
  unfold strB at this
  rw [h] at this
  exact of_decide_eq_true this
abbrev rStrI : List V → Hp → VK → Prop := fun xs H Q => ∃ i, xs = [V.int i] ∧ i.natAbs.log2 < 1920 ∧ Q (.str (toString i)) H
theorem str_v : CallV G rStrI (f1 gStr) := cal1 fun E F ρ H st a v Q R ra h => by
  cases a with
  | int i =>
    cases i with
    | negSucc n => exact h.elim
    | ofNat n =>
      unfold gStr at h
      cases z : digs n with
      | none => simp only [z] at h; exact h.elim
      | some cs =>
        simp only [z] at h
        have e : v = .int (Int.ofNat n) := ra
        subst e
        refine ⟨Int.ofNat n, rfl, ?_, ?_⟩
        · have h1 := digs_lt z
          have h2 : (Int.ofNat n).natAbs = n := rfl
          rw [h2]
          by_cases h0 : n = 0
          · rw [h0]; decide
          · have : n.log2 < 7 := (Nat.log2_lt h0).mpr (by omega)
            omega
        · rw [digs_ok z]
          exact now1 R h rfl
  | _ => exact h.elim
end
end DH
namespace DH
open PySem PySem.Spec PyProof.Rows L2
section
variable {X : Cx} {G : Gm} {E : XK}
def cYes : EM Bool := fun _ st => .ok true st
theorem q_yes : PTs X [] (rdT G E cYes) := ⟨fun pins s σ H Q I h => by
  obtain ⟨F, ρ, sl, st, sk, R, h⟩ := h
  exact pts_nil.run pins s σ H Q I (PostG.now (R := rB) h R rfl)⟩
theorem q_test1 {c : Expr} {t : EM Bool} (h : PT X c (rdT G E t)) : PTs X [c] (rdT G E t) := pts_one h
def gAddI : D → D → Store → O DH.X
  | .int i, .int j, st => .ok (.d (.int (i + j))) st
  | _, _, _ => .bad
theorem addI_v : OpV G (ipI fun i j => i + j) (f2 gAddI) := op2 fun E F ρ H st a b v w Q R ra rb h => by
  cases a with
  | int i =>
    cases b with
    | int j => exact ⟨i, j, ra, rb, now1 R h rfl⟩
    | _ => exact h.elim
  | _ => exact h.elim
end
end DH
namespace DH
open PySem PySem.Spec PyProof.Rows L2
/-! ### parts of a suite -/
def seqAll : List SM → SM
  | [] => sNx
  | m :: r => sSeq m (seqAll r)
def sSeqs : List SM → SM → SM
  | [], k => k
  | m :: r, k => sSeq m (sSeqs r k)
theorem sSeqs_nx {k : SM} : ∀ {ss : List SM} {sl sl' : Slots} {st st' : Store}, seqAll ss sl st = .nx sl' st' → sSeqs ss k sl st = k sl' st'
  | [], sl, sl', st, st', h => by
    have h' : SO.nx sl st = .nx sl' st' := h
    cases h'
    rfl
  | m :: r, sl, sl', st, st', h => by
    have h' : (match m sl st with | .nx a b => seqAll r a b | o => o) = .nx sl' st' := h
    show (match m sl st with | .nx a b => sSeqs r k a b | o => o) = k sl' st'
    cases q : m sl st with
    | nx a b =>
      rw [q] at h'
      exact sSeqs_nx h'
    | rt x b => rw [q] at h'; cases h'
    | bk a b => rw [q] at h'; cases h'
    | ct a b => rw [q] at h'; cases h'
    | exn x y b => rw [q] at h'; cases h'
    | bad => rw [q] at h'; cases h'
theorem sSeq_nx {m k : SM} {sl sl' : Slots} {st st' : Store} (h : m sl st = .nx sl' st') : sSeq m k sl st = k sl' st' := by
  unfold sSeq
  rw [h]
theorem sSet_ok {i : Nat} {m : EM DH.X} {sl : Slots} {st st' : Store} {x : DH.X} (h : m sl st = .ok x st') : sSet i m sl st = .nx (sl.set i (some x)) st' := by
  unfold sSet
  rw [h]
  rfl
theorem sTupN_ok {is : List Nat} {m : EM (List DH.X)} {sl sl' : Slots} {st st' : Store} {xs : List DH.X} (h : m sl st = .ok xs st') (hz : small xs.length = true) (h2 : setAll is xs sl = some sl') : sTupN is m sl st = .nx sl' st' := by
  unfold sTupN
  rw [h]
  show (match small xs.length with | true => (match setAll is xs sl with | some sl' => SO.nx sl' st' | none => .bad) | false => .bad) = _
  rw [hz, h2]
theorem aCons_ok {m : EM DH.X} {r : EM (List DH.X)} {sl : Slots} {st st1 st2 : Store} {x : DH.X} {xs : List DH.X} (h : m sl st = .ok x st1) (h2 : r sl st1 = .ok xs st2) : aCons m r sl st = .ok (x :: xs) st2 := by
  unfold aCons
  rw [h]
  show (r sl st1).bind _ = _
  rw [h2]
  rfl
theorem eBin_ok {f : DH.X → DH.X → Store → O DH.X} {a b : EM DH.X} {sl : Slots} {st st1 st2 : Store} {x y : DH.X} {o : O DH.X} (h : a sl st = .ok x st1) (h2 : b sl st1 = .ok y st2) (h3 : f x y st2 = o) : eBin f a b sl st = o := by
  unfold eBin
  rw [h]
  show (b sl st1).bind _ = _
  rw [h2]
  exact h3
theorem eApp_ok {f : List DH.X → Store → O DH.X} {m : EM (List DH.X)} {sl : Slots} {st st1 : Store} {xs : List DH.X} {o : O DH.X} (h : m sl st = .ok xs st1) (h2 : f xs st1 = o) : eApp f m sl st = o := by
  unfold eApp
  rw [h]
  exact h2
/-- the dice first, n things behind it, these slots kept -/
def eqSl : Slots → Slots → Bool
  | [], [] => true
  | none :: a, none :: b => eqSl a b
  | some (.d (.int i)) :: a, some (.d (.int j)) :: b => (match eqI i j with
    | true => eqSl a b
    | false => false)
  | some (.loc i) :: a, some (.loc j) :: b => (match Nat.beq i j with
    | true => eqSl a b
    | false => false)
  | _, _ => false
theorem eqI_true {i j : Int} (h : eqI i j = true) : i = j := by
  rw [eqI_eq] at h
  exact eq_of_beq h
theorem eqSl_eq : ∀ {a b : Slots}, eqSl a b = true → a = b
  | [], [], _ => rfl
  | [], _ :: _, h => by cases h
  | none :: _, [], h => by cases h
  | some (.d (.int _)) :: _, [], h => by cases h
  | some (.loc _) :: _, [], h => by cases h
  | none :: a, none :: b, h => by rw [eqSl_eq (show eqSl a b = true from h)]
  | some (.d (.int i)) :: a, some (.d (.int j)) :: b, h => by
    have h' : (match eqI i j with | true => eqSl a b | false => false) = true := h
    cases q : eqI i j with
    | false => rw [q] at h'; cases h'
    | true =>
      rw [q] at h'
      rw [eqI_true q, eqSl_eq h']
  | some (.loc i) :: a, some (.loc j) :: b, h => by
    have h' : (match Nat.beq i j with | true => eqSl a b | false => false) = true := h
    cases q : Nat.beq i j with
    | false => rw [q] at h'; cases h'
    | true =>
      rw [q] at h'
      rw [Nat.eq_of_beq_eq_true q, eqSl_eq h']
  | none :: _, some _ :: _, h => by cases h
  | some (.d (.int _)) :: _, none :: _, h => by cases h
  | some (.loc _) :: _, none :: _, h => by cases h
  | some (.loc _) :: _, some (.d _) :: _, h => by cases h
  | some (.d (.int _)) :: _, some (.loc _) :: _, h => by cases h
  | some (.d (.int _)) :: _, some (.d .non) :: _, h => by cases h
  | some (.d (.int _)) :: _, some (.d (.bl _)) :: _, h => by cases h
  | some (.d (.int _)) :: _, some (.d (.str _)) :: _, h => by cases h
  | some (.d (.int _)) :: _, some (.d (.tup _ _)) :: _, h => by cases h
  | some (.d (.int _)) :: _, some (.d (.lst _)) :: _, h => by cases h
  | some (.d (.int _)) :: _, some (.d (.dct _ _)) :: _, h => by cases h
  | some (.d (.int _)) :: _, some (.d (.obj _ _)) :: _, h => by cases h
  | some (.d .non) :: _, b, h => by cases b <;> cases h
  | some (.d (.bl _)) :: _, b, h => by cases b <;> cases h
  | some (.d (.str _)) :: _, b, h => by cases b <;> cases h
  | some (.d (.tup _ _)) :: _, b, h => by cases b <;> cases h
  | some (.d (.lst _)) :: _, b, h => by cases b <;> cases h
  | some (.d (.dct _ _)) :: _, b, h => by cases b <;> cases h
  | some (.d (.obj _ _)) :: _, b, h => by cases b <;> cases h
def okSeg (n : Nat) (ks : List Nat) (sl0 : Slots) (o : SO) : Bool := match o with
  | .nx sl (.lst [.int _, .int _, .int _] :: tl) => (match Nat.beq tl.length n with
    | true => eqSl (keepO ks 0 sl) sl0
    | false => false)
  | _ => false
theorem okSeg_ok {n : Nat} {ks : List Nat} {sl0 : Slots} {o : SO} (h : okSeg n ks sl0 o = true) : ∃ sl a b c tl, o = .nx sl (.lst (diceD a b c) :: tl) ∧ tl.length = n ∧ keepO ks 0 sl = sl0 := by
  unfold okSeg at h
  split at h
  · rename_i sl a b c tl
    cases q : Nat.beq tl.length n with
    | false => rw [q] at h; cases h
    | true =>
      rw [q] at h
      exact ⟨sl, a, b, c, tl, rfl, Nat.eq_of_beq_eq_true q, eqSl_eq h⟩
  · cases h
/-- all is well to the end -/
def okNx (o : SO) : Bool := match o with
  | .nx _ _ => true
  | _ => false
theorem okNx_ok {o : SO} (h : okNx o = true) : ∃ sl st, o = .nx sl st := by
  unfold okNx at h
  split at h
  · exact ⟨_, _, rfl⟩
  · cases h
/-- True is handed back, the dice stand first -/
def okRt (n : Nat) (o : SO) : Bool := match o with
  | .rt (.d (.bl true)) (.lst [.int _, .int _, .int _] :: tl) => Nat.ble n tl.length
  | _ => false
theorem okRt_ok {n : Nat} {o : SO} (h : okRt n o = true) : ∃ a b c tl, o = .rt (.d (.bl true)) (.lst (diceD a b c) :: tl) ∧ n ≤ tl.length := by
  unfold okRt at h
  split at h
  · exact ⟨_, _, _, _, rfl, Nat.le_of_ble_eq_true h⟩
  · cases h
def upN : Nat → Nat → List Nat
  | _, 0 => []
  | i, n + 1 => i :: upN (i + 1) n
theorem upN_mem : ∀ (n i k : Nat), i ≤ k → k < i + n → k ∈ upN i n
  | 0, i, k, h1, h2 => by omega
  | n + 1, i, k, h1, h2 => by
    unfold upN
    by_cases h : k = i
    · rw [h]; exact List.mem_cons_self ..
    · exact List.mem_cons_of_mem _ (upN_mem n (i + 1) k (by omega) (by omega))
theorem int_nat {r : Int} (h : 0 ≤ r) : ∃ n : Nat, r = Int.ofNat n ∧ ((n : Nat) : Int) = r := ⟨r.toNat, (Int.toNat_of_nonneg h).symm, Int.toNat_of_nonneg h⟩
end DH
namespace DH
open PySem PySem.Spec PyProof.Rows L2
def tRollT : EM Bool := (tOrM (eTest (eBin (f2 gEq) (eBin (f2 gIx) (eVar 0) (eC (.int 2))) (eC (.int 2)))) (tAndM (eTest (eBin (f2 gEq) (eBin (f2 gIx) (eVar 0) (eC (.int 2))) (eC (.int 1)))) (eTest (eBin (f2 gGt) (eBin (f2 gIx) (eVar 0) (eC (.int 0))) (eC (.int 0))))))
def sRollA : SM := (sSeq (sSet 2 (eBin (f2 gMod) (eApp (f1 gInt) (aCons (eBin (f2 gIx) (eVar 0) (eC (.int 0))) aNil)) (eVar 1)))
  (sSeq (sSetIx (eBin (f2 gDiv) (eBin (f2 gIx) (eVar 0) (eC (.int 0))) (eVar 1)) (eVar 0) (eC (.int 0)))
  (sRet (eVar 2))))
def bRoll : SM := (sSeq (sIf tRollT sRollA sNx)
  (sSeq (sSetIx (eC (.int 0)) (eVar 0) (eC (.int 2)))
  (sSeq (sSetIx (eBin (f2 gMod) (eApp (f1 gInt) (aCons (eBin (f2 (gAdd false)) (eBin (f2 (gAdd false)) (eBin (f2 (gMul false)) (eBin (f2 gIx) (eVar 0) (eC (.int 0))) (eC (.int 48271))) (eBin (f2 (gMul false)) (eBin (f2 gIx) (eVar 0) (eC (.int 1))) (eC (.int 69621)))) (eC (.int 11))) aNil)) (eC (.int 2147483647))) (eVar 0) (eC (.int 0)))
  (sSeq (sSetIx (eBin (f2 (gAdd false)) (eBin (f2 gIx) (eVar 0) (eC (.int 1))) (eC (.int 1))) (eVar 0) (eC (.int 1)))
  (sRet (eBin (f2 gMod) (eApp (f1 gInt) (aCons (eBin (f2 (gAdd false)) (eBin (f2 gDiv) (eBin (f2 gIx) (eVar 0) (eC (.int 0))) (eC (.int 7))) (eBin (f2 gIx) (eVar 0) (eC (.int 0)))) aNil)) (eVar 1)))))))
def rollM : Fn := mkD 2 3 bRoll

def RollTo (n : Int) (ds : List D) : Prop := ∃ (v a' b' c' : Int), ∀ st, rollM [.loc 0, .d (.int n)] (.lst ds :: st) = .ok (.d (.int (Int.fmod v n))) (.lst (diceD a' b' c') :: st)
theorem roll_div (k : Nat) (h : Nat.blt (k + 1) 1073741824 = true) (a b c : Int) (v : Option X) (st : Store) : sSetIx (eBin (f2 gDiv) (eBin (f2 gIx) (eVar 0) (eC (.int 0))) (eVar 1)) (eVar 0) (eC (.int 0)) [some (.loc 0), some (.d (.int (Int.ofNat (k + 1)))), v] (.lst (diceD a b c) :: st) = .nx [some (.loc 0), some (.d (.int (Int.ofNat (k + 1)))), v] (.lst (diceD (a.fdiv (Int.ofNat (k + 1))) b c) :: st) := by
  have e : eBin (f2 gDiv) (eBin (f2 gIx) (eVar 0) (eC (.int 0))) (eVar 1) [some (.loc 0), some (.d (.int (Int.ofNat (k + 1)))), v] (.lst (diceD a b c) :: st) = .ok (.d (.int (a.fdiv (Int.ofNat (k + 1))))) (.lst (diceD a b c) :: st) := by
    show gDiv (.int a) (.int (Int.ofNat (k + 1))) (.lst (diceD a b c) :: st) = _
    unfold gDiv
    have h1 : (Nat.blt 0 (Int.ofNat (k + 1)).natAbs && Nat.blt (Int.ofNat (k + 1)).natAbs 1073741824) = true := by
      show (Nat.blt 0 (k + 1) && Nat.blt (k + 1) 1073741824) = true
      rw [h]; rfl
    simp only [h1]
  unfold sSetIx
  rw [e]
  rfl
theorem roll_a (k : Nat) (h : Nat.blt (k + 1) 1073741824 = true) (a b c : Int) (hT : ∀ st, tRollT [some (.loc 0), some (.d (.int (Int.ofNat (k + 1)))), none] (.lst (diceD a b c) :: st) = .ok true (.lst (diceD a b c) :: st)) : RollTo (Int.ofNat (k + 1)) (diceD a b c) := by
  refine ⟨a, a.fdiv (Int.ofNat (k + 1)), b, c, fun st => ?_⟩
  show endF (bRoll [some (.loc 0), some (.d (.int (Int.ofNat (k + 1)))), none] (.lst (diceD a b c) :: st)) (st.length + 1) = _
  have e : bRoll [some (.loc 0), some (.d (.int (Int.ofNat (k + 1)))), none] (.lst (diceD a b c) :: st) = .rt (.d (.int (a.fmod (Int.ofNat (k + 1))))) (.lst (diceD (a.fdiv (Int.ofNat (k + 1))) b c) :: st) := by
    have e1 : sRollA [some (.loc 0), some (.d (.int (Int.ofNat (k + 1)))), none] (.lst (diceD a b c) :: st) = .rt (.d (.int (a.fmod (Int.ofNat (k + 1))))) (.lst (diceD (a.fdiv (Int.ofNat (k + 1))) b c) :: st) := by
      unfold sRollA
      refine (sSeq_nx (sl' := [some (.loc 0), some (.d (.int (Int.ofNat (k + 1)))), some (.d (.int (a.fmod (Int.ofNat (k + 1)))))]) (st' := .lst (diceD a b c) :: st) ?_).trans ?_
      · rfl
      rw [sSeq_nx (roll_div k h a b c _ st)]
      rfl
    have e2 : sIf tRollT sRollA sNx [some (.loc 0), some (.d (.int (Int.ofNat (k + 1)))), none] (.lst (diceD a b c) :: st) = .rt (.d (.int (a.fmod (Int.ofNat (k + 1))))) (.lst (diceD (a.fdiv (Int.ofNat (k + 1))) b c) :: st) := by
      unfold sIf
      rw [hT]
      exact e1
    unfold bRoll sSeq
    rw [e2]
  rw [e]
  show O.ok _ (.lst _ :: st.take st.length) = _
  rw [List.take_length]
theorem roll_core (k : Nat) (h : Nat.blt (k + 1) 1073741824 = true) (a b c : Int) : RollTo (Int.ofNat (k + 1)) (diceD a b c) := by
    match c, a with
    | .ofNat 2, a => exact roll_a k h a b _ fun st => rfl
    | .ofNat 1, .ofNat (j + 1) => exact roll_a k h _ b _ fun st => rfl
    | .ofNat 0, a => exact ⟨_, _, _, _, fun st => (show _ = O.ok _ (.lst _ :: st.take st.length) from rfl).trans (by rw [List.take_length]; rfl)⟩
    | .ofNat 1, .ofNat 0 => exact ⟨_, _, _, _, fun st => (show _ = O.ok _ (.lst _ :: st.take st.length) from rfl).trans (by rw [List.take_length]; rfl)⟩
    | .ofNat 1, .negSucc k => exact ⟨_, _, _, _, fun st => (show _ = O.ok _ (.lst _ :: st.take st.length) from rfl).trans (by rw [List.take_length]; rfl)⟩
    | .ofNat (k + 3), a => exact ⟨_, _, _, _, fun st => (show _ = O.ok _ (.lst _ :: st.take st.length) from rfl).trans (by rw [List.take_length]; rfl)⟩
    | .negSucc k, a => exact ⟨_, _, _, _, fun st => (show _ = O.ok _ (.lst _ :: st.take st.length) from rfl).trans (by rw [List.take_length]; rfl)⟩
theorem roll_any (n : Nat) (h0 : 0 < n) (h1 : n < 1073741824) (a b c : Int) : ∃ (r : Nat) (a' b' c' : Int), r < n ∧ ∀ st, rollM [.loc 0, .d (.int (Int.ofNat n))] (.lst (diceD a b c) :: st) = .ok (.d (.int (Int.ofNat r))) (.lst (diceD a' b' c') :: st) := by
  cases n with
  | zero => omega
  | succ k =>
    obtain ⟨v, a', b', c', e⟩ := roll_core k (Nat.ble_eq_true_of_le (by omega)) a b c
    have hp : (0 : Int) < Int.ofNat (k + 1) := by
      have : (0 : Int) < ((k + 1 : Nat) : Int) := by omega
      exact this
    have h2 := Int.fmod_nonneg_of_pos v hp
    have h3 := Int.fmod_lt_of_pos v hp
    refine ⟨(Int.fmod v (Int.ofNat (k + 1))).toNat, a', b', c', ?_, fun st => ?_⟩
    · have h4 : ((Int.fmod v (Int.ofNat (k + 1))).toNat : Int) < ((k + 1 : Nat) : Int) := by rw [Int.toNat_of_nonneg h2]; exact h3
      omega
    · rw [e]
      have h5 : Int.ofNat (Int.fmod v (Int.ofNat (k + 1))).toNat = Int.fmod v (Int.ofNat (k + 1)) := Int.toNat_of_nonneg h2
      rw [h5]
/-! ### rolls to come -/
inductive RT where
  | leaf | node (n : Nat) (f : Nat → RT)
def flatM {α β : Type} (f : α → List β) : List α → List β
  | [] => []
  | x :: xs => f x ++ flatM f xs
theorem flatM_mem {α β : Type} {f : α → List β} {y : β} : ∀ {xs : List α} {x : α}, x ∈ xs → y ∈ f x → y ∈ flatM f xs
  | z :: xs, x, h, hy => by
    unfold flatM
    rcases List.mem_cons.mp h with e | h
    · rw [← e]; exact List.mem_append_left _ hy
    · exact List.mem_append_right _ (flatM_mem h hy)
def consR (n r : Nat) : List (List (Nat × Nat)) → List (List (Nat × Nat))
  | [] => []
  | l :: ls => ((n, r) :: l) :: consR n r ls
theorem consR_mem {n r : Nat} {l : List (Nat × Nat)} : ∀ {ls : List (List (Nat × Nat))}, l ∈ ls → ((n, r) :: l) ∈ consR n r ls
  | m :: ls, h => by
    unfold consR
    rcases List.mem_cons.mp h with e | h
    · rw [e]; exact List.mem_cons_self ..
    · exact List.mem_cons_of_mem _ (consR_mem h)
/-- all rows of rolls -/
def RT.paths : RT → List (List (Nat × Nat))
  | .leaf => [[]]
  | .node n f => flatM (fun r => consR n r (f r).paths) (upN 0 n)
theorem flatM_inv {α β : Type} {f : α → List β} {y : β} : ∀ {xs : List α}, y ∈ flatM f xs → ∃ x ∈ xs, y ∈ f x
  | [], h => by cases h
  | z :: xs, h => by
    unfold flatM at h
    rcases List.mem_append.mp h with h | h
    · exact ⟨z, List.mem_cons_self .., h⟩
    · obtain ⟨x, h1, h2⟩ := flatM_inv h
      exact ⟨x, List.mem_cons_of_mem _ h1, h2⟩
theorem consR_inv {n r : Nat} {l : List (Nat × Nat)} : ∀ {ls : List (List (Nat × Nat))}, l ∈ consR n r ls → ∃ t ∈ ls, l = (n, r) :: t
  | [], h => by cases h
  | m :: ls, h => by
    unfold consR at h
    rcases List.mem_cons.mp h with e | h
    · exact ⟨m, List.mem_cons_self .., e⟩
    · obtain ⟨t, h1, h2⟩ := consR_inv h
      exact ⟨t, List.mem_cons_of_mem _ h1, h2⟩
theorem upN_inv : ∀ {n i k : Nat}, k ∈ upN i n → i ≤ k ∧ k < i + n
  | 0, i, k, h => by cases h
  | n + 1, i, k, h => by
    unfold upN at h
    rcases List.mem_cons.mp h with e | h
    · omega
    · have := upN_inv h
      omega
theorem RT.mem_node {n : Nat} {f : Nat → RT} {l : List (Nat × Nat)} (h : l ∈ (RT.node n f).paths) : ∃ r, r < n ∧ ∃ t ∈ (f r).paths, l = (n, r) :: t := by
  obtain ⟨r, h1, h2⟩ := flatM_inv h
  obtain ⟨t, h3, h4⟩ := consR_inv h2
  exact ⟨r, by have := upN_inv h1; omega, t, h3, h4⟩
/-- every roll has sides -/
def RT.Wf : RT → Prop
  | .leaf => True
  | .node n f => 0 < n ∧ n < 1073741824 ∧ ∀ r, r < n → (f r).Wf
/-- whatever the dice, one of the rows is theirs; t is asked of what is left -/
theorem RT.pick {k : List (Nat × Nat) → Prop} : ∀ (T : RT), T.Wf → ∀ (a b c : Int), (∀ l ∈ T.paths, ∀ a' b' c' : Int, ∃ t, Agr rollM (diceD a' b' c') t ∧ k (l ++ t)) → ∃ t, Agr rollM (diceD a b c) t ∧ k t := by
  intro T
  induction T generalizing k with
  | leaf =>
    intro _ a b c h
    exact h [] (List.mem_cons_self ..) a b c
  | node n f ih =>
    intro wf a b c h
    obtain ⟨h0, h1, h2⟩ := wf
    obtain ⟨r, a', b', c', hr, e⟩ := roll_any n h0 h1 a b c
    obtain ⟨t, ht, kt⟩ := ih r (k := fun t => k ((n, r) :: t)) (h2 r hr) a' b' c' fun l hl a2 b2 c2 => by
      obtain ⟨t, h3, h4⟩ := h ((n, r) :: l) (flatM_mem (upN_mem n 0 r (Nat.zero_le _) (by omega)) (consR_mem hl)) a2 b2 c2
      exact ⟨t, h3, h4⟩
    exact ⟨(n, r) :: t, ⟨a', b', c', e, ht⟩, kt⟩
/-- a roll by the oracle -/
def mRoll : Fn := fun xs st => match xs, st with
  | [.loc 0, .d (.int (.ofNat n))], .orc ((m, r) :: t) :: st' => (match Nat.beq n m with
    | true => .ok (.d (.int (Int.ofNat r))) (.orc t :: st')
    | false => .bad)
  | _, _ => .bad
section
variable {G : Gm}
theorem Rep.swap {F : Addr → Prop} {ρ : List Addr} {st : Store} {H : Hp} {m m' : MO} (R : Rep G F ρ (m :: st) H) (h : ∀ a, ρ[0]? = some a → RelM G (Nn F ρ) H m a → RelM G (Nn F ρ) H m' a) : Rep G F ρ (m' :: st) H := by
  refine ⟨by rw [R.len]; rfl, R.nd, R.dis, R.fin, fun l a o e1 e2 => ?_, R.tab⟩
  cases l with
  | zero =>
    have : m' = o := by simpa using e2
    rw [← this]
    exact h a e1 (R.obj 0 a m e1 rfl)
  | succ l => exact R.obj (l + 1) a o e1 (by simpa using e2)
theorem roll_sp (hG : G.rl = rollM) {vs : List V} {H : Hp} {Q : VK} {E : XK} (h : spF G mRoll vs H Q E) : spF G rollM vs H Q E := by
  obtain ⟨F, ρ, xs, st, rx, R, h⟩ := h
  unfold mRoll at h
  split at h
  · rename_i n m r t st'
    cases q : Nat.beq n m with
    | false => rw [q] at h; exact h.elim
    | true =>
      rw [q] at h
      have enm := Nat.eq_of_beq_eq_true q
      subst enm
      have hl : 0 < ρ.length := by rw [R.len]; exact Nat.zero_lt_succ _
      have e0 := List.getElem?_eq_getElem hl
      obtain ⟨x, y, z, ha, hA⟩ := R.obj 0 _ _ e0 rfl
      rw [hG] at hA
      obtain ⟨x', y', z', er, hA'⟩ := hA
      refine ⟨F, ρ, _, .lst (diceD x y z) :: st', rx, R.swap fun a e _ => ?_, ?_⟩
      · rw [e0] at e
        cases e
        exact ⟨_, ha, rel_ints [x, y, z]⟩
      · rw [er]
        intro ρ' H' b s' R' rb
        refine h ρ' H' b s' (R'.swap fun a e rm => ?_) rb
        obtain ⟨ws, hw, rw'⟩ := rm
        obtain ⟨w1, t1, q1, u1, w2, t2, q2, u2, w3, t3, q3, u3, q4⟩ := rw'
        have q4' : t3 = [] := q4
        have u1' : w1 = .int x' := u1
        have u2' : w2 = .int y' := u2
        have u3' : w3 = .int z' := u3
        subst q4' q3 q2 q1 u1' u2' u3'
        refine ⟨x', y', z', hw, ?_⟩
        rw [hG]
        exact hA'
  · exact h.elim
end
section
variable {P : Program} {w : World} {K : PySem.W.Frag} {mg : Str → Option Value} {base : Heap} {G : Gm}
theorem law_okO {x qual : Str} {params : Arguments} {body : List Stmt} {scope : Scope} {f : Addr} {fd : FuncData} {N ps : List Str} {k n : Nat} {b : SM} (hK : G.K = K) (F : FunD K x qual params body scope [] [] f fd) (S : FnScope N ps scope) (hn : N.length = n + 2) (hp : ps.length = 1)
    (hbody : ∀ (cdv : Value), fd.code = cdv → PySem.W.codeIn K cdv qual = true → ∀ (A : Around) (outer : List Env) (s : Shared) (H : Hp) (E : XK), Room k (A.deeper (envOfC qual scope s.heap.objs.size f cdv)) →
      PSs (cxOf (L2.CX P w) P w K mg base N qual scope f cdv A outer s H E) body (tSeq (tFor (tiRounds G K E) (gName 1) (rdS G E b)) (tRet (tC (.bl true)))))
    (hm : ∀ x y z : Int, ∃ l, Agr G.rl (diceD x y z) l ∧ ∃ sl st, b (none :: some (.loc 0) :: List.replicate n none) [.orc l] = .nx sl st) :
    FnOk P w K mg base (L2.CX P w) (k + 1) f fd ps (spLaw G) := by
  obtain ⟨oc, od, dV, kV, doc, pm, an, cdv, ct, osl, rfl, lk, hcd, _, _⟩ := F.ex
  refine fn_of lk hcd S (fun vs H Q E h => ?_) fun A outer s H vs Q E hr h => ?_
  · obtain ⟨s0, ns, rfl, _⟩ := h
    rw [hp]; rfl
  · refine ⟨_, hbody cdv rfl hcd A outer s H E hr, ?_⟩
    obtain ⟨s0, ns, rfl, hs, hT, hQ⟩ := h
    refine ⟨.ref s0, rfl, s0, ns, rfl, hs, hT, fun a b' x y z H' ha hb hT' => ⟨a, rfl, .inl ⟨⟨_, SqL.of ha⟩, ?_⟩⟩⟩
    have nab : a ≠ b' := fun e => by
      rw [e, hb] at ha
      cases ha
    obtain ⟨lr, hA, sl, st, em⟩ := hm x y z
    refine ⟨fun i m σ H2 => (i = 0 ∧ m = 1 ∧ σ.length = n + 2 ∧ H2 = H') ∨ (i = 1 ∧ m = 0 ∧ H2 a = some (.lst [.ref b'])), ⟨1, .inl ⟨rfl, rfl, by unfold L2.start; simp [hn], rfl⟩⟩, ?_⟩
    rintro i m σ2 H2 (⟨rfl, rfl, hl, rfl⟩ | ⟨rfl, rfl, h2⟩)
    · right
      refine ⟨⟨[.ref b'], .ref b', SqL.of ha, rfl⟩, fun _ H3 => H3 a = some (.lst [.ref b']), fun σ' H3 h3 => ⟨0, Nat.lt_succ_self 0, .inr ⟨rfl, rfl, h3⟩⟩, fun v H3 hy => ?_⟩
      obtain ⟨rfl, hall⟩ := hy
      have ev : some (V.ref b') = some v := hall _ (SqL.of ha)
      cases ev
      show rdS G E b _ (σ2.set 1 (some (.ref b'))) H3
      refine ⟨fun _ => False, [b'], none :: some (.loc 0) :: List.replicate n none, [.orc lr], ⟨?_, fun i v hv => ?_⟩, ⟨rfl, by simp, (fun _ _ z => z), (fun a ha => False.elim ha), fun l a o e1 e2 => ?_, hT'⟩, ?_⟩
      · rw [List.length_set, hl]
        simp
      · match i, hv with
        | 0, hv => cases hv
        | 1, hv =>
          have hv : some (some (X.loc 0)) = some (some v) := hv
          cases hv
          exact ⟨.ref b', by rw [List.getElem?_set_self (by omega)], b', rfl, rfl⟩
        | i + 2, hv =>
          have hv : (List.replicate n (none : Option X))[i]? = some (some v) := hv
          rw [List.getElem?_replicate] at hv
          split at hv <;> cases hv
      · match l, e1, e2 with
        | 0, e1, e2 =>
          cases e1
          cases e2
          exact ⟨x, y, z, hb, hA⟩
        | l + 1, e1, e2 => cases e2
      · rw [em]
        intro ρ' H4 σ' s' R' sk'
        exact s'.keep a _ ha (fun ps z => by cases z) (by simpa using nab)
    · left
      exact ⟨⟨_, SqL.of h2, Nat.le_refl _⟩, hQ H2⟩
end
end DH
namespace DH
open PySem PySem.Spec PyProof.Rows L2
/-! ### t.index(x), l.index(x) -/
/-- what is asked of t.index(x): a tuple of data, x equal to the item at j, to none before -/
def rIndexT (K : PySem.W.Frag) : V → List V → Hp → VK → Prop := fun t args H Q => ∃ (a : Addr) (y : V) (k : PyData) (items : List PyData) (j : Nat) (hit : PyData), t = V.ref a ∧ args = [y] ∧ Dp K H (V.ref a) (.tuple items) ∧ Dp K H y k ∧
  SeqAt.shaped (.tuple items) = true ∧ SeqAt.shaped k = true ∧ items[j]? = some hit ∧ PyData.eqv hit k = true ∧ (∀ (m : Nat) (miss : PyData), m < j → items[m]? = some miss → PyData.eqv miss k = false) ∧ Q (.int (j : Nat)) H
theorem mt_indexT {X : Cx} (hu : X.A.units + 65 < cLine) : MtR X "tuple.index" (rIndexT X.K) := by
  intro pins s σ H t args tv us Q I rt rargs h
  obtain ⟨a, y, k, items, j, hit, rfl, rfl, dt, dy, st, sk, hj, hhit, hmiss, q⟩ := h
  cases rt
  cases rargs with
  | cons ry rnil =>
    rename_i uy urest
    cases rnil
    obtain ⟨ys, readY⟩ := Dp.reads I k y uy dy ry
    have layI : PyData.canLayAll0 items = true := SeqAt.canLay_of_shaped st
    have room : X.A.units + 1 + min (PyData.depthAll items) k.depth < cLine := room_in_shaped sk hu
    cases dt with
    | tup sq all =>
      obtain ⟨vals, rv, ⟨⟨c0, d0, data0, sl0⟩, ho, hc, n, hd⟩, hlen⟩ := I.tuple sq
      simp only at hc hd
      subst hc hd
      obtain ⟨as, readAll⟩ := Dp.readsAll I items _ vals all rv
      have len1 : vals.length = items.length := SeqAt.ReadsAll.length items vals as readAll
      have mapped : vals.map (SeqAt.readOf s.heap) = items := SeqAt.readsAll_map items vals as layI readAll
      have look : ∀ (m : Nat) (hm : m < vals.toArray.size) (z : PyData), items[m]? = some z → SeqAt.readOf s.heap vals.toArray[m] = z := by
        intro m hm z hz
        have hml : m < vals.length := by simpa using hm
        rw [← mapped, List.getElem?_map, List.getElem?_eq_getElem hml] at hz
        have e1 : SeqAt.readOf s.heap vals[m] = z := Option.some.inj hz
        simpa using e1
      have hjl : j < vals.toArray.size := by
        have := (List.getElem?_eq_some_iff.mp hj).1
        simp
        omega
      refine call_meets PySem.F.slot_tuple_index ⟨_, ho, rfl⟩ PySem.F.entry_tuple_index (PySem.F.args_tuple_index_2 _ _)
        (TI.tuple_indexAt a vals.toArray n d0 sl0 uy (fun u => PyData.eqv (SeqAt.readOf s.heap u) k) j hjl ?_ ?_)
        ⟨ho, SeqAt.items_eqAt (vs := vals.toArray) (show ReadsAll s.heap vals.toArray.toList items as from readAll) readY layI (SeqAt.canLay_of_shaped sk) room, ⟨.int (j : Nat), H, I.tok _, ⟨_, rfl⟩, q⟩⟩
      · show PyData.eqv (SeqAt.readOf s.heap vals.toArray[j]) k = true
        rw [look j hjl hit hj]
        exact hhit
      · intro m hm hmj
        have hmi : m < items.length := by
          simp at hm
          omega
        have hz : items[m]? = some items[m] := List.getElem?_eq_getElem hmi
        show PyData.eqv (SeqAt.readOf s.heap vals.toArray[m]) k = false
        rw [look m hm _ hz]
        exact hmiss m _ hmj hz
/-- the first place of an equal one -/
def idxD (x : D) : Nat → List D → Option Nat
  | _, [] => none
  | i, y :: ys => (match eqD 64 y x with
    | true => some i
    | false => idxD x (i + 1) ys)
theorem idxD_ok {x : D} : ∀ {ys : List D} {i j : Nat}, idxD x i ys = some j → ∃ k y, j = i + k ∧ ys[k]? = some y ∧ eqD 64 y x = true ∧ ∀ (m : Nat) (z : D), m < k → ys[m]? = some z → eqD 64 z x = false
  | [], i, j, h => by cases h
  | y :: ys, i, j, h => by
    unfold idxD at h
    cases q : eqD 64 y x with
    | true =>
      rw [q] at h
      have e : i = j := Option.some.inj h
      exact ⟨0, y, by omega, rfl, q, fun m z hm _ => absurd hm (Nat.not_lt_zero m)⟩
    | false =>
      rw [q] at h
      obtain ⟨k, z, e1, e2, e3, e4⟩ := idxD_ok (ys := ys) h
      refine ⟨k + 1, z, by omega, by simpa using e2, e3, fun m u hm hu => ?_⟩
      cases m with
      | zero =>
        have : y = u := by simpa using hu
        rw [← this]; exact q
      | succ m => exact e4 m u (by omega) (by simpa using hu)
section
variable {G : Gm}
def mIndex (x : DH.X) (xs : List DH.X) (st : Store) : O DH.X := match xs with
  | [y] => (match deref st x, deref st y with
    | some (.tup f ys), some k => (match okD 64 (.tup f ys) && okD 64 k with
      | true => (match idxD k 0 ys with
        | some j => .ok (.d (.int (Int.ofNat j))) st
        | none => .bad)
      | false => .bad)
    | some (.lst ys), some k => (match okD 64 (.lst ys) && okD 64 k with
      | true => (match idxD k 0 ys with
        | some j => .ok (.d (.int (Int.ofNat j))) st
        | none => .bad)
      | false => .bad)
    | _, _ => .bad)
  | _ => .bad
theorem idx_py {ys : List D} {k : D} {j : Nat} (hy : allB (okD 63) ys = true) (hk : okD 64 k = true) (h : idxD k 0 ys = some j) :
    ∃ hit, (toPys ys)[j]? = some hit ∧ PyData.eqv hit (toPy k) = true ∧ ∀ (m : Nat) (miss : PyData), m < j → (toPys ys)[m]? = some miss → PyData.eqv miss (toPy k) = false := by
  obtain ⟨i, y, e1, e2, e3, e4⟩ := idxD_ok h
  have ei : j = i := by omega
  subst ei
  rw [allB_iff] at hy
  have ok : ∀ (m : Nat) (z : D), ys[m]? = some z → okD 64 z = true := fun m z hz => okD_more 63 z (hy z (List.mem_of_getElem? hz))
  rw [toPys_map]
  refine ⟨toPy y, by rw [List.getElem?_map, e2]; rfl, by rw [eqv_eq 64 y k (ok _ _ e2) hk]; exact e3, fun m miss hm hz => ?_⟩
  rw [List.getElem?_map] at hz
  cases q : ys[m]? with
  | none => rw [q] at hz; cases hz
  | some z =>
    rw [q] at hz
    have : toPy z = miss := Option.some.inj hz
    rw [← this, eqv_eq 64 z k (ok m z q) hk]
    exact e4 m z hm q
theorem indexT_v : MethV G (rIndexT G.K) (fun x xs st => match deref st x with | some (.tup _ _) => mIndex x xs st | _ => .bad) := fun E F ρ H st x v xs vs Q R rx rs h => by
  cases q : deref st x with
  | none => simp only [q] at h; exact h.elim
  | some d =>
    simp only [q] at h
    cases d with
    | tup f ys =>
      unfold mIndex at h
      cases xs with
      | nil => exact h.elim
      | cons y t =>
        cases t with
        | cons _ _ => exact h.elim
        | nil =>
          obtain ⟨w, r', e, ry, e2⟩ := rs
          have e2' : r' = [] := e2
          subst e2' e
          simp only [q] at h
          cases q2 : deref st y with
          | none => simp only [q2] at h; exact h.elim
          | some k =>
            simp only [q2] at h
            cases z : (okD 64 (.tup f ys) && okD 64 k) with
            | false => simp only [z] at h; exact h.elim
            | true =>
              simp only [z] at h
              obtain ⟨z1, z2⟩ := Bool.and_eq_true_iff.mp z
              cases z3 : idxD k 0 ys with
              | none => simp only [z3] at h; exact h.elim
              | some j =>
                simp only [z3] at h
                obtain ⟨hit, g1, g2, g3⟩ := idx_py (show allB (okD 63) ys = true from z1) z2 z3
                have w1 := view R rx q
                have dx := w1.dp z1
                obtain ⟨a, us, ev, _, _⟩ := w1
                subst ev
                exact ⟨a, w, toPy k, toPys ys, j, hit, rfl, rfl, dx, (view R ry q2).dp z2, okD_shaped z1, okD_shaped z2, g1, g2, g3, now1 R h rfl⟩
    | _ => exact h.elim
theorem indexL_v : MethV G (rIndexD G.K) (fun x xs st => match deref st x with | some (.lst _) => mIndex x xs st | _ => .bad) := fun E F ρ H st x v xs vs Q R rx rs h => by
  cases q : deref st x with
  | none => simp only [q] at h; exact h.elim
  | some d =>
    simp only [q] at h
    cases d with
    | lst ys =>
      unfold mIndex at h
      cases xs with
      | nil => exact h.elim
      | cons y t =>
        cases t with
        | cons _ _ => exact h.elim
        | nil =>
          obtain ⟨w, r', e, ry, e2⟩ := rs
          have e2' : r' = [] := e2
          subst e2' e
          simp only [q] at h
          cases q2 : deref st y with
          | none => simp only [q2] at h; exact h.elim
          | some k =>
            simp only [q2] at h
            cases z : (okD 64 (.lst ys) && okD 64 k) with
            | false => simp only [z] at h; exact h.elim
            | true =>
              simp only [z] at h
              obtain ⟨z1, z2⟩ := Bool.and_eq_true_iff.mp z
              cases z3 : idxD k 0 ys with
              | none => simp only [z3] at h; exact h.elim
              | some j =>
                simp only [z3] at h
                obtain ⟨hit, g1, g2, g3⟩ := idx_py (show allB (okD 63) ys = true from z1) z2 z3
                have w1 := view R rx q
                have dx := w1.dp z1
                obtain ⟨a, us, ev, _, _⟩ := w1
                subst ev
                exact ⟨a, w, toPy k, toPys ys, j, hit, rfl, rfl, dx, (view R ry q2).dp z2, okD_shaped z1, okD_shaped z2, g1, g2, g3, now1 R h rfl⟩
    | _ => exact h.elim
end
end DH
namespace DH
open PySem PySem.Spec PyProof.Rows L2
/-! ### an element of a generator expression: it changes nothing -/
theorem O.bind_ok {α β : Type} {o : O α} {k : α → Store → O β} {y : β} {st' : Store} (h : o.bind k = .ok y st') : ∃ x st1, o = .ok x st1 ∧ k x st1 = .ok y st' := by
  cases o with
  | ok x st1 => exact ⟨x, st1, rfl, h⟩
  | exn c fs st1 => cases h
  | bad => cases h
/-- what is known where an element is evaluated: the heap as the function's own context sees it, the element's names -/
structure LSt (X : Cx) (G : Gm) (cenv : Env) (F : Addr → Prop) (ρ : List Addr) (H : Hp) (sl : Slots) (st : Store) (s : Shared) : Prop where
  inv : ∃ (pins : List (Addr × Obj)) (σ : L2.St) (s0 : Shared), Inv X pins σ H { s0 with heap := s.heap }
  rep : Rep G F ρ st H
  kind : cenv.scope.kind = .function
  names : ∃ m, s.heap.Ns cenv.locals m ∧ ∀ (i : Nat) (y : Str) (x : DH.X), X.N[i]? = some y → sl[i]? = some (some x) → Vis cenv.scope y → ∃ v u, RelX G F ρ H x v ∧ RelV v u ∧ Look cenv s.heap m y u
  glob : cenv.globals = mainGlobals
  blt : cenv.builtins = builtinsNs
section
variable {X : Cx} {G : Gm} {cenv : Env} {F : Addr → Prop} {ρ : List Addr} {H : Hp} {sl : Slots} {st : Store} {s s' : Shared}
theorem LSt.keeps (L : LSt X G cenv F ρ H sl st s) (k : PySem.Keeps s s') : LSt X G cenv F ρ H sl st s' := by
  obtain ⟨h', tk, rfl, kp⟩ := k
  obtain ⟨⟨pins, σ, s0, I⟩, rep, kind, ⟨m, hn, hl⟩, g, b⟩ := L
  refine ⟨⟨pins, σ, { s0 with toks := s0.toks }, I.kept (t' := s0.toks) kp⟩, rep, kind, ⟨m, hn.keeps kp, fun i y x e1 e2 e3 => ?_⟩, g, b⟩
  obtain ⟨v, u, r1, r2, l⟩ := hl i y x e1 e2 e3
  refine ⟨v, u, r1, r2, ?_⟩
  rcases l with l | ⟨hk, c, hc, o, ho, hd⟩
  · exact .inl l
  · exact .inr ⟨hk, c, hc, o, kp _ _ ho, hd⟩
/-- the outcome of an element's part -/
def LPost (G : Gm) (F : Addr → Prop) (ρ : List Addr) (H : Hp) (y : DH.X) (s : Shared) (u : Value) (s' : Shared) : Prop := (∃ v, RelV v u ∧ RelX G F ρ H y v) ∧ PySem.Keeps s s'
end
structure PL (X : Cx) (G : Gm) (cenv : Env) (e : Expr) (m : EM DH.X) : Prop where
  pure_ : ∀ sl st y st', m sl st = .ok y st' → st' = st
  run : ∀ (A' : Around) (E' : Value → Shared → Prop) (F : Addr → Prop) (ρ : List Addr) (H : Hp) (sl : Slots) (st : Store) (s : Shared) (y : DH.X), A'.handled = none → A'.units + 100 < cLine → LSt X G cenv F ρ H sl st s → m sl st = .ok y st →
    wpAny (model X.prog X.w) A' (eval e cenv) (LPost G F ρ H y s) E' s
section
variable {X : Cx} {G : Gm} {cenv : Env} {a b c : Expr} {pos : Pos} {ma mb mc : EM DH.X}
theorem keeps_refl (s : Shared) : PySem.Keeps s s := ⟨s.heap, s.toks, rfl, fun _ _ e => e⟩
theorem keeps_toks (s : Shared) (k : Nat) : PySem.Keeps s { s with toks := k } := ⟨s.heap, k, rfl, fun _ _ e => e⟩
theorem keeps_trans {s s1 s2 : Shared} (h : PySem.Keeps s s1) (k : PySem.Keeps s1 s2) : PySem.Keeps s s2 := by
  obtain ⟨h1, t1, rfl, k1⟩ := h
  obtain ⟨h2, t2, rfl, k2⟩ := k
  exact ⟨h2, t2, rfl, fun b o e => k2 b o (k1 b o e)⟩
theorem l_var {i : Nat} {x : Str} (hN : X.N[i]? = some x) (hv : Vis cenv.scope x) (hd : (x == ("__debug__" : Str)) = false) (hcd : (x == ("__classdict__" : Str)) = false) : PL X G cenv (.Name x pos) (eVar i) := by
  refine ⟨fun sl st y st' h => ?_, fun A' E' F ρ H sl st s y hh hu L h => ?_⟩
  · unfold eVar at h
    split at h
    · cases h; rfl
    · cases h
  · unfold eVar at h
    split at h
    · rename_i y' q
      cases h
      obtain ⟨m, hn, hl⟩ := L.names
      obtain ⟨v, u, r1, r2, l⟩ := hl i x y hN q hv
      have fin : LPost G F ρ H y s u s := ⟨⟨v, r2, r1⟩, keeps_refl s⟩
      rcases l with ⟨hk, hm⟩ | ⟨hk, c, hc, hcell⟩
      · exact wpAny_Name (wpAny_loadName_local L.kind hk hn hm fin) hd
      · rcases hk with hk | hk
        · exact wpAny_Name (wpAny_loadName_cell L.kind hk hc hcell fin) hd
        · exact wpAny_Name (wpAny_loadName_free L.kind hk hc hcell fin hcd) hd
    · cases h
theorem l_int {i : Int} {j : Nat} : PL X G cenv (.Constant (.int i) j pos) (eC (.int i)) :=
  ⟨fun sl st y st' h => by cases h; rfl, fun A' E' F ρ H sl st s y hh hu L h => by
    cases h
    exact wpAny_Constant_int ⟨⟨.int i, ⟨_, rfl⟩, rfl⟩, keeps_toks _ _⟩⟩
theorem l_str {x : Str} {cs : List Nat} {j : Nat} (e : x = strOf cs) : PL X G cenv (.Constant (.str x) j pos) (eC (.str cs)) :=
  ⟨fun sl st y st' h => by cases h; rfl, fun A' E' F ρ H sl st s y hh hu L h => by
    cases h
    exact Calls.Constant_str ⟨⟨.str x, ⟨_, rfl⟩, by show V.str x = V.str (strOf cs); rw [e]⟩, keeps_toks _ _⟩⟩
/-- a two-place operation on values -/
structure OpL (X : Cx) (G : Gm) (op : Value → Value → Sem Value) (f : DH.X → DH.X → Store → O DH.X) : Prop where
  pure_ : ∀ x z st y st', f x z st = .ok y st' → st' = st
  run : ∀ (A' : Around) (E' : Value → Shared → Prop) (F : Addr → Prop) (ρ : List Addr) (H : Hp) (st : Store) (s : Shared) (x z y : DH.X) (v w : V) (v' w' : Value), A'.handled = none → A'.units + 100 < cLine → (∃ (pins : List (Addr × Obj)) (σ : L2.St) (s0 : Shared), Inv X pins σ H { s0 with heap := s.heap }) → Rep G F ρ st H →
    RelX G F ρ H x v → RelX G F ρ H z w → RelV v v' → RelV w w' → f x z st = .ok y st → wpAny (model X.prog X.w) A' (op v' w') (LPost G F ρ H y s) E' s
theorem l_two {op : Value → Value → Sem Value} {f : DH.X → DH.X → Store → O DH.X} (ho : OpL X G op f) (ha : PL X G cenv a ma) (hb : PL X G cenv b mb) {A' : Around} {E' : Value → Shared → Prop} {F : Addr → Prop} {ρ : List Addr} {H : Hp} {sl : Slots} {st : Store} {s : Shared} {y : DH.X} (hh : A'.handled = none) (hu : A'.units + 100 < cLine) (L : LSt X G cenv F ρ H sl st s) (h : eBin f ma mb sl st = .ok y st) :
    wpAny (model X.prog X.w) A' (eval a cenv) (fun v s₁ => wpAny (model X.prog X.w) A' (eval b cenv) (fun u s₂ => wpAny (model X.prog X.w) A' (op v u) (LPost G F ρ H y s) E' s₂) E' s₁) E' s := by
  obtain ⟨x, st1, e1, h⟩ := O.bind_ok h
  obtain ⟨z, st2, e2, h⟩ := O.bind_ok h
  have := ha.pure_ _ _ _ _ e1
  subst this
  have := hb.pure_ _ _ _ _ e2
  subst this
  refine wpAny_mono (ha.run A' E' F ρ H sl _ s x hh hu L e1) (fun v s1 p1 => ?_) (fun _ _ e => e)
  obtain ⟨⟨vv, r1, rx⟩, k1⟩ := p1
  have L1 := L.keeps k1
  refine wpAny_mono (hb.run A' E' F ρ H sl _ s1 z hh hu L1 e2) (fun u s2 p2 => ?_) (fun _ _ e => e)
  obtain ⟨⟨ww, r2, rz⟩, k2⟩ := p2
  have L2 := L1.keeps k2
  refine wpAny_mono (ho.run A' E' F ρ H _ s2 x z y vv ww v u hh hu L2.inv L2.rep rx rz r1 r2 h) (fun r s3 p3 => ?_) (fun _ _ e => e)
  exact ⟨p3.1, keeps_trans (keeps_trans k1 k2) p3.2⟩
theorem bin_pure {f : DH.X → DH.X → Store → O DH.X} (hf : ∀ x z st y st', f x z st = .ok y st' → st' = st) (ha : ∀ sl st y st', ma sl st = .ok y st' → st' = st) (hb : ∀ sl st y st', mb sl st = .ok y st' → st' = st) (sl : Slots) (st : Store) (y : DH.X) (st' : Store) (h : eBin f ma mb sl st = .ok y st') : st' = st := by
  obtain ⟨x, st1, e1, h⟩ := O.bind_ok h
  obtain ⟨z, st2, e2, h⟩ := O.bind_ok h
  rw [hf _ _ _ _ _ h, hb _ _ _ _ e2, ha _ _ _ _ e1]
theorem l_op {op : Operator} {f : DH.X → DH.X → Store → O DH.X} (ho : OpL X G (binaryOp op) f) (ha : PL X G cenv a ma) (hb : PL X G cenv b mb) : PL X G cenv (.BinOp a op b pos) (eBin f ma mb) :=
  ⟨bin_pure ho.pure_ ha.pure_ hb.pure_, fun A' E' F ρ H sl st s y hh hu L h => wpAny_BinOp (l_two ho ha hb hh hu L h)⟩
theorem l_cmp {op : CmpOp} {f : DH.X → DH.X → Store → O DH.X} (ho : OpL X G (compareOp op) f) (ha : PL X G cenv a ma) (hb : PL X G cenv b mb) (hm : behindInMarks op b = false) : PL X G cenv (.Compare a [op] [b] pos) (eBin f ma mb) :=
  ⟨bin_pure ho.pure_ ha.pure_ hb.pure_, fun A' E' F ρ H sl st s y hh hu L h => wpAny_Compare1 (l_two ho ha hb hh hu L h) hm⟩
end
end DH
namespace DH
open PySem PySem.Spec PyProof.Rows L2
theorem f2_ok {g : D → D → Store → O DH.X} {x z : DH.X} {st st' : Store} {y : DH.X} (h : f2 g x z st = .ok y st') : ∃ a b, deref st x = some a ∧ deref st z = some b ∧ g a b st = .ok y st' := by
  unfold f2 at h
  cases q : deref st x with
  | none => rw [q] at h; cases h
  | some a =>
    cases q2 : deref st z with
    | none => rw [q, q2] at h; cases h
    | some b => rw [q, q2] at h; exact ⟨a, b, rfl, rfl, h⟩
section
variable {X : Cx} {G : Gm}
/-- two ints, an int or a bool -/
theorem opL_i {op : Value → Value → Sem Value} {g : D → D → Store → O DH.X} {r : Int → Int → Option D}
    (hg : ∀ a b st y st', g a b st = .ok y st' → ∃ i j d, a = .int i ∧ b = .int j ∧ r i j = some d ∧ y = .d d ∧ st' = st)
    (hw : ∀ (A' : Around) (E' : Value → Shared → Prop) (i j : Int) (t u : PySem.Tok) (s : Shared) (Q : Value → Shared → Prop) (d : D), r i j = some d → (∀ u' s', (∃ v, RelV v u' ∧ ∀ N H, RelD G N H d v) → PySem.Keeps s s' → Q u' s') → wpAny (model X.prog X.w) A' (op (.int i t) (.int j u)) Q E' s) : OpL X G op (f2 g) := by
  refine ⟨fun x z st y st' h => ?_, fun A' E' F ρ H st s x z y v w v' w' hh hu I R rx rz rv rw' h => ?_⟩
  · obtain ⟨a, b, _, _, h⟩ := f2_ok h
    obtain ⟨_, _, _, _, _, _, _, e⟩ := hg a b st y st' h
    exact e
  · obtain ⟨a, b, q1, q2, h⟩ := f2_ok h
    obtain ⟨i, j, d, rfl, rfl, hr, rfl, _⟩ := hg a b st y st h
    have e1 : v = .int i := view R rx q1
    have e2 : w = .int j := view R rz q2
    subst e1 e2
    obtain ⟨t, rfl⟩ := rv
    obtain ⟨t', rfl⟩ := rw'
    refine hw A' E' i j t t' s _ d hr fun u' s' ⟨v, r1, r2⟩ k => ⟨⟨v, r1, r2 _ _⟩, k⟩
theorem inv_int2 {g : D → D → Store → O DH.X} {k : Int → Int → Store → O DH.X} (h1 : ∀ i j st, g (.int i) (.int j) st = k i j st) (h2 : ∀ a b st, (∀ i j, ¬ (a = .int i ∧ b = .int j)) → g a b st = .bad) {a b : D} {st st' : Store} {y : DH.X} (h : g a b st = .ok y st') : ∃ i j, a = .int i ∧ b = .int j ∧ k i j st = .ok y st' := by
  by_cases hx : ∃ i j, a = .int i ∧ b = .int j
  · obtain ⟨i, j, rfl, rfl⟩ := hx
    exact ⟨i, j, rfl, rfl, by rw [← h1]; exact h⟩
  · rw [h2 a b st fun i j z => hx ⟨i, j, z⟩] at h
    cases h
theorem l_lt : OpL X G (compareOp .Lt) (f2 gLt) := opL_i (r := fun i j => some (.bl (ltI i j))) (fun a b st y st' h => by
    obtain ⟨i, j, rfl, rfl, h⟩ := inv_int2 (g := gLt) (k := fun i j st => .ok (.d (.bl (ltI i j))) st) (fun _ _ _ => rfl) (fun a b st z => by cases a <;> cases b <;> first | rfl | exact absurd ⟨rfl, rfl⟩ (z _ _)) h
    cases h
    exact ⟨i, j, _, rfl, rfl, rfl, rfl, rfl⟩) fun A' E' i j t u s Q d e k => by
  cases e
  exact lt_int (k _ _ ⟨.bl _, rfl, fun _ _ => by show V.bl _ = V.bl _; rw [ltI_eq]⟩ (keeps_refl s))
theorem l_le : OpL X G (compareOp .LtE) (f2 gLe) := opL_i (r := fun i j => some (.bl (!ltI j i))) (fun a b st y st' h => by
    obtain ⟨i, j, rfl, rfl, h⟩ := inv_int2 (g := gLe) (k := fun i j st => .ok (.d (.bl (!ltI j i))) st) (fun _ _ _ => rfl) (fun a b st z => by cases a <;> cases b <;> first | rfl | exact absurd ⟨rfl, rfl⟩ (z _ _)) h
    cases h
    exact ⟨i, j, _, rfl, rfl, rfl, rfl, rfl⟩) fun A' E' i j t u s Q d e k => by
  cases e
  exact le_int (k _ _ ⟨.bl _, rfl, fun _ _ => by show V.bl _ = V.bl _; rw [ltI_eq, leI_eq]⟩ (keeps_refl s))
theorem l_gt : OpL X G (compareOp .Gt) (f2 gGt) := opL_i (r := fun i j => some (.bl (ltI j i))) (fun a b st y st' h => by
    obtain ⟨i, j, rfl, rfl, h⟩ := inv_int2 (g := gGt) (k := fun i j st => .ok (.d (.bl (ltI j i))) st) (fun _ _ _ => rfl) (fun a b st z => by cases a <;> cases b <;> first | rfl | exact absurd ⟨rfl, rfl⟩ (z _ _)) h
    cases h
    exact ⟨i, j, _, rfl, rfl, rfl, rfl, rfl⟩) fun A' E' i j t u s Q d e k => by
  cases e
  exact gt_int (k _ _ ⟨.bl _, rfl, fun _ _ => by show V.bl _ = V.bl _; rw [ltI_eq]⟩ (keeps_refl s))
theorem l_ge : OpL X G (compareOp .GtE) (f2 gGe) := opL_i (r := fun i j => some (.bl (!ltI i j))) (fun a b st y st' h => by
    obtain ⟨i, j, rfl, rfl, h⟩ := inv_int2 (g := gGe) (k := fun i j st => .ok (.d (.bl (!ltI i j))) st) (fun _ _ _ => rfl) (fun a b st z => by cases a <;> cases b <;> first | rfl | exact absurd ⟨rfl, rfl⟩ (z _ _)) h
    cases h
    exact ⟨i, j, _, rfl, rfl, rfl, rfl, rfl⟩) fun A' E' i j t u s Q d e k => by
  cases e
  exact ge_int (k _ _ ⟨.bl _, rfl, fun _ _ => by show V.bl _ = V.bl _; rw [ltI_eq, leI_eq]⟩ (keeps_refl s))
theorem l_sub : OpL X G (binaryOp .Sub) (f2 gSub) := opL_i (r := fun i j => some (.int (i - j))) (fun a b st y st' h => by
    obtain ⟨i, j, rfl, rfl, h⟩ := inv_int2 (g := gSub) (k := fun i j st => .ok (.d (.int (i - j))) st) (fun _ _ _ => rfl) (fun a b st z => by cases a <;> cases b <;> first | rfl | exact absurd ⟨rfl, rfl⟩ (z _ _)) h
    cases h
    exact ⟨i, j, _, rfl, rfl, rfl, rfl, rfl⟩) fun A' E' i j t u s Q d e k => by
  cases e
  exact sub_int (k _ _ ⟨.int _, ⟨_, rfl⟩, fun _ _ => rfl⟩ (keeps_toks s _))
theorem l_addI : OpL X G (binaryOp .Add) (f2 gAddI) := opL_i (r := fun i j => some (.int (i + j))) (fun a b st y st' h => by
    obtain ⟨i, j, rfl, rfl, h⟩ := inv_int2 (g := gAddI) (k := fun i j st => .ok (.d (.int (i + j))) st) (fun _ _ _ => rfl) (fun a b st z => by cases a <;> cases b <;> first | rfl | exact absurd ⟨rfl, rfl⟩ (z _ _)) h
    cases h
    exact ⟨i, j, _, rfl, rfl, rfl, rfl, rfl⟩) fun A' E' i j t u s Q d e k => by
  cases e
  exact add_int (k _ _ ⟨.int _, ⟨_, rfl⟩, fun _ _ => rfl⟩ (keeps_toks s _))
/-- data compared -/
theorem l_eqAny {op : CmpOp} {neg : Bool} {g : D → D → Store → O DH.X} (hg : ∀ a b st y st', g a b st = .ok y st' → okD 64 a = true ∧ okD 64 b = true ∧ y = .d (.bl (if neg then !eqD 64 a b else eqD 64 a b)) ∧ st' = st)
    (hw : ∀ (A' : Around) (E' : Value → Shared → Prop) (s : Shared) (Q : Value → Shared → Prop) (a b : PyData) (u v : Value) (as bs : List Addr), Reads s.heap u a as → Reads s.heap v b bs → SeqAt.shaped a = true → SeqAt.shaped b = true → A'.units + 64 < cLine → Q (.bool (if neg then !PyData.eqv a b else PyData.eqv a b)) s → wpAny (model X.prog X.w) A' (compareOp op u v) Q E' s) (hK : G.K = X.K) : OpL X G (compareOp op) (f2 g) := by
  refine ⟨fun x z st y st' h => ?_, fun A' E' F ρ H st s x z y v w v' w' hh hu I R rx rz rv rw' h => ?_⟩
  · obtain ⟨a, b, _, _, h⟩ := f2_ok h
    exact (hg a b st y st' h).2.2.2
  · obtain ⟨a, b, q1, q2, h⟩ := f2_ok h
    obtain ⟨o1, o2, rfl, _⟩ := hg a b st y st h
    obtain ⟨pins, σ, s0, I⟩ := I
    have d1 := (view R rx q1).dp o1
    have d2 := (view R rz q2).dp o2
    rw [hK] at d1 d2
    obtain ⟨as, r1⟩ := Dp.reads I _ _ _ d1 rv
    obtain ⟨bs, r2⟩ := Dp.reads I _ _ _ d2 rw'
    refine hw A' E' s _ (toPy a) (toPy b) v' w' as bs r1 r2 (okD_shaped o1) (okD_shaped o2) (by omega) ⟨⟨.bl _, rfl, ?_⟩, keeps_refl s⟩
    show V.bl _ = V.bl _
    rw [eqv_eq 64 a b o1 o2]
theorem l_eq (hK : G.K = X.K) : OpL X G (compareOp .Eq) (f2 gEq) := l_eqAny (neg := false) (fun a b st y st' h => by
    unfold gEq at h
    cases z1 : okD 64 a with
    | false => simp only [z1] at h; cases h
    | true =>
      cases z2 : okD 64 b with
      | false => simp only [z1, z2] at h; cases h
      | true =>
        simp only [z1, z2] at h
        cases h
        exact ⟨rfl, rfl, rfl, rfl⟩) (fun A' E' s Q a b u v as bs r1 r2 s1 s2 hu q => SeqAt.compareEq_shaped r1 r2 s1 s2 hu q) hK
theorem l_ne (hK : G.K = X.K) : OpL X G (compareOp .NotEq) (f2 gNe) := l_eqAny (neg := true) (fun a b st y st' h => by
    unfold gNe at h
    cases z1 : okD 64 a with
    | false => simp only [z1] at h; cases h
    | true =>
      cases z2 : okD 64 b with
      | false => simp only [z1, z2] at h; cases h
      | true =>
        simp only [z1, z2] at h
        cases h
        exact ⟨rfl, rfl, rfl, rfl⟩) (fun A' E' s Q a b u v as bs r1 r2 s1 s2 hu q => SeqAt.compareNe_shaped r1 r2 s1 s2 hu q) hK
end
end DH
namespace DH
open PySem PySem.Spec PyProof.Rows L2
def eOrV (a b : EM DH.X) : EM DH.X := fun sl st => (a sl st).bind fun x st1 => match x with
  | .d (.bl true) => .ok (.d (.bl true)) st1
  | .d (.bl false) => b sl st1
  | _ => .bad
def eAndV (a b : EM DH.X) : EM DH.X := fun sl st => (a sl st).bind fun x st1 => match x with
  | .d (.bl false) => .ok (.d (.bl false)) st1
  | .d (.bl true) => b sl st1
  | _ => .bad
def eNotV (a : EM DH.X) : EM DH.X := fun sl st => (a sl st).bind fun x st1 => match x with
  | .d (.bl b) => .ok (.d (.bl (!b))) st1
  | _ => .bad
section
variable {X : Cx} {G : Gm} {cenv : Env} {a b c : Expr} {rest : List Expr} {pos : Pos} {ma mb mc : EM DH.X}
theorem l_not (ha : PL X G cenv a ma) : PL X G cenv (.UnaryOp .Not a pos) (eNotV ma) := by
  refine ⟨fun sl st y st' h => ?_, fun A' E' F ρ H sl st s y hh hu L h => ?_⟩
  · obtain ⟨x, st1, e1, h⟩ := O.bind_ok h
    split at h
    · cases h; exact ha.pure_ _ _ _ _ e1
    · cases h
  · obtain ⟨x, st1, e1, h⟩ := O.bind_ok h
    have e := ha.pure_ _ _ _ _ e1
    subst e
    split at h
    · rename_i k
      cases h
      refine UnaryOp_ (wpAny_mono (ha.run A' E' F ρ H sl _ s _ hh hu L e1) (fun v s1 p1 => ?_) (fun _ _ e => e))
      obtain ⟨⟨vv, r1, rx⟩, k1⟩ := p1
      have rx' : vv = .bl k := rx
      subst rx'
      cases r1
      exact not_of (wpAny_truthy_bool ⟨⟨.bl (!k), rfl, rfl⟩, k1⟩)
    · cases h
theorem l_one {op : BoolOp} (ha : PL X G cenv a ma) : PL X G cenv (.BoolOp op [a] pos) ma := ⟨ha.pure_, fun A' E' F ρ H sl st s y hh hu L h => BoolOp_one (ha.run A' E' F ρ H sl st s y hh hu L h)⟩
theorem l_or (ha : PL X G cenv a ma) (hb : PL X G cenv (.BoolOp .Or (b :: rest) pos) mb) : PL X G cenv (.BoolOp .Or (a :: b :: rest) pos) (eOrV ma mb) := by
  refine ⟨fun sl st y st' h => ?_, fun A' E' F ρ H sl st s y hh hu L h => ?_⟩
  · obtain ⟨x, st1, e1, h⟩ := O.bind_ok h
    split at h
    · cases h; exact ha.pure_ _ _ _ _ e1
    · rw [hb.pure_ _ _ _ _ h]; exact ha.pure_ _ _ _ _ e1
    · cases h
  · obtain ⟨x, st1, e1, h⟩ := O.bind_ok h
    have e := ha.pure_ _ _ _ _ e1
    subst e
    refine BoolOp_or (wpAny_mono (ha.run A' E' F ρ H sl _ s _ hh hu L e1) (fun v s1 p1 => ?_) (fun _ _ e => e))
    obtain ⟨⟨vv, r1, rx⟩, k1⟩ := p1
    split at h
    · cases h
      have rx' : vv = .bl true := rx
      subst rx'
      cases r1
      exact wpAny_truthy_bool ⟨⟨.bl true, rfl, rfl⟩, k1⟩
    · have rx' : vv = .bl false := rx
      subst rx'
      cases r1
      refine wpAny_truthy_bool (wpAny_mono (hb.run A' E' F ρ H sl _ s1 y hh hu (L.keeps k1) h) (fun u s2 p2 => ⟨p2.1, keeps_trans k1 p2.2⟩) (fun _ _ e => e))
    · cases h
theorem l_and (ha : PL X G cenv a ma) (hb : PL X G cenv (.BoolOp .And (b :: rest) pos) mb) : PL X G cenv (.BoolOp .And (a :: b :: rest) pos) (eAndV ma mb) := by
  refine ⟨fun sl st y st' h => ?_, fun A' E' F ρ H sl st s y hh hu L h => ?_⟩
  · obtain ⟨x, st1, e1, h⟩ := O.bind_ok h
    split at h
    · cases h; exact ha.pure_ _ _ _ _ e1
    · rw [hb.pure_ _ _ _ _ h]; exact ha.pure_ _ _ _ _ e1
    · cases h
  · obtain ⟨x, st1, e1, h⟩ := O.bind_ok h
    have e := ha.pure_ _ _ _ _ e1
    subst e
    refine BoolOp_and (wpAny_mono (ha.run A' E' F ρ H sl _ s _ hh hu L e1) (fun v s1 p1 => ?_) (fun _ _ e => e))
    obtain ⟨⟨vv, r1, rx⟩, k1⟩ := p1
    split at h
    · cases h
      have rx' : vv = .bl false := rx
      subst rx'
      cases r1
      exact wpAny_truthy_bool ⟨⟨.bl false, rfl, rfl⟩, k1⟩
    · have rx' : vv = .bl true := rx
      subst rx'
      cases r1
      refine wpAny_truthy_bool (wpAny_mono (hb.run A' E' F ρ H sl _ s1 y hh hu (L.keeps k1) h) (fun u s2 p2 => ⟨p2.1, keeps_trans k1 p2.2⟩) (fun _ _ e => e))
    · cases h
theorem l_chain {op op' : CmpOp} {f g : DH.X → DH.X → Store → O DH.X} (ho : OpL X G (compareOp op) f) (ho' : OpL X G (compareOp op') g) (ha : PL X G cenv a ma) (hb : PL X G cenv b mb) (hc : PL X G cenv c mc) (hm : lastMarks [op, op'] [b, c] = false) : PL X G cenv (.Compare a [op, op'] [b, c] pos) (eChain f g ma mb mc) := by
  refine ⟨fun sl st y st' h => ?_, fun A' E' F ρ H sl st s y hh hu L h => ?_⟩
  · obtain ⟨x, st1, e1, h⟩ := O.bind_ok h
    obtain ⟨z, st2, e2, h⟩ := O.bind_ok h
    obtain ⟨q, st3, e3, h⟩ := O.bind_ok h
    have t1 := ha.pure_ _ _ _ _ e1
    have t2 := hb.pure_ _ _ _ _ e2
    have t3 := ho.pure_ _ _ _ _ _ e3
    split at h
    · obtain ⟨w, st4, e4, h⟩ := O.bind_ok h
      rw [ho'.pure_ _ _ _ _ _ h, hc.pure_ _ _ _ _ e4, t3, t2, t1]
    · cases h; rw [t3, t2, t1]
    · cases h
  · obtain ⟨x, st1, e1, h⟩ := O.bind_ok h
    obtain ⟨z, st2, e2, h⟩ := O.bind_ok h
    obtain ⟨q, st3, e3, h⟩ := O.bind_ok h
    have t1 := ha.pure_ _ _ _ _ e1
    subst t1
    have t2 := hb.pure_ _ _ _ _ e2
    subst t2
    have t3 := ho.pure_ _ _ _ _ _ e3
    subst t3
    refine Compare_chain (wpAny_mono (ha.run A' E' F ρ H sl _ s x hh hu L e1) (fun v s1 p1 => chain_link ?_) (fun _ _ e => e)) hm
    obtain ⟨⟨vv, r1, rx⟩, k1⟩ := p1
    have L1 := L.keeps k1
    refine wpAny_mono (hb.run A' E' F ρ H sl _ s1 z hh hu L1 e2) (fun u s2 p2 => ?_) (fun _ _ e => e)
    obtain ⟨⟨ww, r2, rz⟩, k2⟩ := p2
    have L2 := L1.keeps k2
    refine wpAny_mono (ho.run A' E' F ρ H _ s2 x z q vv ww v u hh hu L2.inv L2.rep rx rz r1 r2 e3) (fun d s3 p3 => ?_) (fun _ _ e => e)
    obtain ⟨⟨qq, r3, rq⟩, k3⟩ := p3
    have L3 := L2.keeps k3
    have kk := keeps_trans (keeps_trans k1 k2) k3
    split at h
    · have rq' : qq = .bl true := rq
      subst rq'
      cases r3
      refine wpAny_truthy_bool (ite_tt (chain_last ?_))
      obtain ⟨w, st4, e4, h⟩ := O.bind_ok h
      have t4 := hc.pure_ _ _ _ _ e4
      subst t4
      refine wpAny_mono (hc.run A' E' F ρ H sl _ s3 w hh hu L3 e4) (fun u4 s4 p4 => ?_) (fun _ _ e => e)
      obtain ⟨⟨cc, r4, rc⟩, k4⟩ := p4
      have L4 := L3.keeps k4
      refine wpAny_mono (ho'.run A' E' F ρ H _ s4 z w y ww cc u u4 hh hu L4.inv L4.rep rz rc r2 r4 h) (fun r s5 p5 => ⟨p5.1, keeps_trans (keeps_trans kk k4) p5.2⟩) (fun _ _ e => e)
    · cases h
      have rq' : qq = .bl false := rq
      subst rq'
      cases r3
      exact wpAny_truthy_bool (ite_ff ⟨⟨.bl false, rfl, rfl⟩, kk⟩)
    · cases h
end
end DH
namespace DH
open PySem PySem.Spec PyProof.Rows L2
/-- a built-in function of one value -/
structure CallL (X : Cx) (G : Gm) (id : String) (f : List DH.X → Store → O DH.X) : Prop where
  pure_ : ∀ xs st y st', f xs st = .ok y st' → st' = st
  run : ∀ (A' : Around) (E' : Value → Shared → Prop) (F : Addr → Prop) (ρ : List Addr) (H : Hp) (st : Store) (s : Shared) (x y : DH.X) (v : V) (v' : Value), A'.handled = none → A'.units + 100 < cLine → (∃ (pins : List (Addr × Obj)) (σ : L2.St) (s0 : Shared), Inv X pins σ H { s0 with heap := s.heap }) → Rep G F ρ st H →
    RelX G F ρ H x v → RelV v v' → f [x] st = .ok y st → wpAny (model X.prog X.w) A' (call (.builtin id) [v']) (LPost G F ρ H y s) E' s
section
variable {X : Cx} {G : Gm} {cenv : Env} {a : Expr} {pos p : Pos} {ma : EM DH.X}
theorem l_call1 {x : Str} {id : String} {f : List DH.X → Store → O DH.X} (hc : CallL X G id f) (hg : cenv.kindOf x = some .globalImplicit) (hm : X.mg x = none) (hb : bootBuiltins x = some (.builtin id)) (ha : PL X G cenv a ma) (hn : x ≠ "__name__") (hd : (x == ("__debug__" : Str)) = false)
    (he : starEach [a] cenv = (false, eval a cenv) :: starEach [] cenv) : PL X G cenv (.Call (.Name x p) [a] [] pos) (eApp f (aCons ma aNil)) := by
  have inv : ∀ {sl : Slots} {st st' : Store} {y : DH.X}, eApp f (aCons ma aNil) sl st = .ok y st' → ∃ z, ma sl st = .ok z st ∧ f [z] st = .ok y st' := fun {sl st st' y} h => by
    obtain ⟨xs, st1, e1, h⟩ := O.bind_ok h
    obtain ⟨z, st2, e2, e3⟩ := O.bind_ok e1
    have e4 := ha.pure_ _ _ _ _ e2
    rw [e4] at e2 e3
    have e5 : (O.ok [z] st : O (List DH.X)) = .ok xs st1 := e3
    cases e5
    exact ⟨z, e2, h⟩
  refine ⟨fun sl st y st' h => ?_, fun A' E' F ρ H sl st s y hh hu L h => ?_⟩
  · obtain ⟨z, _, h⟩ := inv h
    exact hc.pure_ _ _ _ _ h
  · obtain ⟨z, e1, h⟩ := inv h
    obtain ⟨pins, σ, s0, I⟩ := L.inv
    obtain ⟨mb, h1, h2⟩ := I.mod.blt
    refine wpAny_Call_Name_kw (Calls.Name_function_global L.kind hg (Calls.loadGlobal_builtin (by rw [L.glob]; exact I.mod.glob.keeps I.bk) hm (by rw [L.blt]; exact h1.keeps I.bk) ((h2 x hn).trans hb) ?_) hd)
    refine PyProof.Rows.callWith_builtin1 (args_cons (wpAny_mono (ha.run A' E' F ρ H sl st s z hh hu L e1) (fun v s1 p1 => args_nil ?_) (fun _ _ e => e)) he) he rfl
    obtain ⟨⟨vv, r1, rx⟩, k1⟩ := p1
    have L1 := L.keeps k1
    exact wpAny_mono (hc.run A' E' F ρ H st s1 z y vv v hh hu L1.inv L1.rep rx r1 h) (fun r s2 p2 => ⟨p2.1, keeps_trans k1 p2.2⟩) (fun _ _ e => e)
theorem f1_ok {g : D → Store → O DH.X} {xs : List DH.X} {st st' : Store} {y : DH.X} (h : f1 g xs st = .ok y st') : ∃ x d, xs = [x] ∧ deref st x = some d ∧ g d st = .ok y st' := by
  unfold f1 at h
  match xs, h with
  | [], h => cases h
  | [x], h =>
    simp only at h
    cases q : deref st x with
    | none => rw [q] at h; cases h
    | some d => rw [q] at h; exact ⟨x, d, rfl, q, h⟩
  | _ :: _ :: _, h => cases h
theorem l_abs : CallL X G "abs" (f1 gAbs) := by
  have key : ∀ {d : D} {st st' : Store} {y : DH.X}, gAbs d st = .ok y st' → ∃ i, d = .int i ∧ y = .d (.int (if i < 0 then -i else i)) ∧ st' = st := fun {d st st' y} h => by
    cases d with
    | int i =>
      unfold gAbs at h
      cases h
      exact ⟨i, rfl, by rw [abs_eq], rfl⟩
    | _ => cases h
  refine ⟨fun xs st y st' h => ?_, fun A' E' F ρ H st s x y v v' hh hu I R rx rv h => ?_⟩
  · obtain ⟨x, d, _, _, h⟩ := f1_ok h
    obtain ⟨_, _, _, e⟩ := key h
    exact e
  · obtain ⟨x', d, e, q, h⟩ := f1_ok h
    cases e
    obtain ⟨i, rfl, rfl, _⟩ := key h
    have ev : v = .int i := view R rx q
    subst ev
    obtain ⟨t, rfl⟩ := rv
    exact call_abs_int fun u tk => ⟨⟨.int _, ⟨_, rfl⟩, rfl⟩, keeps_toks s tk⟩
def gLenL : D → Store → O DH.X := fun d st => match d with
  | .dct _ _ => .bad
  | x => gLen x st
theorem l_len (hK : G.K = X.K) : CallL X G "len" (f1 gLenL) := by
  refine ⟨fun xs st y st' h => ?_, fun A' E' F ρ H st s x y v v' hh hu I R rx rv h => ?_⟩
  · obtain ⟨x, d, _, _, h⟩ := f1_ok h
    cases d with
    | str cs =>
      have h : (match small cs.length with | true => O.ok (DH.X.d (.int cs.length)) st | false => .bad) = .ok y st' := h
      split at h <;> cases h
      rfl
    | lst xs => cases h; rfl
    | tup f xs => cases h; rfl
    | _ => cases h
  · obtain ⟨x', d, e, q, h⟩ := f1_ok h
    cases e
    obtain ⟨pins, σ, s0, I⟩ := I
    have w := view R rx q
    have hn := line63
    cases d with
    | lst xs =>
      cases h
      obtain ⟨a, vs, rfl, f, r⟩ := w
      obtain rfl : v' = .ref a := rv
      obtain ⟨its, r', pl, hz⟩ := I.list (SqL.of f)
      have hlen := r'.length
      have hl := r.length
      exact Calls.call_len_list pl.isList (by simp only [List.size_toArray] <;> omega) ⟨⟨.int xs.length, ⟨s.toks + 1, by rw [List.size_toArray, ← hlen, hl]⟩, rfl⟩, keeps_toks s _⟩
    | tup f xs =>
      cases h
      obtain ⟨a, vs, rfl, f, r⟩ := w
      obtain rfl : v' = .ref a := rv
      rw [hK] at f
      obtain ⟨its, r', pl, hz⟩ := I.tuple f
      have hlen := r'.length
      have hl := r.length
      exact len_tuple pl (by simp only [List.size_toArray] <;> omega) ⟨⟨.int xs.length, ⟨s.toks + 1, by rw [List.size_toArray, ← hlen, hl]⟩, rfl⟩, keeps_toks s _⟩
    | str cs =>
      have h : (match small cs.length with | true => O.ok (DH.X.d (.int cs.length)) st | false => .bad) = .ok y st := h
      cases z : small cs.length with
      | false => rw [z] at h; cases h
      | true =>
        rw [z] at h
        cases h
        have ev : v = .str (strOf cs) := w
        subst ev
        obtain ⟨t, rfl⟩ := rv
        have hz := small_ok z
        exact len_str (by rw [str_len]; omega) ⟨⟨.int cs.length, ⟨_, by rw [str_len]⟩, rfl⟩, keeps_toks s _⟩
    | _ => cases h
end
end DH
namespace DH
open PySem PySem.Spec PyProof.Rows L2
section
variable {X : Cx} {G : Gm}
/-- x in c, c a list or a tuple of data -/
theorem l_inAny {op : CmpOp} {neg : Bool} {g : D → D → Store → O DH.X} (hg : ∀ a b st y st', g a b st = .ok y st' → ∃ k, inD a b = some k ∧ y = .d (.bl (if neg then !k else k)) ∧ st' = st)
    (hl : ∀ (A' : Around) (E' : Value → Shared → Prop) (s : Shared) (Q : Value → Shared → Prop) (d : PyData) (ds : List PyData) (u c : Value) (as bs : List Addr), Reads s.heap c (.list ds) as → Reads s.heap u d bs → PyData.canLayAll0 ds = true → d.canLay0 = true → A'.units + 1 + min (PyData.depthAll ds) d.depth < cLine → Q (.bool (if neg then !ds.any (fun y => PyData.eqv y d) else ds.any fun y => PyData.eqv y d)) s → wpAny (model X.prog X.w) A' (compareOp op u c) Q E' s)
    (ht : ∀ (A' : Around) (E' : Value → Shared → Prop) (s : Shared) (Q : Value → Shared → Prop) (d : PyData) (ds : List PyData) (u c : Value) (as bs : List Addr), Reads s.heap c (.tuple ds) as → Reads s.heap u d bs → PyData.canLayAll0 ds = true → d.canLay0 = true → A'.units + 1 + min (PyData.depthAll ds) d.depth < cLine → Q (.bool (if neg then !ds.any (fun y => PyData.eqv y d) else ds.any fun y => PyData.eqv y d)) s → wpAny (model X.prog X.w) A' (compareOp op u c) Q E' s)
    (hK : G.K = X.K) : OpL X G (compareOp op) (f2 g) := by
  refine ⟨fun x z st y st' h => ?_, fun A' E' F ρ H st s x z y v w v' w' hh hu I R rx rz rv rw' h => ?_⟩
  · obtain ⟨a, b, _, _, h⟩ := f2_ok h
    obtain ⟨_, _, _, e⟩ := hg a b st y st' h
    exact e
  · obtain ⟨a, b, q1, q2, h⟩ := f2_ok h
    obtain ⟨k, hk, rfl, _⟩ := hg a b st y st h
    obtain ⟨o1, o2, hin⟩ := inD_some hk
    obtain ⟨pins, σ, s0, I⟩ := I
    have d1 := (view R rx q1).dp o1
    have d2 := (view R rz q2).dp o2
    rw [hK] at d1 d2
    obtain ⟨as, r1⟩ := Dp.reads I _ _ _ d1 rv
    obtain ⟨bs, r2⟩ := Dp.reads I _ _ _ d2 rw'
    have s1 := okD_shaped o1
    have s2 := okD_shaped o2
    have fin : LPost G F ρ H (.d (.bl (if neg then !k else k))) s (.bool (if neg then !k else k)) s := ⟨⟨.bl _, rfl, rfl⟩, keeps_refl s⟩
    rcases hin with ⟨ys, rfl, e⟩ | ⟨f, ys, rfl, e⟩
    · exact hl A' E' s _ (toPy a) (toPys ys) v' w' bs as r2 r1 (SeqAt.canLay_of_shaped s2) (SeqAt.canLay_of_shaped s1) (room_in_shaped s1 (by omega)) (by rw [e]; exact fin)
    · exact ht A' E' s _ (toPy a) (toPys ys) v' w' bs as r2 r1 (SeqAt.canLay_of_shaped s2) (SeqAt.canLay_of_shaped s1) (room_in_shaped s1 (by omega)) (by rw [e]; exact fin)
theorem l_in (hK : G.K = X.K) : OpL X G (compareOp .In) (f2 gIn) := l_inAny (neg := false) (fun a b st y st' h => by
    unfold gIn at h
    cases z : inD a b with
    | none => rw [z] at h; cases h
    | some k => rw [z] at h; cases h; exact ⟨k, rfl, rfl, rfl⟩)
  (fun A' E' s Q d ds u c as bs r1 r2 c1 c2 hu q => SeqAt.in_list_reads r1 r2 c1 c2 hu q) (fun A' E' s Q d ds u c as bs r1 r2 c1 c2 hu q => SeqAt.in_tuple_reads r1 r2 c1 c2 hu q) hK
theorem l_notIn (hK : G.K = X.K) : OpL X G (compareOp .NotIn) (f2 gNotIn) := l_inAny (neg := true) (fun a b st y st' h => by
    unfold gNotIn at h
    cases z : inD a b with
    | none => rw [z] at h; cases h
    | some k => rw [z] at h; cases h; exact ⟨k, rfl, rfl, rfl⟩)
  (fun A' E' s Q d ds u c as bs r1 r2 c1 c2 hu q => SeqAt.notIn_list_reads r1 r2 c1 c2 hu q) (fun A' E' s Q d ds u c as bs r1 r2 c1 c2 hu q => SeqAt.notIn_tuple_reads r1 r2 c1 c2 hu q) hK
end
end DH
namespace DH
open PySem PySem.Spec PyProof.Rows L2
/-- what each item's element says -/
def evAll (i : Nat) (me : EM DH.X) (sl : Slots) (st : Store) : List D → Option (List Bool)
  | [] => some []
  | x :: xs => (match me (sl.set i (some (.d x))) st with
    | .ok (.d (.bl b)) _ => (match evAll i me sl st xs with
      | some bs => some (b :: bs)
      | none => none)
    | _ => none)
theorem evAll_at {i : Nat} {me : EM DH.X} {sl : Slots} {st : Store} : ∀ {xs : List D} {bs : List Bool}, evAll i me sl st xs = some bs → bs.length = xs.length ∧ ∀ (j : Nat) (x : D), xs[j]? = some x → ∃ b st', bs[j]? = some b ∧ me (sl.set i (some (.d x))) st = .ok (.d (.bl b)) st'
  | [], bs, h => by
    have e : [] = bs := Option.some.inj h
    subst e
    exact ⟨rfl, fun j x hx => by cases hx⟩
  | y :: ys, bs, h => by
    unfold evAll at h
    split at h
    · rename_i b st' q
      cases q2 : evAll i me sl st ys with
      | none => rw [q2] at h; cases h
      | some cs =>
        rw [q2] at h
        have e : b :: cs = bs := Option.some.inj h
        subst e
        obtain ⟨l, g⟩ := evAll_at q2
        refine ⟨by rw [List.length_cons, List.length_cons, l], fun j x hx => ?_⟩
        cases j with
        | zero =>
          have : y = x := by simpa using hx
          subst this
          exact ⟨b, st', rfl, q⟩
        | succ j =>
          obtain ⟨b', st2, h1, h2⟩ := g j x (by simpa using hx)
          exact ⟨b', st2, by simpa using h1, h2⟩
    · cases h
def eAnyG (i : Nat) (mi me : EM DH.X) : EM DH.X := fun sl st => (mi sl st).bind fun xv st1 => match seqM xv with
  | some xs => (match evAll i me sl st1 xs with
    | some bs => .ok (.d (.bl (anyB (fun b => b) bs))) st1
    | none => .bad)
  | none => .bad
def eAllG (i : Nat) (mi me : EM DH.X) : EM DH.X := fun sl st => (mi sl st).bind fun xv st1 => match seqM xv with
  | some xs => (match evAll i me sl st1 xs with
    | some bs => .ok (.d (.bl (allB (fun b => b) bs))) st1
    | none => .bad)
  | none => .bad
end DH
namespace DH
open PySem PySem.Spec PyProof.Rows L2
section
variable {X : Cx} {pins : List (Addr × Obj)} {σ : L2.St} {H : Hp} {s : Shared}
/-- the table at T has grown by a code object at k of the name q; generators may have moved -/
theorem inv_grown {T k : Addr} {q : Str} {old new : Array Value} {hp : Heap} {gs : Array GenState} {dr : Drawn} {tk : Nat} (I : Inv X pins σ H s) (hT : H T = some (.tbl old)) (keep : ∀ b o, b ≠ T → s.heap.get? b = some o → hp.get? b = some o)
    (now : hp.get? T = some { cls := .none, data := .fields (old ++ new) }) (fresh : s.heap.objs.size ≤ k) (code : ∃ (oc : Obj) (vs : Array Value) (t : PySem.Tok), hp.get? k = some oc ∧ oc.data = .fields vs ∧ vs[1]? = some (.str q t)) (bare : AllBare gs) :
    Inv X pins σ (upd (upd H T (.tbl (old ++ new))) k (LamX.CodeO k q)) { s with heap := hp, gens := gs, drawn := dr, toks := tk } := by
  have free : H k = none := I.hok.fresh fresh
  have Tk : T ≠ k := ne_of_none hT free
  have other : ∀ b, b ≠ T → b ≠ k → upd (upd H T (.tbl (old ++ new))) k (LamX.CodeO k q) b = H b := fun b h1 h2 => by rw [upd_ne h2, upd_ne h1]
  have atT : upd (upd H T (.tbl (old ++ new))) k (LamX.CodeO k q) T = some (.tbl (old ++ new)) := by rw [upd_ne Tk, upd_same]
  have notT : ∀ b u, H b = some u → (∀ z, u ≠ .tbl z) → b ≠ T := fun b u e z hb => by
    rw [hb, hT] at e
    exact z old (Option.some.inj e).symm
  have noneT : ∀ b, H b = none → b ≠ T := fun b e hb => by
    rw [hb, hT] at e
    cases e
  have oldk : ∀ b o, s.heap.get? b = some o → b ≠ k := fun b o e hb => by
    rw [hb] at e
    exact Nat.lt_irrefl _ (Nat.lt_of_lt_of_le (Heap.lt_size e) fresh)
  have trk : ∀ b u, H b = some u → b ≠ k := fun b u e => ne_of_none e free
  refine I.step (g' := gs) (d' := dr) (ch := []) (fun b hb => absurd hb (by simp)) (fun b o _ _ _ e n => keep b o (noneT b n) e) (fun b o _ _ _ e n => ⟨o.slots, keep b o (noneT b n) e⟩)
    (fun b o _ e n => by rw [other b (noneT b n) (oldk b o e)]; exact n) (fun b o _ e => ?_) (fun b xs e => by rw [other b (notT b _ e (fun z y => by cases y)) (trk b _ e)]; exact e) (fun b o u e => by rw [other b (notT b _ e (fun z y => by cases y)) (trk b _ e)]; exact e) (fun b zs e => ?_) (fun m hn => ?_) (fun b u e => ?_) bare
  · by_cases hb : b = T
    · rw [hb]; exact ⟨_, now⟩
    · exact ⟨o, keep b o hb e⟩
  · by_cases hb : b = T
    · rw [hb, hT] at e
      cases e
      rw [hb, atT]
      exact ⟨new, rfl⟩
    · rw [other b hb (trk b _ e), e]
      exact ⟨#[], by simp⟩
  · obtain ⟨ob, es, ep, ho, r⟩ := hn
    exact ⟨ob, es, ep, keep _ ob (noneT _ I.free) ho, r⟩
  · by_cases hb : b = k
    · rw [hb, upd_same] at e
      cases e
      rw [hb]
      obtain ⟨oc, vs, t, e1, e2, e3⟩ := code
      exact ⟨⟨oc, vs, t, e1, e2, e3⟩, ⟨oc, e1⟩, fun h1 h2 ⟨oc, vs, t, x1, x2, x3⟩ st => ⟨oc, vs, t, st _ x1, x2, x3⟩⟩
    · by_cases hb2 : b = T
      · rw [hb2, atT] at e
        cases e
        rw [hb2]
        exact now
      · rw [other b hb2 hb] at e
        refine (I.hok b u e).stay (fun d v hd z => keep d v ?_ z) (fun d z => by rw [other d (notT d _ z (fun z y => by cases y)) (trk d _ z)]; exact z) fun d xs z => by rw [other d (notT d _ z (fun z y => by cases y)) (trk d _ z)]; exact z
        rcases hd with y | y
        · rw [y]; exact hb2
        · exact notT d _ y (fun z y => by cases y)
end
end DH
namespace DH
open PySem PySem.Spec PyProof.Rows L2
/-- the generator g, ready to be walked in s5: bs, what its items say -/
def ReadyB (X : Cx) (G : Gm) (pins : List (Addr × Obj)) (σ : L2.St) (H1 : Hp) (bs : List Bool) (g : Addr) (s5 : Shared) : Prop :=
  ∃ (fp wr : List Addr) (Gg : Array GenState → Array GenState → Prop) (Fp : Nat → Value → Prop) (St : Nat → Shared → Prop),
    WalksS X.prog X.w X.A.in1 g fp wr Gg bs.length Fp St ∧ St 0 s5 ∧ TruthOf X.prog X.w X.A.in1 Fp (fun j => (bs[j]?).getD false) ∧
    ∀ s', Moved wr Gg s5 s' → ∃ H2, LamX.ExtN H1 H2 ∧ LamX.Tabs G.T H2 ∧ Inv X pins σ H2 s'
section
variable {X : Cx} {G : Gm}
theorem any_range (bs : List Bool) : (List.range bs.length).any (fun j => (bs[j]?).getD false) = anyB (fun b => b) bs := by
  rw [anyB_eq, Bool.eq_iff_iff, List.any_eq_true, List.any_eq_true]
  constructor
  · rintro ⟨j, hj, h⟩
    have hl := List.mem_range.mp hj
    rw [List.getElem?_eq_getElem hl] at h
    exact ⟨bs[j], List.getElem_mem hl, h⟩
  · rintro ⟨b, hb, h⟩
    obtain ⟨j, hj, e⟩ := List.getElem_of_mem hb
    exact ⟨j, List.mem_range.mpr hj, by rw [List.getElem?_eq_getElem hj, e]; exact h⟩
theorem all_range (bs : List Bool) : (List.range bs.length).all (fun j => (bs[j]?).getD false) = allB (fun b => b) bs := by
  rw [Bool.eq_iff_iff, List.all_eq_true, allB_iff]
  constructor
  · intro h b hb
    obtain ⟨j, hj, e⟩ := List.getElem_of_mem hb
    have := h j (List.mem_range.mpr hj)
    rw [List.getElem?_eq_getElem hj, e] at this
    exact this
  · intro h j hj
    have hl := List.mem_range.mp hj
    rw [List.getElem?_eq_getElem hl]
    exact h _ (List.getElem_mem hl)
end
end DH
namespace DH
open PySem PySem.Spec PyProof.Rows L2
/-- the generator expression's own scope: its names xs, the walked thing at «.0», captured names that the def has in cells -/
structure GenS (sc scope : Scope) (xs : List Str) : Prop where
  kind : scope.kind = .function
  co : scope.isCoroutine = false
  cell : ∀ y ∈ scope.names, y.2 ≠ .cell
  dot : scope.names.lookup (".0" : Str) = some NameKind.local
  loc : ∀ x ∈ xs, scope.names.lookup x = some .local
  own : ∀ y, scope.names.lookup y = some .local → y ∈ xs ∨ y = ".0"
  free : ∀ y ∈ scope.names, y.2 = .free → sc.names.lookup y.1 = some .cell ∨ sc.names.lookup y.1 = some .free
def genSB (sc scope : Scope) (xs : List Str) : Bool :=
  decide (scope.kind = .function) && !scope.isCoroutine && scope.names.all (fun y => !decide (y.2 = .cell)) && decide (scope.names.lookup (".0" : Str) = some NameKind.local) && xs.all (fun x => decide (scope.names.lookup x = some .local)) &&
  scope.names.all (fun y => !decide (y.2 = .local) || xs.contains y.1 || decide (y.1 = (".0" : Str))) && scope.names.all fun y => !decide (y.2 = .free) || decide (sc.names.lookup y.1 = some .cell) || decide (sc.names.lookup y.1 = some .free)
theorem lookup_mem {α : Type} : ∀ {l : List (Str × α)} {n : Str} {c : α}, l.lookup n = some c → (n, c) ∈ l
  | [], n, c, h => by cases h
  | (k, v) :: r, n, c, h => by
    rw [List.lookup_cons] at h
    cases q : n == k with
    | true =>
      rw [q] at h
      cases h
      rw [eq_of_beq q]
      exact List.mem_cons_self ..
    | false =>
      rw [q] at h
      exact List.mem_cons_of_mem _ (lookup_mem h)
theorem genS_by {sc scope : Scope} {xs : List Str} (h : genSB sc scope xs = true) : GenS sc scope xs := by
  unfold genSB at h
  simp only [Bool.and_eq_true, Bool.or_eq_true, Bool.not_eq_true', decide_eq_true_eq, decide_eq_false_iff_not, List.all_eq_true] at h
  obtain ⟨⟨⟨⟨⟨⟨h1, h2⟩, h3⟩, h4⟩, h5⟩, h6⟩, h7⟩ := h
  refine ⟨h1, h2, h3, h4, h5, fun y hy => ?_, fun y hy e => ?_⟩
  · rcases h6 _ (lookup_mem hy) with (z | z) | z
    · exact absurd rfl z
    · exact .inl (by simpa using z)
    · exact .inr z
  · rcases h7 y hy with (z | z) | z
    · exact absurd e z
    · exact .inl z
    · exact .inr z
section
variable {X : Cx} {G : Gm} {pins : List (Addr × Obj)} {σ : L2.St} {H : Hp} {s : Shared}
/-- the state behind the making of the generator's code: H2 the abstract heap, h4 the heap, I the iterator -/
structure GCode (X : Cx) (T : List (Addr × Str)) (pins : List (Addr × Obj)) (σ : L2.St) (P : Addr) (H H2 : Hp) (s : Shared) (o : Obj) (h4 : Heap) : Prop where
  ext : LamX.ExtN H H2
  tab : LamX.Tabs T H2
  size : s.heap.objs.size + 1 ≤ h4.objs.size
  old : ∀ b u, b ≠ P → (s.heap.push o).get? b = some u → h4.get? b = some u
  lim : h4.NoLimit
  inv : ∀ (hp : Heap) (gs : Array GenState) (dr : Drawn) (tk : Nat), (∀ b u, b ≠ s.heap.objs.size → h4.get? b = some u → hp.get? b = some u) → AllBare gs → Inv X pins σ H2 { s with heap := hp, gens := gs, drawn := dr, toks := tk }
theorem gen_code {T : List (Addr × Str)} {c P : Addr} {gpos : Pos} {scope : Scope} {o : Obj} {E : Value → Shared → Prop} {Q2 : Value → Addr → Shared → Prop} (I : Inv X pins σ H s) (TB : LamX.TabB X.base X.mg c P) (hcode : X.env.code = .ref c)
    (hT : LamX.Tabs T H) (hm : (P, X.env.qual ++ "<genexpr>") ∈ T) (hu : ∀ p ∈ T, p.1 = P → p.2 = X.env.qual ++ "<genexpr>")
    (h : ∀ (code : Value) (H2 : Hp) (h4 : Heap) (tk : Nat), GCode X T pins σ P H H2 s o h4 → Q2 code builtinsNs { s with heap := h4, toks := tk }) :
    wpAny (model X.prog X.w) X.A (genexprCode X.env gpos (X.env.qual ++ "<genexpr>") scope) (fun code s₃ => wpAny (model X.prog X.w) X.A (builtinsFor X.env.globals X.env.builtins) (fun bi s₄ => Q2 code bi s₄) E s₃) E { s with heap := s.heap.push o } := by
  obtain ⟨ps, hP, ht, ha⟩ := hT _ hm
  have hPs : s.heap.get? P = some { cls := .none, data := .fields ps } := I.hok P _ hP
  have hPlt : P < s.heap.objs.size := Heap.lt_size hPs
  have hP2 : (s.heap.push o).get? P = some { cls := .none, data := .fields ps } := Heap.get?_push_of_some _ hPs
  have cd : PySem.W.CodeHd (s.heap.push o) c P := TB.code.keeps fun b u e => Heap.get?_push_of_some _ (I.bk b u e)
  have lim2 : (s.heap.push o).NoLimit := I.nolimit.push o
  have hcP : cStatics ≠ P := fun e => by
    obtain ⟨_, hns, _⟩ := I.nolimit
    obtain ⟨o', es, ep, ho, hd, _⟩ := hns
    rw [e, hPs] at ho
    cases ho
    cases hd
  have sz2 : (s.heap.push o).objs.size = s.heap.objs.size + 1 := Heap.size_push ..
  have ne_I : ∀ b u, s.heap.get? b = some u → b ≠ s.heap.objs.size := fun b u e => Nat.ne_of_lt (Heap.lt_size e)
  have fin : ∀ (code : Value) (H2 : Hp) (h4 : Heap) (tk : Nat), GCode X T pins σ P H H2 s o h4 → wpAny (model X.prog X.w) X.A (builtinsFor X.env.globals X.env.builtins) (fun bi s₄ => Q2 code bi s₄) E { s with heap := h4, toks := tk } := fun code H2 h4 tk g => by
    obtain ⟨bm, ob, e1, e2, e3, e4, e5, e6, e7, e8⟩ := TB.bm
    have old := g.old
    refine wpAny_builtinsFor (m := X.mg) (by rw [I.ok.glob]; exact ((I.mod.glob.keeps I.bk).push o).at' fun u e => old _ u TB.gP e) e1 e2 (old _ _ e4 (Heap.get?_push_of_some _ (I.bk _ _ e5))) e6 e7 e8 (h code H2 h4 tk g)
  cases hf : codeAmong gpos ps.toList with
  | some cv =>
    refine wpAny_genexprCode_hit hcode (cd.code hP2 ht) hf (fin cv H (s.heap.push o) s.toks ⟨LamX.ExtN.refl H, hT, Nat.le_of_eq sz2.symm, fun _ _ _ e => e, lim2, fun hp gs dr tk k hb => ?_⟩)
    have J := I.step (g' := gs) (d' := dr) (t' := tk) (h' := hp) (H' := H) (ch := []) (fun b hb => absurd hb (by simp)) (fun b u _ _ _ e n => k b u (ne_I b u e) (Heap.get?_push_of_some _ e)) (fun b u _ _ _ e n => ⟨u.slots, k b u (ne_I b u e) (Heap.get?_push_of_some _ e)⟩)
      (fun b u _ e n => n) (fun b u _ e => ⟨u, k b u (ne_I b u e) (Heap.get?_push_of_some _ e)⟩) (fun b xs e => e) (fun b u v e => e) (fun b zs e => ⟨#[], by rw [e]; simp⟩) (fun m hn => hn.at' fun u e => k _ u (ne_I _ u e) (Heap.get?_push_of_some _ e))
      (I.hok.kept fun b u e => k b u (ne_I b u e) (Heap.get?_push_of_some _ e)) hb
    exact J
  | none =>
    refine wpAny_genexprCodeX hcode (cd.code hP2 ht) (cd.tab hP2) hf fun c' h' tk hx hge hlt hco' hrec htab' _ => ?_
    have hge' : s.heap.objs.size ≤ c' := by rw [sz2] at hge; omega
    have nC : H c' = none := I.hok.fresh hge'
    obtain ⟨c2, oc, vs, t, e2, hoc, hd, hv⟩ := hrec
    cases e2
    have hE : LamX.ExtN H (upd (upd H P (.tbl (ps ++ #[rawInt gpos.line, rawInt gpos.col, .ref c']))) c' (LamX.CodeO c' (X.env.qual ++ "<genexpr>"))) := fun b u e n => by
      rw [upd_ne (ne_of_none e nC), upd_ne (fun z => n ps (Option.some.inj (e.symm.trans (by rw [z]; exact hP))))]
      exact e
    have eL : (ps ++ #[rawInt gpos.line, rawInt gpos.col, .ref c']).toList = ps.toList ++ [rawInt gpos.line, rawInt gpos.col, .ref c'] := by simp
    have nI : c' ≠ s.heap.objs.size := by rw [sz2] at hge; omega
    have nPI : P ≠ s.heap.objs.size := Nat.ne_of_lt hPlt
    refine fin (.ref c') _ h' tk ⟨hE, fun p hp => ?_, by rw [← sz2]; exact Nat.le_trans hge (Nat.le_of_lt hlt), fun b u hb e => hx b u hb e, lim2.extBut hx hcP, fun hp gs dr tk k hb => ?_⟩
    · by_cases hb : p.1 = P
      · rw [hu p hp hb, hb]
        refine ⟨_, by rw [upd_ne (ne_of_none hP nC), upd_same], by rw [eL]; exact PySem.TriplesOk_snoc _ _ _ _ ht, fun p' cv hcv => ?_⟩
        rw [eL] at hcv
        rcases LamX.among_app _ ht hcv with z | z
        · obtain ⟨c0, e1, e2⟩ := ha p' cv z
          exact ⟨c0, e1, hE _ _ e2 LamX.codeO_ne⟩
        · exact ⟨c', z, upd_same⟩
      · obtain ⟨ps', a1, a2, a3⟩ := hT p hp
        refine ⟨ps', by rw [upd_ne (ne_of_none a1 nC), upd_ne hb]; exact a1, a2, fun p' cv hcv => ?_⟩
        obtain ⟨c0, e1, e2⟩ := a3 p' cv hcv
        exact ⟨c0, e1, hE _ _ e2 LamX.codeO_ne⟩
    · exact inv_grown I hP (fun b u hb e => k b u (ne_I b u e) (hx b u hb (Heap.get?_push_of_some _ e))) (k P _ nPI htab'.2) hge' ⟨oc, vs, t, k c' oc nI hoc, hd, hv⟩ hb
end
end DH
namespace DH
open PySem PySem.Spec PyProof.Rows L2
/-! ### what a generator expression walks -/
def signsD : List Nat → List D
  | [] => []
  | c :: r => .str [c] :: signsD r
theorem signsD_get : ∀ {cs : List Nat} {j c : Nat}, cs[j]? = some c → (signsD cs)[j]? = some (.str [c])
  | [], j, c, h => by cases h
  | d :: r, 0, c, h => by
    have : d = c := by simpa using h
    rw [this]; rfl
  | d :: r, j + 1, c, h => signsD_get (cs := r) (by simpa using h)
theorem signsD_len : ∀ cs : List Nat, (signsD cs).length = cs.length
  | [] => rfl
  | c :: r => by
    show (signsD r).length + 1 = _
    rw [signsD_len r]; rfl
def seqD : D → Option (List D)
  | .tup _ xs => some xs
  | .lst xs => some xs
  | .str cs => some (signsD cs)
  | _ => none
/-- the iterator at I over the items xs, laid as o -/
structure SrcW (X : Cx) (G : Gm) (N : Addr → Prop) (H : Hp) (h : Heap) (xs : List D) (o : Obj) (fp : List Addr) (Pf : Nat → Value → Prop) (St : Nat → Heap → Prop) : Prop where
  walk : ∀ A' : Around, A'.handled = none → Walks X.prog X.w A' h.objs.size fp [h.objs.size] xs.length Pf St
  start : St 0 (h.push o)
  feet : ∀ b ∈ fp, b = h.objs.size ∨ ∃ u, h.get? b = some u ∧ u.cls ≠ .none
  item : ∀ j v, Pf j v → ∃ d vv, xs[j]? = some d ∧ RelV vv v ∧ RelD G N H d vv
section
variable {X : Cx} {G : Gm} {pins : List (Addr × Obj)} {σ : L2.St} {H : Hp} {s : Shared} {F : Addr → Prop} {ρ : List Addr}
theorem src_walk {d : D} {xs : List D} {v : V} {xv : Value} {Q : Value → Shared → Prop} {E : Value → Shared → Prop} (hK : G.K = X.K) (I : Inv X pins σ H s) (w : RelW G (Nn F ρ) H d v) (hd : seqD d = some xs) (rv : RelV v xv)
    (h : ∀ (o : Obj) (fp : List Addr) (Pf : Nat → Value → Prop) (St : Nat → Heap → Prop), SrcW X G (Nn F ρ) H s.heap xs o fp Pf St → Q (.ref s.heap.objs.size) { s with heap := s.heap.push o }) : wpAny (model X.prog X.w) X.A (pyIter xv) Q E s := by
  cases d with
  | tup f ys =>
    have e : ys = xs := Option.some.inj hd
    subst e
    obtain ⟨a, vs, rfl, f, r⟩ := w
    obtain rfl : xv = .ref a := rv
    rw [hK] at f
    obtain ⟨its, r', pl, hz⟩ := I.tuple f
    have pl' : s.heap.IsTuple a its.toArray := pl
    have hlt : a < s.heap.objs.size := let ⟨_, e, _⟩ := pl'; Heap.lt_size e
    have hn : its.toArray.size = ys.length := by
      have := r'.length
      have := r.length
      simp only [List.size_toArray]
      omega
    refine wpAny_pyIter_tuple pl' (h _ [s.heap.objs.size, a] (fun i v => its.toArray[i]? = some v) (fun i h => h.IsTupleIter s.heap.objs.size a i ∧ h.IsTuple a its.toArray) ⟨fun A' hA => ?_, ⟨⟨_, Heap.get?_push_size _ rfl, rfl, rfl⟩, let ⟨o, e, q⟩ := pl'; ⟨o, Heap.get?_push_of_some _ e, q⟩⟩, fun b hb => ?_, fun j v hj => ?_⟩)
    · rw [← hn]
      exact Walks.tuple hA _ a (Nat.ne_of_lt hlt) _
    · rcases List.mem_cons.mp hb with z | z
      · exact .inl z
      · have : b = a := by simpa using z
        subst this
        obtain ⟨u, e1, e2, _⟩ := pl'
        exact .inr ⟨u, e1, by rw [e2]; exact fun z => by cases z⟩
    · have hj' : its[j]? = some v := by
        have hj : its.toArray[j]? = some v := hj
        simpa using hj
      obtain ⟨hl, _⟩ := List.getElem?_eq_some_iff.mp hj'
      have hl2 : j < vs.length := by have := r'.length; omega
      obtain ⟨u, e1, e2⟩ := r'.get (List.getElem?_eq_getElem hl2)
      rw [hj'] at e1
      cases e1
      have hl3 : j < ys.length := by have := r.length; omega
      obtain ⟨w, e3, e4⟩ := r.get (List.getElem?_eq_getElem hl3)
      rw [List.getElem?_eq_getElem hl2] at e3
      cases e3
      exact ⟨_, _, List.getElem?_eq_getElem hl3, e2, e4⟩
  | lst ys =>
    have e : ys = xs := Option.some.inj hd
    subst e
    obtain ⟨a, vs, rfl, f, r⟩ := w
    obtain rfl : xv = .ref a := rv
    obtain ⟨its, r', pl, hz⟩ := I.list (SqL.of f)
    have pl' : s.heap.IsList a its.toArray := pl.isList
    have hlt : a < s.heap.objs.size := let ⟨_, e, _⟩ := pl'; Heap.lt_size e
    have hn : its.toArray.size = ys.length := by
      have := r'.length
      have := r.length
      simp only [List.size_toArray]
      omega
    refine wpAny_pyIter_list pl' (h _ [s.heap.objs.size, a] (fun i v => its.toArray[i]? = some v) (fun i h => h.IsListIter s.heap.objs.size a i ∧ h.IsList a its.toArray) ⟨fun A' hA => ?_, ⟨⟨_, Heap.get?_push_size _ rfl, rfl, rfl⟩, let ⟨o, e, q⟩ := pl'; ⟨o, Heap.get?_push_of_some _ e, q⟩⟩, fun b hb => ?_, fun j v hj => ?_⟩)
    · rw [← hn]
      exact Walks.list hA _ a (Nat.ne_of_lt hlt) _
    · rcases List.mem_cons.mp hb with z | z
      · exact .inl z
      · have : b = a := by simpa using z
        subst this
        obtain ⟨u, e1, e2, _⟩ := pl'
        exact .inr ⟨u, e1, by rw [e2]; exact fun z => by cases z⟩
    · have hj' : its[j]? = some v := by
        have hj : its.toArray[j]? = some v := hj
        simpa using hj
      obtain ⟨hl, _⟩ := List.getElem?_eq_some_iff.mp hj'
      have hl2 : j < vs.length := by have := r'.length; omega
      obtain ⟨u, e1, e2⟩ := r'.get (List.getElem?_eq_getElem hl2)
      rw [hj'] at e1
      cases e1
      have hl3 : j < ys.length := by have := r.length; omega
      obtain ⟨w, e3, e4⟩ := r.get (List.getElem?_eq_getElem hl3)
      rw [List.getElem?_eq_getElem hl2] at e3
      cases e3
      exact ⟨_, _, List.getElem?_eq_getElem hl3, e2, e4⟩
  | str cs =>
    have e : signsD cs = xs := Option.some.inj hd
    subst e
    have ev : v = .str (strOf cs) := w
    subst ev
    obtain ⟨t, rfl⟩ := rv
    refine wpAny_pyIter_str fun o St W hst => h o [s.heap.objs.size] (SignAt (strOf cs)) St ⟨fun A' hA => ?_, hst, fun b hb => .inl (by simpa using hb), fun j v hj => ?_⟩
    · rw [signsD_len]
      have e : (strOf cs).cps.size = cs.length := by show cs.toArray.size = _; simp
      rw [← e]
      exact W A' hA
    · obtain ⟨c, u, hc, rfl⟩ := hj
      have hc' : cs[j]? = some c := by
        have : cs.toArray[j]? = some c := hc
        simpa using this
      exact ⟨_, .str ⟨#[c]⟩, signsD_get hc', ⟨u, rfl⟩, rfl⟩
  | _ => cases hd
/-- what is known within an element -/
theorem elt_lst {T : List (Addr × Str)} {P C : Addr} {H2 : Hp} {o : Obj} {h4 : Heap} {scope : Scope} {code : Value} {x : Str} {i : Nat} {sl : Slots} {st : Store} {d : D} {vv : V} {v : Value} {s2 : Shared} {m2 : Str → Option Value}
    (I : Inv X pins σ H s) (g : GCode X T pins σ P H H2 s o h4) (hT : T = G.T) (S : GenS X.env.scope scope [x]) (hN : X.N.Nodup) (hi : X.N[i]? = some x) (hdot : X.N.contains (".0" : Str) = false) (sk : SlOk G F ρ H sl σ) (R : Rep G F ρ st H)
    (rd : RelD G (Nn F ρ) H d vv) (rv : RelV vv v) (hn : s2.heap.Ns C m2) (hx : m2 x = some v) (hk : ∀ b u, b ≠ s.heap.objs.size → h4.get? b = some u → s2.heap.get? b = some u) :
    LSt X G (genEnv scope (cloFrom X.env.cells scope.names []) C code builtinsNs X.env) F ρ H2 (sl.set i (some (.d d))) st s2 := by
  obtain ⟨R2, s12⟩ := R.ext g.ext (by rw [← hT]; exact g.tab)
  have J := g.inv s2.heap s.gens s.drawn s.toks hk I.bare
  refine ⟨⟨pins, σ, s, ?_⟩, R2, S.kind, ⟨m2, hn, fun j y xx e1 e2 e3 => ?_⟩, I.ok.glob, rfl⟩
  · exact J
  · by_cases hj : i = j
    · subst hj
      rw [hi] at e1
      cases e1
      have hl : i < sl.length := by
        refine Nat.lt_of_not_le fun z => ?_
        rw [List.getElem?_eq_none (by simpa using z)] at e2
        cases e2
      rw [List.getElem?_set_self hl] at e2
      cases e2
      exact ⟨vv, v, RelD.mono s12.keeps d rd, rv, .inl ⟨S.loc x (by simp), hx⟩⟩
    · rw [List.getElem?_set_ne hj] at e2
      obtain ⟨v', e4, rx⟩ := sk.2 j xx e2
      have nodup : y ≠ x := fun e => by
        subst e
        obtain ⟨h1, q1⟩ := List.getElem?_eq_some_iff.mp hi
        obtain ⟨h2, q2⟩ := List.getElem?_eq_some_iff.mp e1
        exact hj ((List.getElem_inj hN).mp (q1.trans q2.symm))
      rcases e3 with e3 | e3 | e3
      · rcases S.own y e3 with z | z
        · exact absurd (by simpa using z) nodup
        · subst z
          have := List.mem_of_getElem? e1
          rw [show X.N.contains (".0" : Str) = true by simpa using this] at hdot
          cases hdot
      · exact absurd rfl (S.cell _ (lookup_mem e3))
      · have hm : (y, NameKind.free) ∈ scope.names := lookup_mem e3
        have hf := S.free _ hm rfl
        obtain ⟨m, _, hl⟩ := J.loc
        have hvis : Vis X.env.scope y := .inr hf
        obtain ⟨u, ru, lk⟩ := hl j y v' e1 e4 hvis
        have hnl : ¬ X.env.scope.names.lookup y = some .local := fun z => by
          rcases hf with q | q <;> (rw [z] at q; cases q)
        rcases lk with ⟨q, _⟩ | ⟨_, c, hc, hcell⟩
        · exact absurd q hnl
        · refine ⟨v', u, RelX.mono s12 rx, ru, .inr ⟨.inr e3, c, ?_, hcell⟩⟩
          have h1 := cloFrom_has (cells := X.env.cells) (acc := []) hm
          obtain ⟨c', hc'⟩ := mem_lookup h1
          show (cloFrom X.env.cells scope.names []).lookup y = some c
          rw [hc']
          rcases cloFrom_mem (lookup_mem hc') with z | ⟨_, z⟩
          · cases z
          · rw [z, hc]; rfl
end
end DH
namespace DH
open PySem PySem.Spec PyProof.Rows L2
/-- what each item's element is -/
def evD (i : Nat) (me : EM DH.X) (sl : Slots) (st : Store) : List D → Option (List D)
  | [] => some []
  | x :: xs => (match me (sl.set i (some (.d x))) st with
    | .ok (.d r) _ => (match evD i me sl st xs with
      | some rs => some (r :: rs)
      | none => none)
    | _ => none)
theorem evD_at {i : Nat} {me : EM DH.X} {sl : Slots} {st : Store} : ∀ {xs rs : List D}, evD i me sl st xs = some rs → rs.length = xs.length ∧ ∀ (j : Nat) (x : D), xs[j]? = some x → ∃ r st', rs[j]? = some r ∧ me (sl.set i (some (.d x))) st = .ok (.d r) st'
  | [], rs, h => by
    have e : [] = rs := Option.some.inj h
    subst e
    exact ⟨rfl, fun j x hx => by cases hx⟩
  | y :: ys, rs, h => by
    unfold evD at h
    split at h
    · rename_i b st' q
      cases q2 : evD i me sl st ys with
      | none => rw [q2] at h; cases h
      | some cs =>
        rw [q2] at h
        have e : b :: cs = rs := Option.some.inj h
        subst e
        obtain ⟨l, g⟩ := evD_at q2
        refine ⟨by rw [List.length_cons, List.length_cons, l], fun j x hx => ?_⟩
        cases j with
        | zero =>
          have : y = x := by simpa using hx
          subst this
          exact ⟨b, st', rfl, q⟩
        | succ j =>
          obtain ⟨b', st2, h1, h2⟩ := g j x (by simpa using hx)
          exact ⟨b', st2, by simpa using h1, h2⟩
    · cases h
/-- the generator g, ready to be walked in s5: rs, what its items are -/
def ReadyD (X : Cx) (G : Gm) (pins : List (Addr × Obj)) (σ : L2.St) (H1 : Hp) (rs : List D) (g : Addr) (s5 : Shared) : Prop :=
  ∃ (fp wr : List Addr) (Gg : Array GenState → Array GenState → Prop) (Fp : Nat → Value → Prop) (St : Nat → Shared → Prop),
    WalksS X.prog X.w X.A.in1 g fp wr Gg rs.length Fp St ∧ St 0 s5 ∧ (∀ b ∈ fp, b < s5.heap.objs.size) ∧ (∀ j y, Fp j y → ∃ r v N H', rs[j]? = some r ∧ RelV v y ∧ RelD G N H' r v) ∧
    ∀ s', Moved wr Gg s5 s' → ∃ H2, LamX.ExtN H1 H2 ∧ LamX.Tabs G.T H2 ∧ Inv X pins σ H2 s'
section
variable {X : Cx} {G : Gm} {E : XK} {pins : List (Addr × Obj)} {σ : L2.St} {H : Hp} {s : Shared}
theorem passing_all (n : Nat) : passing (fun _ => true) n 0 = List.range n := by
  unfold passing
  simp
theorem gen_one {c P : Addr} {elt iter : Expr} {x : Str} {px gpos : Pos} {scope : Scope} {mi me : EM DH.X} {k i : Nat} {Q' : Value → Shared → Prop} {R' : List D → Slots → Store → (Addr → Prop) → List Addr → Hp → Prop}
    (hK : G.K = X.K) (hr : Room k X.A) (TB : LamX.TabB X.base X.mg c P) (hcode : X.env.code = .ref c) (hm : (P, X.env.qual ++ "<genexpr>") ∈ G.T) (hu : ∀ p ∈ G.T, p.1 = P → p.2 = X.env.qual ++ "<genexpr>")
    (S : GenS X.env.scope scope [x]) (hN : X.N.Nodup) (hix : X.N[i]? = some x) (hdot : X.N.contains (".0" : Str) = false) (hi : PE X iter (rdE G E mi)) (hel : ∀ (C : Addr) (code : Value), PL X G (genEnv scope (cloFrom X.env.cells scope.names []) C code builtinsNs X.env) elt me)
    (hs : ∀ v, genFold iter X.env v = pure v) (I : Inv X pins σ H s)
    (h : rdE G E mi σ H fun v H1 => ∃ F ρ sl st y d xs rs, SlOk G F ρ H1 sl σ ∧ Rep G F ρ st H1 ∧ RelX G F ρ H1 y v ∧ deref st y = some d ∧ seqD d = some xs ∧ evD i me sl st xs = some rs ∧ R' rs sl st F ρ H1)
    (hQ : ∀ rs sl st F ρ H1 g s5, SlOk G F ρ H1 sl σ → Rep G F ρ st H1 → R' rs sl st F ρ H1 → ReadyD X G pins σ H1 rs g s5 → Q' (.ref g) s5) :
    wpAny (model X.prog X.w) X.A (eval (.GeneratorExp elt [⟨.Name x px, iter, [], 0⟩] scope gpos) X.env) Q' X.xe s := by
  have hhas : ∀ y ∈ scope.names, y.2 = .free → ∃ c, X.env.cells.lookup y.1 = some c := fun y hy e => I.ok.has _ (S.free y hy e)
  refine wpAny_GeneratorExp_walksQD hr.hd S.co (closure_ok hhas) S.cell S.dot (S.loc x (by simp)) S.kind (by have := hr.dp; omega) ?_ hs
  refine thn (hi.run pins s σ H _ I h) fun xv s1 ⟨v, H1, I1, r1, q1⟩ => ?_
  obtain ⟨F, ρ, sl, st, y, d, xs, rs, sk, R, rx, q1, q2, q3, q4⟩ := q1
  obtain ⟨hlen, hev⟩ := evD_at q3
  refine src_walk hK I1 (view R rx q1) q2 r1 fun o fp Pf St W => ⟨I1.nolimit.push o, ?_⟩
  refine gen_code (T := G.T) (Q2 := fun code bi s₄ => ∃ Ia fp wr n₀ Pf St₀ pz F, Value.ref s1.heap.objs.size = .ref Ia ∧ (∀ A' : Around, A'.handled = none → Walks X.prog X.w A' Ia fp wr n₀ Pf St₀) ∧ St₀ 0 s₄.heap ∧ (∀ b ∈ fp, b < s₄.heap.objs.size) ∧ s₄.heap.NoLimit ∧ cStatics ∉ wr ∧
          (∀ href : Heap, (∀ b o, s₄.heap.get? b = some o → href.get? b = some o) →
            QuietGenD X.prog X.w (genEnv scope (cloFrom X.env.cells scope.names []) s₄.heap.objs.size code bi X.env) x [] elt (List.range s₄.heap.objs.size) wr Pf pz F href (X.A.depth + 1) (X.A.units + 8)) ∧
          (∀ a h₅ tk gs, gs.bare = true → s₄.heap.objs.size < a → h₅.objs.size = a + 1 → (∀ b o, s₄.heap.get? b = some o → h₅.get? b = some o) →
            WalksS X.prog X.w X.A.in4 a (a :: s₄.heap.objs.size :: List.range s₄.heap.objs.size) (s₄.heap.objs.size :: wr) (GenOnlyQ s₄.gens.size) (passing pz n₀ 0).length
              (fun j y => ∃ i, (passing pz n₀ 0)[j]? = some i ∧ F i y) (GenAt X.prog X.w X.A.in4 a s₄.gens.size s₄.heap.objs.size (List.range s₄.heap.objs.size) wr pz n₀ F) →
            GenAt X.prog X.w X.A.in4 a s₄.gens.size s₄.heap.objs.size (List.range s₄.heap.objs.size) wr pz n₀ F 0 { s₄ with gens := s₄.gens.push gs, toks := tk, heap := h₅ } →
            Q' (.ref a) { s₄ with gens := s₄.gens.push gs, toks := tk, heap := h₅ })) I1 TB hcode R.tab hm hu fun code H2 h4 tk g => ?_
  have hPs : ∃ ps, s1.heap.get? P = some { cls := .none, data := .fields ps } := by
    obtain ⟨ps, hP, _⟩ := R.tab _ hm
    exact ⟨ps, I1.hok P _ hP⟩
  have hPlt : P < s1.heap.objs.size := let ⟨_, e⟩ := hPs; Heap.lt_size e
  have hcl : cStatics < s1.heap.objs.size := let ⟨_, hns, _⟩ := I1.nolimit; hns.lt
  have lt4 : ∀ b u, s1.heap.get? b = some u → b < h4.objs.size := fun b u e => Nat.lt_of_lt_of_le (Heap.lt_size e) (Nat.le_of_succ_le g.size)
  refine ⟨s1.heap.objs.size, fp, [s1.heap.objs.size], xs.length, Pf, St, (fun _ => true), (fun i y => ∃ r v, rs[i]? = some r ∧ RelV v y ∧ RelD G (Nn F ρ) H2 r v), rfl, W.walk, ?_, ?_, g.lim, ?_, ?_, ?_⟩
  · refine (W.walk X.A hr.hd).frame _ _ _ W.start fun b hb u e => g.old b u (fun z => ?_) e
    subst z
    rcases W.feet b hb with z | ⟨u', e1, e2⟩
    · rw [z] at hPlt; exact Nat.lt_irrefl _ hPlt
    · obtain ⟨ps, e3⟩ := hPs
      rw [e1] at e3
      cases e3
      exact e2 rfl
  · intro b hb
    show b < h4.objs.size
    rcases W.feet b hb with z | ⟨u', e1, e2⟩
    · rw [z]; exact g.size
    · exact lt4 b u' e1
  · intro z
    have : cStatics = s1.heap.objs.size := by simpa using z
    rw [this] at hcl
    exact Nat.lt_irrefl _ hcl
  · intro href hhref
    have keep : ∀ {s2 : Shared}, (∀ b ∈ List.range h4.objs.size, b ∉ [s1.heap.objs.size] → ∀ o, href.get? b = some o → s2.heap.get? b = some o) → ∀ b u, b ≠ s1.heap.objs.size → h4.get? b = some u → s2.heap.get? b = some u := fun {s2} hk b u hb e =>
      hk b (List.mem_range.mpr (Heap.lt_size e)) (by simpa using hb) u (hhref b u e)
    refine ⟨fun A' E' j v s₂ m₂ hA _ _ hPv hn hm' hk => ?_, fun A' E' j v s₂ m₂ hA hd1 hu1 hPv hp hn hm' hk => ?_⟩
    · simp only [List.forIn_nil]
      exact wpAny_pure ⟨rfl, keeps_refl _⟩
    · obtain ⟨dd, vv, hx1, rv, rdd⟩ := W.item j v hPv
      obtain ⟨r, st', hr1, hme⟩ := hev j dd hx1
      have L := elt_lst (code := code) (C := h4.objs.size) I1 g rfl S hN hix hdot sk R rdd rv hn hm' (keep hk)
      have pl := hel h4.objs.size code
      have est := pl.pure_ _ _ _ _ hme
      subst est
      refine wpAny_mono (pl.run A' E' F ρ H2 _ _ s₂ (.d r) hA (by have := hr.un; have : A'.units ≤ X.A.units + 8 := hu1; omega) L hme) (fun u s3 p => ?_) fun _ _ e => e
      obtain ⟨⟨v3, rv3, rx3⟩, kp⟩ := p
      exact ⟨⟨r, v3, hr1, rv3, rx3⟩, kp⟩
  · intro ga h5 tk5 gs hgb hag hsz5 hk5 W5 hat
    simp only [passing_all, List.length_range] at W5
    rw [← hlen] at W5 hat
    refine hQ rs sl st F ρ H1 ga _ sk R q4 ⟨_, _, _, _, _, W5.in4_1, hat, fun b hb => ?_, fun j y hy => ?_, fun s' hmv => ?_⟩
    · show b < h5.objs.size
      have h9 : (h4.objs.size : Nat) < ga := hag
      have h10 : ga < h5.objs.size := by rw [hsz5]; exact Nat.lt_succ_self _
      rcases List.mem_cons.mp hb with z | hb
      · rw [z]; exact h10
      · rcases List.mem_cons.mp hb with z | hb
        · rw [z]; exact Nat.lt_trans h9 h10
        · exact Nat.lt_trans (List.mem_range.mp hb) (Nat.lt_trans h9 h10)
    · obtain ⟨i', hij, r, v, hr1, rv, rd'⟩ := hy
      obtain ⟨hj, ej⟩ := List.getElem?_eq_some_iff.mp hij
      rw [List.getElem_range] at ej
      subst ej
      exact ⟨r, v, _, _, hr1, rv, rd'⟩
    · refine ⟨H2, g.ext, g.tab, ?_⟩
      have nwr : ∀ b u, b ≠ s1.heap.objs.size → h4.get? b = some u → b ∉ h4.objs.size :: [s1.heap.objs.size] := fun b u hb e hm => by
        rcases List.mem_cons.mp hm with z | z
        · have h11 := Heap.lt_size e
          rw [z] at h11
          exact Nat.lt_irrefl _ h11
        · exact hb (by simpa using z)
      have J := g.inv s'.heap s'.gens s'.drawn s'.toks (fun b u hb e => hmv.heap b u (nwr b u hb e) (hk5 b u e)) (AllBare.movedS (I1.bare.push hgb) hmv)
      have eta := GxR.sh_eta s1 s' hmv.os
      rw [eta] at J
      exact J
end
end DH
namespace DH
open PySem PySem.Spec PyProof.Rows L2
def eGen (fin : List D → Option D) (i : Nat) (mi me : EM DH.X) : EM DH.X := fun sl st => (mi sl st).bind fun y st1 => match deref st1 y with
  | some d => (match seqD d with
    | some xs => (match evD i me sl st1 xs with
      | some rs => (match fin rs with
        | some r => .ok (.d r) st1
        | none => .bad)
      | none => .bad)
    | none => .bad)
  | none => .bad
def boolsD : List D → Option (List Bool)
  | [] => some []
  | .bl b :: r => (match boolsD r with
    | some bs => some (b :: bs)
    | none => none)
  | _ :: _ => none
theorem boolsD_at : ∀ {rs : List D} {bs : List Bool}, boolsD rs = some bs → bs.length = rs.length ∧ ∀ (j : Nat) (r : D), rs[j]? = some r → ∃ b, r = .bl b ∧ bs[j]? = some b
  | [], bs, h => by
    have e : [] = bs := Option.some.inj h
    subst e
    exact ⟨rfl, fun j x hx => by cases hx⟩
  | y :: ys, bs, h => by
    cases y with
    | bl b =>
      unfold boolsD at h
      cases q : boolsD ys with
      | none => simp only [q] at h; cases h
      | some cs =>
        simp only [q] at h
        have e : b :: cs = bs := Option.some.inj h
        subst e
        obtain ⟨l, g⟩ := boolsD_at q
        refine ⟨by rw [List.length_cons, List.length_cons, l], fun j x hx => ?_⟩
        cases j with
        | zero =>
          have : D.bl b = x := by simpa using hx
          exact ⟨b, this.symm, rfl⟩
        | succ j =>
          obtain ⟨b', h1, h2⟩ := g j x (by simpa using hx)
          exact ⟨b', h1, by simpa using h2⟩
    | _ => cases h
def finAny (rs : List D) : Option D := match boolsD rs with
  | some bs => some (.bl (anyB (fun b => b) bs))
  | none => none
def finAll (rs : List D) : Option D := match boolsD rs with
  | some bs => some (.bl (allB (fun b => b) bs))
  | none => none
/-- ints of less than 2 ^ 30, their sum -/
def sumLow : List D → Option Int
  | [] => some 0
  | .int i :: r => (match Nat.blt i.natAbs 1073741824 with
    | true => (match sumLow r with
      | some k => some (i + k)
      | none => none)
    | false => none)
  | _ :: _ => none
def finSum (rs : List D) : Option D := match Nat.blt rs.length 1073741824 with
  | true => (match sumLow rs with
    | some k => some (.int k)
    | none => none)
  | false => none
def valI (rs : List D) (j : Nat) : Int := match rs[j]? with
  | some (.int i) => i
  | _ => 0
theorem sumLow_at : ∀ {rs : List D} {k : Int}, sumLow rs = some k → ∀ (j : Nat) (r : D), rs[j]? = some r → ∃ i, r = .int i ∧ i.natAbs < 1073741824
  | [], k, h, j, r, hr => by cases hr
  | y :: ys, k, h, j, r, hr => by
    cases y with
    | int i =>
      unfold sumLow at h
      cases z : Nat.blt i.natAbs 1073741824 with
      | false => simp only [z] at h; cases h
      | true =>
        simp only [z] at h
        cases q : sumLow ys with
        | none => simp only [q] at h; cases h
        | some m =>
          cases j with
          | zero =>
            have : D.int i = r := by simpa using hr
            exact ⟨i, this.symm, Nat.le_of_ble_eq_true z⟩
          | succ j => exact sumLow_at q j r (by simpa using hr)
    | _ => cases h
theorem preSum_cons (y : D) (ys : List D) : ∀ n, preSum (valI (y :: ys)) (n + 1) = valI (y :: ys) 0 + preSum (valI ys) n
  | 0 => by
    show 0 + valI (y :: ys) 0 = _
    show _ = valI (y :: ys) 0 + 0
    omega
  | n + 1 => by
    show preSum (valI (y :: ys)) (n + 1) + valI (y :: ys) (n + 1) = _
    rw [preSum_cons y ys n]
    show _ = valI (y :: ys) 0 + (preSum (valI ys) n + valI ys n)
    have : valI (y :: ys) (n + 1) = valI ys n := by unfold valI; simp
    rw [this]
    omega
theorem sumLow_pre : ∀ {rs : List D} {k : Int}, sumLow rs = some k → preSum (valI rs) rs.length = k
  | [], k, h => by
    have : (0 : Int) = k := Option.some.inj h
    rw [← this]; rfl
  | y :: ys, k, h => by
    cases y with
    | int i =>
      unfold sumLow at h
      cases z : Nat.blt i.natAbs 1073741824 with
      | false => simp only [z] at h; cases h
      | true =>
        simp only [z] at h
        cases q : sumLow ys with
        | none => simp only [q] at h; cases h
        | some m =>
          simp only [q] at h
          have h : i + m = k := Option.some.inj h
          rw [List.length_cons, preSum_cons, sumLow_pre q, ← h]
          rfl
    | _ => cases h
theorem preSum_low {f : Nat → Int} (hf : ∀ j, (f j).natAbs < 1073741824) : ∀ n, (preSum f n).natAbs ≤ n * 1073741824
  | 0 => by
    show (0 : Int).natAbs ≤ _
    simp
  | n + 1 => by
    have h1 := preSum_low hf n
    have h2 := hf n
    show (preSum f n + f n).natAbs ≤ _
    omega
theorem valI_low {rs : List D} {k : Int} (h : sumLow rs = some k) (j : Nat) : (valI rs j).natAbs < 1073741824 := by
  unfold valI
  split
  · rename_i i q
    obtain ⟨i', e, hl⟩ := sumLow_at h j _ q
    cases e
    exact hl
  · decide
section
variable {X : Cx} {G : Gm} {E : XK} {pins : List (Addr × Obj)} {σ : L2.St} {H : Hp} {s : Shared}
/-- how a built-in function ends over a generator that is ready -/
def FinOk (X : Cx) (G : Gm) (id : String) (fin : List D → Option D) : Prop :=
  ∀ (pins : List (Addr × Obj)) (σ : L2.St) (H1 : Hp) (rs : List D) (r : D) (g : Addr) (s5 : Shared) (Q : Value → Shared → Prop), fin rs = some r → ReadyD X G pins σ H1 rs g s5 →
    (∀ u v H2 s', RelV v u → (∀ N H, RelD G N H r v) → LamX.ExtN H1 H2 → LamX.Tabs G.T H2 → Inv X pins σ H2 s' → Q u s') → wpAny (model X.prog X.w) X.A (call (.builtin id) [.ref g]) Q X.xe s5
theorem fin_any : FinOk X G "any" finAny := by
  intro pins σ H1 rs r g s5 Q hf hG hQ
  unfold finAny at hf
  cases q : boolsD rs with
  | none => rw [q] at hf; cases hf
  | some bs =>
    rw [q] at hf
    have hf := (Option.some.inj hf).symm
    subst hf
    obtain ⟨hl, hb⟩ := boolsD_at q
    obtain ⟨fp, wr, Gg, Fp, St, W, hst, hfp, htr, hI⟩ := hG
    refine call_any_walkS (W.self 0 _ _ _ hst ⟨g, fp, wr, Gg, _, Fp, St, (fun j => (bs[j]?).getD false), rfl, W, hst, fun j y sj Qj Ej hy hQj => ?_, fun s' hmv => ?_⟩)
    · obtain ⟨r, v, N, H', e1, e2, e3⟩ := htr j y hy
      obtain ⟨b, rfl, e4⟩ := hb j r e1
      have ev : v = .bl b := e3
      subst ev
      cases e2
      have hQj : Qj ((bs[j]?).getD false) sj := hQj
      rw [e4] at hQj
      exact wpAny_truthy_bool hQj
    · obtain ⟨H2, h1, h2, J⟩ := hI s' hmv
      rw [← hl]
      refine hQ _ (.bl _) H2 s' rfl (fun _ _ => ?_) h1 h2 J
      show V.bl _ = V.bl _
      rw [any_range]
theorem fin_all : FinOk X G "all" finAll := by
  intro pins σ H1 rs r g s5 Q hf hG hQ
  unfold finAll at hf
  cases q : boolsD rs with
  | none => rw [q] at hf; cases hf
  | some bs =>
    rw [q] at hf
    have hf := (Option.some.inj hf).symm
    subst hf
    obtain ⟨hl, hb⟩ := boolsD_at q
    obtain ⟨fp, wr, Gg, Fp, St, W, hst, hfp, htr, hI⟩ := hG
    refine call_all_walkS (W.self 0 _ _ _ hst ⟨g, fp, wr, Gg, _, Fp, St, (fun j => (bs[j]?).getD false), rfl, W, hst, fun j y sj Qj Ej hy hQj => ?_, fun s' hmv => ?_⟩)
    · obtain ⟨r, v, N, H', e1, e2, e3⟩ := htr j y hy
      obtain ⟨b, rfl, e4⟩ := hb j r e1
      have ev : v = .bl b := e3
      subst ev
      cases e2
      have hQj : Qj ((bs[j]?).getD false) sj := hQj
      rw [e4] at hQj
      exact wpAny_truthy_bool hQj
    · obtain ⟨H2, h1, h2, J⟩ := hI s' hmv
      rw [← hl]
      refine hQ _ (.bl _) H2 s' rfl (fun _ _ => ?_) h1 h2 J
      show V.bl _ = V.bl _
      rw [all_range]
theorem fin_sum : FinOk X G "sum" finSum := by
  intro pins σ H1 rs r g s5 Q hf hG hQ
  unfold finSum at hf
  cases z : Nat.blt rs.length 1073741824 with
  | false => rw [z] at hf; cases hf
  | true =>
    rw [z] at hf
    simp only at hf
    cases q : sumLow rs with
    | none => rw [q] at hf; cases hf
    | some k =>
      rw [q] at hf
      have hf := (Option.some.inj hf).symm
      subst hf
      have hz : rs.length < 1073741824 := Nat.le_of_ble_eq_true z
      obtain ⟨fp, wr, Gg, Fp, St, W, hst, hfp, htr, hI⟩ := hG
      refine call_sum_walkS (W.self 0 _ _ _ hst ⟨g, fp, wr, Gg, _, Fp, St, valI rs, rfl, W, hst, hfp, fun j y hy => ?_, fun j hj => ?_, fun s' t' hmv => ?_⟩)
      · obtain ⟨r, v, N, H', e1, e2, e3⟩ := htr j y hy
        obtain ⟨i, rfl, _⟩ := sumLow_at q j r e1
        have ev : v = .int i := e3
        subst ev
        obtain ⟨t, rfl⟩ := e2
        refine ⟨t, ?_⟩
        unfold valI
        rw [e1]
      · have h1 := valI_low q j
        have h2 := preSum_low (valI_low q) (j + 1)
        have h3 : (j + 1) * 1073741824 ≤ 1073741824 * 1073741824 := Nat.mul_le_mul_right _ (by omega)
        unfold InLong
        have h4 : (1073741824 * 1073741824 : Nat) < 2 ^ 62 + 1 := by decide
        have h5 : (2 : Int) ^ 63 = 9223372036854775808 := by decide
        have h6 : (2 : Nat) ^ 62 = 4611686018427387904 := by decide
        rw [h5]
        omega
      · obtain ⟨H2, h1, h2, J⟩ := hI s' hmv
        refine hQ _ (.int k) H2 s' ⟨t', by rw [sumLow_pre q]⟩ (fun _ _ => rfl) h1 h2 J
theorem q_gen {fin : List D → Option D} {id : String} {f : Str} {c P : Addr} {elt iter : Expr} {x : Str} {px p pos gpos : Pos} {scope : Scope} {mi me : EM DH.X} {k i : Nat}
    (hfin : FinOk X G id fin) (hg : Gl X f) (hmf : X.mg f = none) (hbf : bootBuiltins f = some (.builtin id)) (hnf : f ≠ "__name__") (hdf : (f == ("__debug__" : Str)) = false)
    (hK : G.K = X.K) (hr : Room k X.A) (TB : LamX.TabB X.base X.mg c P) (hcode : X.env.code = .ref c) (hm : (P, X.env.qual ++ "<genexpr>") ∈ G.T) (hu : ∀ p ∈ G.T, p.1 = P → p.2 = X.env.qual ++ "<genexpr>")
    (S : GenS X.env.scope scope [x]) (hN : X.N.Nodup) (hix : X.N[i]? = some x) (hdot : X.N.contains (".0" : Str) = false) (hi : PE X iter (rdE G E mi)) (hel : ∀ (C : Addr) (code : Value), PL X G (genEnv scope (cloFrom X.env.cells scope.names []) C code builtinsNs X.env) elt me)
    (hs : ∀ v, genFold iter X.env v = pure v)
    (he : starEach [.GeneratorExp elt [⟨.Name x px, iter, [], 0⟩] scope gpos] X.env = (false, eval (.GeneratorExp elt [⟨.Name x px, iter, [], 0⟩] scope gpos) X.env) :: starEach [] X.env) :
    PE X (.Call (.Name f p) [.GeneratorExp elt [⟨.Name x px, iter, [], 0⟩] scope gpos] [] pos) (rdE G E (eGen fin i mi me)) := by
  refine ⟨fun pins s σ H Q I h => ?_⟩
  refine wpAny_Call_Name_kw (ld_blt I hg hmf hbf ?_ hnf hdf)
  refine PyProof.Rows.callWith_builtin1 ?_ he (by rfl)
  rw [he]
  show wpAny _ _ (spliced ((false, eval (.GeneratorExp elt [⟨.Name x px, iter, [], 0⟩] scope gpos) X.env) :: backTo pos (starEach [] X.env))) _ _ s
  refine Calls.spliced_cons (gen_one (R' := fun rs sl st F ρ H1 => ∃ r, fin rs = some r ∧ PostG G E (rX G) F ρ H1 (.ok (.d r) st) Q) hK hr TB hcode hm hu S hN hix hdot hi hel hs I ?_ fun rs sl st F ρ H1 g s5 sk R hR hG => ?_)
  · obtain ⟨F, ρ, sl, st, sk, R, h⟩ := h
    refine ⟨F, ρ, sl, st, sk, R, PostG.mono (PostG.bind (R := rX G) h) fun v H1 h1 => ?_⟩
    obtain ⟨y, st1, ρ1, s1, R1, r1, h1⟩ := h1
    cases q1 : deref st1 y with
    | none => simp only [q1] at h1; exact h1.elim
    | some d =>
      simp only [q1] at h1
      cases q2 : seqD d with
      | none => simp only [q2] at h1; exact h1.elim
      | some xs =>
        simp only [q2] at h1
        cases q3 : evD i me sl st1 xs with
        | none => simp only [q3] at h1; exact h1.elim
        | some rs =>
          simp only [q3] at h1
          cases q4 : fin rs with
          | none => simp only [q4] at h1; exact h1.elim
          | some r =>
            simp only [q4] at h1
            exact ⟨F, ρ1, sl, st1, y, d, xs, rs, sk.mono s1, R1, r1, q1, q2, q3, r, q4, h1⟩
  · obtain ⟨r, hr1, hP⟩ := hR
    refine Calls.spliced_nil ?_
    refine hfin pins σ H1 rs r g s5 _ hr1 hG fun u v H2 s' rv rd' e1 t1 J => ?_
    obtain ⟨R2, s2⟩ := R.ext e1 t1
    exact ⟨v, H2, J, rv, hP ρ H2 v s2 R2 (rd' _ _)⟩
end
end DH
namespace DH
open PySem PySem.Spec PyProof.Rows L2
/-! ### two names -/
def evD2 (i k : Nat) (me : EM DH.X) (sl : Slots) (st : Store) : List D → Option (List D)
  | [] => some []
  | x :: xs => (match x with
    | .tup _ [a, b] => (match me ((sl.set i (some (.d a))).set k (some (.d b))) st with
      | .ok (.d r) _ => (match evD2 i k me sl st xs with
        | some rs => some (r :: rs)
        | none => none)
      | _ => none)
    | _ => none)
theorem evD2_at {i k : Nat} {me : EM DH.X} {sl : Slots} {st : Store} : ∀ {xs rs : List D}, evD2 i k me sl st xs = some rs → rs.length = xs.length ∧ ∀ (j : Nat) (x : D), xs[j]? = some x → ∃ f a b r st', x = .tup f [a, b] ∧ rs[j]? = some r ∧ me ((sl.set i (some (.d a))).set k (some (.d b))) st = .ok (.d r) st'
  | [], rs, h => by
    have e : [] = rs := Option.some.inj h
    subst e
    exact ⟨rfl, fun j x hx => by cases hx⟩
  | y :: ys, rs, h => by
    unfold evD2 at h
    split at h
    · rename_i f a b
      split at h
      · rename_i r st' q
        cases q2 : evD2 i k me sl st ys with
        | none => rw [q2] at h; cases h
        | some cs =>
          rw [q2] at h
          have e : r :: cs = rs := Option.some.inj h
          subst e
          obtain ⟨l, g⟩ := evD2_at q2
          refine ⟨by rw [List.length_cons, List.length_cons, l], fun j x hx => ?_⟩
          cases j with
          | zero =>
            have : D.tup f [a, b] = x := by simpa using hx
            exact ⟨f, a, b, r, st', this.symm, rfl, q⟩
          | succ j =>
            obtain ⟨f', a', b', r', st2, h1, h2, h3⟩ := g j x (by simpa using hx)
            exact ⟨f', a', b', r', st2, h1, by simpa using h2, h3⟩
      · cases h
    · cases h
/-- a list of pairs -/
def pairsD : D → Option (List D)
  | .lst xs => some xs
  | _ => none
section
variable {X : Cx} {G : Gm} {E : XK} {pins : List (Addr × Obj)} {σ : L2.St} {H : Hp} {s : Shared} {F : Addr → Prop} {ρ : List Addr}
theorem elt_lst2 {T : List (Addr × Str)} {P C : Addr} {H2 : Hp} {o : Obj} {h4 : Heap} {scope : Scope} {code : Value} {xa xb : Str} {i k : Nat} {sl : Slots} {st : Store} {da db : D} {va' vb' : V} {va vb : Value} {s2 : Shared} {m2 : Str → Option Value}
    (I : Inv X pins σ H s) (g : GCode X T pins σ P H H2 s o h4) (hT : T = G.T) (S : GenS X.env.scope scope [xa, xb]) (hN : X.N.Nodup) (hi : X.N[i]? = some xa) (hk' : X.N[k]? = some xb) (hik : i ≠ k) (hdot : X.N.contains (".0" : Str) = false) (sk : SlOk G F ρ H sl σ) (R : Rep G F ρ st H)
    (rda : RelD G (Nn F ρ) H da va') (rva : RelV va' va) (rdb : RelD G (Nn F ρ) H db vb') (rvb : RelV vb' vb) (hn : s2.heap.Ns C m2) (hxa : m2 xa = some va) (hxb : m2 xb = some vb) (hk : ∀ b u, b ≠ s.heap.objs.size → h4.get? b = some u → s2.heap.get? b = some u) :
    LSt X G (genEnv scope (cloFrom X.env.cells scope.names []) C code builtinsNs X.env) F ρ H2 ((sl.set i (some (.d da))).set k (some (.d db))) st s2 := by
  obtain ⟨R2, s12⟩ := R.ext g.ext (by rw [← hT]; exact g.tab)
  have J := g.inv s2.heap s.gens s.drawn s.toks hk I.bare
  refine ⟨⟨pins, σ, s, ?_⟩, R2, S.kind, ⟨m2, hn, fun j y xx e1 e2 e3 => ?_⟩, I.ok.glob, rfl⟩
  · exact J
  · have lt_of : ∀ {l : Slots} {n : Nat} {z : Option DH.X} {w : Option DH.X}, (l.set n z)[n]? = some w → n < l.length := fun {l n z w} e => by
      refine Nat.lt_of_not_le fun q => ?_
      rw [List.getElem?_eq_none (by simpa using q)] at e
      cases e
    by_cases hj : k = j
    · subst hj
      rw [hk'] at e1
      cases e1
      rw [List.getElem?_set_self (lt_of e2)] at e2
      cases e2
      exact ⟨vb', vb, RelD.mono s12.keeps db rdb, rvb, .inl ⟨S.loc xb (by simp), hxb⟩⟩
    · rw [List.getElem?_set_ne hj] at e2
      by_cases hj2 : i = j
      · subst hj2
        rw [hi] at e1
        cases e1
        rw [List.getElem?_set_self (lt_of e2)] at e2
        cases e2
        exact ⟨va', va, RelD.mono s12.keeps da rda, rva, .inl ⟨S.loc xa (by simp), hxa⟩⟩
      · rw [List.getElem?_set_ne hj2] at e2
        obtain ⟨v', e4, rx⟩ := sk.2 j xx e2
        have ne : ∀ {n : Nat} {z : Str}, X.N[n]? = some z → n ≠ j → y ≠ z := fun {n z} hz hnj e => by
          subst e
          obtain ⟨h1, q1⟩ := List.getElem?_eq_some_iff.mp hz
          obtain ⟨h2, q2⟩ := List.getElem?_eq_some_iff.mp e1
          exact hnj ((List.getElem_inj hN).mp (q1.trans q2.symm))
        rcases e3 with e3 | e3 | e3
        · rcases S.own y e3 with z | z
          · rcases List.mem_cons.mp z with z | z
            · exact absurd z (ne hi hj2)
            · exact absurd (by simpa using z) (ne hk' hj)
          · subst z
            have := List.mem_of_getElem? e1
            rw [show X.N.contains (".0" : Str) = true by simpa using this] at hdot
            cases hdot
        · exact absurd rfl (S.cell _ (lookup_mem e3))
        · have hm : (y, NameKind.free) ∈ scope.names := lookup_mem e3
          have hf := S.free _ hm rfl
          obtain ⟨m, _, hl⟩ := J.loc
          have hvis : Vis X.env.scope y := .inr hf
          obtain ⟨u, ru, lk⟩ := hl j y v' e1 e4 hvis
          have hnl : ¬ X.env.scope.names.lookup y = some .local := fun z => by
            rcases hf with q | q <;> (rw [z] at q; cases q)
          rcases lk with ⟨q, _⟩ | ⟨_, c, hc, hcell⟩
          · exact absurd q hnl
          · refine ⟨v', u, RelX.mono s12 rx, ru, .inr ⟨.inr e3, c, ?_, hcell⟩⟩
            have h1 := cloFrom_has (cells := X.env.cells) (acc := []) hm
            obtain ⟨c', hc'⟩ := mem_lookup h1
            show (cloFrom X.env.cells scope.names []).lookup y = some c
            rw [hc']
            rcases cloFrom_mem (lookup_mem hc') with z | ⟨_, z⟩
            · cases z
            · rw [z, hc]; rfl
theorem gen_two {c P : Addr} {elt iter : Expr} {xa xb : Str} {pa pb pt gpos : Pos} {kt : Nat} {scope : Scope} {mi me : EM DH.X} {k i j : Nat} {Q' : Value → Shared → Prop} {R' : List D → Slots → Store → (Addr → Prop) → List Addr → Hp → Prop}
    (hK : G.K = X.K) (hr : Room k X.A) (TB : LamX.TabB X.base X.mg c P) (hcode : X.env.code = .ref c) (hm : (P, X.env.qual ++ "<genexpr>") ∈ G.T) (hu : ∀ p ∈ G.T, p.1 = P → p.2 = X.env.qual ++ "<genexpr>")
    (S : GenS X.env.scope scope [xa, xb]) (hN : X.N.Nodup) (hix : X.N[i]? = some xa) (hjx : X.N[j]? = some xb) (hij : i ≠ j) (hdot : X.N.contains (".0" : Str) = false) (hi : PE X iter (rdE G E mi)) (hel : ∀ (C : Addr) (code : Value), PL X G (genEnv scope (cloFrom X.env.cells scope.names []) C code builtinsNs X.env) elt me)
    (hs : ∀ v, genFold iter X.env v = pure v) (I : Inv X pins σ H s)
    (h : rdE G E mi σ H fun v H1 => ∃ F ρ sl st y d xs rs, SlOk G F ρ H1 sl σ ∧ Rep G F ρ st H1 ∧ RelX G F ρ H1 y v ∧ deref st y = some d ∧ pairsD d = some xs ∧ evD2 i j me sl st xs = some rs ∧ R' rs sl st F ρ H1)
    (hQ : ∀ rs sl st F ρ H1 g s5, SlOk G F ρ H1 sl σ → Rep G F ρ st H1 → R' rs sl st F ρ H1 → ReadyD X G pins σ H1 rs g s5 → Q' (.ref g) s5) :
    wpAny (model X.prog X.w) X.A (eval (.GeneratorExp elt [⟨.Tuple [.Name xa pa, .Name xb pb] kt pt, iter, [], 0⟩] scope gpos) X.env) Q' X.xe s := by
  have hhas : ∀ y ∈ scope.names, y.2 = .free → ∃ c, X.env.cells.lookup y.1 = some c := fun y hy e => I.ok.has _ (S.free y hy e)
  have hab : xa ≠ xb := fun e => by
    subst e
    obtain ⟨h1, q1⟩ := List.getElem?_eq_some_iff.mp hix
    obtain ⟨h2, q2⟩ := List.getElem?_eq_some_iff.mp hjx
    exact hij ((List.getElem_inj hN).mp (q1.trans q2.symm))
  refine wpAny_GeneratorExp_walksQTD hr.hd S.co (closure_ok hhas) S.cell S.dot (S.loc xa (by simp)) (S.loc xb (by simp)) hab S.kind (by have := hr.dp; omega) ?_ hs
  refine thn (hi.run pins s σ H _ I h) fun xv s1 ⟨v, H1, I1, r1, q1⟩ => ?_
  obtain ⟨F, ρ, sl, st, y, d, xs, rs, sk, R, rx, q1, q2, q3, q4⟩ := q1
  obtain ⟨hlen, hev⟩ := evD2_at q3
  have w := view R rx q1
  cases d with
  | lst ys =>
    have e : ys = xs := Option.some.inj q2
    subst e
    obtain ⟨a, vs, rfl, f, r⟩ := w
    obtain rfl : xv = .ref a := r1
    obtain ⟨its, r', pl, hz⟩ := I1.list (SqL.of f)
    have pl' : s1.heap.IsList a its.toArray := pl.isList
    have hlt : a < s1.heap.objs.size := let ⟨_, e, _⟩ := pl'; Heap.lt_size e
    have hvl := r.length
    have hil := r'.length
    have hn : its.toArray.size = ys.length := by
      simp only [List.size_toArray]
      omega
    -- each item: a tuple of two
    have each : ∀ j, j < its.toArray.size → ∃ (T : Addr) (ua ub : Value) (fl : Bool) (da db : D) (va vb : V), its.toArray[j]? = some (.ref T) ∧ s1.heap.IsTuple T #[ua, ub] ∧ ys[j]? = some (.tup fl [da, db]) ∧ RelD G (Nn F ρ) H1 da va ∧ RelV va ua ∧ RelD G (Nn F ρ) H1 db vb ∧ RelV vb ub := fun j hj => by
      have hl3 : j < ys.length := by omega
      obtain ⟨fl, da, db, r0, st', e5, _, _⟩ := hev j _ (List.getElem?_eq_getElem hl3)
      obtain ⟨w, e3, e4⟩ := r.get (List.getElem?_eq_getElem hl3)
      rw [e5] at e4
      obtain ⟨T, ws, rfl, fz, rds⟩ := e4
      obtain ⟨u, e6, e7⟩ := r'.get e3
      obtain rfl : u = .ref T := e7
      have fs := fz.sq
      rw [hK] at fs
      obtain ⟨its2, r2, pl2, _⟩ := I1.tuple fs
      obtain ⟨va, t1, eq1, rda, vb, t2, eq2, rdb, eq3⟩ := rds
      have eq3' : t2 = [] := eq3
      subst eq3' eq2 eq1
      cases r2 with
      | cons ra rest =>
        cases rest with
        | cons rb rest2 =>
          cases rest2
          rename_i ua ub
          exact ⟨T, ua, ub, fl, da, db, va, vb, by simpa using e6, pl2, by rw [List.getElem?_eq_getElem hl3, e5], rda, ra, rdb, rb⟩
    let Ts : Nat → Addr := fun j => if h : j < its.toArray.size then Classical.choose (each j h) else 0
    let vals : Nat → Array Value := fun j => if h : j < its.toArray.size then #[Classical.choose (Classical.choose_spec (each j h)), Classical.choose (Classical.choose_spec (Classical.choose_spec (each j h)))] else #[.none, .none]
    have spec : ∀ j, j < its.toArray.size → ∃ (ua ub : Value) (fl : Bool) (da db : D) (va vb : V), vals j = #[ua, ub] ∧ its.toArray[j]? = some (.ref (Ts j)) ∧ s1.heap.IsTuple (Ts j) #[ua, ub] ∧ ys[j]? = some (.tup fl [da, db]) ∧ RelD G (Nn F ρ) H1 da va ∧ RelV va ua ∧ RelD G (Nn F ρ) H1 db vb ∧ RelV vb ub := fun j hj => by
      have := Classical.choose_spec (Classical.choose_spec (Classical.choose_spec (each j hj)))
      obtain ⟨fl, da, db, va, vb, h1, h2, h3, h4, h5, h6, h7⟩ := this
      refine ⟨_, _, fl, da, db, va, vb, by simp only [vals, dif_pos hj], by simp only [Ts, dif_pos hj]; exact h1, by simp only [Ts, dif_pos hj]; exact h2, h3, h4, h5, h6, h7⟩
    have hTup : ∀ j, j < its.toArray.size → s1.heap.IsTuple (Ts j) (vals j) := fun j hj => by
      obtain ⟨ua, ub, _, _, _, _, _, e1, _, e3, _⟩ := spec j hj
      rw [e1]; exact e3
    have hTlt : ∀ j, j < its.toArray.size → Ts j < s1.heap.objs.size := fun j hj => by obtain ⟨_, e, _⟩ := hTup j hj; exact Heap.lt_size e
    have W := fun (A' : Around) (hA : A'.handled = none) => WalksU.listOfTuples (prog := X.prog) (w := X.w) hA s1.heap.objs.size a (Nat.ne_of_lt hlt) its.toArray Ts vals (fun j hj => by obtain ⟨_, _, _, _, _, _, _, _, e2, _⟩ := spec j hj; exact e2) fun j hj => Nat.ne_of_lt (hTlt j hj)
    refine wpAny_pyIter_list pl' ⟨I1.nolimit.push _, ?_⟩
    refine gen_code (T := G.T) (Q2 := fun code bi s₄ => ∃ Ia fp wr n₀ Pt St₀ Mid pz F, Value.ref s1.heap.objs.size = .ref Ia ∧ (∀ A' : Around, A'.handled = none → WalksU X.prog X.w A' Ia fp wr n₀ Pt St₀ Mid) ∧ (∀ i vals, Pt i vals → ∃ va vb, vals = #[va, vb]) ∧ St₀ 0 s₄.heap ∧ (∀ b ∈ fp, b < s₄.heap.objs.size) ∧ s₄.heap.NoLimit ∧ cStatics ∉ wr ∧
          (∀ href : Heap, (∀ b o, s₄.heap.get? b = some o → href.get? b = some o) →
            QuietGenTD X.prog X.w (genEnv scope (cloFrom X.env.cells scope.names []) s₄.heap.objs.size code bi X.env) xa xb [] elt (List.range s₄.heap.objs.size) wr Pt pz F href (X.A.depth + 1) (X.A.units + 8)) ∧
          (∀ a h₅ tk gs, gs.bare = true → s₄.heap.objs.size < a → h₅.objs.size = a + 1 → (∀ b o, s₄.heap.get? b = some o → h₅.get? b = some o) →
            WalksS X.prog X.w X.A.in4 a (a :: s₄.heap.objs.size :: List.range s₄.heap.objs.size) (s₄.heap.objs.size :: wr) (GenOnlyQ s₄.gens.size) (passing pz n₀ 0).length
              (fun j y => ∃ i, (passing pz n₀ 0)[j]? = some i ∧ F i y) (GenAt X.prog X.w X.A.in4 a s₄.gens.size s₄.heap.objs.size (List.range s₄.heap.objs.size) wr pz n₀ F) →
            GenAt X.prog X.w X.A.in4 a s₄.gens.size s₄.heap.objs.size (List.range s₄.heap.objs.size) wr pz n₀ F 0 { s₄ with gens := s₄.gens.push gs, toks := tk, heap := h₅ } →
            Q' (.ref a) { s₄ with gens := s₄.gens.push gs, toks := tk, heap := h₅ })) I1 TB hcode R.tab hm hu fun code H2 h4 tk g => ?_
    have hPs : ∃ ps, s1.heap.get? P = some { cls := .none, data := .fields ps } := by
      obtain ⟨ps, hP, _⟩ := R.tab _ hm
      exact ⟨ps, I1.hok P _ hP⟩
    have hPlt : P < s1.heap.objs.size := let ⟨_, e⟩ := hPs; Heap.lt_size e
    have hcl : cStatics < s1.heap.objs.size := let ⟨_, hns, _⟩ := I1.nolimit; hns.lt
    have lt4 : ∀ b u, s1.heap.get? b = some u → b < h4.objs.size := fun b u e => Nat.lt_of_lt_of_le (Heap.lt_size e) (Nat.le_of_succ_le g.size)
    have notP : ∀ b u, s1.heap.get? b = some u → u.cls ≠ .none → b ≠ P := fun b u e1 e2 z => by
      obtain ⟨ps, e3⟩ := hPs
      rw [z, e3] at e1
      cases e1
      exact e2 rfl
    have old4 : ∀ b u, s1.heap.get? b = some u → u.cls ≠ .none → h4.get? b = some u := fun b u e1 e2 => g.old b u (notP b u e1 e2) (Heap.get?_push_of_some _ e1)
    refine ⟨s1.heap.objs.size, _, [s1.heap.objs.size], its.toArray.size, _, _, _, (fun _ => true), (fun i y => ∃ r v, rs[i]? = some r ∧ RelV v y ∧ RelD G (Nn F ρ) H2 r v), rfl, fun A' hA => (W A' hA).bound, ?_, ?_, ?_, g.lim, ?_, ?_, ?_⟩
    · rintro i vs ⟨hi', rfl⟩
      obtain ⟨ua, ub, _, _, _, _, _, e1, _⟩ := spec i hi'
      exact ⟨ua, ub, e1⟩
    · refine ⟨⟨_, g.old _ _ (Nat.ne_of_gt hPlt) (Heap.get?_push_size _ rfl), rfl, rfl⟩, ?_, fun j hj => ?_⟩
      · obtain ⟨o, e1, e2, e3⟩ := pl'
        exact ⟨o, old4 _ _ e1 (by rw [e2]; exact fun z => by cases z), e2, e3⟩
      · obtain ⟨o, e1, e2, e3⟩ := hTup j hj
        exact ⟨o, old4 _ _ e1 (by rw [e2]; exact fun z => by cases z), e2, e3⟩
    · intro b hb
      show b < h4.objs.size
      rcases List.mem_cons.mp hb with z | hb
      · rw [z]; exact g.size
      · rcases List.mem_cons.mp hb with z | hb
        · rw [z]; exact Nat.lt_of_lt_of_le hlt (Nat.le_of_succ_le g.size)
        · obtain ⟨j, hj, rfl⟩ := List.mem_map.mp hb
          exact Nat.lt_of_lt_of_le (hTlt j (List.mem_range.mp hj)) (Nat.le_of_succ_le g.size)
    · intro z
      have : cStatics = s1.heap.objs.size := by simpa using z
      rw [this] at hcl
      exact Nat.lt_irrefl _ hcl
    · intro href hhref
      have keep : ∀ {s2 : Shared}, (∀ b ∈ List.range h4.objs.size, b ∉ [s1.heap.objs.size] → ∀ o, href.get? b = some o → s2.heap.get? b = some o) → ∀ b u, b ≠ s1.heap.objs.size → h4.get? b = some u → s2.heap.get? b = some u := fun {s2} hk b u hb e =>
        hk b (List.mem_range.mpr (Heap.lt_size e)) (by simpa using hb) u (hhref b u e)
      refine ⟨fun A' E' j ua ub s₂ m₂ hA _ _ hPv hn hm1 hm2 hk => ?_, fun A' E' j ua ub s₂ m₂ hA hd1 hu1 hPv hp hn hm1 hm2 hk => ?_⟩
      · simp only [List.forIn_nil]
        exact wpAny_pure ⟨rfl, keeps_refl _⟩
      · obtain ⟨hj', hv⟩ := hPv
        obtain ⟨ua', ub', fl, da, db, va, vb, e1, _, _, e4, rda, rva, rdb, rvb⟩ := spec j hj'
        rw [e1] at hv
        obtain ⟨z1, z2⟩ : ua = ua' ∧ ub = ub' := by simpa using congrArg Array.toList hv
        subst z1 z2
        obtain ⟨fl', da', db', r, st', ex, hr1, hme⟩ := hev j _ e4
        cases ex
        have L := elt_lst2 (code := code) (C := h4.objs.size) I1 g rfl S hN hix hjx hij hdot sk R rda rva rdb rvb hn hm1 hm2 (keep hk)
        have pl := hel h4.objs.size code
        have est := pl.pure_ _ _ _ _ hme
        subst est
        refine wpAny_mono (pl.run A' E' F ρ H2 _ _ s₂ (.d r) hA (by have := hr.un; have : A'.units ≤ X.A.units + 8 := hu1; omega) L hme) (fun u s3 p => ?_) fun _ _ e => e
        obtain ⟨⟨v3, rv3, rx3⟩, kp⟩ := p
        exact ⟨⟨r, v3, hr1, rv3, rx3⟩, kp⟩
    · intro ga h5 tk5 gs hgb hag hsz5 hk5 W5 hat
      simp only [passing_all, List.length_range] at W5
      rw [hn, ← hlen] at W5 hat
      refine hQ rs sl st F ρ H1 ga _ sk R q4 ⟨_, _, _, _, _, W5.in4_1, hat, fun b hb => ?_, fun j y hy => ?_, fun s' hmv => ?_⟩
      · show b < h5.objs.size
        have h9 : (h4.objs.size : Nat) < ga := hag
        have h10 : ga < h5.objs.size := by rw [hsz5]; exact Nat.lt_succ_self _
        rcases List.mem_cons.mp hb with z | hb
        · rw [z]; exact h10
        · rcases List.mem_cons.mp hb with z | hb
          · rw [z]; exact Nat.lt_trans h9 h10
          · exact Nat.lt_trans (List.mem_range.mp hb) (Nat.lt_trans h9 h10)
      · obtain ⟨i', hij', r, v, hr1, rv, rd'⟩ := hy
        obtain ⟨hj, ej⟩ := List.getElem?_eq_some_iff.mp hij'
        rw [List.getElem_range] at ej
        subst ej
        exact ⟨r, v, _, _, hr1, rv, rd'⟩
      · refine ⟨H2, g.ext, g.tab, ?_⟩
        have nwr : ∀ b u, b ≠ s1.heap.objs.size → h4.get? b = some u → b ∉ h4.objs.size :: [s1.heap.objs.size] := fun b u hb e hm => by
          rcases List.mem_cons.mp hm with z | z
          · have h11 := Heap.lt_size e
            rw [z] at h11
            exact Nat.lt_irrefl _ h11
          · exact hb (by simpa using z)
        have J := g.inv s'.heap s'.gens s'.drawn s'.toks (fun b u hb e => hmv.heap b u (nwr b u hb e) (hk5 b u e)) (AllBare.movedS (I1.bare.push hgb) hmv)
        have eta := GxR.sh_eta s1 s' hmv.os
        rw [eta] at J
        exact J
  | _ => cases q2
end
end DH
namespace DH
open PySem PySem.Spec PyProof.Rows L2
def eGen2 (fin : List D → Option D) (i k : Nat) (mi me : EM DH.X) : EM DH.X := fun sl st => (mi sl st).bind fun y st1 => match deref st1 y with
  | some d => (match pairsD d with
    | some xs => (match evD2 i k me sl st1 xs with
      | some rs => (match fin rs with
        | some r => .ok (.d r) st1
        | none => .bad)
      | none => .bad)
    | none => .bad)
  | none => .bad
section
variable {X : Cx} {G : Gm} {E : XK} {pins : List (Addr × Obj)} {σ : L2.St} {H : Hp} {s : Shared}
theorem q_gen2 {fin : List D → Option D} {id : String} {f : Str} {c P : Addr} {elt iter : Expr} {xa xb : Str} {pa pb pt p pos gpos : Pos} {kt : Nat} {scope : Scope} {mi me : EM DH.X} {k i j : Nat}
    (hfin : FinOk X G id fin) (hg : Gl X f) (hmf : X.mg f = none) (hbf : bootBuiltins f = some (.builtin id)) (hnf : f ≠ "__name__") (hdf : (f == ("__debug__" : Str)) = false)
    (hK : G.K = X.K) (hr : Room k X.A) (TB : LamX.TabB X.base X.mg c P) (hcode : X.env.code = .ref c) (hm : (P, X.env.qual ++ "<genexpr>") ∈ G.T) (hu : ∀ p ∈ G.T, p.1 = P → p.2 = X.env.qual ++ "<genexpr>")
    (S : GenS X.env.scope scope [xa, xb]) (hN : X.N.Nodup) (hix : X.N[i]? = some xa) (hjx : X.N[j]? = some xb) (hij : i ≠ j) (hdot : X.N.contains (".0" : Str) = false) (hi : PE X iter (rdE G E mi)) (hel : ∀ (C : Addr) (code : Value), PL X G (genEnv scope (cloFrom X.env.cells scope.names []) C code builtinsNs X.env) elt me)
    (hs : ∀ v, genFold iter X.env v = pure v)
    (he : starEach [.GeneratorExp elt [⟨.Tuple [.Name xa pa, .Name xb pb] kt pt, iter, [], 0⟩] scope gpos] X.env = (false, eval (.GeneratorExp elt [⟨.Tuple [.Name xa pa, .Name xb pb] kt pt, iter, [], 0⟩] scope gpos) X.env) :: starEach [] X.env) :
    PE X (.Call (.Name f p) [.GeneratorExp elt [⟨.Tuple [.Name xa pa, .Name xb pb] kt pt, iter, [], 0⟩] scope gpos] [] pos) (rdE G E (eGen2 fin i j mi me)) := by
  refine ⟨fun pins s σ H Q I h => ?_⟩
  refine wpAny_Call_Name_kw (ld_blt I hg hmf hbf ?_ hnf hdf)
  refine PyProof.Rows.callWith_builtin1 ?_ he (by rfl)
  rw [he]
  show wpAny _ _ (spliced ((false, eval (.GeneratorExp elt [⟨.Tuple [.Name xa pa, .Name xb pb] kt pt, iter, [], 0⟩] scope gpos) X.env) :: backTo pos (starEach [] X.env))) _ _ s
  refine Calls.spliced_cons (gen_two (R' := fun rs sl st F ρ H1 => ∃ r, fin rs = some r ∧ PostG G E (rX G) F ρ H1 (.ok (.d r) st) Q) hK hr TB hcode hm hu S hN hix hjx hij hdot hi hel hs I ?_ fun rs sl st F ρ H1 g s5 sk R hR hG => ?_)
  · obtain ⟨F, ρ, sl, st, sk, R, h⟩ := h
    refine ⟨F, ρ, sl, st, sk, R, PostG.mono (PostG.bind (R := rX G) h) fun v H1 h1 => ?_⟩
    obtain ⟨y, st1, ρ1, s1, R1, r1, h1⟩ := h1
    cases q1 : deref st1 y with
    | none => simp only [q1] at h1; exact h1.elim
    | some d =>
      simp only [q1] at h1
      cases q2 : pairsD d with
      | none => simp only [q2] at h1; exact h1.elim
      | some xs =>
        simp only [q2] at h1
        cases q3 : evD2 i j me sl st1 xs with
        | none => simp only [q3] at h1; exact h1.elim
        | some rs =>
          simp only [q3] at h1
          cases q4 : fin rs with
          | none => simp only [q4] at h1; exact h1.elim
          | some r =>
            simp only [q4] at h1
            exact ⟨F, ρ1, sl, st1, y, d, xs, rs, sk.mono s1, R1, r1, q1, q2, q3, r, q4, h1⟩
  · obtain ⟨r, hr1, hP⟩ := hR
    refine Calls.spliced_nil ?_
    refine hfin pins σ H1 rs r g s5 _ hr1 hG fun u v H2 s' rv rd' e1 t1 J => ?_
    obtain ⟨R2, s2⟩ := R.ext e1 t1
    exact ⟨v, H2, J, rv, hP ρ H2 v s2 R2 (rd' _ _)⟩
/-! ### constants that are laid on the way -/
structure CI (X : Cx) (cenv : Env) (e : Expr) (i : Int) : Prop where
  run : ∀ (A' : Around) (E' : Value → Shared → Prop) (s : Shared) (Q : Value → Shared → Prop), (∀ t k, Q (.int i t) { s with toks := k }) → wpAny (model X.prog X.w) A' (eval e cenv) Q E' s
variable {cenv : Env} {a : Expr} {pos p : Pos} {ma : EM DH.X}
theorem ci_int {i : Int} {j : Nat} : CI X cenv (.Constant (.int i) j pos) i := ⟨fun A' E' s Q h => wpAny_Constant_int (h _ _)⟩
theorem ci_neg {i : Int} {j : Nat} {p : Pos} : CI X cenv (.UnaryOp .USub (.Constant (.int i) j p) pos) (-i) := ⟨fun A' E' s Q h => UnaryOp_ (wpAny_Constant_int (neg_int (h _ _)))⟩
inductive CIs (X : Cx) (cenv : Env) : List Expr → List Int → Prop
  | nil : CIs X cenv [] []
  | cons {e : Expr} {es : List Expr} {i : Int} {is : List Int} (h : CI X cenv e i) (hs : starEach (e :: es) cenv = (false, eval e cenv) :: starEach es cenv) (r : CIs X cenv es is) : CIs X cenv (e :: es) (i :: is)
def IntVs : List Int → List Value → Prop
  | [], vs => vs = []
  | i :: is, vs => ∃ t r, vs = .int i t :: r ∧ IntVs is r
theorem CIs.run {A' : Around} {E' : Value → Shared → Prop} : ∀ {es : List Expr} {is : List Int}, CIs X cenv es is → ∀ {s : Shared} {Q : List Value → Shared → Prop}, (∀ vs k, IntVs is vs → Q vs { s with toks := k }) → wpAny (model X.prog X.w) A' (spliced (backTo pos (starEach es cenv))) Q E' s
  | _, _, .nil, s, Q, h => Calls.spliced_nil (h [] s.toks rfl)
  | _, _, .cons (e := e) (es := es) hc hs r, s, Q, h => by
    rw [hs]
    show wpAny _ _ (spliced ((false, eval e cenv) :: backTo pos (starEach es cenv))) _ _ s
    refine Calls.spliced_cons (hc.run A' E' s _ fun t k => ?_)
    exact CIs.run r fun vs k2 hv => h _ _ ⟨t, vs, rfl, hv⟩
theorem ints_reads {h : Heap} : ∀ {is : List Int} {vs : List Value}, IntVs is vs → ReadsAll h vs (is.map PyData.int) []
  | [], vs, e => by
    have e : vs = [] := e
    rw [e]; exact .nil
  | i :: is, vs, e => by
    obtain ⟨t, r, rfl, hr⟩ := e
    exact ReadsAll.cons (as := []) (bs := []) (.int i t) (ints_reads hr)
theorem ints_len : ∀ {is : List Int} {vs : List Value}, IntVs is vs → vs.length = is.length
  | [], vs, e => by
    have e : vs = [] := e
    rw [e]; rfl
  | i :: is, vs, e => by
    obtain ⟨t, r, rfl, hr⟩ := e
    rw [List.length_cons, List.length_cons, ints_len hr]
theorem ints_lay : ∀ is : List Int, PyData.canLayAll0 (is.map PyData.int) = true
  | [] => rfl
  | i :: is => by
    show (PyData.canLay0 (PyData.int i) && PyData.canLayAll0 (is.map PyData.int)) = true
    rw [ints_lay is]; rfl
def memI (i : Int) : List Int → Bool
  | [] => false
  | j :: r => (match eqI j i with
    | true => true
    | false => memI i r)
theorem memI_any (i : Int) : ∀ is : List Int, (is.map PyData.int).any (fun y => PyData.eqv y (.int i)) = memI i is
  | [] => rfl
  | j :: r => by
    rw [List.map_cons, List.any_cons, memI_any i r]
    have e : PyData.eqv (.int j) (.int i) = eqI j i := by
      have h := eqv_eq 64 (.int j) (.int i) rfl rfl
      have h2 : eqD 64 (.int j) (.int i) = eqI j i := rfl
      rw [← h2]; exact h
    rw [e]
    show (eqI j i || memI i r) = (match eqI j i with | true => true | false => memI i r)
    cases eqI j i <;> rfl
def eInI (neg : Bool) (is : List Int) (m : EM DH.X) : EM DH.X := fun sl st => (m sl st).bind fun x st1 => match x with
  | .d (.int i) => .ok (.d (.bl (match neg with | true => !memI i is | false => memI i is))) st1
  | _ => .bad
theorem l_inInts {op : CmpOp} {neg : Bool} {es : List Expr} {is : List Int} {kt : Nat} {pt : Pos} (hop : (op = .In ∧ neg = false) ∨ (op = .NotIn ∧ neg = true)) (hz : is.length ≤ 1000) (ha : PL X G cenv a ma) (hc : CIs X cenv es is) : PL X G cenv (.Compare a [op] [.Tuple es kt pt] pos) (eInI neg is ma) := by
  refine ⟨fun sl st y st' h => ?_, fun A' E' F ρ H sl st s y hh hu L h => ?_⟩
  · obtain ⟨x, st1, e1, h⟩ := O.bind_ok h
    split at h
    · cases h; exact ha.pure_ _ _ _ _ e1
    · cases h
  · obtain ⟨x, st1, e1, h⟩ := O.bind_ok h
    have e := ha.pure_ _ _ _ _ e1
    subst e
    split at h
    · rename_i i
      cases h
      refine wpAny_Compare1 (wpAny_mono (ha.run A' E' F ρ H sl _ s _ hh hu L e1) (fun v s1 p1 => ?_) (fun _ _ e => e)) rfl
      obtain ⟨⟨vv, r1, rx⟩, k1⟩ := p1
      have rx' : vv = .int i := rx
      subst rx'
      obtain ⟨t, rfl⟩ := r1
      refine wpAny_Tuple_spliced (hc.run fun vs k hv => ?_)
      have hlen : vs.length = is.length := ints_len hv
      refine ⟨by rw [hlen, sizeLine_eq]; omega, ?_⟩
      have kk : PySem.Keeps s1 { s1 with heap := s1.heap.push { cls := .type "tuple", data := .seq vs.toArray }, toks := k } := ⟨_, _, rfl, fun b o e => Heap.get?_push_of_some _ e⟩
      have rt : Reads (s1.heap.push { cls := .type "tuple", data := .seq vs.toArray }) (.ref s1.heap.objs.size) (.tuple (is.map PyData.int)) [] := .tuple (Heap.get?_push_size _ rfl) rfl rfl (by simpa using ints_reads hv)
      have room : A'.units + 1 + min (PyData.depthAll (is.map PyData.int)) (PyData.depth (.int i)) < cLine := by
        have : min (PyData.depthAll (is.map PyData.int)) (PyData.depth (.int i)) ≤ PyData.depth (.int i) := Nat.min_le_right _ _
        have e : PyData.depth (.int i) = 0 := rfl
        omega
      rcases hop with ⟨rfl, rfl⟩ | ⟨rfl, rfl⟩
      · refine SeqAt.in_tuple_reads (s := { s1 with heap := s1.heap.push { cls := .type "tuple", data := .seq vs.toArray }, toks := k }) rt (.int i t) (ints_lay is) rfl room ?_
        rw [memI_any]
        exact ⟨⟨.bl _, rfl, rfl⟩, keeps_trans k1 kk⟩
      · refine SeqAt.notIn_tuple_reads (s := { s1 with heap := s1.heap.push { cls := .type "tuple", data := .seq vs.toArray }, toks := k }) rt (.int i t) (ints_lay is) rfl room ?_
        rw [memI_any]
        exact ⟨⟨.bl _, rfl, rfl⟩, keeps_trans k1 kk⟩
    · cases h
end
end DH
namespace DH
open PySem PySem.Spec PyProof.Rows L2
/-! ### own classes -/
def fnOf (names : List Str) (n : Nat) : Str := match names[n]? with
  | some x => x
  | none => ⟨#[1114112 + n]⟩
def lowN (x : Str) : Bool := match x.cps.toList with
  | [c] => Nat.blt c 1114112
  | _ => true
theorem fnOf_inj {names : List Str} (hn : names.Nodup) (hl : names.all lowN = true) : ∀ m n, fnOf names m = fnOf names n → m = n := by
  intro m n h
  unfold fnOf at h
  have low : ∀ (k : Nat) (x : Str), x ∈ names → x ≠ ⟨#[1114112 + k]⟩ := fun k x hx e => by
    have := List.all_eq_true.mp hl x hx
    rw [e] at this
    have h2 : Nat.blt (1114112 + k) 1114112 = true := this
    have := Nat.le_of_ble_eq_true h2
    omega
  cases q : names[m]? with
  | some x =>
    cases q2 : names[n]? with
    | some y =>
      rw [q, q2] at h
      have h : x = y := h
      subst h
      obtain ⟨h1, e1⟩ := List.getElem?_eq_some_iff.mp q
      obtain ⟨h2, e2⟩ := List.getElem?_eq_some_iff.mp q2
      exact (List.getElem_inj hn).mp (e1.trans e2.symm)
    | none =>
      rw [q, q2] at h
      exact absurd h (low n x (List.mem_of_getElem? q))
  | none =>
    cases q2 : names[n]? with
    | some y =>
      rw [q, q2] at h
      exact absurd h.symm (low m y (List.mem_of_getElem? q2))
    | none =>
      rw [q, q2] at h
      have h : (⟨#[1114112 + m]⟩ : Str) = ⟨#[1114112 + n]⟩ := h
      injection h with h
      injection h with h
      injection h with h
      omega
def lookF (n : Nat) : List (Nat × D) → Option D
  | [] => none
  | (m, x) :: r => (match Nat.beq n m with
    | true => some x
    | false => lookF n r)
def putN (n : Nat) (x : D) : List (Nat × D) → List (Nat × D)
  | [] => [(n, x)]
  | (m, y) :: r => (match Nat.beq m n with
    | true => (m, x) :: r
    | false => (m, y) :: putN n x r)
def memN (c : Nat) : List Nat → Bool
  | [] => false
  | d :: r => (match Nat.beq c d with
    | true => true
    | false => memN c r)
def AllC (P : Nat → Prop) : List Nat → Prop
  | [] => True
  | c :: r => P c ∧ AllC P r
theorem AllC.of {P : Nat → Prop} {c : Nat} : ∀ {cs : List Nat}, AllC P cs → memN c cs = true → P c
  | [], _, h => by cases h
  | d :: r, a, h => by
    unfold memN at h
    cases q : Nat.beq c d with
    | true => rw [Nat.eq_of_beq_eq_true q]; exact a.1
    | false => rw [q] at h; exact AllC.of a.2 h
section
variable {G : Gm} {N : Addr → Prop} {H : Hp}
theorem RelF.look (hF : ∀ m n, G.fn m = G.fn n → m = n) {n : Nat} : ∀ {fs : List (Nat × D)} {ps : List (Str × V)} {d : D}, RelF G N H fs ps → lookF n fs = some d → ∃ v, ps.lookup (G.fn n) = some v ∧ RelD G N H d v
  | [], ps, d, h, e => by cases e
  | (m, y) :: r, ps, d, h, e => by
    obtain ⟨v, t, e1, h1, h2⟩ := h
    subst e1
    unfold lookF at e
    cases q : Nat.beq n m with
    | true =>
      rw [q] at e
      have e : y = d := Option.some.inj e
      subst e
      have := Nat.eq_of_beq_eq_true q
      subst this
      exact ⟨v, by rw [List.lookup_cons, beq_self_eq_true], h1⟩
    | false =>
      rw [q] at e
      obtain ⟨w, e2, h3⟩ := RelF.look hF h2 e
      refine ⟨w, ?_, h3⟩
      rw [List.lookup_cons]
      have : (G.fn n == G.fn m) = false := beq_eq_false_iff_ne.mpr fun z => by
        rw [hF _ _ z] at q
        rw [show Nat.beq m m = true from Nat.beq_refl m] at q
        cases q
      rw [this]
      exact e2
theorem RelF.nolook (hF : ∀ m n, G.fn m = G.fn n → m = n) {n : Nat} : ∀ {fs : List (Nat × D)} {ps : List (Str × V)}, RelF G N H fs ps → lookF n fs = none → ps.lookup (G.fn n) = none
  | [], ps, h, e => by
    have e1 : ps = [] := h
    rw [e1]; rfl
  | (m, y) :: r, ps, h, e => by
    obtain ⟨v, t, e1, h1, h2⟩ := h
    subst e1
    unfold lookF at e
    cases q : Nat.beq n m with
    | true => rw [q] at e; cases e
    | false =>
      rw [q] at e
      rw [List.lookup_cons]
      have : (G.fn n == G.fn m) = false := beq_eq_false_iff_ne.mpr fun z => by
        rw [hF _ _ z] at q
        rw [show Nat.beq m m = true from Nat.beq_refl m] at q
        cases q
      rw [this]
      exact RelF.nolook hF h2 e
theorem RelF.put (hF : ∀ m n, G.fn m = G.fn n → m = n) {n : Nat} {d : D} {v : V} (hd : RelD G N H d v) : ∀ {fs : List (Nat × D)} {ps : List (Str × V)}, RelF G N H fs ps → RelF G N H (putN n d fs) (putF (G.fn n) v ps)
  | [], ps, h => by
    have e1 : ps = [] := h
    rw [e1]
    exact ⟨v, [], rfl, hd, rfl⟩
  | (m, y) :: r, ps, h => by
    obtain ⟨w, t, e1, h1, h2⟩ := h
    subst e1
    unfold putN putF
    cases q : Nat.beq m n with
    | true =>
      have := Nat.eq_of_beq_eq_true q
      subst this
      rw [if_pos rfl]
      exact ⟨v, t, rfl, hd, h2⟩
    | false =>
      have : ¬ G.fn m = G.fn n := fun z => by
        rw [hF _ _ z] at q
        rw [show Nat.beq n n = true from Nat.beq_refl n] at q
        cases q
      rw [if_neg this]
      exact ⟨w, _, rfl, h1, RelF.put hF hd h2⟩
theorem RelF.length : ∀ {fs : List (Nat × D)} {ps : List (Str × V)}, RelF G N H fs ps → ps.length = fs.length
  | [], ps, h => by
    have e : ps = [] := h
    rw [e]; rfl
  | (m, y) :: r, ps, h => by
    obtain ⟨w, t, e1, h1, h2⟩ := h
    rw [e1, List.length_cons, List.length_cons, RelF.length h2]
end
/-! ### o.f -/
def gFld (cs : List Nat) (n : Nat) (d : D) : Option D := match d with
  | .obj c fs => (match memN c cs with
    | true => lookF n fs
    | false => none)
  | _ => none
def eFld (cs : List Nat) (n : Nat) (m : EM X) : EM X := fun sl st => (m sl st).bind fun x st1 => match deref st1 x with
  | some d => (match gFld cs n d with
    | some y => .ok (.d y) st1
    | none => .bad)
  | none => .bad
theorem gFld_ok {cs : List Nat} {n : Nat} {d y : D} (h : gFld cs n d = some y) : ∃ c fs, d = .obj c fs ∧ memN c cs = true ∧ lookF n fs = some y := by
  unfold gFld at h
  split at h
  · rename_i c fs
    cases q : memN c cs with
    | false => rw [q] at h; cases h
    | true => rw [q] at h; exact ⟨c, fs, rfl, q, h⟩
  · cases h
section
variable {X : Cx} {G : Gm} {E : XK} {o e : Expr} {es : List Expr} {f : Str} {pos pos' apos p : Pos} {cs : List Nat} {n : Nat}
theorem q_fld {m : EM DH.X} (hF : ∀ m n, G.fn m = G.fn n → m = n) (hf : G.fn n = f) (hc : AllC (fun c => Cls X.K (G.ca c) ∧ NoAttr X.K (G.ca c) f) cs) (ho : PE X o (rdE G E m)) (hb : attributeBase o f X.env (eval o X.env) = eval o X.env) : PE X (.Attribute o f pos) (rdE G E (eFld cs n m)) := by
  refine PE.imp (pe_fld ho hb) fun σ H Q h => ?_
  obtain ⟨F, ρ, sl, st, sk, R, h⟩ := h
  refine ⟨F, ρ, sl, st, sk, R, PostG.mono (PostG.bind (R := rX G) h) fun v H1 h1 => ?_⟩
  obtain ⟨x, st1, ρ1, s1, R1, r1, h1⟩ := h1
  cases q : deref st1 x with
  | none => simp only [q] at h1; exact h1.elim
  | some d =>
    simp only [q] at h1
    cases q2 : gFld cs n d with
    | none => simp only [q2] at h1; exact h1.elim
    | some y =>
      simp only [q2] at h1
      obtain ⟨c, fs, rfl, hm, hl⟩ := gFld_ok q2
      obtain ⟨a, dx, ps, e1, e2, rf⟩ := view R1 r1 q
      obtain ⟨w, hw, rw'⟩ := RelF.look hF rf hl
      obtain ⟨c1, c2⟩ := AllC.of hc hm
      exact ⟨a, _, dx, ps, w, e1, e2, c1, c2, by rw [← hf]; exact hw, now1 R1 h1 rw'⟩
/-! ### o.f = e -/
def setFld (cs : List Nat) (n : Nat) (x : DH.X) (y : D) (st : Store) : Option Store := match x with
  | .loc l => (match st[l]? with
    | some (.ins c fs) => (match memN c cs && Nat.blt fs.length 1000 with
      | true => some (st.set l (.ins c (putN n y fs)))
      | false => none)
    | _ => none)
  | _ => none
def sFldM (cs : List Nat) (n : Nat) (mo me : EM DH.X) : SM := fun sl st => (me sl st).s fun y st1 => (mo sl st1).s fun x st2 => match y with
  | .d y => (match setFld cs n x y st2 with
    | some st3 => .nx sl st3
    | none => .bad)
  | .loc _ => .bad
theorem codeO_ins {a C dx : Addr} {fs : List (Str × V)} (q : Str) : HO.ins C dx fs ≠ LamX.CodeO a q := fun z => by cases z
theorem q_setFld {mo me : EM DH.X} (hF : ∀ m n, G.fn m = G.fn n → m = n) (hf : G.fn n = f) (hc : AllC (fun c => Cls X.K (G.ca c) ∧ NoAttr X.K (G.ca c) f) cs) (ho : PE X o (rdE G E mo)) (he : PE X e (rdE G E me)) (hs : swapsWith e (some (.Attribute o f pos')) pos.line X.env = pure false) :
    PS X (.Assign [.Attribute o f pos'] e pos) (rdS G E (sFldM cs n mo me)) := by
  refine PS.imp (ps_fld ho he hs) fun D σ H h => ?_
  obtain ⟨F, ρ, sl, st, sk, R, h⟩ := h
  refine ⟨F, ρ, sl, st, sk, R, PostG.mono (PostS.part (R := rX G) h) fun yv H1 h1 => ?_⟩
  obtain ⟨y, st1, ρ1, s1, R1, r1, h1⟩ := h1
  refine ⟨F, ρ1, sl, st1, sk.mono s1, R1, PostG.mono (PostS.part (R := rX G) h1) fun xv H2 h2 => ?_⟩
  obtain ⟨x, st2, ρ2, s2, R2, r2, h2⟩ := h2
  cases y with
  | loc _ => exact h2.elim
  | d y =>
    simp only at h2
    cases q : setFld cs n x y st2 with
    | none => simp only [q] at h2; exact h2.elim
    | some st3 =>
      simp only [q] at h2
      unfold setFld at q
      cases x with
      | d _ => cases q
      | loc l =>
        simp only at q
        cases q1 : st2[l]? with
        | none => simp only [q1] at q; cases q
        | some mo =>
          cases mo with
          | ins c fs =>
            simp only [q1] at q
            cases z : (memN c cs && Nat.blt fs.length 1000) with
            | false => rw [z] at q; cases q
            | true =>
              rw [z] at q
              have q := Option.some.inj q
              obtain ⟨z1, z2⟩ := Bool.and_eq_true_iff.mp z
              obtain ⟨c1, c2⟩ := AllC.of hc z1
              obtain ⟨a, ea, ev⟩ := r2
              obtain ⟨dx, ps, eh, rf⟩ := R2.obj l a _ ea q1
              have hl : ps.length < 1000 := by rw [rf.length]; exact Nat.le_of_ble_eq_true z2
              refine ⟨a, _, dx, ps, ev, eh, c1, c2, hl, ?_⟩
              have sN : Stp ρ2 H2 ρ2 (upd H2 a (.ins (G.ca c) dx (putF f yv ps))) := stp_set ea
              refine h2 ρ2 _ σ sN ?_ ((sk.mono s1).mono (s2.trans sN))
              rw [← q]
              refine R2.set ea eh (fun ps z => by cases z) (fun q => codeO_ins q) ⟨dx, _, upd_same, ?_⟩
              have ry : RelX G F ρ2 H2 (.d y) yv := r1.mono s2
              have := RelF.put (n := n) hF (RelD.mono sN.keeps y ry) (RelF.mono sN.keeps fs rf)
              rw [hf] at this
              exact this
          | lst _ => simp only [q1] at q; cases q
          | dct _ _ => simp only [q1] at q; cases q
          | orc _ => simp only [q1] at q; cases q
/-! ### o.m(..) -/
def isOf (c n : Nat) (d : D) : Bool := match d with
  | .obj c' fs => (match Nat.beq c' c with
    | true => (match lookF n fs with
      | none => true
      | some _ => false)
    | false => false)
  | _ => false
theorem isOf_ok {c n : Nat} {d : D} (h : isOf c n d = true) : ∃ fs, d = .obj c fs ∧ lookF n fs = none := by
  unfold isOf at h
  split at h
  · rename_i c' fs
    cases q : Nat.beq c' c with
    | false => rw [q] at h; cases h
    | true =>
      rw [q] at h
      have := Nat.eq_of_beq_eq_true q
      subst this
      refine ⟨fs, rfl, ?_⟩
      cases q2 : lookF n fs with
      | none => rfl
      | some _ => simp only [q2] at h; cases h
  · cases h
/-- the class's method, by the class's number -/
def selM (n : Nat) (d : D) : List (Nat × Fn) → Option Fn
  | [] => none
  | (c, f) :: r => (match isOf c n d with
    | true => some f
    | false => selM n d r)
def eOwn (n : Nat) (tab : List (Nat × Fn)) (mo : EM DH.X) (ma : EM (List DH.X)) : EM DH.X := fun sl st => (mo sl st).bind fun x st1 => match deref st1 x with
  | some d => (match selM n d tab with
    | some f => (ma sl st1).bind fun xs st2 => f (x :: xs) st2
    | none => .bad)
  | none => .bad
theorem PE.or {t t1 t2 : TE} (h1 : PE X e t1) (h2 : PE X e t2) (k : ∀ σ H Q, t σ H Q → t1 σ H Q ∨ t2 σ H Q) : PE X e t := ⟨fun p s σ H Q I q => by
  rcases k σ H Q q with z | z
  · exact h1.run p s σ H Q I z
  · exact h2.run p s σ H Q I z⟩
theorem rd_own {n c : Nat} {g : Fn} {mo : EM DH.X} {ma : EM (List DH.X)} (hF : ∀ m n, G.fn m = G.fn n → m = n) {m : Str} (hf : G.fn n = m) {σ : L2.St} {H : Hp} {Q : VK} (h : rdE G E (eOwn n [(c, g)] mo ma) σ H Q) : tMeth (G.ca c) m (spF G g) [] E (rdE G E mo) (rdA G E ma) σ H Q := by
  obtain ⟨F, ρ, sl, st, sk, R, h⟩ := h
  refine ⟨F, ρ, sl, st, sk, R, PostG.mono (PostG.bind (R := rX G) h) fun v H1 h1 => ?_⟩
  obtain ⟨x, st1, ρ1, s1, R1, r1, h1⟩ := h1
  cases q : deref st1 x with
  | none => simp only [q] at h1; exact h1.elim
  | some d =>
    simp only [q] at h1
    unfold selM at h1
    cases q2 : isOf c n d with
    | false => rw [q2] at h1; exact h1.elim
    | true =>
      rw [q2] at h1
      obtain ⟨fs, rfl, hl⟩ := isOf_ok q2
      obtain ⟨a, dx, ps, e1, e2, rf⟩ := view R1 r1 q
      refine ⟨a, dx, ps, e1, e2, by rw [← hf]; exact RelF.nolook hF rf hl, F, ρ1, sl, st1, sk.mono s1, R1, PostG.mono (PostG.bind (R := rXs G) h1) fun vs H2 h2 => ?_⟩
      obtain ⟨xs, st2, ρ2, s2, R2, r2, h2⟩ := h2
      rw [List.append_nil]
      exact ⟨F, ρ2, x :: xs, st2, ⟨v, vs, rfl, r1.mono s2, r2⟩, R2, h2⟩
/-- either a class or another -/
theorem rd_owns {n c : Nat} {g : Fn} {tab : List (Nat × Fn)} {mo : EM DH.X} {ma : EM (List DH.X)} {σ : L2.St} {H : Hp} {Q : VK} (h : rdE G E (eOwn n ((c, g) :: tab) mo ma) σ H Q) : rdE G E (eOwn n [(c, g)] mo ma) σ H Q ∨ rdE G E (eOwn n tab mo ma) σ H Q := by
  obtain ⟨F, ρ, sl, st, sk, R, h⟩ := h
  unfold eOwn at h
  cases q : mo sl st with
  | bad => rw [q] at h; exact h.elim
  | exn k fs st' =>
    rw [q] at h
    refine .inl ⟨F, ρ, sl, st, sk, R, ?_⟩
    unfold eOwn
    rw [q]
    exact h
  | ok x st1 =>
    rw [q] at h
    have h : PostG G E (rX G) F ρ H (match deref st1 x with | some d => (match selM n d ((c, g) :: tab) with | some f => (ma sl st1).bind fun xs st2 => f (x :: xs) st2 | none => .bad) | none => .bad) Q := h
    cases q1 : deref st1 x with
    | none => rw [q1] at h; exact h.elim
    | some d =>
      rw [q1] at h
      simp only at h
      unfold selM at h
      cases q2 : isOf c n d with
      | true =>
        rw [q2] at h
        refine .inl ⟨F, ρ, sl, st, sk, R, ?_⟩
        unfold eOwn
        rw [q]
        show PostG G E (rX G) F ρ H (match deref st1 x with | some d => (match selM n d [(c, g)] with | some f => (ma sl st1).bind fun xs st2 => f (x :: xs) st2 | none => .bad) | none => .bad) Q
        rw [q1]
        simp only
        unfold selM
        rw [q2]
        exact h
      | false =>
        rw [q2] at h
        refine .inr ⟨F, ρ, sl, st, sk, R, ?_⟩
        unfold eOwn
        rw [q]
        show PostG G E (rX G) F ρ H (match deref st1 x with | some d => (match selM n d tab with | some f => (ma sl st1).bind fun xs st2 => f (x :: xs) st2 | none => .bad) | none => .bad) Q
        rw [q1]
        exact h
variable {k : Nat} {fa : Addr} {fd : FuncData} {ps : List Str} {g : Fn} {c : Nat} {m : Str}
theorem q_own {pl : Sem Bool} {mo : EM DH.X} {ma : EM (List DH.X)} (hF : ∀ m n, G.fn m = G.fn n → m = n) (hf : G.fn n = m) (ho : PE X o (rdE G E mo)) (cl : Cls X.K (G.ca c)) (hm : Meth X.K (G.ca c) m fa) (Fn : FnOk X.prog X.w X.K X.mg X.base (L2.CX X.prog X.w) k fa fd ps (spF G g)) (hr : Room k X.A) (hb : Binds X.K fd ps [])
    (tk : Takes X (fun cls d _ H => E cls d H)) (ha : PA X (e :: es) (rdA G E ma))
    (hst : starEach (e :: es) X.env = (false, eval e X.env) :: starEach es X.env) (hpl : (backTo pos (starEach es X.env)).any (·.1) = false)
    (ht : eval (.Call (.Attribute o m apos) (e :: es) [] pos) X.env = (do
      let ov ← eval o X.env
      standAt apos.atName
      let (f, first) ← holding [ov] (getMethod ov m pl)
      callWith pos f first (backTo pos (starEach (e :: es) X.env)) (backToKw pos (keywordEach [] X.env)))) :
    PE X (.Call (.Attribute o m apos) (e :: es) [] pos) (rdE G E (eOwn n [(c, g)] mo ma)) :=
  PE.imp (pe_meth (E := E) (pl := pl) ho cl hm Fn hr hb .nil (passes_call tk fun _ _ _ _ h => h) ha hst hpl ht) fun σ H Q h => rd_own hF hf h
theorem q_own0 {pl : Sem Bool} {mo : EM DH.X} (hF : ∀ m n, G.fn m = G.fn n → m = n) (hf : G.fn n = m) (ho : PE X o (rdE G E mo)) (cl : Cls X.K (G.ca c)) (hm : Meth X.K (G.ca c) m fa) (Fn : FnOk X.prog X.w X.K X.mg X.base (L2.CX X.prog X.w) k fa fd ps (spF G g)) (hr : Room k X.A) (hb : Binds X.K fd ps [])
    (tk : Takes X (fun cls d _ H => E cls d H))
    (ht : eval (.Call (.Attribute o m apos) [] [] pos) X.env = (do
      let ov ← eval o X.env
      standAt apos.atName
      let (f, first) ← holding [ov] (getMethod ov m pl)
      callWith pos f first (backTo pos (starEach [] X.env)) (backToKw pos (keywordEach [] X.env)))) :
    PE X (.Call (.Attribute o m apos) [] [] pos) (rdE G E (eOwn n [(c, g)] mo aNil)) := by
  refine PE.imp (pe_meth0 (E := E) (pl := pl) ho cl hm Fn hr hb .nil (passes_call tk fun _ _ _ _ h => h) ht) fun σ H Q h => ?_
  have h := rd_own hF hf h
  obtain ⟨F, ρ, sl, st, sk, R, h⟩ := h
  refine ⟨F, ρ, sl, st, sk, R, PostG.mono h fun v H1 h1 => ?_⟩
  obtain ⟨a, dx, fs, e1, e2, e3, h1⟩ := h1
  obtain ⟨F', ρ', sl', st', sk', R', h1⟩ := h1
  exact ⟨a, dx, fs, e1, e2, e3, PostG.now (R := rXs G) h1 R' rfl⟩
theorem q_ownOr {tab : List (Nat × Fn)} {mo : EM DH.X} {ma : EM (List DH.X)} (h1 : PE X e (rdE G E (eOwn n [(c, g)] mo ma))) (h2 : PE X e (rdE G E (eOwn n tab mo ma))) : PE X e (rdE G E (eOwn n ((c, g) :: tab) mo ma)) := PE.or h1 h2 fun _ _ _ h => rd_owns h
/-! ### C(..) -/
def fMake (c : Nat) (mu : Bool) (g : Fn) (xs : List DH.X) (st : Store) : O DH.X := match g (.loc st.length :: xs) (st ++ [.ins c []]) with
  | .ok (.d .non) st2 => (match mu with
    | true => .ok (.loc st.length) st2
    | false => (match st2[st.length]? with
      | some (.ins c' fs) => .ok (.d (.obj c' fs)) (st2.take st.length)
      | _ => .bad))
  | .exn k fs st2 => .exn k fs (st2.take st.length)
  | _ => .bad
theorem make_sp {mu : Bool} {F : Addr → Prop} {ρ : List Addr} {H : Hp} {st : Store} {xs : List DH.X} {vs : List V} {Q : VK} (R : Rep G F ρ st H) (rs : RelXs G F ρ H xs vs) (h : PostG G E (rX G) F ρ H (fMake c mu g xs st) Q) (x dx : Addr) (hx : H x = none) (hdx : H dx = none) (ne : dx ≠ x) :
    spF G g (.ref x :: (vs ++ [])) (upd (upd H dx (.own x)) x (.ins (G.ca c) dx [])) (fun v H2 => v = .non ∧ Q (.ref x) H2) E := by
  have s1 : Stp ρ H ρ (upd H dx (.own x)) := stp_new hdx
  have R1 := R.new (o := .own x) hdx
  have hx1 : upd H dx (.own x) x = none := by rw [upd_ne (Ne.symm ne)]; exact hx
  have s2 : Stp ρ (upd H dx (.own x)) (ρ ++ [x]) (upd (upd H dx (.own x)) x (.ins (G.ca c) dx [])) := stp_more hx1
  have R2 : Rep G F (ρ ++ [x]) (st ++ [.ins c []]) (upd (upd H dx (.own x)) x (.ins (G.ca c) dx [])) := R1.more hx1 ⟨dx, [], upd_same, rfl⟩
  have s12 := s1.trans s2
  refine ⟨F, ρ ++ [x], .loc st.length :: xs, st ++ [.ins c []], ⟨.ref x, vs ++ [], rfl, ⟨x, by rw [← R.len]; simp, rfl⟩, by rw [List.append_nil]; exact rs.mono s12⟩, R2, ?_⟩
  unfold fMake at h
  cases q : g (.loc st.length :: xs) (st ++ [.ins c []]) with
  | bad => rw [q] at h; exact h
  | exn k fs st2 =>
    rw [q] at h
    intro ρ' H' d s' R' re
    have s3 := s12.trans s'
    refine h ρ H' d s3.cut ?_ (re.back s3)
    have := R'.back s3
    rw [R.len] at this
    exact this
  | ok y st2 =>
    rw [q] at h
    intro ρ' H' v s' R' rv
    have s3 := s12.trans s'
    cases y with
    | loc l => exact h.elim
    | d y =>
      cases y with
      | non =>
        have ev : v = .non := rv
        refine ⟨ev, ?_⟩
        have ex : ρ'[st.length]? = some x := by
          obtain ⟨m, em⟩ := s'.pre
          rw [em, List.append_assoc, List.getElem?_append_right (by rw [R.len]; exact Nat.le_refl _), R.len]
          simp
        cases mu with
        | true =>
          have h : PostG G E (rX G) F ρ H (.ok (.loc st.length) st2) Q := h
          exact h ρ' H' (.ref x) s3 R' ⟨x, ex, rfl⟩
        | false =>
          simp only at h
          cases q2 : st2[st.length]? with
          | none => rw [q2] at h; exact h.elim
          | some mo =>
            rw [q2] at h
            cases mo with
            | ins c' fs =>
              simp only at h
              obtain ⟨dx', ps', e4, r4⟩ := R'.obj st.length x _ ex q2
              have na : ¬ Nn F ρ x := fun z => by
                rcases z with z | z
                · exact R'.dis x (List.mem_of_getElem? ex) z
                · exact R.fresh hx (.inr z)
              obtain ⟨m, em⟩ := s3.pre
              have ke : Keeps (Nn F ρ') H' (Nn F ρ) H' := fun a o h n k => ⟨h, fun z => k (z.elim .inl fun z => .inr (by rw [em]; exact List.mem_append_left _ z))⟩
              refine h ρ H' (.ref x) s3.cut ?_ ⟨x, dx', ps', rfl, na, e4, RelF.mono ke fs r4⟩
              have := R'.back s3
              rw [R.len] at this
              exact this
            | lst _ => exact h.elim
            | dct _ _ => exact h.elim
            | orc _ => exact h.elim
      | _ => exact h.elim
theorem q_make {mu : Bool} {x : Str} {ma : EM (List DH.X)} (M : Mk X.K (G.ca c) fa) (Fn : FnOk X.prog X.w X.K X.mg X.base (L2.CX X.prog X.w) k fa fd ps (spF G g)) (hr : Room (k + 1) X.A) (hg : Gl X x) (hm : X.mg x = some (.ref (G.ca c))) (hb : Binds X.K fd ps []) (tk : Takes X (fun cls d _ H => E cls d H))
    (ha : PA X (e :: es) (rdA G E ma)) (hdb : (x == ("__debug__" : Str)) = false) (he : starEach (e :: es) X.env = (false, eval e X.env) :: starEach es X.env) (hpl : (backTo pos (starEach es X.env)).any (·.1) = false) :
    PE X (.Call (.Name x p) (e :: es) [] pos) (rdE G E (eApp (fMake c mu g) ma)) := by
  refine PE.imp (pe_make (E := E) M Fn hr hg hm hb .nil (passes_call tk fun _ _ _ _ h => h) ha hdb he hpl) fun σ H Q h => ?_
  obtain ⟨F, ρ, sl, st, sk, R, h⟩ := h
  refine ⟨F, ρ, sl, st, sk, R, PostG.mono (PostG.bind (R := rXs G) h) fun v H1 h1 => ?_⟩
  obtain ⟨y, st1, ρ1, s1, R1, r1, h1⟩ := h1
  exact fun x dx hx hdx ne => make_sp R1 r1 h1 x dx hx hdx ne
theorem q_make0 {mu : Bool} {x : Str} (M : Mk X.K (G.ca c) fa) (Fn : FnOk X.prog X.w X.K X.mg X.base (L2.CX X.prog X.w) k fa fd ps (spF G g)) (hr : Room (k + 1) X.A) (hg : Gl X x) (hm : X.mg x = some (.ref (G.ca c))) (hb : Binds X.K fd ps []) (tk : Takes X (fun cls d _ H => E cls d H))
    (hdb : (x == ("__debug__" : Str)) = false) : PE X (.Call (.Name x p) [] [] pos) (rdE G E (eApp (fMake c mu g) aNil)) := by
  refine PE.imp (pe_make0 (E := E) M Fn hr hg hm hb .nil (passes_call tk fun _ _ _ _ h => h) hdb) fun σ H Q h => ?_
  obtain ⟨F, ρ, sl, st, sk, R, h⟩ := h
  exact fun x dx hx hdx ne => make_sp (xs := []) (vs := []) R (show RelXs G F ρ H [] [] from rfl) h x dx hx hdx ne
end
end DH
namespace DH
open PySem PySem.Spec PyProof.Rows L2
/-! ### tuple(reversed(t)), t a tuple -/
theorem noLen_rt : typeLookup (.type "reversed") "__len__" = pure none := by rw [typeLookup_type, builtinLookup_eq_fast]; kernel_rfl
theorem hint_rt : typeLookup (.type "reversed") "__length_hint__" = pure (some (.builtin "reversed.__length_hint__")) := by rw [typeLookup_type, builtinLookup_eq_fast]; kernel_rfl

theorem asInt_ok {M : Model} {A : Around} {E : Value → Shared → Prop} {s : Shared} {i : Int} {t : PySem.Tok} {Q : Option Int → Shared → Prop} (h : Q (some i) s) : wpAny M A (asInt? (.int i t)) Q E s := wpAny_pure h
theorem bind_asInt {α : Type} {M : Model} {A : Around} {E : Value → Shared → Prop} {s : Shared} {i : Int} {t : PySem.Tok} {f : Option Int → Sem α} {Q : α → Shared → Prop} (h : wpAny M A (f (some i)) Q E s) : wpAny M A (asInt? (.int i t) >>= f) Q E s := wpAny_bind (asInt_ok h)
theorem slot_rt_hint : Slot "reversed" "__length_hint__" "reversed.__length_hint__" :=
  .of (owner := "reversed") (n := "__length_hint__") (by rw [typeLookup_type, builtinLookup_eq_fast]; kernel_rfl) (by decide +kernel) (by decide +kernel) (by decide +kernel)
    (by first | exact .inl (by decide +kernel) | exact .inr (by decide +kernel)) (by rw [isSubtype_type]; kernel_rfl)
theorem entry_rt_hint : entryFor table "reversed.__length_hint__" = some Builtin.«reversed.__length_hint__» := entryFor_of_tree (by kernel_rfl)
theorem args_rt_hint (a : Value) : argsOk "reversed.__length_hint__" ⟨[a], []⟩ := by
  unfold argsOk; rw [signature?_of (id := "reversed.__length_hint__") (n := ['_', '_', 't', 'n', 'i', 'h', '_', 'h', 't', 'g', 'n', 'e', 'l', '_', '_']) (o := ['d', 'e', 's', 'r', 'e', 'v', 'e', 'r']) (by kernel_rfl) RT.owner_rt]; kernel_rfl
theorem call_hint_rt {prog : Program} {w : World} {A : Around} {E : Value → Shared → Prop} {s : Shared} {I t : Addr} {its : Array Value} {Q : Value → Shared → Prop} (at_ : RT.IsRt s.heap I t ((its.size : Int) - 1)) (tup : IsTup s.heap t its) (hz : its.size ≤ sizeLine)
    (hQ : ∀ t1 tk, Q (.int (its.size : Int) t1) { s with toks := tk }) : wpAny (model prog w) A (call (.builtin "reversed.__length_hint__") [.ref I]) Q E s := by
  obtain ⟨o, ho, hc, hd⟩ := id at_
  have hn := line63
  refine wpAny_call_entry slot_rt_hint at_.typeIs entry_rt_hint ?_ (args_rt_hint _)
  unfold Builtin.«reversed.__length_hint__»
  refine wpAny_bind (wpAny_of_eq (a := Value.ref I) rfl ?_)
  try dsimp only
  refine wpAny_bind (wpAny_field ho hd (x := .ref t) rfl ?_)
  try dsimp only
  rw [if_neg (show ¬ ((Value.ref t == Value.none) = true) from Bool.false_ne_true)]
  refine wpAny_bind (len_tuple tup (by omega) ?_)
  try dsimp only
  refine wpAny_bind (wpAny_of_eq (a := some ((its.size : Nat) : Int)) rfl ?_)
  try dsimp only
  refine wpAny_bind (wpAny_field ho hd (x := rawInt ((its.size : Int) - 1)) rfl ?_)
  try dsimp only
  have e : ((its.size : Int) - 1 + 1) = (its.size : Int) := by omega
  show wpAny _ _ (if (its.size : Int) < (its.size : Int) - 1 + 1 then _ else _) _ _ _
  rw [e, if_neg (by omega)]
  exact wpAny_bind (wpAny_mkInt (wpAny_pure ⟨_, rfl, hQ _ _⟩))
section
variable {prog : Program} {w : World} {A : Around} {E : Value → Shared → Prop} {s : Shared}
theorem walks_rt (hh : A.handled = none) (I t : Addr) (hne : t ≠ I) (its : Array Value) (hz : its.size ≤ sizeLine) :
    Walks prog w A I [I, t] [I] its.size (fun i v => its[its.size - 1 - i]? = some v) (fun i h => i ≤ its.size ∧ RT.IsRt h I t ((its.size : Int) - 1 - (i : Int)) ∧ IsTup h t its) where
  sub := fun b hb => by
    have e : b = I := by simpa using hb
    rw [e]; simp
  frame := fun _ _ _ st keep => by
    obtain ⟨h1, h2, o, ho, hr⟩ := st
    exact ⟨h1, h2.at fun o e => keep I (by simp) o e, o, keep t (by simp) o ho, hr⟩
  item := fun i s Q E hi st hQ => by
    obtain ⟨_, at_, tup⟩ := st
    have e1 : (its.size : Int) - 1 - (i : Int) = ((its.size - 1 - i : Nat) : Int) := by omega
    rw [e1] at at_
    have lt : its.size - 1 - i < its.size := by omega
    have hx : its[its.size - 1 - i]? = some its[its.size - 1 - i] := Array.getElem?_eq_getElem lt
    refine RT.next_rt_item at_ tup hx hz fun h' at' same => ?_
    have e2 : ((its.size - 1 - i : Nat) : Int) - 1 = (its.size : Int) - 1 - ((i + 1 : Nat) : Int) := by omega
    rw [e2] at at'
    obtain ⟨o, ho, hr⟩ := tup
    exact hQ _ h' _ hx ⟨hi, at', o, (same.2 t hne).trans ho, hr⟩ fun b o hb eo => same.extBut b o (fun z => hb (by simp [z])) eo
  done := fun s Q E st hQ => by
    obtain ⟨_, at_, _⟩ := st
    have e1 : (its.size : Int) - 1 - (its.size : Int) = -1 := by omega
    rw [e1] at at_
    exact RT.next_rt_end hh at_ fun h' he => hQ h' _ fun b o hb eo => he b o (fun z => hb (by simp [z])) eo
  self := fun _ _ _ _ st hQ => RT.iter_rt st.2.1 hQ
abbrev emptyL : Obj := { cls := .type "list", data := .seq ([] : List Value).toArray }
theorem hint_ok {I t : Addr} {its : Array Value} {Q : Bool → Shared → Prop} (at_ : RT.IsRt s.heap I t ((its.size : Int) - 1)) (tup : IsTup s.heap t its) (hz : its.size ≤ sizeLine) (h0 : 0 < its.size) (hQ : ∀ tk, Q true { s with toks := tk }) :
    wpAny (model prog w) A (Builtin.List.listLengthHint (.ref I)) Q E s := by
  have ty : s.TypeIs (.ref I) "reversed" := at_.typeIs
  have hn := line63
  have e1 : Builtin.List.listFitsIndex (its.size : Int) = true := by
    unfold Builtin.List.listFitsIndex
    have h5 : (2 : Int) ^ 63 = 9223372036854775808 := by decide
    rw [h5]
    have h6 : ((its.size : Nat) : Int) < 9223372036854775808 := by omega
    have h7 : -(9223372036854775808 : Int) ≤ ((its.size : Nat) : Int) := by omega
    rw [decide_eq_true h6, decide_eq_true h7]; rfl
  have e2 : Builtin.List.listTooLong (its.size : Int).toNat = false := by
    unfold Builtin.List.listTooLong
    exact decide_eq_false (by show ¬ sizeLine < _; rw [Int.toNat_natCast]; omega)
  have e3 : ((its.size : Int) != 0) = true := by
    have : ((its.size : Int)) ≠ 0 := by omega
    simpa using this
  unfold Builtin.List.listLengthHint
  refine wpAny_bind (wpAny_specialOf ty noLen_rt ?_)
  show wpAny _ A (specialOf (Value.ref I) (Str.ofString "__length_hint__") >>= _) _ _ _
  refine wpAny_bind (wpAny_specialOf ty hint_rt ?_)
  generalize hid : ("reversed.__length_hint__" : String) = hintId
  wp_delta
  rw [show splitId hintId = some ("reversed", "__length_hint__") from by subst hid; decide +kernel]
  subst hid
  refine wpAny_bind (wpAny_isInstance (b := true) ty (by rw [isSubtype_type]; kernel_rfl) ?_)
  rw [if_neg (by decide)]
  show wpAny _ A (if _ = true then _ else _) _ _ _
  rw [if_neg (by decide +kernel)]
  refine wpAny_bind (wpAny_rule ?_)
  refine wpAny_bind (wpAny_of_eq (slot_rt_hint.bind _) ?_)
  dsimp only
  refine wpAny_bind (wpAny_attempt (call_hint_rt at_ tup hz fun t1 tk1 => ?_))
  dsimp only
  refine bind_asInt ?_
  dsimp only
  rw [e1]
  simp only [Bool.not_true, Bool.false_eq_true, if_false]
  rw [if_neg (by omega), e2]
  simp only [Bool.false_eq_true, if_false]
  rw [e3]
  exact wpAny_pure (hQ tk1)
theorem collect_rt {I t : Addr} {its : Array Value} {Q : List Value → Shared → Prop} (hh : A.handled = none) (at_ : RT.IsRt s.heap I t ((its.size : Int) - 1)) (tup : IsTup s.heap t its) (hne : t ≠ I) (hz : its.size ≤ sizeLine) (h0 : 0 < its.size)
    (hQ : ∀ (h' : Heap) (tk : Nat) (acc : Array Value), (∀ b o, b ≠ I → s.heap.get? b = some o → h'.get? b = some o) → ItemsOf (fun i v => its[its.size - 1 - i]? = some v) acc its.size → Q acc.toList { s with heap := h', toks := tk }) :
    wpAny (model prog w) A (collect (.ref I)) Q E s := by
  have W := (walks_rt (prog := prog) (w := w) (A := A.in1) hh I t hne its hz).toS
  obtain ⟨oI, hoI, _⟩ := id at_
  obtain ⟨ot, hot, _⟩ := id tup
  have nI : s.heap.objs.size ≠ I := Nat.ne_of_gt (Heap.lt_size hoI)
  have nt : s.heap.objs.size ≠ t := Nat.ne_of_gt (Heap.lt_size hot)
  have nf : s.heap.objs.size ∉ [I, t] := fun z => by
    rcases List.mem_cons.mp z with z | z
    · exact nI z
    · exact nt (List.mem_singleton.mp z)
  have up : ∀ b o, s.heap.get? b = some o → (s.heap.push emptyL).get? b = some o := fun b o e => Heap.get?_push_of_some _ e
  have hS₁ : (s.heap.push emptyL).get? s.heap.objs.size = some emptyL := Heap.get?_push_size _ rfl
  have at1 : RT.IsRt (s.heap.push emptyL) I t ((its.size : Int) - 1) := at_.at fun o e => up I o e
  have tup1 : IsTup (s.heap.push emptyL) t its := by
    obtain ⟨o, ho, hr⟩ := tup
    exact ⟨o, up t o ho, hr⟩
  have ty : ({ s with heap := s.heap.push emptyL } : Shared).TypeIs (.ref I) "reversed" := RT.IsRt.typeIs (s := { s with heap := s.heap.push emptyL }) at1
  have same : Builtin.List.listSameRef (.ref s.heap.objs.size) (.ref I) = false := by simp [Builtin.List.listSameRef, nI]
  unfold collect
  refine wpAny_bind (wpAny_runValue (codeAny_builtin F.entry_proto_collect ?_))
  rw [Around.under_plainId F.plain_proto_collect _]
  show wpAny _ A.in1 (newList [] >>= fun fresh => again (.builtin "list.__iadd__" ⟨[fresh, .ref I], []⟩)) _ _ s
  refine wpAny_bind (wpAny_newObj_type ?_)
  refine wpAny_pure ⟨plainId_quiet F.plain_list_iadd _, codeAny_builtin F.entry_list_iadd ?_⟩
  rw [Around.under_plainId F.plain_list_iadd _]
  show wpAny _ A.in1 (Builtin.List.listExtendWith (.ref s.heap.objs.size) (.ref I) (.ref s.heap.objs.size)) _ _ _
  unfold Builtin.List.listExtendWith
  refine wpAny_bind (wpAny_typeOf ty ?_)
  rw [if_neg (by rw [same]; decide)]
  refine wpAny_bind (RT.iter_rt (s := { s with heap := s.heap.push emptyL }) at1 ?_)
  refine wpAny_bind (wpAny_holding ?_)
  refine hint_ok (s := { s with heap := s.heap.push emptyL }) at1 tup1 hz h0 fun tk1 => ?_
  show wpAny _ A.in1 (rule "list.extend.makes-room" >>= fun _ => Builtin.List.listTouch (.ref s.heap.objs.size) >>= fun _ =>
    again (.builtin "list.extend.loop" ⟨[.ref s.heap.objs.size, .ref I, .ref s.heap.objs.size], []⟩)) _ _ _
  refine wpAny_bind (wpAny_rule ?_)
  refine wpAny_bind ?_
  show wpAny _ A.in1 (updateSeq s.heap.objs.size (·.push .none) >>= fun _ => updateSeq s.heap.objs.size (·.pop)) _ _ _
  refine wpAny_bind (wpAny_updateSeq (s := { s with heap := s.heap.push emptyL, toks := tk1 }) hS₁ rfl ?_)
  have hS₂ := Heap.get?_update_self (Obj.mapSeq (·.push Value.none)) hS₁ rfl
  refine wpAny_updateSeq hS₂ rfl ?_
  have hS₃ := Heap.get?_update_self (Obj.mapSeq (·.pop)) hS₂ rfl
  have oth : ∀ b o, b ≠ s.heap.objs.size → (s.heap.push emptyL).get? b = some o →
      (((s.heap.push emptyL).update s.heap.objs.size (Obj.mapSeq (·.push Value.none))).update s.heap.objs.size (Obj.mapSeq (·.pop))).get? b = some o :=
    fun b o hb e => (Heap.get?_update_other _ _ (Ne.symm hb)).trans ((Heap.get?_update_other _ _ (Ne.symm hb)).trans e)
  have e0 : ((its.size : Nat) : Int) - 1 - ((0 : Nat) : Int) = (its.size : Int) - 1 := by omega
  refine wpAny_pure ⟨plainId_quiet F.plain_extend_loop _, codeAny_extend_loopS W hz _ nf _ its.size 0 _ _ _ rfl (Nat.zero_le _) ⟨Nat.zero_le _, by rw [e0]; exact at1.at fun o e => oth I o (Ne.symm nI) e, let ⟨o, ho, hr⟩ := tup1; ⟨o, oth t o (Ne.symm nt) ho, hr⟩⟩ hS₃ (ItemsOf.nil _) fun s' acc cap mv there got => ?_⟩
  show wpAny _ A (load s.heap.objs.size >>= _) _ _ s'
  refine wpAny_bind (wpAny_load there (wpAny_pure ?_))
  rw [Moved.eq_with mv]
  refine hQ s'.heap s'.toks acc (fun b o hb e => mv.heap b o (fun z => ?_) (oth b o (Nat.ne_of_lt (Heap.lt_size e)) (up b o e))) got
  rcases List.mem_cons.mp z with z | z
  · exact absurd (Heap.lt_size e) (by rw [z]; exact Nat.lt_irrefl _)
  · exact hb (List.mem_singleton.mp z)
theorem tuple_rt {I t : Addr} {its : Array Value} {Q : Value → Shared → Prop} (hh : A.handled = none) (at_ : RT.IsRt s.heap I t ((its.size : Int) - 1)) (tup : IsTup s.heap t its) (hne : t ≠ I) (hz : its.size ≤ sizeLine) (h0 : 0 < its.size)
    (hQ : ∀ (h' : Heap) (tk : Nat) (acc : Array Value), (∀ b o, b ≠ I → s.heap.get? b = some o → h'.get? b = some o) → ItemsOf (fun i v => its[its.size - 1 - i]? = some v) acc its.size →
      Q (.ref h'.objs.size) { s with heap := h'.push { cls := .type "tuple", data := .seq acc }, toks := tk }) : wpAny (model prog w) A (call (.type "tuple") [.ref I]) Q E s := by
  refine callType_codes (Q₁ := fun obj s₁ => s₁.TypeIs obj "tuple" ∧ Q obj s₁) F.called_tuple (F.typeCall_tuple_1 _) F.entry_object_init (codeAny_of_tree ?_) fun obj s₁ h₁ =>
    ⟨h₁.1, F.args_object_init_2 obj _, object_init_meets F.called_tuple.init.lookup F.called_tuple.made (by decide) prog w A.in1 _ s₁ ⟨h₁.1, rfl, h₁.2⟩⟩
  show wpAny _ A.in1.in1 (do checkBuiltinCall "tuple.__new__" ⟨[.type "tuple", .ref I], []⟩; again (.builtin "tuple.__new__" ⟨[.type "tuple", .ref I], []⟩)) _ _ s
  refine wpAny_bind (wpAny_of_eq (F.newCall_tuple_1 _) (wpAny_pure ⟨plainId_quiet F.plain_tuple_new _, codeAny_builtin F.entry_tuple_new ?_⟩))
  rw [Around.under_plainId F.plain_tuple_new _]
  have k1 := sub_tuple_self
  have k2 := init_tuple_lookup
  have k3 := madeHere_tuple
  have ty : s.TypeIs (.ref I) "reversed" := at_.typeIs
  have hh2 : A.in1.in1.handled = none := hh
  wp_walk using wpAny_typeOf ty, collect_rt (A := A.in1.in1) hh2 at_ tup hne hz h0
  intro h' tk acc keep got
  show wpAny _ _ (Builtin.Tuple.tupleExact acc.toList.toArray >>= fun v => ret v) _ _ _
  unfold Builtin.Tuple.tupleExact
  have e : acc.toList.toArray = acc := by simp
  rw [e]
  refine wpAny_bind (wpAny_newObj_type (wpAny_pure ?_) (by show acc.size ≤ sizeLine; rw [got.1]; exact hz))
  exact ⟨⟨_, Heap.get?_push_size _ rfl, rfl⟩, hQ h' tk acc keep got⟩
end

section
variable {X : Cx} {G : Gm} {E : XK}
def tTupRevT (K : PySem.W.Frag) (te : TE) : TE := fun σ H Q => te σ H fun v H1 => ∃ (a : Addr) (xs : List V), v = .ref a ∧ SqT K H1 a xs ∧ xs ≠ [] ∧ ∀ q, H1 q = none → Q (.ref q) (upd H1 q (.tup xs.reverse))
theorem pe_tupRevT {e : Expr} {te : TE} {p p2 pos pos2 : Pos} (hc : X.calm = true) (hg : Gl X "tuple") (hm : X.mg "tuple" = none) (hg2 : Gl X "reversed") (hm2 : X.mg "reversed" = none) (he : PE X e te)
    (hs : starEach [e] X.env = (false, eval e X.env) :: starEach [] X.env)
    (hs2 : starEach [.Call (.Name "reversed" p2) [e] [] pos2] X.env = (false, eval (.Call (.Name "reversed" p2) [e] [] pos2) X.env) :: starEach [] X.env) :
    PE X (.Call (.Name "tuple" p) [.Call (.Name "reversed" p2) [e] [] pos2] [] pos) (tTupRevT X.K te) := by
  refine ⟨fun pins s σ H Q I h => ?_⟩
  refine Call_ (ld_blt I hg hm boot_tuple (PyProof.Rows.callWith_type1 (args_cons (Call_ (ld_blt I hg2 hm2 PyProof.Rows.boot_reversed (PyProof.Rows.callWith_type1 (args_cons (thn (he.run pins s σ H _ I h) fun u s1 ⟨v, H1, I1, r1, q1⟩ => args_nil ?_) hs) hs rfl))) hs2) hs2 rfl))
  obtain ⟨a, xs, ev, hq, hne0, q⟩ := q1
  subst ev
  obtain rfl : u = Value.ref a := r1
  obtain ⟨its, rv, p', hz⟩ := I1.tuple hq
  have hn := line63
  have hlen := rv.length
  have hsz : its.toArray.size ≤ sizeLine := by rw [List.size_toArray, ← hlen]; exact hz
  have h0 : 0 < its.toArray.size := by
    rw [List.size_toArray, ← hlen]
    cases xs with
    | nil => exact absurd rfl hne0
    | cons _ _ => exact Nat.zero_lt_succ _
  refine RT.call_reversed_tup p' (fun A E Q hQ => len_tuple p' (by omega) hQ) (args_nil ?_)
  have k0 : ∀ b o, s1.heap.get? b = some o → (s1.heap.push (RT.rtObj a ((its.toArray.size : Int) - 1))).get? b = some o := fun b o e => Heap.get?_push_of_some _ e
  have I2 : Inv X pins σ H1 { s1 with heap := s1.heap.push (RT.rtObj a ((its.toArray.size : Int) - 1)), toks := s1.toks + 1 + 1 } := I1.kept (t' := s1.toks + 1 + 1) k0
  obtain ⟨f0, f1, f2, f3, f4, f5⟩ := I1.fpOk (H' := H1) (b := s1.heap.objs.size) (Nat.le_refl _) (I1.hok.fresh (Nat.le_refl _))
  obtain ⟨ol, hol, hor⟩ := id p'
  have hne : a ≠ s1.heap.objs.size := Nat.ne_of_lt (Heap.lt_size hol)
  refine tuple_rt (s := { s1 with heap := s1.heap.push (RT.rtObj a ((its.toArray.size : Int) - 1)), toks := s1.toks + 1 + 1 }) (I1.ok.hd hc) ⟨_, Heap.get?_push_size _ rfl, rfl, rfl⟩ ⟨ol, k0 _ _ hol, hor⟩ hne hsz h0 fun h' tk acc hk hi => ?_
  have I3 : Inv X pins σ H1 { s1 with heap := h', toks := tk } := I2.turned (t' := tk) (fun b o hb e => hk b o hb e) f0 f1 f3 f4 f5
  refine ⟨.ref h'.objs.size, upd H1 h'.objs.size (.tup xs.reverse), I3.laid (t' := tk) (fun c o e => Heap.get?_push_of_some _ e) (Nat.le_refl _) (show ObjOk X.prog X.w _ _ _ (.tup xs.reverse) from ⟨by rw [List.length_reverse]; exact hz, acc.toList, RT.vals_rev rv hi, ?_⟩), rfl, q _ (I3.hok.fresh (Nat.le_refl _))⟩
  rw [Array.toArray_toList]
  exact IsTup.new _ _
def revDT : List D → List D → List D
  | [], acc => acc
  | x :: xs, acc => revDT xs (x :: acc)
theorem revDT_eq : ∀ xs acc : List D, revDT xs acc = xs.reverse ++ acc
  | [], acc => rfl
  | x :: xs, acc => by
    unfold revDT
    rw [revDT_eq xs (x :: acc)]
    simp
def gTupRev : D → Store → O DH.X
  | .tup _ (x :: xs), st => newT (revDT (x :: xs) []) st
  | _, _ => .bad
def eTupRev (m : EM DH.X) : EM DH.X := fun sl st => (m sl st).bind fun x st1 => match deref st1 x with
  | some d => gTupRev d st1
  | none => .bad
theorem q_tupRev {e : Expr} {m : EM DH.X} {p p2 pos pos2 : Pos} (hK : G.K = X.K) (hc : X.calm = true) (hg : Gl X "tuple") (hm : X.mg "tuple" = none) (hg2 : Gl X "reversed") (hm2 : X.mg "reversed" = none) (he : PE X e (rdE G E m))
    (hs : starEach [e] X.env = (false, eval e X.env) :: starEach [] X.env)
    (hs2 : starEach [.Call (.Name "reversed" p2) [e] [] pos2] X.env = (false, eval (.Call (.Name "reversed" p2) [e] [] pos2) X.env) :: starEach [] X.env) :
    PE X (.Call (.Name "tuple" p) [.Call (.Name "reversed" p2) [e] [] pos2] [] pos) (rdE G E (eTupRev m)) := by
  refine PE.imp (pe_tupRevT hc hg hm hg2 hm2 he hs hs2) fun σ H Q h => ?_
  obtain ⟨F, ρ, sl, st, sk, R, h⟩ := h
  refine ⟨F, ρ, sl, st, sk, R, PostG.mono (PostG.bind (R := rX G) h) fun v H1 h1 => ?_⟩
  obtain ⟨x, st1, ρ1, s1, R1, r1, h1⟩ := h1
  cases q : deref st1 x with
  | none => simp only [q] at h1; exact h1.elim
  | some d =>
    simp only [q] at h1
    cases d with
    | tup f xs =>
      cases xs with
      | nil => exact h1.elim
      | cons y ys =>
        obtain ⟨a, vs, ev, fz, rs⟩ := view R1 r1 q
        have h1 : PostG G E (rX G) F ρ1 H1 (newT (revDT (y :: ys) []) st1) Q := h1
        rw [revDT_eq, List.append_nil] at h1
        refine ⟨a, vs, ev, by rw [← hK]; exact fz, ?_, fun q0 hq => newT_ok R1 rs.reverse hq h1⟩
        rintro rfl
        have := rs.length
        cases this
    | _ => exact h1.elim
end
end DH
namespace DH
open PySem PySem.Spec PyProof.Rows L2
section
variable {X : Cx} {G : Gm} {E : XK} {a b o i e : Expr} {pos tpos : Pos} {mo mi me ma : EM DH.X}
/-! ### -e -/
def eNeg (m : EM DH.X) : EM DH.X := fun sl st => (m sl st).bind fun x st1 => match x with
  | .d (.int i) => .ok (.d (.int (-i))) st1
  | _ => .bad
theorem q_neg {m : EM DH.X} (h : PE X a (rdE G E m)) : PE X (.UnaryOp .USub a pos) (rdE G E (eNeg m)) := by
  refine PE.imp (pe_un un_neg h) fun σ H Q h => ?_
  obtain ⟨F, ρ, sl, st, sk, R, h⟩ := h
  refine ⟨F, ρ, sl, st, sk, R, PostG.mono (PostG.bind (R := rX G) h) fun v H1 h1 => ?_⟩
  obtain ⟨x, st1, ρ1, s1, R1, r1, h1⟩ := h1
  cases x with
  | loc l => exact h1.elim
  | d y =>
    cases y with
    | int i => exact ⟨i, r1, now1 R1 h1 rfl⟩
    | _ => exact h1.elim
/-! ### a method of one of two built-in types -/
def eMeth2 (k k2 : Kd) (f f2 : DH.X → List DH.X → Store → O DH.X) (o : EM DH.X) (m : EM (List DH.X)) : EM DH.X := fun sl st => (o sl st).bind fun x st1 => match isKd k st1 x with
  | true => (m sl st1).bind fun xs st2 => f x xs st2
  | false => (match isKd k2 st1 x with
    | true => (m sl st1).bind fun xs st2 => f2 x xs st2
    | false => .bad)
theorem q_meth2 {k k2 : Kd} {f f2 : DH.X → List DH.X → Store → O DH.X} {m : EM (List DH.X)} (h1 : PE X e (rdE G E (eMeth k f mo m))) (h2 : PE X e (rdE G E (eMeth k2 f2 mo m))) : PE X e (rdE G E (eMeth2 k k2 f f2 mo m)) := by
  refine PE.or h1 h2 fun σ H Q h => ?_
  obtain ⟨F, ρ, sl, st, sk, R, h⟩ := h
  unfold eMeth2 at h
  cases q : mo sl st with
  | bad => rw [q] at h; exact h.elim
  | exn c fs st' =>
    rw [q] at h
    refine .inl ⟨F, ρ, sl, st, sk, R, ?_⟩
    unfold eMeth
    rw [q]
    exact h
  | ok x st1 =>
    rw [q] at h
    have h : PostG G E (rX G) F ρ H (match isKd k st1 x with | true => (m sl st1).bind fun xs st2 => f x xs st2 | false => (match isKd k2 st1 x with | true => (m sl st1).bind fun xs st2 => f2 x xs st2 | false => .bad)) Q := h
    cases z : isKd k st1 x with
    | true =>
      rw [z] at h
      refine .inl ⟨F, ρ, sl, st, sk, R, ?_⟩
      unfold eMeth
      rw [q]
      show PostG G E (rX G) F ρ H (match isKd k st1 x with | true => (m sl st1).bind fun xs st2 => f x xs st2 | false => .bad) Q
      rw [z]
      exact h
    | false =>
      rw [z] at h
      refine .inr ⟨F, ρ, sl, st, sk, R, ?_⟩
      unfold eMeth
      rw [q]
      exact h
/-! ### k in d -/
def eDIn (neg : Bool) (mi mo : EM DH.X) : EM DH.X := fun sl st => (mi sl st).bind fun k st1 => (mo sl st1).bind fun x st2 => match lookD st2 x k with
  | some o => .ok (.d (.bl (match neg, o with | true, some _ => false | true, none => true | false, some _ => true | false, none => false))) st2
  | none => .bad
theorem rd_din {neg : Bool} {σ : L2.St} {H : Hp} {Q : VK} (h : rdE G E (eDIn neg mi mo) σ H Q) : rdE G E mi σ H fun y H1 => rdE G E mo σ H1 fun x H2 => ∃ a o, x = .ref a ∧ DGet H2 a y o ∧ Q (.bl (match neg with | true => !o.isSome | false => o.isSome)) H2 := by
  obtain ⟨F, ρ, sl, st, sk, R, h⟩ := h
  refine ⟨F, ρ, sl, st, sk, R, PostG.mono (PostG.bind (R := rX G) h) fun y H1 h1 => ?_⟩
  obtain ⟨k, st1, ρ1, s1, R1, r1, h1⟩ := h1
  refine ⟨F, ρ1, sl, st1, sk.mono s1, R1, PostG.mono (PostG.bind (R := rX G) h1) fun v H2 h2 => ?_⟩
  obtain ⟨x, st2, ρ2, s2, R2, r2, h2⟩ := h2
  cases q : lookD st2 x k with
  | none => simp only [q] at h2; exact h2.elim
  | some od =>
    simp only [q] at h2
    obtain ⟨a, w, ev, _, g, ro⟩ := lookD_ok R2 r2 (r1.mono s2) q
    refine ⟨a, w, ev, g, ?_⟩
    cases od with
    | none =>
      have ew : w = none := ro
      subst ew
      cases neg <;> exact now1 R2 h2 rfl
    | some d =>
      obtain ⟨u, ew, _⟩ := ro
      subst ew
      cases neg <;> exact now1 R2 h2 rfl
theorem q_din (hu : X.A.units + 65 < cLine) (hi : PE X i (rdE G E mi)) (ho : PE X o (rdE G E mo)) (hm : behindInMarks .In o = false) : PE X (.Compare i [.In] [o] pos) (rdE G E (eDIn false mi mo)) :=
  PE.imp (pe_cmp (pc_din (by omega) hi ho) hm) fun σ H Q h => rd_din (neg := false) h
theorem q_dnotin (hu : X.A.units + 65 < cLine) (hi : PE X i (rdE G E mi)) (ho : PE X o (rdE G E mo)) (hm : behindInMarks .NotIn o = false) : PE X (.Compare i [.NotIn] [o] pos) (rdE G E (eDIn true mi mo)) :=
  PE.imp (pe_cmp (pc_dnotin (by omega) hi ho) hm) fun σ H Q h => rd_din (neg := true) h
theorem rd_tB {m : EM DH.X} {t : TE} {σ : L2.St} {H : Hp} {Q : Bool → Hp → Prop} (h : rdT G E (eTest m) σ H Q) (k : ∀ Q' : VK, rdE G E m σ H Q' → t σ H Q') : t σ H fun v H1 => ∃ b, v = .bl b ∧ Q b H1 := by
  refine k _ ?_
  obtain ⟨F, ρ, sl, st, sk, R, h⟩ := rd_test h
  exact ⟨F, ρ, sl, st, sk, R, h⟩
theorem q_tdin (hu : X.A.units + 65 < cLine) (hi : PE X i (rdE G E mi)) (ho : PE X o (rdE G E mo)) (hm : behindInMarks .In o = false) : PT X (.Compare i [.In] [o] pos) (rdT G E (eTest (eDIn false mi mo))) :=
  PT.imp (pt_cmp (pc_din (by omega) hi ho) hm) fun σ H Q h => rd_tB h fun Q' z => rd_din (neg := false) z
theorem q_tdnotin (hu : X.A.units + 65 < cLine) (hi : PE X i (rdE G E mi)) (ho : PE X o (rdE G E mo)) (hm : behindInMarks .NotIn o = false) : PT X (.Compare i [.NotIn] [o] pos) (rdT G E (eTest (eDIn true mi mo))) :=
  PT.imp (pt_cmp (pc_dnotin (by omega) hi ho) hm) fun σ H Q h => rd_tB h fun Q' z => rd_din (neg := true) z
/-! ### o[i] += e, o a list -/
theorem get_list : PGet X (rIxL X.K) := by
  intro pins s σ H x y v u Q I rx ry h
  obtain ⟨p, xs, i, z, rfl, rfl, hq, he, q⟩ := h
  cases rx
  obtain ⟨t, rfl⟩ := ry
  obtain ⟨its, r, pl, hz⟩ := I.list hq
  obtain ⟨j, h1, h2, h3, h4, h5⟩ := atI_get he
  obtain ⟨w, ew, rw'⟩ := r.get h2
  have hl := r.length
  have hn := line63
  have fin : EP X pins σ Q w s := ⟨z, H, I, rw', q⟩
  by_cases h0 : 0 ≤ i
  · have hj : i.toNat = j := by
      rw [seqIndex_of h0 h5] at h1
      exact Option.some.inj h1
    exact wpAny_getItem_list pl.isList h0 (by omega) (by rw [hj]; simpa using ew) fin
  · have hj : (i + (its.toArray.size : Int)).toNat = j := by
      rw [seqIndex_neg (by omega) h4] at h1
      rw [List.size_toArray, ← hl]
      exact Option.some.inj h1
    exact wpAny_getItem_list_neg pl.isList (by omega) (by rw [List.size_toArray] <;> omega) (by omega) (by rw [hj]; simpa using ew) fin
def sAugIx (mo mi me : EM DH.X) : SM := fun sl st => (mo sl st).s fun x st1 => (mi sl st1).s fun k st2 => match deref st2 x, deref st2 k with
  | some (.lst xs), some (.int i) => (match getM xs i with
    | some (.int old) => (me sl st2).s fun y st3 => (match y with
      | .d (.int j) => (match setAt x k (.d (.int (old + j))) st3 with
        | some st4 => .nx sl st4
        | none => .bad)
      | _ => .bad)
    | _ => .bad)
  | _, _ => .bad
theorem q_augIx (ho : PE X o (rdE G E mo)) (hi : PE X i (rdE G E mi)) (he : PE X e (rdE G E me)) (ha : ∀ ov iv new, augStore i ov iv new = (do holding [new, ov, iv] (setItem ov iv new); release [new, ov, iv] []; pure .next)) :
    PS X (.AugAssign (.Subscript o i tpos) .Add e pos) (rdS G E (sAugIx mo mi me)) := by
  refine PS.imp (ps_augS ho hi get_list he ip_add set_list ha) fun D σ H h => ?_
  obtain ⟨F, ρ, sl, st, sk, R, h⟩ := h
  refine ⟨F, ρ, sl, st, sk, R, PostG.mono (PostS.part (R := rX G) h) fun ov H1 h1 => ?_⟩
  obtain ⟨x, st1, ρ1, s1, R1, r1, h1⟩ := h1
  refine ⟨F, ρ1, sl, st1, sk.mono s1, R1, PostG.mono (PostS.part (R := rX G) h1) fun iv H2 h2 => ?_⟩
  obtain ⟨k, st2, ρ2, s2, R2, r2, h2⟩ := h2
  cases q1 : deref st2 x with
  | none => simp only [q1] at h2; exact h2.elim
  | some dx =>
    cases dx with
    | lst xs =>
      cases q2 : deref st2 k with
      | none => simp only [q1, q2] at h2; exact h2.elim
      | some dk =>
        cases dk with
        | int n =>
          simp only [q1, q2] at h2
          cases q3 : getM xs n with
          | none => simp only [q3] at h2; exact h2.elim
          | some dold =>
            cases dold with
            | int old =>
              simp only [q3] at h2
              obtain ⟨a, vs, ev, hl, rs⟩ := view R2 (r1.mono s2) q1
              have ek : iv = .int n := view R2 r2 q2
              obtain ⟨u, hu, ru⟩ := rs.atI q3
              have eu : u = .int old := ru
              subst eu
              refine ⟨a, vs, n, _, ev, ek, SqL.of hl, hu, F, ρ2, sl, st2, (sk.mono s1).mono s2, R2, PostG.mono (PostS.part (R := rX G) h2) fun yv H3 h3 => ?_⟩
              obtain ⟨y, st3, ρ3, s3, R3, r3, h3⟩ := h3
              cases y with
              | loc _ => exact h3.elim
              | d y =>
                cases y with
                | int j =>
                  simp only at h3
                  cases q4 : setAt x k (.d (.int (old + j))) st3 with
                  | none => simp only [q4] at h3; exact h3.elim
                  | some st4 =>
                    simp only [q4] at h3
                    refine ⟨old, j, rfl, r3, setAt_ok R3 ((r1.mono s2).mono s3) (r2.mono s3) (show RelX G F ρ3 H3 (.d (.int (old + j))) (.int (old + j)) from rfl) q4 fun H' s4 R4 => ?_⟩
                    exact h3 ρ3 H' σ s4 R4 ((((sk.mono s1).mono s2).mono s3).mono s4)
                | _ => exact h3.elim
            | _ => simp only [q3] at h2; exact h2.elim
        | _ => simp only [q1, q2] at h2; exact h2.elim
    | _ => simp only [q1] at h2; exact h2.elim
end
end DH
namespace DH
open PySem PySem.Spec PyProof.Rows L2
/-! ### the very same data -/
mutual
def sameD : D → D → Bool
  | .non, .non => true
  | .bl a, .bl b => (match a, b with | true, true => true | false, false => true | _, _ => false)
  | .int i, .int j => eqI i j
  | .str a, .str b => sameN a b
  | .tup f xs, .tup g ys => (match f, g with | true, true => sameDs xs ys | false, false => sameDs xs ys | _, _ => false)
  | .lst xs, .lst ys => sameDs xs ys
  | _, _ => false
def sameDs : List D → List D → Bool
  | [], [] => true
  | x :: xs, y :: ys => (match sameD x y with | true => sameDs xs ys | false => false)
  | _, _ => false
def sameN : List Nat → List Nat → Bool
  | [], [] => true
  | x :: xs, y :: ys => (match Nat.beq x y with | true => sameN xs ys | false => false)
  | _, _ => false
end
theorem sameN_eq : ∀ {a b : List Nat}, sameN a b = true → a = b
  | [], [], _ => rfl
  | [], _ :: _, h => by unfold sameN at h; cases h
  | _ :: _, [], h => by unfold sameN at h; cases h
  | x :: a, y :: b, h => by
    unfold sameN at h
    cases q : Nat.beq x y with
    | false => rw [q] at h; cases h
    | true => rw [q] at h; rw [Nat.eq_of_beq_eq_true q, sameN_eq h]
mutual
theorem sameD_eq : ∀ (a b : D), sameD a b = true → a = b
  | .non, b, h => by cases b <;> first | rfl | (unfold sameD at h; cases h)
  | .bl x, b, h => by
    cases b with
    | bl y => cases x <;> cases y <;> first | rfl | (unfold sameD at h; cases h)
    | _ => unfold sameD at h; cases h
  | .int i, b, h => by
    cases b with
    | int j => unfold sameD at h; rw [eqI_true h]
    | _ => unfold sameD at h; cases h
  | .str x, b, h => by
    cases b with
    | str y => unfold sameD at h; rw [sameN_eq h]
    | _ => unfold sameD at h; cases h
  | .tup f xs, b, h => by
    cases b with
    | tup g ys =>
      unfold sameD at h
      cases f <;> cases g
      · rw [sameDs_eq xs ys h]
      · cases h
      · cases h
      · rw [sameDs_eq xs ys h]
    | _ => unfold sameD at h; cases h
  | .lst xs, b, h => by
    cases b with
    | lst ys => unfold sameD at h; rw [sameDs_eq xs ys h]
    | _ => unfold sameD at h; cases h
  | .dct t k, b, h => by unfold sameD at h; cases b <;> cases h
  | .obj c f, b, h => by unfold sameD at h; cases b <;> cases h
theorem sameDs_eq : ∀ (a b : List D), sameDs a b = true → a = b
  | [], [], _ => rfl
  | [], _ :: _, h => by unfold sameDs at h; cases h
  | _ :: _, [], h => by unfold sameDs at h; cases h
  | x :: a, y :: b, h => by
    unfold sameDs at h
    cases q : sameD x y with
    | false => rw [q] at h; cases h
    | true => rw [q] at h; rw [sameD_eq x y q, sameDs_eq a b h]
end
/-! ### what is walked: items that stand, or a list of the store, which must stay as it is -/
abbrev Src := List D × Option Nat
def ckS (sr : Src) (st : Store) : Bool := match sr.2 with
  | none => true
  | some l => (match st[l]? with
    | some (.lst ys) => sameDs ys sr.1
    | _ => false)
structure ItG (G : Gm) (F : Addr → Prop) (ρ0 : List Addr) (H0 : Hp) (sr : Src) (J : It) : Prop where
  stop : ∀ (F' : Addr → Prop) ρ H st, (∀ a, F' a → F a ∨ H0 a = none) → Stp ρ0 H0 ρ H → Rep G F' ρ st H → ckS sr st = true → J.stop sr.1.length H
  go : ∀ (F' : Addr → Prop) (i : Nat) x ρ H st, (∀ a, F' a → F a ∨ H0 a = none) → sr.1[i]? = some x → Stp ρ0 H0 ρ H → Rep G F' ρ st H → ckS sr st = true → J.go i H ∧ ∀ v H', J.yld i H v H' → (H' = H ∨ ∃ p o, H p = none ∧ NT o ∧ H' = upd H p o) ∧ RelD G (Nn F' ρ) H' x v
def rItG (G : Gm) : Rl Src It := fun F ρ H xs J => ItG G F ρ H xs J
abbrev rdG (G : Gm) (E : XK) (m : EM Src) : TI := rd G E (rItG G) m
section
variable {G : Gm} {E : XK}
def fLoopG (sr : Src) (t : Tgt) (b : SM) : List D → SM
  | [], sl, st => (match ckS sr st with
    | true => .nx sl st
    | false => .bad)
  | x :: xs, sl, st => (match ckS sr st with
    | true => (match tgM t x sl with
      | none => .bad
      | some sl1 => (match b sl1 st with
        | .nx sl' st' => fLoopG sr t b xs sl' st'
        | .ct sl' st' => fLoopG sr t b xs sl' st'
        | .bk sl' st' => .nx sl' st'
        | o => o))
    | false => .bad)
def sForG (m : EM Src) (t : Tgt) (b : SM) : SM := fun sl st => (m sl st).s fun sr st1 => fLoopG sr t b sr.1 sl st1
theorem rd_forG {m : EM Src} {t : Tgt} {b : SM} {D : Ends} {σ : L2.St} {H : Hp} (h : rdS G E (sForG m t b) D σ H) : tFor (rdG G E m) (tgTG G.K t) (rdS G E b) D σ H := by
  obtain ⟨F, ρ, sl, st, sk, R, h⟩ := h
  refine ⟨F, ρ, sl, st, sk, R, PostG.mono (PostS.part (R := rItG G) h) fun J H1 h1 => ?_⟩
  obtain ⟨sr, st1, ρ1, s1, R1, it, h1⟩ := h1
  obtain ⟨xs, oo⟩ := sr
  -- the invariant: what is left of the items
  refine ⟨fun i n σ H => n = xs.length - i ∧ i ≤ xs.length ∧ ∃ ρ sl st, Stp ρ1 H1 ρ H ∧ SlOk G F ρ H sl σ ∧ Rep G F ρ st H ∧ PostS G E F ρ H (fLoopG (xs, oo) t b (xs.drop i) sl st) D,
    ⟨xs.length, by simp, Nat.zero_le _, ρ1, sl, st1, Stp.refl _ _, sk.mono s1, R1, h1⟩, ?_⟩
  rintro i n σ2 H2 ⟨rfl, hi, ρ2, sl2, st2, s2, sk2, R2, h2⟩
  by_cases hlt : i < xs.length
  · right
    have hx : xs[i]? = some xs[i] := List.getElem?_eq_getElem hlt
    rw [List.drop_eq_getElem_cons hlt] at h2
    unfold fLoopG at h2
    cases ck : ckS (xs, oo) st2 with
    | false => rw [ck] at h2; exact h2.elim
    | true =>
    rw [ck] at h2
    obtain ⟨go, yl⟩ := it.go F i xs[i] ρ2 H2 st2 (fun _ z => .inl z) hx s2 R2 ck
    refine ⟨go, fun σ H => i + 1 ≤ xs.length ∧ ∃ ρ sl st, Stp ρ1 H1 ρ H ∧ SlOk G F ρ H sl σ ∧ Rep G F ρ st H ∧ PostS G E F ρ H (fLoopG (xs, oo) t b (xs.drop (i + 1)) sl st) D,
      fun σ' H' z => ⟨xs.length - (i + 1), by omega, rfl, z⟩, fun v H3 y3 => ?_⟩
    obtain ⟨e3, r3⟩ := yl v H3 y3
    have s3 : Stp ρ2 H2 ρ2 H3 := stp_yld e3
    have R3 := rep_yld R2 e3
    have h2' : PostS G E F ρ2 H2 (match tgM t xs[i] sl2 with
      | none => .bad
      | some sl1 => (match b sl1 st2 with
        | .nx sl' st' => fLoopG (xs, oo) t b (xs.drop (i + 1)) sl' st'
        | .ct sl' st' => fLoopG (xs, oo) t b (xs.drop (i + 1)) sl' st'
        | .bk sl' st' => .nx sl' st'
        | o => o)) D := h2
    cases q : tgM t xs[i] sl2 with
    | none => rw [q] at h2'; exact h2'.elim
    | some sl3 =>
      rw [q] at h2'
      refine tg_ok (vs := []) t r3 q (sk2.mono s3) fun σ3 sk3 _ => ⟨F, ρ2, sl3, st2, sk3, R3, ?_⟩
      have h3 : PostS G E F ρ2 H3 (match b sl3 st2 with
        | .nx sl' st' => fLoopG (xs, oo) t b (xs.drop (i + 1)) sl' st'
        | .ct sl' st' => fLoopG (xs, oo) t b (xs.drop (i + 1)) sl' st'
        | .bk sl' st' => .nx sl' st'
        | o => o) D := PostS.later s3 h2'
      cases q2 : b sl3 st2 with
      | nx sl' st' =>
        rw [q2] at h3
        exact fun ρ' H' σ' s' R' sk' => ⟨hlt, ρ', sl', st', (s2.trans s3).trans s', sk', R', PostS.later s' h3⟩
      | ct sl' st' =>
        rw [q2] at h3
        exact fun ρ' H' σ' s' R' sk' => ⟨hlt, ρ', sl', st', (s2.trans s3).trans s', sk', R', PostS.later s' h3⟩
      | bk sl' st' => rw [q2] at h3; exact h3
      | rt x st' => rw [q2] at h3; exact h3
      | exn c fs st' => rw [q2] at h3; exact h3
      | bad => rw [q2] at h3; exact h3
  · left
    have e : i = xs.length := by omega
    subst e
    rw [List.drop_length] at h2
    unfold fLoopG at h2
    cases ck : ckS (xs, oo) st2 with
    | false => rw [ck] at h2; exact h2.elim
    | true =>
      rw [ck] at h2
      exact ⟨it.stop F ρ2 H2 st2 (fun _ z => .inl z) s2 R2 ck, h2 ρ2 H2 σ2 (Stp.refl _ _) R2 sk2⟩
theorem q_forG {X : Cx} {tg iter : Expr} {body : List Stmt} {pos : Pos} {m : EM Src} {t : Tgt} {b : SM} (hK : G.K = X.K) (hp : PassesOwn (model X.prog X.w) X.A X.env X.xe) (hc : X.calm = true) (hi : PI X tg iter (rdG G E m)) (hg : PG X tg (tgTG X.K t)) (hb : PSs X body (rdS G E b))
    (hs : ∀ x, foldedSetIterable iter X.env x = pure x) : PS X (.For tg iter body [] pos) (rdS G E (sForG m t b)) := by
  refine PS.imp (ps_for hp hc hi hg hb hs) fun D σ H h => ?_
  have := rd_forG h
  rw [hK] at this
  exact this
def cLoopG (sr : Src) (t : Tgt) (c : EM Bool) (e : EM X) (sl0 : Slots) : List D → List D → Store → O (List D)
  | [], acc, st => (match ckS sr st with
    | true => .ok acc st
    | false => .bad)
  | x :: xs, acc, st => (match ckS sr st with
    | true => (match tgM t x sl0 with
      | none => .bad
      | some sl1 => (match c sl1 st with
        | .ok true st1 => (match e sl1 st1 with
          | .ok (.d y) st2 => cLoopG sr t c e sl0 xs (y :: acc) st2
          | _ => .bad)
        | .ok false st1 => cLoopG sr t c e sl0 xs acc st1
        | _ => .bad))
    | false => .bad)
def eCompG (mu : Bool) (vs : List Nat) (m : EM Src) (t : Tgt) (c : EM Bool) (e : EM X) : EM X := fun sl st => (m sl st).bind fun sr st1 => (match small sr.1.length with
  | true => (cLoopG sr t c e (wipeS sl vs) sr.1 [] st1).bind fun acc st2 => newL mu (revD acc []) st2
  | false => .bad)
theorem cLoopG_cons {sr : Src} {t : Tgt} {c : EM Bool} {e : EM X} {sl0 : Slots} {x : D} {xs acc : List D} {st : Store} {r : List D × Store} (h : cLoopG sr t c e sl0 (x :: xs) acc st = .ok r.1 r.2) :
    ckS sr st = true ∧ ∃ sl1 b st1, tgM t x sl0 = some sl1 ∧ c sl1 st = .ok b st1 ∧ ((b = false ∧ cLoopG sr t c e sl0 xs acc st1 = .ok r.1 r.2) ∨ (b = true ∧ ∃ y st2, e sl1 st1 = .ok (.d y) st2 ∧ cLoopG sr t c e sl0 xs (y :: acc) st2 = .ok r.1 r.2)) := by
  unfold cLoopG at h
  cases ck : ckS sr st with
  | false => rw [ck] at h; cases h
  | true =>
  rw [ck] at h
  refine ⟨rfl, ?_⟩
  simp only at h
  cases q : tgM t x sl0 with
  | none => rw [q] at h; cases h
  | some sl1 =>
    rw [q] at h
    simp only at h
    cases q2 : c sl1 st with
    | bad => rw [q2] at h; cases h
    | exn _ _ _ => rw [q2] at h; cases h
    | ok b st1 =>
      rw [q2] at h
      cases b with
      | false => exact ⟨sl1, false, st1, rfl, q2, .inl ⟨rfl, h⟩⟩
      | true =>
        simp only at h
        cases q3 : e sl1 st1 with
        | bad => rw [q3] at h; cases h
        | exn _ _ _ => rw [q3] at h; cases h
        | ok y st2 =>
          rw [q3] at h
          cases y with
          | loc l => cases h
          | d y => exact ⟨sl1, true, st1, rfl, q2, .inr ⟨rfl, y, st2, q3, h⟩⟩
theorem cLoopG_exn {sr : Src} {t : Tgt} {c : EM Bool} {e : EM X} {sl0 : Slots} : ∀ (xs acc : List D) (st : Store) (k : Nat) (fs : List (Nat × D)) (st' : Store), cLoopG sr t c e sl0 xs acc st ≠ .exn k fs st'
  | [], acc, st, k, fs, st' => by unfold cLoopG; cases ckS sr st <;> (intro z; cases z)
  | x :: xs, acc, st, k, fs, st' => by
    unfold cLoopG
    cases ckS sr st with
    | false => intro z; cases z
    | true =>
    simp only
    cases tgM t x sl0 with
    | none => intro z; cases z
    | some sl1 =>
      simp only
      cases c sl1 st with
      | bad => intro z; cases z
      | exn _ _ _ => intro z; cases z
      | ok b st1 =>
        cases b with
        | false => exact cLoopG_exn xs acc st1 k fs st'
        | true =>
          simp only
          cases e sl1 st1 with
          | bad => intro z; cases z
          | exn _ _ _ => intro z; cases z
          | ok y st2 =>
            cases y with
            | loc l => intro z; cases z
            | d y => exact cLoopG_exn xs (y :: acc) st2 k fs st'
theorem rd_compG {mu : Bool} {vs : List Nat} {m : EM Src} {t : Tgt} {c : EM Bool} {e : EM X} {σ : L2.St} {H : Hp} {Q : VK} (hin : tgIn vs t = true) (h : rdE G E (eCompG mu vs m t c e) σ H Q) : tLc (rdG G E m) (tgTG G.K t) (rdT G E0 c) (rdE G E0 e) vs σ H Q := by
  obtain ⟨F, ρ, sl, st, sk, R, h⟩ := h
  refine ⟨F, ρ, sl, st, sk, R, PostG.mono (PostG.bind (R := rItG G) h) fun J H1 h1 => ?_⟩
  obtain ⟨sr, st1, ρ1, s1, R1, it, h1⟩ := h1
  obtain ⟨xs, oo⟩ := sr
  intro d hd
  cases z : small xs.length with
  | false => simp only [z] at h1; exact h1.elim
  | true =>
    simp only [z] at h1
    have hsz : xs.length ≤ 16777216 := Nat.le_of_ble_eq_true z
    have hline : sizeLine = 16777216 := by decide
    have nF : ¬ F d := fun y => by
      obtain ⟨o, q, _⟩ := R1.fin d y
      rw [hd] at q; cases q
    cases ql : cLoopG (xs, oo) t c e (wipeS sl vs) xs [] st1 with
    | bad => rw [ql] at h1; exact h1.elim
    | exn k fs st' => exact absurd ql (cLoopG_exn xs [] st1 k fs st')
    | ok acc' st' =>
      rw [ql] at h1
      have h1 : PostG G E (rX G) F ρ1 H1 (newL mu (revD acc' []) st') Q := h1
      refine ⟨fun i n H => n = xs.length - i ∧ i ≤ xs.length ∧ ∃ ρ st acc ws, Stp ρ1 H1 ρ H ∧ Rep G (F1 F d) ρ st H ∧ H d = some (.lst ws) ∧ RelDs G (Nn (F1 F d) ρ) H acc.reverse ws ∧ acc.length ≤ i ∧ cLoopG (xs, oo) t c e (wipeS sl vs) (xs.drop i) acc st = .ok acc' st',
        ⟨xs.length, by simp, Nat.zero_le _, ρ1, st1, [], [], stp_new hd, rep_F1 R1 hd, upd_same, (show RelDs G (Nn (F1 F d) ρ1) (upd H1 d (.lst [])) [] [] from rfl), Nat.le_refl _, ql⟩, ?_⟩
      rintro i n H2 ⟨rfl, hi, ρ2, st2, acc, ws, s2, R2, hD2, rel2, hacc, hl2⟩
      have nd2 : d ∉ ρ2 := fun y => R2.dis d y (.inr rfl)
      by_cases hlt : i < xs.length
      · right
        have hx : xs[i]? = some xs[i] := List.getElem?_eq_getElem hlt
        rw [List.drop_eq_getElem_cons hlt] at hl2
        obtain ⟨ck, sl1, b, st3, q1, q2, q3⟩ := cLoopG_cons (r := (acc', st')) hl2
        obtain ⟨go, yl⟩ := it.go (F1 F d) i xs[i] ρ2 H2 st2 (fun a y => y.imp id fun q => by rw [q]; exact hd) hx s2 R2 ck
        refine ⟨go, fun H => i + 1 ≤ xs.length ∧ ∃ ρ st acc ws, Stp ρ1 H1 ρ H ∧ Rep G (F1 F d) ρ st H ∧ H d = some (.lst ws) ∧ RelDs G (Nn (F1 F d) ρ) H acc.reverse ws ∧ acc.length ≤ i + 1 ∧ cLoopG (xs, oo) t c e (wipeS sl vs) (xs.drop (i + 1)) acc st = .ok acc' st',
          fun H' y => ⟨xs.length - (i + 1), by omega, rfl, y⟩, fun v H3 y3 => ?_⟩
        obtain ⟨e3, r3⟩ := yl v H3 y3
        have s3 : Stp ρ2 H2 ρ2 H3 := stp_yld e3
        have R3 := rep_yld R2 e3
        have hD3 : H3 d = some (.lst ws) := s3.keep d _ hD2 (fun ps y => by cases y) nd2
        have sk' : SlOk G (F1 F d) ρ2 H3 (wipeS sl vs) (wipe σ vs) := (wipeS_ok (sk.mono s1) vs).mv (keeps_F1 (s2.trans s3) hd) (s2.trans s3).pre
        refine tg_ok (vs := vs) t r3 q1 sk' fun σ3 sk3 w3 => ⟨by rw [w3 hin, wipe_wipe], F1 F d, ρ2, sl1, st2, sk3, R3, ?_⟩
        rw [q2]
        intro ρ4 H4 b' s4 R4 eb
        obtain rfl : b = b' := eb
        have hD4 : H4 d = some (.lst ws) := s4.keep d _ hD3 (fun ps y => by cases y) nd2
        rcases q3 with ⟨hb, q3⟩ | ⟨hb, y, st4, q3, q4⟩
        · subst hb
          refine iteF ⟨hlt, ρ4, st3, acc, ws, (s2.trans s3).trans s4, R4, hD4, RelDs.mono (s3.trans s4).keeps _ rel2, by omega, q3⟩
        · subst hb
          refine iteT ⟨F1 F d, ρ4, sl1, st3, sk3.mono s4, R4, ?_⟩
          rw [q3]
          intro ρ5 H5 w s5 R5 rw5
          have nd4 : d ∉ ρ4 := fun y => R4.dis d y (.inr rfl)
          have hD5 : H5 d = some (.lst ws) := s5.keep d _ hD4 (fun ps y => by cases y) nd4
          have hws : ws.length = acc.length := by rw [rel2.length, List.length_reverse]
          refine ⟨ws, hD5, by omega, hlt, ρ5, st4, y :: acc, ws ++ [w], stp_own (((s2.trans s3).trans s4).trans s5) hd, rep_own R5 hD5, upd_same, ?_, by rw [List.length_cons]; omega, q4⟩
          rw [List.reverse_cons]
          exact RelDs.append (RelDs.mono keeps_own _ (RelDs.mono ((s3.trans s4).trans s5).keeps _ rel2)) (RelDs.one (RelD.mono keeps_own y rw5))
      · left
        have ei : i = xs.length := by omega
        subst ei
        rw [List.drop_length] at hl2
        have e1 : ckS (xs, oo) st2 = true ∧ acc = acc' ∧ st2 = st' := by
          unfold cLoopG at hl2
          cases ck : ckS (xs, oo) st2 with
          | false => rw [ck] at hl2; cases hl2
          | true =>
            rw [ck] at hl2
            injection hl2 with a1 a2
            exact ⟨rfl, a1, a2⟩
        obtain ⟨ck, e1, e2⟩ := e1
        subst e1 e2
        refine ⟨it.stop (F1 F d) ρ2 H2 st2 (fun a y => y.imp id fun q => by rw [q]; exact hd) s2 R2 ck, ?_⟩
        have er : revD acc [] = acc.reverse := by rw [revD_eq, List.append_nil]
        cases mu with
        | false =>
          refine h1 ρ2 H2 (.ref d) s2 (rep_unF1 R2) ⟨d, ws, rfl, ⟨hD2, fun y => y.elim nF nd2⟩, ?_⟩
          rw [er]
          exact RelDs.mono keeps_unF1 _ rel2
        | true =>
          refine h1 (ρ2 ++ [d]) H2 (.ref d) ⟨s2.keep, ?_, fun a y => ?_, s2.some⟩ ?_ ⟨d, ?_, rfl⟩
          · obtain ⟨mm, em⟩ := s2.pre
            exact ⟨mm ++ [d], by rw [em, List.append_assoc]⟩
          · rcases List.mem_append.mp y with y | y
            · exact s2.new a y
            · have : a = d := by simpa using y
              rw [this]; exact .inr fun o q => by rw [hd] at q; cases q
          · rw [er]; exact rep_adopt R2 nF hD2 rel2
          · rw [← R2.len]; simp
theorem q_compG {X : Cx} {elt tg iter : Expr} {ifs : List Expr} {scope : Scope} {own : List (Str × Nat)} {pos : Pos} {mu : Bool} {m : EM Src} {t : Tgt} {c : EM Bool} {e : EM DH.X} (hK : G.K = X.K) (hc : X.calm = true) (hN : X.N.Nodup) (hi : PI X tg iter (rdG G E m)) (ok : BlkOk X.N X.env.scope scope own) (hin : tgIn (own.map (·.2)) t = true)
    (hg : ∀ (s : Shared) (H : Hp) (C : Addr) (cl : List (Str × Addr)) (fp : List Addr), PG (X.blk s H scope (compEnvC scope cl C X.env) fp) tg (tgTG X.K t)) (ht : ∀ (s : Shared) (H : Hp) (C : Addr) (cl : List (Str × Addr)) (fp : List Addr), PTs (X.blk s H scope (compEnvC scope cl C X.env) fp) ifs (rdT G E0 c))
    (he : ∀ (s : Shared) (H : Hp) (C : Addr) (cl : List (Str × Addr)) (fp : List Addr), PE (X.blk s H scope (compEnvC scope cl C X.env) fp) elt (rdE G E0 e)) (hs : ∀ x, foldedSetIterable iter X.env x = pure x) :
    PE X (.ListComp elt [⟨tg, iter, ifs, 0⟩] scope pos) (rdE G E (eCompG mu (own.map (·.2)) m t c e)) := by
  refine PE.imp (pe_lc hc hN hi ok hg ht he hs) fun σ H Q h => ?_
  have := rd_compG hin h
  rw [hK] at this
  exact this
theorem q_setCompG {X : Cx} {i : Nat} {y : Str} {py spos : Pos} {elt tg iter : Expr} {ifs : List Expr} {scope : Scope} {own : List (Str × Nat)} {pos : Pos} {mu : Bool} {m : EM Src} {t : Tgt} {c : EM Bool} {e : EM DH.X} (hK : G.K = X.K) (hc : X.calm = true) (hN : X.N.Nodup) (hy : X.N[i]? = some y) (hyl : X.env.scope.names.lookup y = some .local)
    (hsw : swapsWith (.ListComp elt [⟨tg, iter, ifs, 0⟩] scope pos) (some (.Name y py)) spos.line X.env = pure true) (hi : PI X tg iter (rdG G E m)) (ok : BlkOk X.N X.env.scope scope own) (hin : tgIn (own.map (·.2)) t = true)
    (hg : ∀ (s : Shared) (H : Hp) (C : Addr) (cl : List (Str × Addr)) (fp : List Addr), PG (X.blk s H scope (compEnvC scope cl C X.env) fp) tg (tgTG X.K t)) (ht : ∀ (s : Shared) (H : Hp) (C : Addr) (cl : List (Str × Addr)) (fp : List Addr), PTs (X.blk s H scope (compEnvC scope cl C X.env) fp) ifs (rdT G E0 c))
    (he : ∀ (s : Shared) (H : Hp) (C : Addr) (cl : List (Str × Addr)) (fp : List Addr), PE (X.blk s H scope (compEnvC scope cl C X.env) fp) elt (rdE G E0 e)) (hs : ∀ x, foldedSetIterable iter X.env x = pure x) :
    PS X (.Assign [.Name y py] (.ListComp elt [⟨tg, iter, ifs, 0⟩] scope pos) spos) (rdS G E (sSet i (eCompG mu (own.map (·.2)) m t c e))) := by
  refine PS.imp (ps_setLc hc hN hy hyl hsw hi ok hg ht he hs) fun D σ H h => ?_
  have h' := rd_set h
  have := rd_compG hin h'
  rw [hK] at this
  exact this

/-! ### sources -/
def srcD (m : EM (List D)) : EM Src := fun sl st => (m sl st).bind fun xs st1 => .ok (xs, none) st1
theorem ItOk.g {F : Addr → Prop} {ρ : List Addr} {H : Hp} {xs : List D} {J : It} (h : ItOk G F ρ H xs J) : ItG G F ρ H (xs, none) J :=
  ⟨fun _ ρ' H' _ _ s _ _ => h.stop ρ' H' s, fun F' i x ρ' H' st hF hx s R _ => h.go F' i x ρ' H' st hF hx s R⟩
variable {X : Cx}
theorem q_src {tg l : Expr} {m : EM (List D)} (h : PI X tg l (rdI G E m)) : PI X tg l (rdG G E (srcD m)) := by
  refine PI.imp h fun σ H Q h => ?_
  obtain ⟨F, ρ, sl, st, sk, R, h⟩ := h
  refine ⟨F, ρ, sl, st, sk, R, PostG.mono (PostG.bind (R := rIt G) h) fun J H1 h1 => ?_⟩
  obtain ⟨xs, st1, ρ1, s1, R1, it, h1⟩ := h1
  exact PostG.now (R := rItG G) h1 R1 it.g
def iSeqX (m : EM DH.X) : EM Src := fun sl st => (m sl st).bind fun x st1 => match x with
  | .d (.tup _ xs) => .ok (xs, none) st1
  | .d (.lst xs) => .ok (xs, none) st1
  | .loc l => (match st1[l]? with
    | some (.lst xs) => .ok (xs, some l) st1
    | _ => .bad)
  | _ => .bad
theorem it_loc {F : Addr → Prop} {ρ : List Addr} {H : Hp} {a : Addr} {l : Nat} {xs : List D} (e : ρ[l]? = some a) : ItG G F ρ H (xs, some l) (Itl G.K a) where
  stop := fun F' ρ' H' st hF s R ck => by
    obtain ⟨m, em⟩ := s.pre
    have e' : ρ'[l]? = some a := by rw [em, List.getElem?_append_left (List.getElem?_eq_some_iff.mp e).1]; exact e
    have ck : (match st[l]? with | some (.lst ys) => sameDs ys xs | _ => false) = true := ck
    split at ck
    · rename_i ys q
      have := sameDs_eq _ _ ck
      subst this
      obtain ⟨vs, h1, h2⟩ := R.obj l a _ e' q
      exact ⟨vs, SqL.of h1, by rw [h2.length]; exact Nat.le_refl _⟩
    · cases ck
  go := fun F' i x ρ' H' st hF hx s R ck => by
    obtain ⟨m, em⟩ := s.pre
    have e' : ρ'[l]? = some a := by rw [em, List.getElem?_append_left (List.getElem?_eq_some_iff.mp e).1]; exact e
    have ck : (match st[l]? with | some (.lst ys) => sameDs ys xs | _ => false) = true := ck
    split at ck
    · rename_i ys q
      have := sameDs_eq _ _ ck
      subst this
      obtain ⟨vs, h1, h2⟩ := R.obj l a _ e' q
      obtain ⟨v, hv, rv⟩ := h2.get hx
      refine ⟨⟨vs, v, SqL.of h1, hv⟩, fun w H2 y => ?_⟩
      obtain ⟨e1, e2⟩ := y
      refine ⟨.inl e1, ?_⟩
      have hw := e2 vs (SqL.of h1)
      rw [hv] at hw
      cases hw
      rw [e1]
      exact rv
    · cases ck
theorem q_seqX {tg l : Expr} {m : EM DH.X} (hK : G.K = X.K) (hl : PE X l (rdE G E m)) : PI X tg l (rdG G E (iSeqX m)) := by
  refine PI.imp (pi_seq hl) fun σ H Q h => ?_
  obtain ⟨F, ρ, sl, st, sk, R, h⟩ := h
  refine ⟨F, ρ, sl, st, sk, R, PostG.mono (PostG.bind (R := rX G) h) fun v H1 h1 => ?_⟩
  obtain ⟨x, st1, ρ1, s1, R1, r1, h1⟩ := h1
  cases x with
  | loc l0 =>
    simp only at h1
    cases q : st1[l0]? with
    | none => simp only [q] at h1; exact h1.elim
    | some mo =>
      cases mo with
      | lst xs =>
        simp only [q] at h1
        obtain ⟨a, ea, ev⟩ := r1
        obtain ⟨vs, e2, r2⟩ := R1.obj l0 a _ ea q
        refine ⟨a, ev, .inl ⟨⟨vs, SqL.of e2⟩, ?_⟩⟩
        rw [← hK]
        exact PostG.now (R := rItG G) h1 R1 (it_loc ea)
      | dct _ _ => simp only [q] at h1; exact h1.elim
      | ins _ _ => simp only [q] at h1; exact h1.elim
      | orc _ => simp only [q] at h1; exact h1.elim
  | d y =>
    cases y with
    | tup f xs =>
      obtain ⟨a, vs, ev, fz, rs⟩ := r1
      have fs := fz.sq
      rw [hK] at fs
      refine ⟨a, ev, .inr ⟨⟨vs, fs⟩, ?_⟩⟩
      rw [← hK]
      exact PostG.now (R := rItG G) h1 R1 (it_tup fz rs).g
    | lst xs =>
      obtain ⟨a, vs, ev, fz, rs⟩ := r1
      refine ⟨a, ev, .inl ⟨⟨vs, SqL.of fz.1⟩, ?_⟩⟩
      rw [← hK]
      exact PostG.now (R := rItG G) h1 R1 (it_list fz rs).g
    | _ => exact h1.elim
end
end DH
namespace DH
open PySem PySem.Spec PyProof.Rows L2
section
variable {X : Cx} {G : Gm} {E : XK} {e : Expr} {lo hi : Option Expr} {pos p2 : Pos}
/-! ### t + u, either may be empty -/
def fAdd (mu : Bool) : DH.X → DH.X → Store → O DH.X := fun x y st => match x, y with
  | .d (.tup f a), .d (.tup g b) => (match small (a.length + b.length) with
    | true => (match a with
      | [] => .ok (.d (.tup g b)) st
      | _ :: _ => (match b with
        | [] => .ok (.d (.tup f a)) st
        | _ :: _ => newT (a ++ b) st))
    | false => .bad)
  | x, y => f2 (gAdd mu) x y st
abbrev rAddX (K : PySem.W.Frag) : R2 := fun x y H Q => rAddAll K x y H Q ∨ rCatA K x y H Q
theorem add_allX : OpR X (binaryOp .Add) (rAddX X.K) := add_all.or op_catA
theorem addX_v {mu : Bool} : OpV G (rAddX G.K) (fAdd mu) := by
  intro E F ρ H st x y v w Q R rx ry h
  unfold fAdd at h
  split at h
  · rename_i f a g b
    cases z : small (a.length + b.length) with
    | false => rw [z] at h; exact h.elim
    | true =>
      rw [z] at h
      obtain ⟨p, vs, e1, f1, r1⟩ := rx
      obtain ⟨q, ws, e2, f2, r2⟩ := ry
      have l1 := r1.length
      have l2 := r2.length
      refine .inr ⟨p, q, vs, ws, e1, e2, f1.sq, f2.sq, by rw [l1, l2]; exact small_ok z, fun hv => ?_, fun hv hw => ?_, fun hv hw => ?_⟩
      · cases a with
        | cons _ _ => subst hv; cases l1
        | nil => exact PostG.now (R := rX G) h R (show RelX G F ρ H (.d (.tup g b)) (.ref q) from ⟨q, ws, rfl, f2, r2⟩)
      · cases a with
        | nil => exact absurd (List.length_eq_zero_iff.mp l1) hv
        | cons a0 a1 =>
          cases b with
          | cons _ _ => subst hw; cases l2
          | nil => exact PostG.now (R := rX G) h R (show RelX G F ρ H (.d (.tup f (a0 :: a1))) (.ref p) from ⟨p, vs, rfl, f1, r1⟩)
      · cases a with
        | nil => exact absurd (List.length_eq_zero_iff.mp l1) hv
        | cons a0 a1 =>
          cases b with
          | nil => exact absurd (List.length_eq_zero_iff.mp l2) hw
          | cons b0 b1 => exact fun a ha => newT_ok R (r1.append r2) ha h
  · exact .inl (add_v E F ρ H st x y v w Q R rx ry h)
/-! ### slices -/
def sIxM (n d : Nat) : Option Int → Nat
  | none => d
  | some v => (match ltI v 0 with
    | true => (v + Int.ofNat n).toNat
    | false => (match Nat.ble v.toNat n with
      | true => v.toNat
      | false => n))
theorem sIxM_eq (n d : Nat) (o : Option Int) : sIxM n d o = HT.sIx n d o := by
  cases o with
  | none => rfl
  | some v =>
    show (match ltI v 0 with | true => (v + Int.ofNat n).toNat | false => (match Nat.ble v.toNat n with | true => v.toNat | false => n)) = (if v < 0 then (v + (n : Int)).toNat else min v.toNat n)
    have e := ltI_eq v 0
    by_cases h : v < 0
    · rw [if_pos h]
      rw [decide_eq_true h] at e
      rw [e]
      rfl
    · rw [if_neg h]
      rw [decide_eq_false h] at e
      rw [e]
      simp only
      cases q : Nat.ble v.toNat n with
      | true =>
        have := Nat.le_of_ble_eq_true q
        exact (Nat.min_eq_left this).symm
      | false =>
        have : n ≤ v.toNat := by
          refine Nat.le_of_not_le fun z => ?_
          rw [Nat.ble_eq_true_of_le z] at q
          cases q
        exact (Nat.min_eq_right this).symm
def cutM {α : Type} (xs : List α) (lo hi : Option Int) : List α := (xs.drop (sIxM xs.length 0 lo)).take (sIxM xs.length xs.length hi - sIxM xs.length 0 lo)
def gSl (mu : Bool) (x : DH.X) (lo hi : Option Int) (st : Store) : O DH.X := match x with
  | .d (.tup f xs) => (match Nat.beq (sIxM xs.length 0 lo) 0 && Nat.beq (sIxM xs.length xs.length hi) xs.length with
    | true => .ok (.d (.tup f xs)) st
    | false => newT (cutM xs lo hi) st)
  | .d (.str cs) => (match small cs.length with
    | true => .ok (.d (.str (cutM cs lo hi))) st
    | false => .bad)
  | x => (match deref st x with
    | some (.lst xs) => newL mu (cutM xs lo hi) st
    | _ => .bad)
/-- a part of a slice -/
def eNoP : EM (Option Int) := fun _ st => .ok none st
def eP (m : EM DH.X) : EM (Option Int) := fun sl st => (m sl st).bind fun x st1 => match x with
  | .d (.int i) => .ok (some i) st1
  | _ => .bad
def rOI : Rl (Option Int) (Option Int) := fun _ _ _ a b => a = b
abbrev rdO (G : Gm) (E : XK) (m : EM (Option Int)) : TO := rd G E rOI m
theorem PO.imp {o : Option Expr} {t t' : TO} (h : PO X o t) (k : ∀ σ H Q, t' σ H Q → t σ H Q) : PO X o t' := ⟨fun p s σ H Q I q => h.run p s σ H Q I (k σ H Q q)⟩
theorem q_noP : PO X none (rdO G E eNoP) := by
  refine PO.imp po_none fun σ H Q h => ?_
  obtain ⟨F, ρ, sl, st, sk, R, h⟩ := h
  exact PostG.now (R := rOI) h R rfl
theorem q_P {m : EM DH.X} (h : PE X e (rdE G E m)) : PO X (some e) (rdO G E (eP m)) := by
  refine PO.imp (po_some h) fun σ H Q h => ?_
  obtain ⟨F, ρ, sl, st, sk, R, h⟩ := h
  refine ⟨F, ρ, sl, st, sk, R, PostG.mono (PostG.bind (R := rX G) h) fun v H1 h1 => ?_⟩
  obtain ⟨x, st1, ρ1, s1, R1, r1, h1⟩ := h1
  cases x with
  | loc _ => exact h1.elim
  | d y =>
    cases y with
    | int i => exact ⟨i, r1, PostG.now (R := rOI) h1 R1 rfl⟩
    | _ => exact h1.elim
def eSl (mu : Bool) (m : EM DH.X) (lo hi : EM (Option Int)) : EM DH.X := fun sl st => (m sl st).bind fun x st1 => (lo sl st1).bind fun l st2 => (hi sl st2).bind fun h st3 => gSl mu x l h st3
abbrev rSlX (K : PySem.W.Frag) : V → Option Int → Option Int → Hp → VK → Prop := fun x lo hi H Q => rSlL K x lo hi H Q ∨ (fun x lo hi H Q => rSlA K x lo hi H Q ∨ rSlS x lo hi H Q) x lo hi H Q
theorem sl_all : SlR X (rSlX X.K) := sl_list.or (sl_tupA.or sl_str)
theorem cut_rel {N : Addr → Prop} {H : Hp} {xs : List D} {vs : List V} (r : RelDs G N H xs vs) (lo hi : Option Int) : RelDs G N H (cutM xs lo hi) (cutV vs lo hi) := by
  unfold cutM cutV
  rw [sIxM_eq, sIxM_eq, r.length]
  exact (r.drop _).take _
theorem sl_v {mu : Bool} {F : Addr → Prop} {ρ : List Addr} {H : Hp} {st : Store} {x : DH.X} {v : V} {lo hi : Option Int} {Q : VK} (R : Rep G F ρ st H) (rx : RelX G F ρ H x v) (h : PostG G E (rX G) F ρ H (gSl mu x lo hi st) Q) : rSlX G.K v lo hi H Q := by
  have lcase : ∀ xs, deref st x = some (.lst xs) → PostG G E (rX G) F ρ H (newL mu (cutM xs lo hi) st) Q → rSlX G.K v lo hi H Q := fun xs q h => by
    obtain ⟨a, vs, e, f, r⟩ := view R rx q
    exact .inl ⟨a, vs, e, SqL.of f, fun p hp => newL_ok R (cut_rel r lo hi) hp h⟩
  unfold gSl at h
  split at h
  · rename_i f xs
    obtain ⟨a, vs, e, fz, r⟩ := rx
    refine .inr (.inl ⟨a, vs, e, fz.sq, fun hw => ?_, fun hw p hp => ?_⟩)
    · have : (Nat.beq (sIxM xs.length 0 lo) 0 && Nat.beq (sIxM xs.length xs.length hi) xs.length) = true := by
        rw [sIxM_eq, sIxM_eq, ← r.length, hw.1, hw.2, Nat.beq_refl, Nat.beq_refl]; rfl
      rw [this] at h
      exact PostG.now (R := rX G) h R (show RelX G F ρ H (.d (.tup f xs)) (.ref a) from ⟨a, vs, rfl, fz, r⟩)
    · have : (Nat.beq (sIxM xs.length 0 lo) 0 && Nat.beq (sIxM xs.length xs.length hi) xs.length) = false := by
        cases z : (Nat.beq (sIxM xs.length 0 lo) 0 && Nat.beq (sIxM xs.length xs.length hi) xs.length) with
        | false => rfl
        | true =>
          obtain ⟨z1, z2⟩ := Bool.and_eq_true_iff.mp z
          have z1 := Nat.eq_of_beq_eq_true z1
          have z2 := Nat.eq_of_beq_eq_true z2
          rw [sIxM_eq, ← r.length] at z1 z2
          exact absurd ⟨z1, z2⟩ hw
      rw [this] at h
      exact newT_ok R (cut_rel r lo hi) hp h
  · rename_i cs
    cases z : small cs.length with
    | false => rw [z] at h; exact h.elim
    | true =>
      rw [z] at h
      have e : v = .str (strOf cs) := rx
      refine .inr (.inr ⟨strOf cs, e, by rw [str_len]; exact small_ok z, ?_⟩)
      have : cutS (strOf cs) lo hi = strOf (cutM cs lo hi) := by
        unfold cutS cutM
        rw [str_len, sIxM_eq, sIxM_eq]
        show (⟨((cs.toArray.toList.drop _).take _).toArray⟩ : Str) = ⟨_⟩
        simp
      rw [this]
      exact now1 R h rfl
  · split at h
    · rename_i xs q
      exact lcase xs q h
    · exact h.elim
theorem q_slice {mu : Bool} {m : EM DH.X} {ml mh : EM (Option Int)} (hK : G.K = X.K) (he : PE X e (rdE G E m)) (hl : PO X lo (rdO G E ml)) (hh : PO X hi (rdO G E mh)) : PE X (.Subscript e (.Slice lo hi none p2) pos) (rdE G E (eSl mu m ml mh)) := by
  refine PE.imp (pe_slice sl_all he hl hh) fun σ H Q h => ?_
  obtain ⟨F, ρ, sl, st, sk, R, h⟩ := h
  refine ⟨F, ρ, sl, st, sk, R, PostG.mono (PostG.bind (R := rX G) h) fun v H1 h1 => ?_⟩
  obtain ⟨x, st1, ρ1, s1, R1, r1, h1⟩ := h1
  refine ⟨F, ρ1, sl, st1, sk.mono s1, R1, PostG.mono (PostG.bind (R := rOI) h1) fun l H2 h2 => ?_⟩
  obtain ⟨l', st2, ρ2, s2, R2, r2, h2⟩ := h2
  obtain rfl : l' = l := r2
  refine ⟨F, ρ2, sl, st2, (sk.mono s1).mono s2, R2, PostG.mono (PostG.bind (R := rOI) h2) fun u H3 h3 => ?_⟩
  obtain ⟨u', st3, ρ3, s3, R3, r3, h3⟩ := h3
  obtain rfl : u' = u := r3
  rw [← hK]
  exact sl_v R3 ((r1.mono s2).mono s3) h3
/-! ### dict(list of pairs), keys ints or texts -/
def dictD : List D → List (D × D) → Option (List (D × D))
  | [], acc => some acc
  | x :: r, acc => (match x with
    | .tup _ [k, v] => (match keyOk false k with
      | true => dictD r (putD k v acc)
      | false => none)
    | _ => none)
def newD (mu : Bool) (t : Bool) (kvs : List (D × D)) (st : Store) : O DH.X := match mu with
  | true => .ok (.loc st.length) (st ++ [.dct t kvs])
  | false => .ok (.d (.dct t kvs)) st
theorem newDK_ok {F : Addr → Prop} {ρ : List Addr} {H : Hp} {st : Store} {mu : Bool} {kvs : List (D × D)} {ps : List (Key × V)} {Q : VK} {p : Addr} (R : Rep G F ρ st H) (r : RelK G (Nn F ρ) H kvs ps) (hp : H p = none) (h : PostG G E (rX G) F ρ H (newD mu false kvs st) Q) : Q (.ref p) (upd H p (.dK ps)) := by
  cases mu with
  | true =>
    have s : Stp ρ H (ρ ++ [p]) (upd H p (.dK ps)) := stp_more hp
    exact h (ρ ++ [p]) (upd H p (.dK ps)) (.ref p) s (R.more hp (.inl ⟨ps, upd_same, rfl, RelK.mono s.keeps kvs r⟩)) ⟨p, by rw [← R.len]; simp, rfl⟩
  | false =>
    have s : Stp ρ H ρ (upd H p (.dK ps)) := stp_new hp
    exact h ρ (upd H p (.dK ps)) (.ref p) s (R.new hp) ⟨p, rfl, R.fresh hp, .inl ⟨ps, upd_same, rfl, RelK.mono s.keeps kvs r⟩⟩
theorem dictD_ok {N : Addr → Prop} {H : Hp} : ∀ {xs : List D} {vs : List V} {acc kvs : List (D × D)} {aps : List (Key × V)}, RelDs G N H xs vs → RelK G N H acc aps → dictD xs acc = some kvs →
    ∃ (ps : List Addr) (more : List (Key × V)), vs = ps.map V.ref ∧ Paired (fun p kv => SqT G.K H p [kV kv.1, kv.2]) ps more ∧ RelK G N H kvs (mergeK aps more)
  | [], vs, acc, kvs, aps, r, ra, h => by
    have e : acc = kvs := Option.some.inj h
    subst e
    have e2 : vs = [] := r
    subst e2
    exact ⟨[], [], rfl, .nil, ra⟩
  | x :: xs, vs, acc, kvs, aps, r, ra, h => by
    obtain ⟨v, t, rfl, r1, r2⟩ := r
    unfold dictD at h
    split at h
    · rename_i f k y
      cases z : keyOk false k with
      | false => rw [z] at h; cases h
      | true =>
        rw [z] at h
        obtain ⟨kk, hk⟩ := keyOk_k z
        obtain ⟨a, ws, rfl, fz, rws⟩ := r1
        obtain ⟨w1, t1, e1, rk, w2, t2, e2, ry, e3⟩ := rws
        have e3 : t2 = [] := e3
        subst e3 e2 e1
        have ew : w1 = kV kk := key_val hk rk
        subst ew
        obtain ⟨ps, more, e4, pp, rr⟩ := dictD_ok (aps := putK aps kk w2) r2 (putD_k hk ry ra) h
        exact ⟨a :: ps, (kk, w2) :: more, by rw [e4]; rfl, .cons fz.sq pp, rr⟩
    · cases h
def gDict (mu : Bool) : D → Store → O DH.X
  | .lst xs, st => (match dictD xs [] with
    | some kvs => newD mu false kvs st
    | none => .bad)
  | _, _ => .bad
abbrev rDictP (K : PySem.W.Frag) : List V → Hp → VK → Prop := fun xs H Q => ∃ (a : Addr) (ps : List Addr) (kvs : List (Key × V)), xs = [.ref a] ∧ SqL K H a (ps.map V.ref) ∧ Paired (fun p kv => SqT K H p [kV kv.1, kv.2]) ps kvs ∧ ∀ p, H p = none → Q (.ref p) (upd H p (.dK (mergeK [] kvs)))
theorem dict_v {mu : Bool} : CallV G (rDictP G.K) (f1 (gDict mu)) := cal1 fun E F ρ H st a v Q R ra h => by
  cases a with
  | lst xs =>
    unfold gDict at h
    cases z : dictD xs [] with
    | none => simp only [z] at h; exact h.elim
    | some kvs =>
      simp only [z] at h
      obtain ⟨p, vs, e, f, r⟩ := ra
      obtain ⟨ps, more, e4, pp, rr⟩ := dictD_ok (aps := []) r (show RelK G (Nn F ρ) H [] [] from rfl) z
      subst e4
      exact ⟨p, ps, more, by rw [e], SqL.of f, pp, fun q hq => newDK_ok R rr hq h⟩
  | _ => exact h.elim
/-! ### a and b, a or b, not a, of bools, as values -/
variable {a b : Expr} {rest : List Expr} {ma mb : EM DH.X}
theorem q_oneV {op : BoolOp} (h : PE X a (rdE G E ma)) : PE X (.BoolOp op [a] pos) (rdE G E ma) := ⟨fun p s σ H Q I q => BoolOp_one (h.run p s σ H Q I q)⟩
theorem q_orV (ha : PE X a (rdE G E ma)) (hb : PE X (.BoolOp .Or (b :: rest) pos) (rdE G E mb)) : PE X (.BoolOp .Or (a :: b :: rest) pos) (rdE G E (eOrV ma mb)) := by
  refine PE.imp (pe_orT ha hb) fun σ H Q h => ?_
  obtain ⟨F, ρ, sl, st, sk, R, h⟩ := h
  refine ⟨F, ρ, sl, st, sk, R, PostG.mono (PostG.bind (R := rX G) h) fun v H1 h1 => ?_⟩
  obtain ⟨x, st1, ρ1, s1, R1, r1, h1⟩ := h1
  cases x with
  | loc _ => exact h1.elim
  | d y =>
    cases y with
    | bl k =>
      have ev : v = .bl k := r1
      subst ev
      cases k with
      | true => exact ⟨true, rfl, iteT (now1 R1 h1 rfl)⟩
      | false => exact ⟨false, rfl, iteF ⟨F, ρ1, sl, st1, sk.mono s1, R1, h1⟩⟩
    | _ => exact h1.elim
theorem q_andV (ha : PE X a (rdE G E ma)) (hb : PE X (.BoolOp .And (b :: rest) pos) (rdE G E mb)) : PE X (.BoolOp .And (a :: b :: rest) pos) (rdE G E (eAndV ma mb)) := by
  refine PE.imp (pe_andT ha hb) fun σ H Q h => ?_
  obtain ⟨F, ρ, sl, st, sk, R, h⟩ := h
  refine ⟨F, ρ, sl, st, sk, R, PostG.mono (PostG.bind (R := rX G) h) fun v H1 h1 => ?_⟩
  obtain ⟨x, st1, ρ1, s1, R1, r1, h1⟩ := h1
  cases x with
  | loc _ => exact h1.elim
  | d y =>
    cases y with
    | bl k =>
      have ev : v = .bl k := r1
      subst ev
      cases k with
      | true => exact ⟨true, rfl, iteT ⟨F, ρ1, sl, st1, sk.mono s1, R1, h1⟩⟩
      | false => exact ⟨false, rfl, iteF (now1 R1 h1 rfl)⟩
    | _ => exact h1.elim
theorem q_notV (ha : PE X a (rdE G E ma)) : PE X (.UnaryOp .Not a pos) (rdE G E (eNotV ma)) := by
  refine PE.imp (pe_notT ha) fun σ H Q h => ?_
  obtain ⟨F, ρ, sl, st, sk, R, h⟩ := h
  refine ⟨F, ρ, sl, st, sk, R, PostG.mono (PostG.bind (R := rX G) h) fun v H1 h1 => ?_⟩
  obtain ⟨x, st1, ρ1, s1, R1, r1, h1⟩ := h1
  cases x with
  | loc _ => exact h1.elim
  | d y =>
    cases y with
    | bl k =>
      have ev : v = .bl k := r1
      subst ev
      exact ⟨k, rfl, now1 R1 h1 rfl⟩
    | _ => exact h1.elim
end
end DH
namespace DH
open PySem PySem.Spec PyProof.Rows L2
abbrev rSortV (K : PySem.W.Frag) : List V → Hp → VK → Prop := fun vs H Q => ∃ (a : Addr) (bs : List (V × D)), vs = [V.ref a] ∧ SqT K H a (bs.map (·.1)) ∧ SortIn K H bs Q
theorem sort_tup {X : Cx} (hu : X.A.units + 65 < cLine) : CallR X (.builtin "sorted") (rSortV X.K) := by
  intro pins s σ H vs us Q I r h
  obtain ⟨a, bs, rfl, hs, q⟩ := h
  obtain ⟨its, rv, pl, hz⟩ := I.tuple hs
  rw [Vals.ref1 r]
  refine sort_coll hu I (fun R' hR E' => ?_) q
  obtain ⟨o, ho, hc, n, hd⟩ := pl
  refine wpAny_collect_seq a (.inr rfl) ho hc hd (fun h' hk => ?_) (by rw [List.size_toArray, ← rv.length]; exact hz)
  exact hR h' s.toks its.toArray hk (by simpa using rv)
abbrev rSortX (K : PySem.W.Frag) : List V → Hp → VK → Prop := fun vs H Q => rSortAll K vs H Q ∨ rSortV K vs H Q
theorem sort_allX {X : Cx} (hc : X.calm = true) (hu : X.A.units + 65 < cLine) : CallR X (.builtin "sorted") (rSortX X.K) := (sort_all hc hu).or (sort_tup hu)
def gSortedX (mu : Bool) : D → Store → O X := fun a st => match a with
  | .tup _ xs => (match sortOk xs && small xs.length with
    | true => newL mu (sortB leD xs) st
    | false => .bad)
  | a => gSorted mu a st
section
variable {G : Gm}
theorem sortedX_v {mu : Bool} : CallV G (rSortX G.K) (f1 (gSortedX mu)) := by
  intro E F ρ H st xs vs Q R rs h
  unfold f1 at h
  cases xs with
  | nil => exact h.elim
  | cons x t =>
    cases t with
    | cons _ _ => exact h.elim
    | nil =>
      cases q : deref st x with
      | none => simp only [q] at h; exact h.elim
      | some a =>
        simp only [q] at h
        have other : PostG G E (rX G) F ρ H (gSorted mu a st) Q → rSortX G.K vs H Q := fun h => .inl (sorted_v (mu := mu) E F ρ H st [x] vs Q R rs (by unfold f1; simp only [q]; exact h))
        cases a with
        | tup f ys =>
          unfold gSortedX at h
          obtain ⟨v, r', e, rx, e2⟩ := rs
          have e2' : r' = [] := e2
          subst e2' e
          cases z : (sortOk ys && small ys.length) with
          | false => simp only [z] at h; exact h.elim
          | true =>
            simp only [z] at h
            obtain ⟨z1, z2⟩ := Bool.and_eq_true_iff.mp z
            obtain ⟨p, ws, e, f, r⟩ := view R rx q
            subst e
            obtain ⟨bs, e1, e2, e3⟩ := rel_zip r
            have hl : bs.length = ys.length := by rw [← e2, List.length_map]
            exact .inr ⟨p, bs, rfl, by rw [e1]; exact f, sortIn_ok (mu := mu) R e3 (by rw [e2]; exact z1) (by rw [hl]; exact z2) (by rw [e2]; exact h)⟩
        | lst ys => exact other h
        | dct t kv => exact other h
        | non => exact other h
        | bl b => exact other h
        | int i => exact other h
        | str cs => exact other h
        | obj c fs => exact other h
end
end DH
namespace DH
open PySem PySem.Spec PyProof.Rows L2
/-! ### a part of a suite with its rolls -/
mutual
def sameV : D → D → Bool
  | .obj c fs, .obj d gs => (match Nat.beq c d with | true => sameFs fs gs | false => false)
  | a, b => sameD a b
def sameFs : List (Nat × D) → List (Nat × D) → Bool
  | [], [] => true
  | (n, x) :: xs, (m, y) :: ys => (match Nat.beq n m with | true => (match sameV x y with | true => sameFs xs ys | false => false) | false => false)
  | _, _ => false
end
mutual
theorem sameV_eq : ∀ (a b : D), sameV a b = true → a = b
  | .obj c fs, b, h => by
    cases b with
    | obj d gs =>
      unfold sameV at h
      cases q : Nat.beq c d with
      | false => rw [q] at h; cases h
      | true => rw [q] at h; rw [Nat.eq_of_beq_eq_true q, sameFs_eq fs gs h]
    | _ => unfold sameV at h; exact sameD_eq _ _ h
  | .non, b, h => sameD_eq _ _ (by cases b <;> (unfold sameV at h; exact h))
  | .bl _, b, h => sameD_eq _ _ (by cases b <;> (unfold sameV at h; exact h))
  | .int _, b, h => sameD_eq _ _ (by cases b <;> (unfold sameV at h; exact h))
  | .str _, b, h => sameD_eq _ _ (by cases b <;> (unfold sameV at h; exact h))
  | .tup _ _, b, h => sameD_eq _ _ (by cases b <;> (unfold sameV at h; exact h))
  | .lst _, b, h => sameD_eq _ _ (by cases b <;> (unfold sameV at h; exact h))
  | .dct _ _, b, h => sameD_eq _ _ (by cases b <;> (unfold sameV at h; exact h))
theorem sameFs_eq : ∀ (a b : List (Nat × D)), sameFs a b = true → a = b
  | [], [], _ => rfl
  | [], _ :: _, h => by unfold sameFs at h; cases h
  | _ :: _, [], h => by unfold sameFs at h; cases h
  | (n, x) :: a, (m, y) :: b, h => by
    unfold sameFs at h
    cases q : Nat.beq n m with
    | false => rw [q] at h; cases h
    | true =>
      rw [q] at h
      cases q2 : sameV x y with
      | false => simp only [q2] at h; cases h
      | true => simp only [q2] at h; rw [Nat.eq_of_beq_eq_true q, sameV_eq x y q2, sameFs_eq a b h]
end
def sameSl : Slots → Slots → Bool
  | [], [] => true
  | none :: a, none :: b => sameSl a b
  | some (.d x) :: a, some (.d y) :: b => (match sameV x y with | true => sameSl a b | false => false)
  | some (.loc i) :: a, some (.loc j) :: b => (match Nat.beq i j with | true => sameSl a b | false => false)
  | _, _ => false
theorem sameSl_eq : ∀ (a b : Slots), sameSl a b = true → a = b
  | [], [], _ => rfl
  | [], _ :: _, h => by cases h
  | none :: _, [], h => by cases h
  | some (.d _) :: _, [], h => by cases h
  | some (.loc _) :: _, [], h => by cases h
  | none :: a, none :: b, h => by rw [sameSl_eq a b h]
  | none :: a, some _ :: b, h => by cases h
  | some (.d x) :: a, none :: b, h => by cases h
  | some (.loc x) :: a, none :: b, h => by cases h
  | some (.d x) :: a, some (.loc _) :: b, h => by cases h
  | some (.loc x) :: a, some (.d _) :: b, h => by cases h
  | some (.d x) :: a, some (.d y) :: b, h => by
    have h : (match sameV x y with | true => sameSl a b | false => false) = true := h
    cases q : sameV x y with
    | false => rw [q] at h; cases h
    | true => rw [q] at h; rw [sameV_eq x y q, sameSl_eq a b h]
  | some (.loc x) :: a, some (.loc y) :: b, h => by
    have h : (match Nat.beq x y with | true => sameSl a b | false => false) = true := h
    cases q : Nat.beq x y with
    | false => rw [q] at h; cases h
    | true => rw [q] at h; rw [Nat.eq_of_beq_eq_true q, sameSl_eq a b h]
def stepO (n : Nat) (ks : List Nat) (slB : Slots) (o : SO) : Option (List (Nat × Nat)) := match o with
  | .nx sl (.orc t :: tl) => (match Nat.beq tl.length n with
    | true => (match sameSl (keepO ks 0 sl) slB with
      | true => some t
      | false => none)
    | false => none)
  | _ => none
theorem stepO_ok {n : Nat} {ks : List Nat} {slB : Slots} {o : SO} {t : List (Nat × Nat)} (h : stepO n ks slB o = some t) : ∃ sl tl, o = .nx sl (.orc t :: tl) ∧ tl.length = n ∧ keepO ks 0 sl = slB := by
  unfold stepO at h
  split at h
  · rename_i sl t' tl
    cases q : Nat.beq tl.length n with
    | false => rw [q] at h; cases h
    | true =>
      rw [q] at h
      simp only at h
      cases q2 : sameSl (keepO ks 0 sl) slB with
      | false => rw [q2] at h; cases h
      | true =>
        rw [q2] at h
        have e : t' = t := Option.some.inj h
        subst e
        exact ⟨sl, tl, rfl, Nat.eq_of_beq_eq_true q, sameSl_eq _ _ q2⟩
  · cases h
theorem map_at {α β : Type} {f g : α → β} {l : List α} (h : l.map f = l.map g) {x : α} (hx : x ∈ l) : f x = g x := List.map_inj_left.mp h x hx
theorem keepO_idem (ks : List Nat) : ∀ (sl : Slots) (i : Nat), keepO ks i (keepO ks i sl) = keepO ks i sl
  | [], i => rfl
  | x :: r, i => by
    show (match ks.contains i with | true => (match ks.contains i with | true => x | false => none) | false => none) :: keepO ks (i + 1) (keepO ks (i + 1) r) = (match ks.contains i with | true => x | false => none) :: keepO ks (i + 1) r
    rw [keepO_idem ks r (i + 1)]
    cases ks.contains i <;> rfl
theorem sOnly_idem {ks : List Nat} {k : SM} (sl : Slots) (st : Store) : sOnly ks k sl st = sOnly ks k (keepO ks 0 sl) st := by
  unfold sOnly
  rw [keepO_idem]
/-- the first part goes as told, the rest then -/
theorem seg_then {g : List SM} {ks : List Nat} {k : SM} {sl0 slB : Slots} {st : Store} {n : Nat} {t : List (Nat × Nat)} (hkk : ∀ sl st, k sl st = k (keepO ks 0 sl) st) (h : stepO n ks slB (seqAll g sl0 st) = some t) (hk : ∀ tl : Store, tl.length = n → ∃ sl st', k slB (.orc t :: tl) = .nx sl st') : ∃ sl st', sSeqs g k sl0 st = .nx sl st' := by
  obtain ⟨sl, tl, e, hl, ek⟩ := stepO_ok h
  rw [sSeqs_nx e, hkk, ek]
  exact hk tl hl
theorem len0 {α : Type} {l : List α} (h : l.length = 0) : l = [] := List.length_eq_zero_iff.mp h
theorem len1 {α : Type} {l : List α} (h : l.length = 1) : ∃ x, l = [x] := by
  match l, h with
  | [x], _ => exact ⟨x, rfl⟩
theorem len2 {α : Type} {l : List α} (h : l.length = 2) : ∃ x y, l = [x, y] := by
  match l, h with
  | [x, y], _ => exact ⟨x, y, rfl⟩
theorem len3 {α : Type} {l : List α} (h : l.length = 3) : ∃ x y z, l = [x, y, z] := by
  match l, h with
  | [x, y, z], _ => exact ⟨x, y, z, rfl⟩
end DH
namespace DH
open PySem PySem.Spec PyProof.Rows L2
/-! ### constants of the module: dicts by texts -/
mutual
def ckD (K : PySem.W.Frag) : D → Value → Bool
  | .int i, .int j _ => decide (i = j)
  | .str cs, .str z _ => decide (z = strOf cs)
  | .bl a, .bool b => decide (a = b)
  | .tup true xs, .ref a => (match K.lookup a with
    | some ⟨.type t, none, .seq its _, _⟩ => decide (t = "tuple") && (decide (its.size ≤ sizeLine) && ckDs K xs its.toList)
    | _ => false)
  | _, _ => false
def ckDs (K : PySem.W.Frag) : List D → List Value → Bool
  | [], [] => true
  | x :: xs, u :: us => ckD K x u && ckDs K xs us
  | _, _ => false
end
section
variable {G : Gm}
mutual
theorem ckD_ok : ∀ (x : D) {u : Value}, ckD G.K x u = true → ∃ v, RelV v u ∧ ∀ N H, RelD G N H x v
  | .int i, u, h => by
    cases u with
    | int j t =>
      unfold ckD at h
      have : i = j := of_decide_eq_true h
      exact ⟨.int i, ⟨t, by rw [this]⟩, fun _ _ => rfl⟩
    | _ => unfold ckD at h; cases h
  | .str cs, u, h => by
    cases u with
    | str z t =>
      unfold ckD at h
      have : z = strOf cs := of_decide_eq_true h
      exact ⟨.str (strOf cs), ⟨t, by rw [this]⟩, fun _ _ => rfl⟩
    | _ => unfold ckD at h; cases h
  | .bl a, u, h => by
    cases u with
    | bool b =>
      unfold ckD at h
      have : a = b := of_decide_eq_true h
      exact ⟨.bl a, by rw [this]; rfl, fun _ _ => rfl⟩
    | _ => unfold ckD at h; cases h
  | .tup f xs, u, h => by
    cases f with
    | false => cases u <;> (unfold ckD at h; cases h)
    | true =>
      cases u with
      | ref a =>
        unfold ckD at h
        split at h
        · rename_i t its n sl q
          obtain ⟨h1, h2⟩ := He.ba h
          obtain ⟨h2, h3⟩ := He.ba h2
          have et : t = "tuple" := of_decide_eq_true h1
          subst et
          have hz : its.size ≤ sizeLine := of_decide_eq_true h2
          obtain ⟨vs, rv, rd⟩ := ckDs_ok xs h3
          exact ⟨.ref a, rfl, fun N H => ⟨a, vs, rfl, .inr ⟨_, its, n, q, rfl, rfl, rfl, hz, rv⟩, rd N H⟩⟩
        · cases h
      | _ => unfold ckD at h; cases h
  | .non, u, h => by unfold ckD at h; cases h
  | .lst _, u, h => by unfold ckD at h; cases h
  | .dct _ _, u, h => by unfold ckD at h; cases h
  | .obj _ _, u, h => by unfold ckD at h; cases h
theorem ckDs_ok : ∀ (xs : List D) {us : List Value}, ckDs G.K xs us = true → ∃ vs, Vals vs us ∧ ∀ N H, RelDs G N H xs vs
  | [], us, h => by
    cases us with
    | nil => exact ⟨[], .nil, fun _ _ => rfl⟩
    | cons _ _ => unfold ckDs at h; cases h
  | x :: xs, us, h => by
    cases us with
    | nil => unfold ckDs at h; cases h
    | cons u us =>
      unfold ckDs at h
      obtain ⟨h1, h2⟩ := He.ba h
      obtain ⟨v, r1, r2⟩ := ckD_ok x h1
      obtain ⟨vs, r3, r4⟩ := ckDs_ok xs h2
      exact ⟨v :: vs, .cons r1 r3, fun N H => ⟨v, vs, rfl, r2 N H, r4 N H⟩⟩
end
end
def ckEs (K : PySem.W.Frag) : List DictEntry → List (List Nat × D) → Bool
  | [], [] => true
  | e :: r, p :: t => (match e.key with
    | .str z _ => decide (z = strOf p.1)
    | _ => false) && (ckD K p.2 e.val && ckEs K r t)
  | _, _ => false
def conB (K : PySem.W.Frag) (x : Str) (tab : List (List Nat × D)) : Bool := match K.lookup (He.ga K x) with
  | some ⟨_, _, .dict es _, _⟩ => ckEs K es.toList tab
  | _ => false
def findC (z : List Nat) : List (List Nat × D) → Option D
  | [] => none
  | (k, d) :: r => (match sameN k z with
    | true => some d
    | false => findC z r)
theorem sameN_refl : ∀ a : List Nat, sameN a a = true
  | [] => rfl
  | x :: a => by
    show (match Nat.beq x x with | true => sameN a a | false => false) = true
    rw [Nat.beq_refl]
    exact sameN_refl a
theorem isStr_of {e : DictEntry} {k z : List Nat} {t : PySem.Tok} (h : e.key = .str (strOf k) t) : e.key.isStr (strOf z) = sameN k z := by
  rw [h]
  show (strOf k == strOf z) = _
  cases q : sameN k z with
  | true => rw [sameN_eq q]; simp
  | false =>
    refine beq_eq_false_iff_ne.mpr fun e => ?_
    rw [strOf_inj e, sameN_refl] at q
    cases q
theorem es_find {K : PySem.W.Frag} (z : List Nat) : ∀ {es : List DictEntry} {tab : List (List Nat × D)}, ckEs K es tab = true →
    (∀ d, findC z tab = some d → ∃ e, es.find? (·.key.isStr (strOf z)) = some e ∧ ckD K d e.val = true) ∧ (findC z tab = none → es.find? (·.key.isStr (strOf z)) = none ∧ es.any (·.refKey) = false)
  | [], [], _ => by
    refine ⟨fun d h => ?_, fun _ => ⟨rfl, rfl⟩⟩
    have h : (none : Option D) = some d := h
    cases h
  | [], _ :: _, h => by unfold ckEs at h; cases h
  | _ :: _, [], h => by unfold ckEs at h; cases h
  | e :: es, (k, d) :: tab, h => by
    unfold ckEs at h
    obtain ⟨h1, h2⟩ := He.ba h
    obtain ⟨h2, h3⟩ := He.ba h2
    have hk : ∃ t, e.key = .str (strOf k) t := by
      split at h1
      · rename_i z' t q
        have : z' = strOf k := of_decide_eq_true h1
        exact ⟨t, by rw [q, this]⟩
      · cases h1
    obtain ⟨t, hk⟩ := hk
    obtain ⟨i1, i2⟩ := es_find z h3
    have ek := isStr_of (z := z) hk
    have er : e.refKey = false := by
      unfold DictEntry.refKey
      rw [hk]
    refine ⟨fun d' hd => ?_, fun hn => ?_⟩
    · unfold findC at hd
      rw [List.find?_cons, ek]
      cases q : sameN k z with
      | true =>
        rw [q] at hd
        have : d = d' := Option.some.inj hd
        subst this
        exact ⟨e, rfl, h2⟩
      | false =>
        rw [q] at hd
        exact i1 d' hd
    · unfold findC at hn
      cases q : sameN k z with
      | true => rw [q] at hn; cases hn
      | false =>
        rw [q] at hn
        obtain ⟨j1, j2⟩ := i2 hn
        rw [List.find?_cons, ek, q, List.any_cons, er, j2]
        exact ⟨j1, rfl⟩
theorem con_ns {K : PySem.W.Frag} {x : Str} {tab : List (List Nat × D)} (h : conB K x tab = true) (z : List Nat) :
    (∀ d, findC z tab = some d → ∃ u, PySem.W.nsIn K (He.ga K x) (strOf z) = some (some u) ∧ ckD K d u = true) ∧ (findC z tab = none → PySem.W.nsIn K (He.ga K x) (strOf z) = some none) := by
  unfold conB at h
  split at h
  · rename_i oc od es n sl q
    obtain ⟨i1, i2⟩ := es_find z h
    refine ⟨fun d hd => ?_, fun hn => ?_⟩
    · obtain ⟨e, h1, h2⟩ := i1 d hd
      refine ⟨e.val, ?_, h2⟩
      unfold PySem.W.nsIn
      rw [q]
      simp only
      rw [h1]
    · obtain ⟨h1, h2⟩ := i2 hn
      unfold PySem.W.nsIn
      rw [q]
      simp only
      rw [h1, h2]
      rfl
  · cases h
section
variable {X : Cx} {G : Gm} {E : XK} {i : Expr} {x : Str} {pos p : Pos} {mi : EM DH.X} {tab : List (List Nat × D)} {es : Array DictEntry} {n : Nat}
theorem ix_kd {d : Addr} (Dk : KDict X.K X.w d es n) : IxR X (fun x y H Q => ∃ (z : Str) (u0 : Value) (v0 : V), x = .ref d ∧ y = .str z ∧ PySem.W.nsIn X.K d z = some (some u0) ∧ RelV v0 u0 ∧ Q v0 H) := by
  intro value slice pins s σ H x y v u Q I rx ry h hs
  obtain ⟨z, u0, v0, rfl, rfl, e, r, q⟩ := h
  cases rx
  obtain ⟨t, rfl⟩ := ry
  refine tail_any (kd_type Dk I) slot_dict_getitem.lookup ?_ hs
  exact wpAny_getItem_of (PySem.strKind_is X.prog X.w z t) (PySem.W.mapOf_K (prog := X.prog) I.kIn Dk.at_ Dk.lit) (PySem.W.find_K Dk.at_ e) ⟨v0, H, I.tok _, r, q⟩
def eKGet (tab : List (List Nat × D)) (mi : EM DH.X) : EM DH.X := fun sl st => (mi sl st).bind fun k st1 => match k with
  | .d (.str z) => (match findC z tab with
    | some d => .ok (.d d) st1
    | none => .bad)
  | _ => .bad
theorem q_kget (hK : G.K = X.K) (Dk : KDict X.K X.w (He.ga X.K x) es n) (hc : conB X.K x tab = true) (hg : Gl X x) (hm : X.mg x = some (.ref (He.ga X.K x))) (hd : (x == ("__debug__" : Str)) = false) (hi : PE X i (rdE G E mi)) (hs : PlainIx i) : PE X (.Subscript (.Name x p) i pos) (rdE G E (eKGet tab mi)) := by
  refine PE.imp (pe_ix (ix_kd Dk) (pe_glob (v := .ref (He.ga X.K x)) hg hm rfl hd) hi hs) fun σ H Q h => ?_
  obtain ⟨F, ρ, sl, st, sk, R, h⟩ := h
  refine ⟨F, ρ, sl, st, sk, R, PostG.mono (PostG.bind (R := rX G) h) fun v H1 h1 => ?_⟩
  obtain ⟨k, st1, ρ1, s1, R1, r1, h1⟩ := h1
  cases k with
  | loc _ => exact h1.elim
  | d y =>
    cases y with
    | str z =>
      simp only at h1
      cases q : findC z tab with
      | none => simp only [q] at h1; exact h1.elim
      | some d =>
        simp only [q] at h1
        obtain ⟨u, e1, e2⟩ := (con_ns hc z).1 d q
        rw [← hK] at e2
        obtain ⟨w, rw1, rw2⟩ := ckD_ok d e2
        exact ⟨strOf z, u, w, rfl, r1, e1, rw1, now1 R1 h1 (rw2 _ _)⟩
    | _ => exact h1.elim
def eKIn (neg : Bool) (tab : List (List Nat × D)) (mi : EM DH.X) : EM DH.X := fun sl st => (mi sl st).bind fun k st1 => match k with
  | .d (.str z) => .ok (.d (.bl (match neg, findC z tab with | true, some _ => false | true, none => true | false, some _ => true | false, none => false))) st1
  | _ => .bad
theorem rd_kin {neg : Bool} (hc : conB X.K x tab = true) {σ : L2.St} {H : Hp} {Q : VK} (h : rdE G E (eKIn neg tab mi) σ H Q) : rdE G E mi σ H fun y H1 => ∃ (z : Str) (r : Option Value), y = .str z ∧ V.ref (He.ga X.K x) = .ref (He.ga X.K x) ∧ PySem.W.nsIn X.K (He.ga X.K x) z = some r ∧ Q (.bl (match neg with | true => !r.isSome | false => r.isSome)) H1 := by
  obtain ⟨F, ρ, sl, st, sk, R, h⟩ := h
  refine ⟨F, ρ, sl, st, sk, R, PostG.mono (PostG.bind (R := rX G) h) fun v H1 h1 => ?_⟩
  obtain ⟨k, st1, ρ1, s1, R1, r1, h1⟩ := h1
  cases k with
  | loc _ => exact h1.elim
  | d y =>
    cases y with
    | str z =>
      simp only at h1
      cases q : findC z tab with
      | none =>
        rw [q] at h1
        refine ⟨strOf z, none, r1, rfl, (con_ns hc z).2 q, ?_⟩
        cases neg <;> exact now1 R1 h1 rfl
      | some d =>
        rw [q] at h1
        obtain ⟨u, e1, e2⟩ := (con_ns hc z).1 d q
        refine ⟨strOf z, some u, r1, rfl, e1, ?_⟩
        cases neg <;> exact now1 R1 h1 rfl
    | _ => exact h1.elim
theorem q_kin (Dk : KDict X.K X.w (He.ga X.K x) es n) (hc : conB X.K x tab = true) (hg : Gl X x) (hm : X.mg x = some (.ref (He.ga X.K x))) (hd : (x == ("__debug__" : Str)) = false) (hi : PE X i (rdE G E mi)) : PE X (.Compare i [.In] [.Name x p] pos) (rdE G E (eKIn false tab mi)) :=
  PE.imp (pe_cmpR (op_in_kd Dk) hi (pe_glob (v := .ref (He.ga X.K x)) hg hm rfl hd) rfl) fun σ H Q h => rd_kin (neg := false) hc h
theorem q_knotin (Dk : KDict X.K X.w (He.ga X.K x) es n) (hc : conB X.K x tab = true) (hg : Gl X x) (hm : X.mg x = some (.ref (He.ga X.K x))) (hd : (x == ("__debug__" : Str)) = false) (hi : PE X i (rdE G E mi)) : PE X (.Compare i [.NotIn] [.Name x p] pos) (rdE G E (eKIn true tab mi)) :=
  PE.imp (pe_cmpR (op_notIn_kd Dk) hi (pe_glob (v := .ref (He.ga X.K x)) hg hm rfl hd) rfl) fun σ H Q h => rd_kin (neg := true) hc h
theorem q_tkin (Dk : KDict X.K X.w (He.ga X.K x) es n) (hc : conB X.K x tab = true) (hg : Gl X x) (hm : X.mg x = some (.ref (He.ga X.K x))) (hd : (x == ("__debug__" : Str)) = false) (hi : PE X i (rdE G E mi)) : PT X (.Compare i [.In] [.Name x p] pos) (rdT G E (eTest (eKIn false tab mi))) :=
  PT.imp (pt_cmpR (op_in_kd Dk) hi (pe_glob (v := .ref (He.ga X.K x)) hg hm rfl hd) rfl) fun σ H Q h => rd_tB h fun Q' z => rd_kin (neg := false) hc z
theorem q_tknotin (Dk : KDict X.K X.w (He.ga X.K x) es n) (hc : conB X.K x tab = true) (hg : Gl X x) (hm : X.mg x = some (.ref (He.ga X.K x))) (hd : (x == ("__debug__" : Str)) = false) (hi : PE X i (rdE G E mi)) : PT X (.Compare i [.NotIn] [.Name x p] pos) (rdT G E (eTest (eKIn true tab mi))) :=
  PT.imp (pt_cmpR (op_notIn_kd Dk) hi (pe_glob (v := .ref (He.ga X.K x)) hg hm rfl hd) rfl) fun σ H Q h => rd_tB h fun Q' z => rd_kin (neg := true) hc z
/-! ### sorted(C) -/
def keysC : List (List Nat × D) → List D
  | [] => []
  | (k, _) :: r => .str k :: keysC r
def eKSort (mu : Bool) (tab : List (List Nat × D)) : EM DH.X := fun _ st => match sortOk (keysC tab) && small tab.length with
  | true => newL mu (sortB leD (keysC tab)) st
  | false => .bad
theorem keysC_len : ∀ tab : List (List Nat × D), (keysC tab).length = tab.length
  | [] => rfl
  | (k, d) :: r => by
    show (keysC r).length + 1 = _
    rw [keysC_len r]; rfl
theorem es_keys {K : PySem.W.Frag} : ∀ {es : List DictEntry} {tab : List (List Nat × D)}, ckEs K es tab = true → Vals (tab.map fun p => V.str (strOf p.1)) (es.map (·.key))
  | [], [], _ => .nil
  | [], _ :: _, h => by unfold ckEs at h; cases h
  | _ :: _, [], h => by unfold ckEs at h; cases h
  | e :: es, (k, d) :: tab, h => by
    unfold ckEs at h
    obtain ⟨h1, h2⟩ := He.ba h
    obtain ⟨h2, h3⟩ := He.ba h2
    refine .cons ?_ (es_keys h3)
    split at h1
    · rename_i z' t q
      have : z' = strOf k := of_decide_eq_true h1
      exact ⟨t, by show e.key = _; rw [q, this]⟩
    · cases h1
theorem q_ksort {mu : Bool} {p0 : Pos} (hK : G.K = X.K) (hc : X.calm = true) (hu : X.A.units + 65 < cLine) (Dk : KDict X.K X.w (He.ga X.K x) es n) (hcon : conB X.K x tab = true) (hgs : Gl X "sorted") (hms : X.mg "sorted" = none) (hg : Gl X x) (hm : X.mg x = some (.ref (He.ga X.K x))) (hd : (x == ("__debug__" : Str)) = false)
    (he : starEach [.Name x p] X.env = (false, eval (.Name x p) X.env) :: starEach [] X.env) : PE X (.Call (.Name "sorted" p0) [.Name x p] [] pos) (rdE G E (eKSort mu tab)) := by
  have hes : ckEs X.K es.toList tab = true := by
    unfold conB at hcon
    rw [Dk.at_] at hcon
    exact hcon
  have hlen : es.size = tab.length := by
    have := (es_keys hes).length
    rw [List.length_map, List.length_map, Array.length_toList] at this
    exact this.symm
  have call : CallR X (.builtin "sorted") (fun vs H Q => vs = [V.ref (He.ga X.K x)] ∧ es.size ≤ sizeLine ∧ ∃ bs : List (V × D), bs.map (·.1) = (tab.map fun p => V.str (strOf p.1)) ∧ SortIn X.K H bs Q) := by
    intro pins s σ H vs us Q I r h
    obtain ⟨rfl, hz, bs, eb, q⟩ := h
    rw [Vals.ref1 r]
    refine sort_coll hu I (fun R' hR E' => ?_) q
    refine PySem.W.kdu_collect (A := X.A.in1) (kdl_raw Dk.low ⟨rfl, rfl, rfl⟩ rfl) (I.ok.hd hc) (I.kIn _ _ Dk.at_) hz fun h' tk acc' kp it => ?_
    refine hR h' tk acc' kp ?_
    rw [eb]
    have ea : acc'.toList = es.toList.map (·.key) := by
      have hl : acc'.toList.length = es.toList.length := by rw [Array.length_toList, it.1, Array.length_toList]
      apply List.ext_getElem?
      intro j
      rw [List.getElem?_map]
      cases hj : acc'.toList[j]? with
      | none =>
        have h1 := List.getElem?_eq_none_iff.mp hj
        rw [List.getElem?_eq_none (by omega)]
        rfl
      | some v =>
        obtain ⟨en, hen, hv⟩ := it.2 j v (by rw [← Array.getElem?_toList]; exact hj)
        rw [Array.getElem?_toList, hen, hv]
        rfl
    rw [ea]
    exact es_keys hes
  refine PE.imp (pe_callB call hgs hms boot_sorted (pa_cons (pe_glob (v := .ref (He.ga X.K x)) hg hm rfl hd) pa_nil he) (by decide) (by decide) he rfl) fun σ H Q h => ?_
  obtain ⟨F, ρ, sl, st, sk, R, h⟩ := h
  unfold eKSort at h
  cases z : (sortOk (keysC tab) && small tab.length) with
  | false => rw [z] at h; exact h.elim
  | true =>
    rw [z] at h
    obtain ⟨z1, z2⟩ := Bool.and_eq_true_iff.mp z
    refine ⟨rfl, by rw [hlen]; exact small_ok z2, (tab.map fun p => (V.str (strOf p.1), D.str p.1)), by rw [List.map_map]; rfl, ?_⟩
    have e2 : (tab.map fun p => (V.str (strOf p.1), D.str p.1)).map (·.2) = keysC tab := by
      clear z z1 z2 h hcon hes hlen call
      induction tab with
      | nil => rfl
      | cons p r ih =>
        obtain ⟨k, d⟩ := p
        rw [List.map_cons, List.map_cons, ih]
        rfl
    rw [← hK]
    refine sortIn_ok (mu := mu) R (fun b hb => ?_) (by rw [e2]; exact z1) (by rw [List.length_map]; exact z2) (by rw [e2]; exact h)
    obtain ⟨p, _, rfl⟩ := List.mem_map.mp hb
    rfl
end
end DH
namespace DH
open PySem PySem.Spec PyProof.Rows L2
/-! ### a comprehension of two clauses: the new list is a thing of the store -/
def pushAt (n : Nat) (y : D) (st : Store) : Option Store := match st[n]? with
  | some (.lst xs) => (match small (xs.length + 1) with
    | true => some (st.set n (.lst (xs ++ [y])))
    | false => none)
  | _ => none
def cIn (sr : Src) (n : Nat) (t1 : Tgt) (c1 : EM Bool) (e : EM X) (sl0 : Slots) : List D → Store → O Unit
  | [], st => (match ckS sr st with
    | true => .ok () st
    | false => .bad)
  | x :: xs, st => (match ckS sr st with
    | true => (match tgM t1 x sl0 with
      | none => .bad
      | some sl1 => (match c1 sl1 st with
        | .ok true st1 => (match e sl1 st1 with
          | .ok (.d y) st2 => (match pushAt n y st2 with
            | some st3 => cIn sr n t1 c1 e sl0 xs st3
            | none => .bad)
          | _ => .bad)
        | .ok false st1 => cIn sr n t1 c1 e sl0 xs st1
        | _ => .bad))
    | false => .bad)
def cOut (sr : Src) (n : Nat) (t : Tgt) (c : EM Bool) (m1 : EM Src) (t1 : Tgt) (c1 : EM Bool) (e : EM X) (vs1 : List Nat) (sl0 : Slots) : List D → Store → O Unit
  | [], st => (match ckS sr st with
    | true => .ok () st
    | false => .bad)
  | x :: xs, st => (match ckS sr st with
    | true => (match tgM t x sl0 with
      | none => .bad
      | some sl1 => (match c sl1 st with
        | .ok true st1 => (match m1 sl1 st1 with
          | .ok sr1 st2 => (match cIn sr1 n t1 c1 e (wipeS sl1 vs1) sr1.1 st2 with
            | .ok _ st3 => cOut sr n t c m1 t1 c1 e vs1 sl0 xs st3
            | _ => .bad)
          | _ => .bad)
        | .ok false st1 => cOut sr n t c m1 t1 c1 e vs1 sl0 xs st1
        | _ => .bad))
    | false => .bad)
def finC (mu : Bool) (n : Nat) (st : Store) : O X := match mu with
  | true => .ok (.loc n) st
  | false => (match st[n]? with
    | some (.lst xs) => .ok (.d (.lst xs)) (st.take n)
    | _ => .bad)
def eComp2 (mu : Bool) (vs vs1 : List Nat) (m : EM Src) (t : Tgt) (c : EM Bool) (m1 : EM Src) (t1 : Tgt) (c1 : EM Bool) (e : EM X) : EM X := fun sl st => (m sl st).bind fun sr st1 =>
  match cOut sr st1.length t c m1 t1 c1 e vs1 (wipeS sl vs) sr.1 (st1 ++ [.lst []]) with
  | .ok _ st2 => finC mu st1.length st2
  | _ => .bad
theorem cIn_cons {sr : Src} {n : Nat} {t1 : Tgt} {c1 : EM Bool} {e : EM X} {sl0 : Slots} {x : D} {xs : List D} {st st' : Store} {u : Unit} (h : cIn sr n t1 c1 e sl0 (x :: xs) st = .ok u st') :
    ckS sr st = true ∧ ∃ sl1 b st1, tgM t1 x sl0 = some sl1 ∧ c1 sl1 st = .ok b st1 ∧ ((b = false ∧ cIn sr n t1 c1 e sl0 xs st1 = .ok u st') ∨ (b = true ∧ ∃ y st2 st3, e sl1 st1 = .ok (.d y) st2 ∧ pushAt n y st2 = some st3 ∧ cIn sr n t1 c1 e sl0 xs st3 = .ok u st')) := by
  unfold cIn at h
  cases ck : ckS sr st with
  | false => rw [ck] at h; cases h
  | true =>
  rw [ck] at h
  refine ⟨rfl, ?_⟩
  simp only at h
  cases q : tgM t1 x sl0 with
  | none => rw [q] at h; cases h
  | some sl1 =>
    rw [q] at h
    simp only at h
    cases q2 : c1 sl1 st with
    | bad => rw [q2] at h; cases h
    | exn _ _ _ => rw [q2] at h; cases h
    | ok b st1 =>
      rw [q2] at h
      cases b with
      | false => exact ⟨sl1, false, st1, rfl, q2, .inl ⟨rfl, h⟩⟩
      | true =>
        simp only at h
        cases q3 : e sl1 st1 with
        | bad => rw [q3] at h; cases h
        | exn _ _ _ => rw [q3] at h; cases h
        | ok y st2 =>
          rw [q3] at h
          cases y with
          | loc l => cases h
          | d y =>
            simp only at h
            cases q4 : pushAt n y st2 with
            | none => rw [q4] at h; cases h
            | some st3 => rw [q4] at h; exact ⟨sl1, true, st1, rfl, q2, .inr ⟨rfl, y, st2, st3, q3, q4, h⟩⟩
theorem cIn_nil {sr : Src} {n : Nat} {t1 : Tgt} {c1 : EM Bool} {e : EM X} {sl0 : Slots} {st st' : Store} {u : Unit} (h : cIn sr n t1 c1 e sl0 [] st = .ok u st') : ckS sr st = true ∧ st = st' := by
  unfold cIn at h
  cases ck : ckS sr st with
  | false => rw [ck] at h; cases h
  | true => rw [ck] at h; cases h; exact ⟨rfl, rfl⟩
theorem cOut_nil {sr : Src} {n : Nat} {t : Tgt} {c : EM Bool} {m1 : EM Src} {t1 : Tgt} {c1 : EM Bool} {e : EM X} {vs1 : List Nat} {sl0 : Slots} {st st' : Store} {u : Unit} (h : cOut sr n t c m1 t1 c1 e vs1 sl0 [] st = .ok u st') : ckS sr st = true ∧ st = st' := by
  unfold cOut at h
  cases ck : ckS sr st with
  | false => rw [ck] at h; cases h
  | true => rw [ck] at h; cases h; exact ⟨rfl, rfl⟩
theorem cOut_cons {sr : Src} {n : Nat} {t : Tgt} {c : EM Bool} {m1 : EM Src} {t1 : Tgt} {c1 : EM Bool} {e : EM X} {vs1 : List Nat} {sl0 : Slots} {x : D} {xs : List D} {st st' : Store} {u : Unit} (h : cOut sr n t c m1 t1 c1 e vs1 sl0 (x :: xs) st = .ok u st') :
    ckS sr st = true ∧ ∃ sl1 b st1, tgM t x sl0 = some sl1 ∧ c sl1 st = .ok b st1 ∧ ((b = false ∧ cOut sr n t c m1 t1 c1 e vs1 sl0 xs st1 = .ok u st') ∨ (b = true ∧ ∃ sr1 st2 w st3, m1 sl1 st1 = .ok sr1 st2 ∧ cIn sr1 n t1 c1 e (wipeS sl1 vs1) sr1.1 st2 = .ok w st3 ∧ cOut sr n t c m1 t1 c1 e vs1 sl0 xs st3 = .ok u st')) := by
  unfold cOut at h
  cases ck : ckS sr st with
  | false => rw [ck] at h; cases h
  | true =>
  rw [ck] at h
  refine ⟨rfl, ?_⟩
  simp only at h
  cases q : tgM t x sl0 with
  | none => rw [q] at h; cases h
  | some sl1 =>
    rw [q] at h
    simp only at h
    cases q2 : c sl1 st with
    | bad => rw [q2] at h; cases h
    | exn _ _ _ => rw [q2] at h; cases h
    | ok b st1 =>
      rw [q2] at h
      cases b with
      | false => exact ⟨sl1, false, st1, rfl, q2, .inl ⟨rfl, h⟩⟩
      | true =>
        simp only at h
        cases q3 : m1 sl1 st1 with
        | bad => rw [q3] at h; cases h
        | exn _ _ _ => rw [q3] at h; cases h
        | ok sr1 st2 =>
          rw [q3] at h
          simp only at h
          cases q4 : cIn sr1 n t1 c1 e (wipeS sl1 vs1) sr1.1 st2 with
          | bad => rw [q4] at h; cases h
          | exn _ _ _ => rw [q4] at h; cases h
          | ok w st3 => rw [q4] at h; exact ⟨sl1, true, st1, rfl, q2, .inr ⟨rfl, sr1, st2, w, st3, q3, q4, h⟩⟩
section
variable {G : Gm} {E : XK}
theorem rd_comp2 {mu : Bool} {vs vs1 : List Nat} {m m1 : EM Src} {t t1 : Tgt} {c c1 : EM Bool} {e : EM X} {σ : L2.St} {H : Hp} {Q : VK} (hin : tgIn vs t = true) (hin1 : tgIn vs1 t1 = true) (h : rdE G E (eComp2 mu vs vs1 m t c m1 t1 c1 e) σ H Q) :
    tLc2 (rdG G E m) (tgTG G.K t) (rdT G E0 c) (rdG G E0 m1) (tgTG G.K t1) (rdT G E0 c1) (rdE G E0 e) vs vs1 σ H Q := by
  obtain ⟨F, ρ, sl, st, sk, R, h⟩ := h
  refine ⟨F, ρ, sl, st, sk, R, PostG.mono (PostG.bind (R := rItG G) h) fun J H1 h1 => ?_⟩
  obtain ⟨sr, st1, ρ1, s1, R1, it, h1⟩ := h1
  intro d hd
  simp only at h1
  cases ql : cOut sr st1.length t c m1 t1 c1 e vs1 (wipeS sl vs) sr.1 (st1 ++ [.lst []]) with
  | bad => rw [ql] at h1; exact h1.elim
  | exn _ _ _ => rw [ql] at h1; exact h1.elim
  | ok u0 stF =>
    rw [ql] at h1
    have h1 : PostG G E (rX G) F ρ1 H1 (finC mu st1.length stF) Q := h1
    have sD : Stp ρ1 H1 (ρ1 ++ [d]) (upd H1 d (.lst [])) := stp_more hd
    have RD : Rep G F (ρ1 ++ [d]) (st1 ++ [.lst []]) (upd H1 d (.lst [])) := R1.more hd ⟨[], upd_same, rfl⟩
    have atD : ∀ {ρ : List Addr} {H : Hp}, Stp (ρ1 ++ [d]) (upd H1 d (.lst [])) ρ H → ρ[st1.length]? = some d := fun {ρ H} s => by
      obtain ⟨mm, em⟩ := s.pre
      rw [em, List.append_assoc, List.getElem?_append_right (by rw [R1.len]; exact Nat.le_refl _), R1.len]
      simp
    refine ⟨fun i n H => n = sr.1.length - i ∧ i ≤ sr.1.length ∧ ∃ ρ st, Stp (ρ1 ++ [d]) (upd H1 d (.lst [])) ρ H ∧ Rep G F ρ st H ∧ cOut sr st1.length t c m1 t1 c1 e vs1 (wipeS sl vs) (sr.1.drop i) st = .ok u0 stF,
      ⟨sr.1.length, by simp, Nat.zero_le _, ρ1 ++ [d], st1 ++ [MO.lst []], Stp.refl _ _, RD, ql⟩, ?_⟩
    rintro i n H2 ⟨rfl, hi, ρ2, st2, s2, R2, hl2⟩
    by_cases hlt : i < sr.1.length
    · right
      have hx : sr.1[i]? = some sr.1[i] := List.getElem?_eq_getElem hlt
      rw [List.drop_eq_getElem_cons hlt] at hl2
      obtain ⟨ck, sl1, b, st3, q1, q2, q3⟩ := cOut_cons hl2
      obtain ⟨go, yl⟩ := it.go F i sr.1[i] ρ2 H2 st2 (fun _ z => .inl z) hx (sD.trans s2) R2 ck
      refine ⟨go, fun H => i + 1 ≤ sr.1.length ∧ ∃ ρ st, Stp (ρ1 ++ [d]) (upd H1 d (.lst [])) ρ H ∧ Rep G F ρ st H ∧ cOut sr st1.length t c m1 t1 c1 e vs1 (wipeS sl vs) (sr.1.drop (i + 1)) st = .ok u0 stF,
        fun H' y => ⟨sr.1.length - (i + 1), by omega, rfl, y⟩, fun v H3 y3 => ?_⟩
      obtain ⟨e3, r3⟩ := yl v H3 y3
      have s3 : Stp ρ2 H2 ρ2 H3 := stp_yld e3
      have R3 := rep_yld R2 e3
      have sk' : SlOk G F ρ2 H3 (wipeS sl vs) (wipe σ vs) := (wipeS_ok (sk.mono s1) vs).mono ((sD.trans s2).trans s3)
      refine tg_ok (vs := vs) t r3 q1 sk' fun σ3 sk3 w3 => ⟨by rw [w3 hin, wipe_wipe], F, ρ2, sl1, st2, sk3, R3, ?_⟩
      rw [q2]
      intro ρ4 H4 b' s4 R4 eb
      obtain rfl : b = b' := eb
      rcases q3 with ⟨hb, q3⟩ | ⟨hb, sr1, st4, w, st5, q3, q4, q5⟩
      · subst hb
        exact iteF ⟨hlt, ρ4, st3, (s2.trans s3).trans s4, R4, q3⟩
      · subst hb
        refine iteT ⟨F, ρ4, sl1, st3, sk3.mono s4, R4, ?_⟩
        rw [q3]
        intro ρ5 H5 J1 s5 R5 it1
        have s25 := ((s2.trans s3).trans s4).trans s5
        refine ⟨fun j k H => k = sr1.1.length - j ∧ j ≤ sr1.1.length ∧ ∃ ρ st, Stp ρ5 H5 ρ H ∧ Rep G F ρ st H ∧ cIn sr1 st1.length t1 c1 e (wipeS sl1 vs1) (sr1.1.drop j) st = .ok w st5,
          ⟨sr1.1.length, by simp, Nat.zero_le _, ρ5, st4, Stp.refl _ _, R5, q4⟩, ?_⟩
        rintro j k H6 ⟨rfl, hj, ρ6, st6, s6, R6, hl6⟩
        by_cases hjl : j < sr1.1.length
        · right
          have hx1 : sr1.1[j]? = some sr1.1[j] := List.getElem?_eq_getElem hjl
          rw [List.drop_eq_getElem_cons hjl] at hl6
          obtain ⟨ck1, sl7, b7, st7, p1, p2, p3⟩ := cIn_cons hl6
          obtain ⟨go1, yl1⟩ := it1.go F j sr1.1[j] ρ6 H6 st6 (fun _ z => .inl z) hx1 s6 R6 ck1
          refine ⟨go1, fun H => j + 1 ≤ sr1.1.length ∧ ∃ ρ st, Stp ρ5 H5 ρ H ∧ Rep G F ρ st H ∧ cIn sr1 st1.length t1 c1 e (wipeS sl1 vs1) (sr1.1.drop (j + 1)) st = .ok w st5,
            fun H' y => ⟨sr1.1.length - (j + 1), by omega, rfl, y⟩, fun v7 H7 y7 => ?_⟩
          obtain ⟨e7, r7⟩ := yl1 v7 H7 y7
          have s7 : Stp ρ6 H6 ρ6 H7 := stp_yld e7
          have R7 := rep_yld R6 e7
          have sk7 : SlOk G F ρ6 H7 (wipeS sl1 vs1) (wipe σ3 vs1) := (wipeS_ok sk3 vs1).mono (((s4.trans s5).trans s6).trans s7)
          refine tg_ok (vs := vs1) t1 r7 p1 sk7 fun σ8 sk8 w8 => ⟨by rw [w8 hin1, wipe_wipe], F, ρ6, sl7, st6, sk8, R7, ?_⟩
          rw [p2]
          intro ρ8 H8 b8 s8 R8 eb8
          obtain rfl : b7 = b8 := eb8
          rcases p3 with ⟨hb7, p3⟩ | ⟨hb7, y, st9, st10, p3, p4, p5⟩
          · subst hb7
            exact iteF ⟨hjl, ρ8, st7, (s6.trans s7).trans s8, R8, p3⟩
          · subst hb7
            refine iteT ⟨F, ρ8, sl7, st7, sk8.mono s8, R8, ?_⟩
            rw [p3]
            intro ρ9 H9 wv s9 R9 rw9
            have s69 := ((s6.trans s7).trans s8).trans s9
            have aD := atD (s25.trans s69)
            unfold pushAt at p4
            cases q9 : st9[st1.length]? with
            | none => rw [q9] at p4; cases p4
            | some mo =>
              rw [q9] at p4
              cases mo with
              | lst zs =>
                simp only at p4
                cases z9 : small (zs.length + 1) with
                | false => rw [z9] at p4; cases p4
                | true =>
                  rw [z9] at p4
                  have p4 := Option.some.inj p4
                  obtain ⟨ws, hw, rws⟩ := R9.obj _ d _ aD q9
                  have hz := small_ok z9
                  have sN : Stp ρ9 H9 ρ9 (upd H9 d (.lst (ws ++ [wv]))) := stp_set aD
                  refine ⟨ws, hw, by rw [rws.length]; omega, hjl, ρ9, st10, s69.trans sN, ?_, p5⟩
                  rw [← p4]
                  exact R9.set aD hw (fun ps z => by cases z) (fun q => codeO_lst q) ⟨_, upd_same, (RelDs.mono sN.keeps zs rws).append (RelDs.one (RelD.mono sN.keeps y rw9))⟩
              | dct _ _ => cases p4
              | ins _ _ => cases p4
              | orc _ => cases p4
        · left
          have ej : j = sr1.1.length := by omega
          subst ej
          rw [List.drop_length] at hl6
          obtain ⟨ck1, e6⟩ := cIn_nil hl6
          subst e6
          exact ⟨it1.stop F ρ6 H6 st6 (fun _ z => .inl z) s6 R6 ck1, hlt, ρ6, st6, s25.trans s6, R6, q5⟩
    · left
      have ei : i = sr.1.length := by omega
      subst ei
      rw [List.drop_length] at hl2
      obtain ⟨ck, e2⟩ := cOut_nil hl2
      subst e2
      refine ⟨it.stop F ρ2 H2 st2 (fun _ z => .inl z) (sD.trans s2) R2 ck, ?_⟩
      have aD := atD s2
      have s12 := sD.trans s2
      unfold finC at h1
      cases mu with
      | true => exact h1 ρ2 H2 (.ref d) s12 R2 ⟨d, aD, rfl⟩
      | false =>
        simp only at h1
        cases q9 : st2[st1.length]? with
        | none => rw [q9] at h1; exact h1.elim
        | some mo =>
          rw [q9] at h1
          cases mo with
          | lst zs =>
            obtain ⟨ws, hw, rws⟩ := R2.obj _ d _ aD q9
            obtain ⟨mm, em⟩ := s12.pre
            have na : ¬ Nn F ρ1 d := R1.fresh hd
            have ke : Keeps (Nn F ρ2) H2 (Nn F ρ1) H2 := fun a o h n k => ⟨h, fun z => k (z.elim .inl fun z => .inr (by rw [em]; exact List.mem_append_left _ z))⟩
            have hb := R2.back s12
            rw [R1.len] at hb
            exact h1 ρ1 H2 (.ref d) s12.cut hb ⟨d, ws, rfl, ⟨hw, na⟩, RelDs.mono ke zs rws⟩
          | dct _ _ => exact h1.elim
          | ins _ _ => exact h1.elim
          | orc _ => exact h1.elim
theorem q_comp2 {X : Cx} {elt tg iter tg1 iter1 : Expr} {ifs ifs1 : List Expr} {scope : Scope} {own : List (Str × Nat)} {vs1 : List Nat} {pos : Pos} {mu : Bool} {m m1 : EM Src} {t t1 : Tgt} {c c1 : EM Bool} {e : EM DH.X} (hK : G.K = X.K) (hc : X.calm = true) (hN : X.N.Nodup) (hi : PI X tg iter (rdG G E m)) (ok : BlkOk X.N X.env.scope scope own) (hin : tgIn (own.map (·.2)) t = true) (hin1 : tgIn vs1 t1 = true) (hv : ∀ i ∈ vs1, i ∈ own.map (·.2))
    (hg : ∀ (s : Shared) (H : Hp) (C : Addr) (cl : List (Str × Addr)) (fp : List Addr), PG (X.blk s H scope (compEnvC scope cl C X.env) fp) tg (tgTG X.K t)) (ht : ∀ (s : Shared) (H : Hp) (C : Addr) (cl : List (Str × Addr)) (fp : List Addr), PTs (X.blk s H scope (compEnvC scope cl C X.env) fp) ifs (rdT G E0 c))
    (hi1 : ∀ (s : Shared) (H : Hp) (C : Addr) (cl : List (Str × Addr)) (fp : List Addr), PI (X.blk s H scope (compEnvC scope cl C X.env) fp) tg1 iter1 (rdG G E0 m1))
    (hg1 : ∀ (s : Shared) (H : Hp) (C : Addr) (cl : List (Str × Addr)) (fp : List Addr), PG (X.blk s H scope (compEnvC scope cl C X.env) fp) tg1 (tgTG X.K t1)) (ht1 : ∀ (s : Shared) (H : Hp) (C : Addr) (cl : List (Str × Addr)) (fp : List Addr), PTs (X.blk s H scope (compEnvC scope cl C X.env) fp) ifs1 (rdT G E0 c1))
    (he : ∀ (s : Shared) (H : Hp) (C : Addr) (cl : List (Str × Addr)) (fp : List Addr), PE (X.blk s H scope (compEnvC scope cl C X.env) fp) elt (rdE G E0 e)) (hs : ∀ x, foldedSetIterable iter X.env x = pure x) (hs1 : ∀ env x, foldedSetIterable iter1 env x = pure x) :
    PE X (.ListComp elt [⟨tg, iter, ifs, 0⟩, ⟨tg1, iter1, ifs1, 0⟩] scope pos) (rdE G E (eComp2 mu (own.map (·.2)) vs1 m t c m1 t1 c1 e)) := by
  refine PE.imp (pe_lc2 hc hN hi ok hv hg ht hi1 hg1 ht1 he hs hs1) fun σ H Q h => ?_
  have := rd_comp2 hin hin1 h
  rw [hK] at this
  exact this
theorem q_setComp2 {X : Cx} {i : Nat} {y : Str} {py spos : Pos} {elt tg iter tg1 iter1 : Expr} {ifs ifs1 : List Expr} {scope : Scope} {own : List (Str × Nat)} {vs1 : List Nat} {pos : Pos} {mu : Bool} {m m1 : EM Src} {t t1 : Tgt} {c c1 : EM Bool} {e : EM DH.X} (hK : G.K = X.K) (hc : X.calm = true) (hN : X.N.Nodup) (hy : X.N[i]? = some y) (hyl : X.env.scope.names.lookup y = some .local)
    (hsw : swapsWith (.ListComp elt [⟨tg, iter, ifs, 0⟩, ⟨tg1, iter1, ifs1, 0⟩] scope pos) (some (.Name y py)) spos.line X.env = pure true) (hi : PI X tg iter (rdG G E m)) (ok : BlkOk X.N X.env.scope scope own) (hin : tgIn (own.map (·.2)) t = true) (hin1 : tgIn vs1 t1 = true) (hv : ∀ i ∈ vs1, i ∈ own.map (·.2))
    (hg : ∀ (s : Shared) (H : Hp) (C : Addr) (cl : List (Str × Addr)) (fp : List Addr), PG (X.blk s H scope (compEnvC scope cl C X.env) fp) tg (tgTG X.K t)) (ht : ∀ (s : Shared) (H : Hp) (C : Addr) (cl : List (Str × Addr)) (fp : List Addr), PTs (X.blk s H scope (compEnvC scope cl C X.env) fp) ifs (rdT G E0 c))
    (hi1 : ∀ (s : Shared) (H : Hp) (C : Addr) (cl : List (Str × Addr)) (fp : List Addr), PI (X.blk s H scope (compEnvC scope cl C X.env) fp) tg1 iter1 (rdG G E0 m1))
    (hg1 : ∀ (s : Shared) (H : Hp) (C : Addr) (cl : List (Str × Addr)) (fp : List Addr), PG (X.blk s H scope (compEnvC scope cl C X.env) fp) tg1 (tgTG X.K t1)) (ht1 : ∀ (s : Shared) (H : Hp) (C : Addr) (cl : List (Str × Addr)) (fp : List Addr), PTs (X.blk s H scope (compEnvC scope cl C X.env) fp) ifs1 (rdT G E0 c1))
    (he : ∀ (s : Shared) (H : Hp) (C : Addr) (cl : List (Str × Addr)) (fp : List Addr), PE (X.blk s H scope (compEnvC scope cl C X.env) fp) elt (rdE G E0 e)) (hs : ∀ x, foldedSetIterable iter X.env x = pure x) (hs1 : ∀ env x, foldedSetIterable iter1 env x = pure x) :
    PS X (.Assign [.Name y py] (.ListComp elt [⟨tg, iter, ifs, 0⟩, ⟨tg1, iter1, ifs1, 0⟩] scope pos) spos) (rdS G E (sSet i (eComp2 mu (own.map (·.2)) vs1 m t c m1 t1 c1 e))) := by
  refine PS.imp (ps_setLc2 hc hN hy hyl hsw hi ok hv hg ht hi1 hg1 ht1 he hs hs1) fun D σ H h => ?_
  have h' := rd_set h
  have := rd_comp2 hin hin1 h'
  rw [hK] at this
  exact this
end
end DH
namespace DH
open PySem PySem.Spec PyProof.Rows L2
/-! ### sorted(ints, reverse=True) -/
def insDn (x : Int) : List Int → List Int
  | [] => [x]
  | y :: r => (match ltI x y with
    | true => y :: insDn x r
    | false => x :: y :: r)
def sortDn : List Int → List Int
  | [] => []
  | x :: r => insDn x (sortDn r)
theorem insDn_perm (x : Int) : ∀ l : List Int, (insDn x l).Perm (x :: l)
  | [] => .refl _
  | y :: r => by
    unfold insDn
    cases ltI x y with
    | true => exact ((insDn_perm x r).cons y).trans (.swap x y r)
    | false => exact .refl _
theorem sortDn_perm : ∀ l : List Int, (sortDn l).Perm l
  | [] => .refl _
  | x :: r => (insDn_perm x _).trans ((sortDn_perm r).cons x)
theorem insDn_ord (x : Int) : ∀ l : List Int, l.Pairwise (· ≥ ·) → (insDn x l).Pairwise (· ≥ ·)
  | [], _ => by unfold insDn; simp
  | y :: r, h => by
    unfold insDn
    have hh := List.pairwise_cons.mp h
    have e := ltI_eq x y
    cases q : ltI x y with
    | true =>
      rw [q] at e
      have hlt : x < y := of_decide_eq_true e.symm
      refine List.pairwise_cons.mpr ⟨fun z hz => ?_, insDn_ord x r hh.2⟩
      rcases List.mem_cons.mp ((insDn_perm x r).mem_iff.mp hz) with w | w
      · rw [w]; exact Int.le_of_lt hlt
      · exact hh.1 z w
    | false =>
      rw [q] at e
      have hlt : ¬ x < y := of_decide_eq_false e.symm
      refine List.pairwise_cons.mpr ⟨fun z hz => ?_, h⟩
      rcases List.mem_cons.mp hz with w | w
      · rw [w]; exact Int.not_lt.mp hlt
      · exact Int.le_trans (hh.1 z w) (Int.not_lt.mp hlt)
theorem sortDn_ord : ∀ l : List Int, (sortDn l).Pairwise (· ≥ ·)
  | [] => List.Pairwise.nil
  | x :: r => insDn_ord x _ (sortDn_ord r)
theorem eq_of_desc : ∀ {a b : List Int}, a.Perm b → a.Pairwise (· ≥ ·) → b.Pairwise (· ≥ ·) → a = b
  | [], b, p, _, _ => by
    have := p.length_eq
    exact (List.length_eq_zero_iff.mp this.symm).symm
  | x :: a, [], p, _, _ => by
    have := p.length_eq
    cases this
  | x :: a, y :: b, p, ha, hb => by
    have ha' := List.pairwise_cons.mp ha
    have hb' := List.pairwise_cons.mp hb
    have h1 : x = y := by
      have hx : x ∈ y :: b := p.mem_iff.mp (List.mem_cons_self ..)
      have hy : y ∈ x :: a := p.mem_iff.mpr (List.mem_cons_self ..)
      rcases List.mem_cons.mp hx with e | hx
      · exact e
      · rcases List.mem_cons.mp hy with e | hy
        · exact e.symm
        · exact Int.le_antisymm (hb'.1 x hx) (ha'.1 y hy)
    subst h1
    rw [eq_of_desc (List.Perm.cons_inv p) ha'.2 hb'.2]
def eSortRev (mu : Bool) (m : EM X) : EM X := fun sl st => (m sl st).bind fun x st1 => match deref st1 x with
  | some (.lst xs) => (match intsD xs with
    | some is => newL mu ((sortDn is).map D.int) st1
    | none => .bad)
  | _ => .bad
section
variable {X : Cx} {G : Gm} {E : XK} {e : Expr} {m : EM DH.X} {mu : Bool} {p pos kpos cp : Pos} {j : Nat}
theorem q_sortRev (hK : G.K = X.K) (hg : Gl X "sorted") (hm : X.mg "sorted" = none) (he : PE X e (rdE G E m))
    (h1 : backTo pos (starEach [e] X.env) = (false, eval e X.env) :: backTo pos (starEach [] X.env)) (h2 : (backTo pos (starEach [e] X.env)).any (·.1) = false) (hs : starEach [e] X.env = (false, eval e X.env) :: starEach [] X.env) :
    PE X (.Call (.Name "sorted" p) [e] [⟨some "reverse", .Constant (.bool true) j cp, kpos⟩] pos) (rdE G E (eSortRev mu m)) := by
  refine PE.imp (pe_callBK (ks := [Str.ofString "reverse"]) (cr_sortedRev (b := true)) hg hm boot_sorted (pa_cons he pa_nil hs) (pk_cons pe_bl pk_nil) (by decide) (by decide) h1 h2 rfl rfl rfl) fun σ H Q h => ?_
  obtain ⟨F, ρ, sl, st, sk, R, h⟩ := h
  refine ⟨F, ρ, sl, st, sk, R, PostG.mono (PostG.bind (R := rX G) h) fun v H1 h1 => ?_⟩
  obtain ⟨x, st1, ρ1, s1, R1, r1, h1⟩ := h1
  cases q : deref st1 x with
  | none => simp only [q] at h1; exact h1.elim
  | some d =>
    cases d with
    | lst xs =>
      simp only [q] at h1
      cases z : intsD xs with
      | none => simp only [z] at h1; exact h1.elim
      | some is =>
        simp only [z] at h1
        obtain ⟨a, vs, ev, hl, rs⟩ := view R1 r1 q
        have evs := intsD_rel z rs
        subst evs
        refine ⟨a, is, by rw [ev], rfl, SqL.of hl, fun ns' q0 hp ho hq => ?_⟩
        have ho : ns'.Pairwise (· ≥ ·) := ho
        have en : ns' = sortDn is := eq_of_desc (hp.trans (sortDn_perm is).symm) ho (sortDn_ord is)
        subst en
        exact newL_ok R1 (rel_ints _) hq h1
    | _ => simp only [q] at h1; exact h1.elim
/-! ### tuple(range(..)), whose methods may be called -/
def tTupRgF (te : L2.St → Hp → (Int → Int → Hp → Prop) → Prop) : TE := fun σ H Q => te σ H fun a b H1 => RgOk a b ∧ ∀ q (o : Obj), H1 q = none → o.dict = none → Q (.ref q) (upd H1 q (.frz o (.tup (rgV a b))))
theorem pe_tupRgF {te : L2.St → Hp → (Int → Int → Hp → Prop) → Prop} (hc : X.calm = true) (hg : Gl X "tuple") (hm : X.mg "tuple" = none) (he : PRg X e te) (na : starEach [e] X.env = (false, eval e X.env) :: starEach [] X.env) : PE X (.Call (.Name "tuple" p) [e] [] pos) (tTupRgF te) := by
  refine ⟨fun pins s σ H Q I h => ?_⟩
  refine Call_ (ld_blt I hg hm boot_tuple (PyProof.Rows.callWith_type1 (args_cons (thn (he pins s σ H _ I h) fun x s1 ⟨r, a, b, t, u, v, H1, ex, hr, I1, ok, q⟩ => args_nil ?_) na) na))
  subst ex
  obtain ⟨b1, b2, b3, b4, b5⟩ := ok
  refine call_tuple_range (n := (b - a).toNat) (I1.ok.hd hc) hr (small_one b1 b2 b3 b4) (rangeSize_nat a b) b5 fun h' tk acc hk hi => ?_
  have I2 : Inv X pins σ H1 { s1 with heap := h', toks := tk } := I1.kept hk
  refine ⟨.ref h'.objs.size, upd H1 h'.objs.size (.frz { cls := .type "tuple", data := .seq acc } (.tup (rgV a b))), I2.laid (t' := tk) (fun c o e => Heap.get?_push_of_some _ e) (Nat.le_refl _) (show ObjOk X.prog X.w _ _ _ (.frz _ (.tup (rgV a b))) from ⟨Heap.get?_push_size _ rfl, show ObjOk X.prog X.w _ _ _ (.tup (rgV a b)) from ⟨?_, acc.toList, vals_rg hi, ?_⟩⟩), rfl, q _ _ (I2.hok.fresh (Nat.le_refl _)) rfl⟩
  · rw [rgV_length, sizeLine_eq]; omega
  · rw [Array.toArray_toList]; exact IsTup.new _ _
def gTupRgF : DH.X → DH.X → Store → O DH.X := fun x y st => match x, y with
  | .d (.int i), .d (.int j) => (match int62 i && int62 j && Nat.ble (j - i).toNat 16777216 with
    | true => newTf true (upI i 1 (j - i).toNat) st
    | false => .bad)
  | _, _ => .bad
theorem tupRgF_ok (E : XK) (F : Addr → Prop) (ρ : List Addr) (H : Hp) (st : Store) (i j : Int) (Q : VK) (R : Rep G F ρ st H) (h : PostG G E (rX G) F ρ H (gTupRgF (.d (.int i)) (.d (.int j)) st) Q) : RgOk i j ∧ ∀ q (o : Obj), H q = none → o.dict = none → Q (.ref q) (upd H q (.frz o (.tup (rgV i j)))) := by
  unfold gTupRgF at h
  simp only at h
  cases z : (int62 i && int62 j && Nat.ble (j - i).toNat 16777216) with
  | false => rw [z] at h; exact h.elim
  | true =>
    rw [z] at h
    exact ⟨rgOk_of z, fun q o hq ho => newTf_ok (fl := true) (o := o) R (upI_rel _ _) hq (fun _ => ho) h⟩
theorem tupRgF_bad (x y : DH.X) (st : Store) (h : gTupRgF x y st ≠ .bad) : ∃ i j, x = .d (.int i) ∧ y = .d (.int j) := by
  cases x with
  | loc l => exact absurd rfl h
  | d u =>
    cases u with
    | int i =>
      cases y with
      | loc l => exact absurd rfl h
      | d w =>
        cases w with
        | int j => exact ⟨i, j, rfl, rfl⟩
        | _ => exact absurd rfl h
    | _ => exact absurd rfl h
variable {a b : Expr} {p2 pos2 : Pos} {ma mb : EM DH.X}
theorem q_tupRgF1 (hc : X.calm = true) (hg : Gl X "tuple") (hm : X.mg "tuple" = none) (hg2 : Gl X "range") (hm2 : X.mg "range" = none) (ha : PE X a (rdE G E ma)) (na : starEach [a] X.env = (false, eval a X.env) :: starEach [] X.env)
    (nb : starEach [.Call (.Name "range" p2) [a] [] pos2] X.env = (false, eval (.Call (.Name "range" p2) [a] [] pos2) X.env) :: starEach [] X.env) : PE X (.Call (.Name "tuple" p) [.Call (.Name "range" p2) [a] [] pos2] [] pos) (rdE G E (eRg1 gTupRgF ma)) :=
  PE.imp (pe_tupRgF hc hg hm (prg_1 hg2 hm2 ha na) nb) fun _ _ _ h => rd_rg1 tupRgF_ok (fun x st z => (tupRgF_bad _ _ st z).elim fun _ h => h.elim fun j h => ⟨j, h.2⟩) h
end
end DH
namespace DH
open PySem PySem.Spec PyProof.Rows L2
/-! ### break, continue -/
def sBrk : SM := fun sl st => .bk sl st
def sCnt : SM := fun sl st => .ct sl st
section
variable {X : Cx} {G : Gm} {E : XK} {pos : Pos}
theorem q_break : PS X (.Break pos) (rdS G E sBrk) := PS.imp ps_break fun D σ H h => by
  obtain ⟨F, ρ, sl, st, sk, R, h⟩ := h
  exact h ρ H σ (Stp.refl _ _) R sk
end
/-! ### texts -/
def strsD : List D → Option (List (List Nat))
  | [] => some []
  | .str c :: r => (match strsD r with
    | some cs => some (c :: cs)
    | none => none)
  | _ => none
section
variable {G : Gm}
theorem strsD_rel {N : Addr → Prop} {H : Hp} : ∀ {xs : List D} {cs : List (List Nat)} {vs : List V}, strsD xs = some cs → RelDs G N H xs vs → vs = (cs.map strOf).map V.str
  | [], cs, vs, h, r => by
    have e : [] = cs := Option.some.inj h
    subst e
    exact r
  | x :: xs, cs, vs, h, r => by
    obtain ⟨v, r', e, rx, rr⟩ := r
    subst e
    cases x with
    | str c =>
      unfold strsD at h
      cases z : strsD xs with
      | none => rw [z] at h; cases h
      | some ds =>
        rw [z] at h
        have e : c :: ds = cs := Option.some.inj h
        subst e
        rw [strsD_rel z rr]
        have : v = .str (strOf c) := rx
        rw [this]; rfl
    | _ => unfold strsD at h; cases h
theorem strOf_tl (s : Str) : strOf s.cps.toList = s := by
  cases s with
  | mk a => show (⟨a.toList.toArray⟩ : Str) = ⟨a⟩; rw [Array.toArray_toList]
def strD (s : Str) : D := .str s.cps.toList
theorem strD_rel {N : Addr → Prop} {H : Hp} (s : Str) : RelD G N H (strD s) (.str s) := by
  show V.str s = V.str (strOf s.cps.toList)
  rw [strOf_tl]
theorem strDs_rel {N : Addr → Prop} {H : Hp} : ∀ ss : List Str, RelDs G N H (ss.map strD) (ss.map V.str)
  | [] => rfl
  | s :: r => ⟨_, _, rfl, strD_rel s, strDs_rel r⟩
end
def nilN : List Nat → Bool
  | [] => true
  | _ :: _ => false
def eSplit (mu : Bool) (mo me : EM DH.X) : EM DH.X := fun sl st => (mo sl st).bind fun x st1 => match x with
  | .d (.str a) => (me sl st1).bind fun y st2 => (match y with
    | .d (.str b) => (match nilN b with
      | true => .bad
      | false => (match small (a.length + 2) with
        | true => newL mu ((Txt.split (strOf a) (strOf b)).map strD) st2
        | false => .bad))
    | _ => .bad)
  | _ => .bad
def sumL : List (List Nat) → Nat
  | [] => 0
  | c :: r => c.length + sumL r
theorem sumL_eq : ∀ cs : List (List Nat), sumL cs = ((cs.map strOf).map (·.length)).sum
  | [] => rfl
  | c :: r => by
    show c.length + sumL r = _
    rw [sumL_eq r, List.map_cons, List.map_cons, List.sum_cons, str_len]
def eJoin (mo me : EM DH.X) : EM DH.X := fun sl st => (mo sl st).bind fun x st1 => match x with
  | .d (.str a) => (me sl st1).bind fun y st2 => (match (match deref st2 y with | some (.lst xs) => some xs | some (.tup _ xs) => some xs | _ => none) with
    | some xs => (match strsD xs with
      | some cs => (match Nat.ble (sumL cs + cs.length * a.length) 16777216 with
        | true => .ok (.d (strD (Txt.join (strOf a) (cs.map strOf)))) st2
        | false => .bad)
      | none => .bad)
    | none => .bad)
  | _ => .bad
section
variable {X : Cx} {G : Gm} {E : XK} {o e : Expr} {mo me : EM DH.X} {mu : Bool} {apos pos : Pos}
theorem q_split (ho : PE X o (rdE G E mo)) (he : PE X e (rdE G E me)) (hs : starEach [e] X.env = [(false, eval e X.env)]) (hbase : attributeBase o "split" X.env (eval o X.env) = eval o X.env) (hline : (apos.endLine == pos.line) = true) :
    PE X (.Call (.Attribute o "split" apos) [e] [] pos) (rdE G E (eSplit mu mo me)) := by
  refine PE.imp (pe_split ho he hs hbase hline) fun σ H Q h => ?_
  obtain ⟨F, ρ, sl, st, sk, R, h⟩ := h
  refine ⟨F, ρ, sl, st, sk, R, PostG.mono (PostG.bind (R := rX G) h) fun v H1 h1 => ?_⟩
  obtain ⟨x, st1, ρ1, s1, R1, r1, h1⟩ := h1
  cases x with
  | loc _ => exact h1.elim
  | d x =>
    cases x with
    | str a =>
      have r1 : v = .str (strOf a) := r1
      refine ⟨⟨_, r1⟩, F, ρ1, sl, st1, sk.mono s1, R1, PostG.mono (PostG.bind (R := rX G) h1) fun w H2 h2 => ?_⟩
      obtain ⟨y, st2, ρ2, s2, R2, r2, h2⟩ := h2
      cases y with
      | loc _ => exact h2.elim
      | d y =>
        cases y with
        | str b =>
          have r2 : w = .str (strOf b) := r2
          simp only at h2
          cases z : nilN b with
          | true => rw [z] at h2; exact h2.elim
          | false =>
            rw [z] at h2
            simp only at h2
            cases z2 : small (a.length + 2) with
            | false => rw [z2] at h2; exact h2.elim
            | true =>
              rw [z2] at h2
              refine ⟨strOf a, strOf b, r1, by rw [r2], ?_, ?_, fun p hp => newL_ok R2 (strDs_rel _) hp h2⟩
              · rw [str_len]
                cases b with
                | nil => cases z
                | cons _ _ => rfl
              · rw [str_len]; exact small_ok z2
        | _ => exact h2.elim
    | _ => exact h1.elim
theorem q_join (hK : G.K = X.K) (ho : PE X o (rdE G E mo)) (he : PE X e (rdE G E me)) (hs : starEach [e] X.env = [(false, eval e X.env)]) (hbase : attributeBase o "join" X.env (eval o X.env) = eval o X.env) (hline : (apos.endLine == pos.line) = true) :
    PE X (.Call (.Attribute o "join" apos) [e] [] pos) (rdE G E (eJoin mo me)) := by
  refine PE.imp (pe_join ho he hs hbase hline) fun σ H Q h => ?_
  obtain ⟨F, ρ, sl, st, sk, R, h⟩ := h
  refine ⟨F, ρ, sl, st, sk, R, PostG.mono (PostG.bind (R := rX G) h) fun v H1 h1 => ?_⟩
  obtain ⟨x, st1, ρ1, s1, R1, r1, h1⟩ := h1
  cases x with
  | loc _ => exact h1.elim
  | d x =>
    cases x with
    | str a =>
      have r1 : v = .str (strOf a) := r1
      refine ⟨⟨_, r1⟩, F, ρ1, sl, st1, sk.mono s1, R1, PostG.mono (PostG.bind (R := rX G) h1) fun w H2 h2 => ?_⟩
      obtain ⟨y, st2, ρ2, s2, R2, r2, h2⟩ := h2
      have fin : ∀ (p : Addr) (xs : List D) (vs : List V), w = .ref p → (SqL X.K H2 p vs ∨ SqT X.K H2 p vs) → RelDs G (Nn F ρ2) H2 xs vs → PostG G E (rX G) F ρ2 H2 (match strsD xs with
          | some cs => (match Nat.ble (sumL cs + cs.length * a.length) 16777216 with
            | true => .ok (.d (strD (Txt.join (strOf a) (cs.map strOf)))) st2
            | false => .bad)
          | none => .bad) Q → ∃ a' p, ∃ ys : List Str, v = .str a' ∧ [w] = [.ref p] ∧ (SqL X.K H2 p (ys.map V.str) ∨ SqT X.K H2 p (ys.map V.str)) ∧ (ys.map (·.length)).sum + ys.length * a'.length ≤ 16777216 ∧ Q (.str (Txt.join a' ys)) H2 := by
        intro p xs vs ew hv rs h
        cases z : strsD xs with
        | none => rw [z] at h; exact h.elim
        | some cs =>
          rw [z] at h
          simp only at h
          cases z2 : Nat.ble (sumL cs + cs.length * a.length) 16777216 with
          | false => rw [z2] at h; exact h.elim
          | true =>
            rw [z2] at h
            have evs := strsD_rel z rs
            subst evs
            refine ⟨strOf a, p, cs.map strOf, r1, by rw [ew], hv, ?_, now1 R2 h (strD_rel _)⟩
            rw [← sumL_eq, List.length_map, str_len]
            exact Nat.le_of_ble_eq_true z2
      cases q : deref st2 y with
      | none => simp only [q] at h2; exact h2.elim
      | some d =>
        cases d with
        | lst xs =>
          simp only [q] at h2
          obtain ⟨p, vs, ev, hl, rs⟩ := view R2 r2 q
          exact fin p xs vs ev (.inl (SqL.of hl)) rs h2
        | tup f xs =>
          simp only [q] at h2
          have : y = .d (.tup f xs) := by
            cases y with
            | d z => exact congrArg DH.X.d (Option.some.inj q)
            | loc l =>
              exfalso
              unfold deref at q
              simp only at q
              split at q <;> cases q
          subst this
          obtain ⟨p, vs, ev, hf, rs⟩ := r2
          have hsq := hf.sq
          rw [hK] at hsq
          exact fin p xs vs ev (.inr hsq) rs h2
        | _ => simp only [q] at h2; exact h2.elim
    | _ => exact h1.elim
end
/-! ### text in text, and in rows -/
def subN (i j : List Nat) : Bool := !(Builtin.Str.occurrences (strOf j) (strOf i) 0 (strOf j).length 1).isEmpty
def gInX (neg : Bool) : D → D → Store → O DH.X := fun x y st => match x, y with
  | .str i, .str j => .ok (.d (.bl (match neg with | true => !subN i j | false => subN i j))) st
  | x, y => (match neg with | true => gNotIn x y st | false => gIn x y st)
section
variable {X : Cx} {G : Gm} {E : XK}
abbrev rInX (K : PySem.W.Frag) : R2 := fun x y H Q => rInLT K x y H Q ∨ (∃ i j, x = .str i ∧ y = .str j ∧ Q (.bl (!(Builtin.Str.occurrences j i 0 j.length 1).isEmpty)) H)
abbrev rNotInX (K : PySem.W.Frag) : R2 := fun x y H Q => rNotInLT K x y H Q ∨ (∃ i j, x = .str i ∧ y = .str j ∧ Q (.bl (!(!(Builtin.Str.occurrences j i 0 j.length 1).isEmpty))) H)
theorem op_inX (hu : X.A.units + 65 < cLine) : OpR X (compareOp .In) (rInX X.K) := (op_inLT hu).or op_in_str
theorem op_notInX (hu : X.A.units + 65 < cLine) : OpR X (compareOp .NotIn) (rNotInX X.K) := (op_notInLT hu).or op_notIn_str
theorem inX_v : OpV G (rInX G.K) (f2 (gInX false)) := op2 fun E F ρ H st a b v w Q R ra rb h => by
  unfold gInX at h
  split at h
  · rename_i i j
    have ra : v = .str (strOf i) := ra
    have rb : w = .str (strOf j) := rb
    exact .inr ⟨_, _, ra, rb, now1 R h rfl⟩
  · simp only at h
    unfold gIn at h
    cases z : inD a b with
    | none => rw [z] at h; exact h.elim
    | some k =>
      rw [z] at h
      obtain ⟨o1, o2, y⟩ := inD_some z
      rcases y with ⟨ys, e, y⟩ | ⟨f, ys, e, y⟩
      · subst e
        exact .inl (.inl ⟨_, toPys ys, ra.dp o1, rb.dp o2, okD_shaped o1, okD_shaped o2, by rw [y]; exact now1 R h rfl⟩)
      · subst e
        exact .inl (.inr ⟨_, toPys ys, ra.dp o1, rb.dp o2, okD_shaped o1, okD_shaped o2, by rw [y]; exact now1 R h rfl⟩)
theorem notInX_v : OpV G (rNotInX G.K) (f2 (gInX true)) := op2 fun E F ρ H st a b v w Q R ra rb h => by
  unfold gInX at h
  split at h
  · rename_i i j
    have ra : v = .str (strOf i) := ra
    have rb : w = .str (strOf j) := rb
    exact .inr ⟨_, _, ra, rb, now1 R h rfl⟩
  · simp only at h
    unfold gNotIn at h
    cases z : inD a b with
    | none => rw [z] at h; exact h.elim
    | some k =>
      rw [z] at h
      obtain ⟨o1, o2, y⟩ := inD_some z
      rcases y with ⟨ys, e, y⟩ | ⟨f, ys, e, y⟩
      · subst e
        exact .inl (.inl ⟨_, toPys ys, ra.dp o1, rb.dp o2, okD_shaped o1, okD_shaped o2, by rw [y]; exact now1 R h rfl⟩)
      · subst e
        exact .inl (.inr ⟨_, toPys ys, ra.dp o1, rb.dp o2, okD_shaped o1, okD_shaped o2, by rw [y]; exact now1 R h rfl⟩)
end
end DH
namespace DH
open PySem PySem.Spec PyProof.Rows L2
/-! ### is None -/
def isNon : DH.X → Bool
  | .d .non => true
  | _ => false
def fIsN (neg : Bool) : DH.X → DH.X → Store → O DH.X := fun x y st => match y with
  | .d .non => .ok (.d (.bl (match neg with | true => !isNon x | false => isNon x))) st
  | _ => .bad
section
variable {G : Gm}
theorem isNon_rel {F : Addr → Prop} {ρ : List Addr} {H : Hp} {x : DH.X} {v : V} (r : RelX G F ρ H x v) : decide (v = .non) = isNon x := by
  cases x with
  | loc l => obtain ⟨a, _, rfl⟩ := r; rfl
  | d y =>
    cases y with
    | non => have e : v = .non := r; subst e; rfl
    | bl b => have e : v = .bl b := r; subst e; rfl
    | int b => have e : v = .int b := r; subst e; rfl
    | str b => have e : v = .str (strOf b) := r; subst e; rfl
    | tup f b => obtain ⟨a, _, rfl, _⟩ := r; rfl
    | lst b => obtain ⟨a, _, rfl, _⟩ := r; rfl
    | dct t b => obtain ⟨a, rfl, _⟩ := r; rfl
    | obj t b => obtain ⟨a, _, _, rfl, _⟩ := r; rfl
theorem isN_v : OpV G (fun x y H Q => y = .non ∧ Q (.bl (decide (x = .non))) H) (fIsN false) := by
  intro E F ρ H st x y v w Q R rx ry h
  unfold fIsN at h
  split at h
  · refine ⟨ry, ?_⟩
    rw [isNon_rel rx]
    exact now1 R h rfl
  · exact h.elim
theorem notN_v : OpV G (fun x y H Q => y = .non ∧ Q (.bl (!decide (x = .non))) H) (fIsN true) := by
  intro E F ρ H st x y v w Q R rx ry h
  unfold fIsN at h
  split at h
  · refine ⟨ry, ?_⟩
    rw [isNon_rel rx]
    exact now1 R h rfl
  · exact h.elim
end
/-! ### a constant tuple of the module -/
section
variable {X : Cx} {G : Gm} {E : XK} {x : Str} {p : Pos} {d : D}
theorem relV_ref {v : V} {a : Addr} (h : RelV v (.ref a)) : v = .ref a := by
  cases v with
  | ref b =>
    have e : Value.ref a = .ref b := h
    cases e; rfl
  | int i => obtain ⟨_, e⟩ := h; cases e
  | str i => obtain ⟨_, e⟩ := h; cases e
  | byt i => obtain ⟨_, e⟩ := h; cases e
  | flt i => obtain ⟨_, e⟩ := h; cases e
  | _ => cases h
theorem q_kcon (hK : G.K = X.K) (hc : ckD X.K d (.ref (He.ga X.K x)) = true) (hg : Gl X x) (hm : X.mg x = some (.ref (He.ga X.K x))) (hd : (x == ("__debug__" : Str)) = false) : PE X (.Name x p) (rdE G E (eC d)) := by
  refine PE.imp (pe_glob (v := .ref (He.ga X.K x)) hg hm rfl hd) fun σ H Q h => ?_
  obtain ⟨F, ρ, sl, st, sk, R, h⟩ := h
  rw [← hK] at hc
  obtain ⟨v, r1, r2⟩ := ckD_ok (G := G) d hc
  rw [hK] at r1
  have e := relV_ref r1
  subst e
  exact h ρ H _ (Stp.refl _ _) R (r2 _ _)
end
/-! ### in elements: text in text, o.f -/
section
variable {X : Cx} {G : Gm} {cenv : Env} {a : Expr} {pos : Pos} {ma : EM DH.X}
theorem l_inX {op : CmpOp} {neg : Bool} (hop : (op = .In ∧ neg = false) ∨ (op = .NotIn ∧ neg = true)) (hK : G.K = X.K) : OpL X G (compareOp op) (f2 (gInX neg)) := by
  have base : OpL X G (compareOp op) (f2 (match neg with | true => gNotIn | false => gIn)) := by
    rcases hop with ⟨rfl, rfl⟩ | ⟨rfl, rfl⟩
    · exact l_in hK
    · exact l_notIn hK
  refine ⟨fun x z st y st' h => ?_, fun A' E' F ρ H st s x z y v w v' w' hh hu I R rx rz rv rw' h => ?_⟩
  · obtain ⟨a, b, q1, q2, h1⟩ := f2_ok h
    unfold gInX at h1
    split at h1
    · cases h1; rfl
    · refine base.1 x z st y st' ?_
      unfold f2
      rw [q1, q2]
      cases neg <;> exact h1
  · obtain ⟨a, b, q1, q2, h1⟩ := f2_ok h
    unfold gInX at h1
    split at h1
    · rename_i i j
      have e1 : v = .str (strOf i) := view R rx q1
      have e2 : w = .str (strOf j) := view R rz q2
      subst e1 e2
      obtain ⟨t, rfl⟩ := rv
      obtain ⟨t', rfl⟩ := rw'
      cases h1
      rcases hop with ⟨rfl, rfl⟩ | ⟨rfl, rfl⟩
      · exact PyProof.Rows.in_str ⟨⟨.bl _, rfl, rfl⟩, keeps_refl s⟩
      · exact PyProof.Rows.notIn_str ⟨⟨.bl _, rfl, rfl⟩, keeps_refl s⟩
    · refine base.2 A' E' F ρ H st s x z y v w v' w' hh hu I R rx rz rv rw' ?_
      unfold f2
      rw [q1, q2]
      cases neg <;> exact h1
theorem l_fld {f : Str} {n : Nat} {cs : List Nat} (hF : ∀ m n, G.fn m = G.fn n → m = n) (hf : G.fn n = f) (hc : AllC (fun c => Cls X.K (G.ca c) ∧ NoAttr X.K (G.ca c) f) cs) (ha : PL X G cenv a ma) (hb : attributeBase a f cenv (eval a cenv) = eval a cenv) : PL X G cenv (.Attribute a f pos) (eFld cs n ma) := by
  refine ⟨fun sl st y st' h => ?_, fun A' E' F ρ H sl st s y hh hu L h => ?_⟩
  · obtain ⟨x, st1, e1, h1⟩ := O.bind_ok h
    have := ha.pure_ _ _ _ _ e1
    subst this
    split at h1
    · split at h1
      · cases h1; rfl
      · cases h1
    · cases h1
  · obtain ⟨x, st1, e1, h1⟩ := O.bind_ok h
    have := ha.pure_ _ _ _ _ e1
    subst this
    split at h1
    · rename_i d q
      split at h1
      · rename_i y' q2
        cases h1
        refine attr_of hb (wpAny_mono (ha.run A' E' F ρ H sl st1 s x hh hu L e1) (fun u s1 hq => ?_) fun _ _ z => z)
        obtain ⟨⟨v, rv, rx⟩, k⟩ := hq
        have L1 := L.keeps k
        obtain ⟨pins, σ, s0, I⟩ := L1.inv
        obtain ⟨c, fs, rfl, hm, hl⟩ := gFld_ok q2
        obtain ⟨a', dx, ps, e2, e3, rf⟩ := view L1.rep rx q
        subst e2
        obtain rfl : u = Value.ref a' := rv
        obtain ⟨w, hw, rw'⟩ := RelF.look hF rf hl
        obtain ⟨c1, c2⟩ := AllC.of hc hm
        obtain ⟨mA, O, r, _, _, _⟩ := ins_get I.hok e3
        obtain ⟨u', hu', ru⟩ := RelO.some_of (v := w) (o := mA f) (by rw [← hw, hf]; exact r f)
        exact get_map I.kIn O (c1.get f) c1.hd c2 hu' (handed_of ru) ⟨⟨w, ru, rw'⟩, keeps_trans k (keeps_toks s1 _)⟩
      · cases h1
    · cases h1
end
/-! ### int(..) of a text too -/
def gIntX : D → Store → O DH.X := fun d st => match d with
  | .str cs => (match Nat.ble cs.length 640 with
    | true => (match PySem.intText? (strOf cs) with
      | some n => .ok (.d (.int n)) st
      | none => .bad)
    | false => .bad)
  | d => gInt d st
section
variable {X : Cx} {G : Gm}
abbrev rIntX : List V → Hp → VK → Prop := fun xs H Q => rInt1 xs H Q ∨ ∃ a n, xs = [V.str a] ∧ PySem.intText? a = some n ∧ a.length ≤ 640 ∧ Q (.int n) H
theorem call_intX : CallR X (.type "int") rIntX := call_int1.or call_int_str
theorem intX_v : CallV G rIntX (f1 gIntX) := cal1 fun E F ρ H st a v Q R ra h => by
  unfold gIntX at h
  split at h
  · rename_i cs
    have e : v = .str (strOf cs) := ra
    subst e
    cases z : Nat.ble cs.length 640 with
    | false => rw [z] at h; exact h.elim
    | true =>
      rw [z] at h
      simp only at h
      cases z2 : PySem.intText? (strOf cs) with
      | none => rw [z2] at h; exact h.elim
      | some n =>
        rw [z2] at h
        exact .inr ⟨_, n, rfl, z2, by rw [str_len]; exact Nat.le_of_ble_eq_true z, now1 R h rfl⟩
  · left
    cases a with
    | int i =>
      have e : v = .int i := ra
      subst e
      exact .inl ⟨i, rfl, now1 R h rfl⟩
    | bl b =>
      have e : v = .bl b := ra
      subst e
      refine .inr ⟨b, rfl, ?_⟩
      cases b <;> exact now1 R h rfl
    | _ => exact h.elim
end
/-! ### x += e: ints, texts, a list of the store -/
def fAug : DH.X → DH.X → Store → O DH.X := fun x y st => match x with
  | .loc l => (match st[l]? with
    | some (.lst xs) => (match y with
      | .d (.lst ys) => (match small (xs.length + ys.length) with
        | true => .ok (.loc l) (st.set l (.lst (xs ++ ys)))
        | false => .bad)
      | _ => .bad)
    | _ => .bad)
  | .d (.int i) => (match y with
    | .d (.int j) => .ok (.d (.int (i + j))) st
    | _ => .bad)
  | .d (.str a) => (match y with
    | .d (.str b) => (match small (a.length + b.length) with
      | true => .ok (.d (.str (a ++ b))) st
      | false => .bad)
    | _ => .bad)
  | _ => .bad
section
variable {X : Cx} {G : Gm}
abbrev rAug : R2 := fun x y H Q => (rI0 fun i j => .int (i + j)) x y H Q ∨ (∃ i j, x = .str i ∧ y = .str j ∧ i.length + j.length ≤ sizeLine ∧ Q (.str (i ++ j)) H) ∨ rExt2 x y H Q
theorem ip_aug : PIp X .Add rAug := fun pins s σ H x y v u Q I rx ry h => (iop_add.or (iop_add_str.or iop_ext)) pins s σ H x y v u Q I rx ry h
theorem aug_v : OpV G rAug fAug := by
  intro E F ρ H st x y v w Q R rx ry h
  unfold fAug at h
  split at h
  · rename_i l
    split at h
    · rename_i xs q
      split at h
      · rename_i ys
        cases z : small (xs.length + ys.length) with
        | false => rw [z] at h; exact h.elim
        | true =>
          rw [z] at h
          obtain ⟨a, e1, e2⟩ := rx
          obtain ⟨ws, e3, r3⟩ := R.obj l a _ e1 q
          obtain ⟨b, vs, e4, f, r4⟩ := ry
          have hz := small_ok z
          refine .inr (.inr ⟨a, b, ws, vs, e2, e4, e3, f.1, by rw [r3.length, r4.length]; exact hz, ?_⟩)
          have s : Stp ρ H ρ (upd H a (.lst (ws ++ vs))) := stp_set e1
          exact h ρ _ (.ref a) s (R.set e1 e3 (fun ps z => by cases z) (fun q => codeO_lst q) ⟨_, upd_same, (RelDs.mono s.keeps xs r3).append (RelDs.mono s.keeps ys r4)⟩) ⟨a, e1, rfl⟩
      · exact h.elim
    · exact h.elim
  · rename_i i
    split at h
    · rename_i j
      exact .inl ⟨i, j, rx, ry, now1 R h rfl⟩
    · exact h.elim
  · rename_i a
    split at h
    · rename_i b
      cases z : small (a.length + b.length) with
      | false => rw [z] at h; exact h.elim
      | true =>
        rw [z] at h
        refine .inr (.inl ⟨_, _, rx, ry, by rw [str_len, str_len]; exact small_ok z, ?_⟩)
        rw [str_append]
        exact now1 R h rfl
    · exact h.elim
  · exact h.elim
end
end DH
namespace DH
open PySem PySem.Spec PyProof.Rows L2
/-! ### a part of a suite whose end is told by an equation (places may be free) -/
def keepNx (ks : List Nat) (o : SO) : Option (Slots × Store) := match o with
  | .nx sl st => some (keepO ks 0 sl, st)
  | _ => none
theorem keepNx_ok {ks : List Nat} {o : SO} {slB : Slots} {stB : Store} (h : keepNx ks o = some (slB, stB)) : ∃ sl, o = .nx sl stB ∧ keepO ks 0 sl = slB := by
  unfold keepNx at h
  split at h
  · rename_i sl st
    have e := Option.some.inj h
    obtain ⟨e1, e2⟩ := Prod.mk.inj e
    exact ⟨sl, by rw [e2], e1⟩
  · cases h
theorem seg_eq {g : List SM} {ks : List Nat} {k : SM} {sl0 slB : Slots} {st stB : Store} (h : keepNx ks (seqAll g sl0 st) = some (slB, stB)) (hkk : ∀ sl st, k sl st = k (keepO ks 0 sl) st) (hk : ∃ sl st', k slB stB = .nx sl st') : ∃ sl st', sSeqs g k sl0 st = .nx sl st' := by
  obtain ⟨sl, e, ek⟩ := keepNx_ok h
  rw [sSeqs_nx e, hkk, ek]
  exact hk
theorem only_at {ks : List Nat} {k : SM} {slB : Slots} {st : Store} (hk : keepO ks 0 slB = slB) (h : ∃ sl st', k slB st = .nx sl st') : ∃ sl st', sOnly ks k slB st = .nx sl st' := by
  unfold sOnly
  rw [hk]
  exact h
/-- an `or` of tests that are all false -/
theorem or_ff {m n : EM Bool} {sl : Slots} {st : Store} (h1 : m sl st = .ok false st) (h2 : n sl st = .ok false st) : tOrM m n sl st = .ok false st := by
  unfold tOrM
  rw [h1]
  exact h2
theorem if_f {t : EM Bool} {a b : SM} {sl : Slots} {st : Store} (h : t sl st = .ok false st) : sIf t a b sl st = b sl st := by
  unfold sIf
  rw [h]
  rfl
/-- two parts, one behind the other -/
theorem mem2 {α β : Type} {P : α → β → Prop} {as : List α} {bs : List β} (h : ∀ a ∈ as, ∀ b ∈ bs, P a b) {a : α} {b : β} (ha : a ∈ as) (hb : b ∈ bs) : P a b := h a ha b hb
end DH
namespace DH
open PySem PySem.Spec PyProof.Rows L2
/-! ### least, greatest of a list or tuple of ints -/
def foldI (mx : Bool) : Int → List Int → Int
  | m, [] => m
  | m, x :: xs => (match mx with
    | true => (match ltI m x with | true => foldI mx x xs | false => foldI mx m xs)
    | false => (match ltI x m with | true => foldI mx x xs | false => foldI mx m xs))
theorem foldI_min : ∀ (xs : List Int) (m : Int), foldI false m xs = xs.foldl min m
  | [], m => rfl
  | x :: xs, m => by
    unfold foldI
    show (match ltI x m with | true => foldI false x xs | false => foldI false m xs) = List.foldl min (min m x) xs
    cases q : ltI x m with
    | true =>
      have h : x < m := of_decide_eq_true (by rw [← ltI_eq]; exact q)
      rw [foldI_min xs x, Int.min_eq_right (by omega)]
    | false =>
      have h : ¬ x < m := of_decide_eq_false (by rw [← ltI_eq]; exact q)
      rw [foldI_min xs m, Int.min_eq_left (by omega)]
theorem foldI_max : ∀ (xs : List Int) (m : Int), foldI true m xs = xs.foldl max m
  | [], m => rfl
  | x :: xs, m => by
    unfold foldI
    show (match ltI m x with | true => foldI true x xs | false => foldI true m xs) = List.foldl max (max m x) xs
    cases q : ltI m x with
    | true =>
      have h : m < x := of_decide_eq_true (by rw [← ltI_eq]; exact q)
      rw [foldI_max xs x, Int.max_eq_right (by omega)]
    | false =>
      have h : ¬ m < x := of_decide_eq_false (by rw [← ltI_eq]; exact q)
      rw [foldI_max xs m, Int.max_eq_left (by omega)]
theorem reads_ints {h : Heap} : ∀ {ns : List Int} {its : List Value}, Vals (ns.map V.int) its → ReadsAll h its (ns.map PyData.int) []
  | [], its, r => by
    have r' : Vals [] its := r
    cases r'
    exact .nil
  | n :: ns, its, r => by
    have r' : Vals (V.int n :: ns.map V.int) its := r
    cases r' with
    | cons r1 r2 =>
      obtain ⟨t, rfl⟩ := r1
      exact .cons (as := []) (bs := []) (.int n t) (reads_ints r2)
theorem alikeAll_ints (ns : List Int) : PySem.W.AlikeAll (ns.map PyData.int) := by
  refine ⟨fun x hx y hy => ?_, fun x hx => ?_⟩
  · obtain ⟨i, _, rfl⟩ := List.mem_map.mp hx
    obtain ⟨j, _, rfl⟩ := List.mem_map.mp hy
    rfl
  · obtain ⟨i, _, rfl⟩ := List.mem_map.mp hx
    intro z; cases z
theorem depth_ints : ∀ (ns : List Int), PyData.depthAll (ns.map PyData.int) = 0
  | [] => rfl
  | n :: ns => by
    show max (PyData.depth (.int n)) (PyData.depthAll (ns.map PyData.int)) = 0
    rw [depth_ints ns]
    rfl
abbrev rBest (K : PySem.W.Frag) (mx : Bool) : List V → Hp → VK → Prop := fun vs H Q => ∃ (a : Addr) (n : Int) (ns : List Int), vs = [V.ref a] ∧ (SqL K H a ((n :: ns).map V.int) ∨ SqT K H a ((n :: ns).map V.int)) ∧ Q (.int (foldI mx n ns)) H
section
variable {X : Cx} {G : Gm} {E : XK}
theorem cr_minX (hc : X.calm = true) (hu : X.A.units + 65 < cLine) : CallR X (.builtin "min") (rBest X.K false) := by
  intro pins s σ H vs us Q I r h
  obtain ⟨a, n, ns, rfl, hs, q⟩ := h
  rw [Vals.ref1 r]
  have fin : ∀ (v : Value) (h' : Heap) (tk : Nat) (bs : List Addr), Reads h' v (PySem.W.minD (.int n) (ns.map .int)) bs → (∀ b o, s.heap.get? b = some o → h'.get? b = some o) → EP X pins σ Q v { s with heap := h', toks := tk } := fun v h' tk bs rd hk => by
    rw [PySem.W.minD_ints, ← foldI_min] at rd
    cases rd with
    | int i t => exact ⟨.int _, H, I.kept hk, ⟨t, rfl⟩, q⟩
  have hd : X.A.units + 1 + PyData.depthAll ((n :: ns).map PyData.int) < cLine := by rw [depth_ints]; omega
  rcases hs with hs | hs
  · obtain ⟨its, rv, hl, _⟩ := I.list hs
    exact PySem.W.min_list_data (I.ok.hd hc) hl.isList (reads_ints (ns := n :: ns) (by simpa using rv)) (alikeAll_ints (n :: ns)) hd fun i v h' tk bs e rd hk => fin v h' tk bs rd hk
  · obtain ⟨its, rv, pl, hz⟩ := I.tuple hs
    exact PySem.W.min_tuple_data (I.ok.hd hc) (show s.heap.IsTuple a its.toArray from pl) (reads_ints (ns := n :: ns) (by simpa using rv)) (alikeAll_ints (n :: ns)) hd fun i v h' tk bs e rd hk => fin v h' tk bs rd hk
theorem cr_maxX (hc : X.calm = true) (hu : X.A.units + 65 < cLine) : CallR X (.builtin "max") (rBest X.K true) := by
  intro pins s σ H vs us Q I r h
  obtain ⟨a, n, ns, rfl, hs, q⟩ := h
  rw [Vals.ref1 r]
  have fin : ∀ (v : Value) (h' : Heap) (tk : Nat) (bs : List Addr), Reads h' v (PySem.W.maxD (.int n) (ns.map .int)) bs → (∀ b o, s.heap.get? b = some o → h'.get? b = some o) → EP X pins σ Q v { s with heap := h', toks := tk } := fun v h' tk bs rd hk => by
    rw [PySem.W.maxD_ints, ← foldI_max] at rd
    cases rd with
    | int i t => exact ⟨.int _, H, I.kept hk, ⟨t, rfl⟩, q⟩
  have hd : X.A.units + 1 + PyData.depthAll ((n :: ns).map PyData.int) < cLine := by rw [depth_ints]; omega
  rcases hs with hs | hs
  · obtain ⟨its, rv, hl, _⟩ := I.list hs
    exact PySem.W.max_list_data (I.ok.hd hc) hl.isList (reads_ints (ns := n :: ns) (by simpa using rv)) (alikeAll_ints (n :: ns)) hd fun i v h' tk bs e rd hk => fin v h' tk bs rd hk
  · obtain ⟨its, rv, pl, hz⟩ := I.tuple hs
    exact PySem.W.max_tuple_data (I.ok.hd hc) (show s.heap.IsTuple a its.toArray from pl) (reads_ints (ns := n :: ns) (by simpa using rv)) (alikeAll_ints (n :: ns)) hd fun i v h' tk bs e rd hk => fin v h' tk bs rd hk
def gBest (mx : Bool) : D → Store → O DH.X := fun a st => match a with
  | .lst xs => (match intsD xs with
    | some (n :: ns) => .ok (.d (.int (foldI mx n ns))) st
    | _ => .bad)
  | .tup _ xs => (match intsD xs with
    | some (n :: ns) => .ok (.d (.int (foldI mx n ns))) st
    | _ => .bad)
  | _ => .bad
theorem best_v {mx : Bool} : CallV G (rBest G.K mx) (f1 (gBest mx)) := cal1 fun E F ρ H st a v Q R ra h => by
  cases a with
  | lst xs =>
    unfold gBest at h
    cases z : intsD xs with
    | none => simp only [z] at h; exact h.elim
    | some is =>
      cases is with
      | nil => simp only [z] at h; exact h.elim
      | cons n ns =>
        simp only [z] at h
        obtain ⟨p, vs, e, f, r⟩ := ra
        subst e
        rw [intsD_rel z r] at f
        exact ⟨p, n, ns, rfl, .inl (SqL.of f), now1 R h rfl⟩
  | tup fl xs =>
    unfold gBest at h
    cases z : intsD xs with
    | none => simp only [z] at h; exact h.elim
    | some is =>
      cases is with
      | nil => simp only [z] at h; exact h.elim
      | cons n ns =>
        simp only [z] at h
        obtain ⟨p, vs, e, f, r⟩ := ra
        subst e
        rw [intsD_rel z r] at f
        exact ⟨p, n, ns, rfl, .inr f, now1 R h rfl⟩
  | _ => exact h.elim
/-! ### a < b: ints, tuples of ints -/
def lexI : List Int → List Int → Bool
  | [], [] => false
  | [], _ :: _ => true
  | _ :: _, [] => false
  | x :: xs, y :: ys => (match eqI x y with
    | true => lexI xs ys
    | false => ltI x y)
theorem eqI_iff (x y : Int) : eqI x y = true ↔ x = y := ⟨fun h => eqI_true h, fun h => by subst h; cases x <;> (unfold eqI; exact Nat.beq_refl _)⟩
theorem lexI_eq : ∀ (xs ys : List Int), lexI xs ys = HT.lexLt xs ys
  | [], [] => rfl
  | [], _ :: _ => rfl
  | _ :: _, [] => rfl
  | x :: xs, y :: ys => by
    unfold lexI
    rw [HT.lexLt_cons]
    cases q : eqI x y with
    | true =>
      rw [if_pos ((eqI_iff x y).mp q)]
      exact lexI_eq xs ys
    | false =>
      rw [if_neg (fun e => by rw [(eqI_iff x y).mpr e] at q; cases q)]
      exact ltI_eq x y
def gLtX : D → D → Store → O DH.X := fun a b st => match a with
  | .int i => (match b with
    | .int j => .ok (.d (.bl (ltI i j))) st
    | _ => .bad)
  | .tup _ xs => (match b with
    | .tup _ ys => (match intsD xs with
      | some is => (match intsD ys with
        | some js => .ok (.d (.bl (lexI is js))) st
        | none => .bad)
      | none => .bad)
    | _ => .bad)
  | _ => .bad
abbrev rLtX (K : PySem.W.Frag) : R2 := fun x y H Q => (rI0 fun i j => .bl (decide (i < j))) x y H Q ∨ rLtT K x y H Q
theorem op_ltX (hu : X.A.units + 65 < cLine) : OpR X (compareOp .Lt) (rLtX X.K) := op_lt.or (op_ltT (by omega))
theorem ltX_v : OpV G (rLtX G.K) (f2 gLtX) := op2 fun E F ρ H st a b v w Q R ra rb h => by
  cases a with
  | int i =>
    cases b with
    | int j => exact .inl ⟨i, j, ra, rb, now1 R h (by show V.bl _ = V.bl _; rw [ltI_eq])⟩
    | _ => exact h.elim
  | tup f xs =>
    cases b with
    | tup g ys =>
      unfold gLtX at h
      cases z : intsD xs with
      | none => simp only [z] at h; exact h.elim
      | some is =>
        cases z2 : intsD ys with
        | none => simp only [z, z2] at h; exact h.elim
        | some js =>
          simp only [z, z2] at h
          obtain ⟨p, vs, e, f, r⟩ := ra
          obtain ⟨p2, vs2, e2, f2, r2⟩ := rb
          subst e e2
          rw [intsD_rel z r] at f
          rw [intsD_rel z2 r2] at f2
          exact .inr ⟨p, p2, is, js, rfl, rfl, f, f2, now1 R h (by show V.bl _ = V.bl _; rw [lexI_eq])⟩
    | _ => exact h.elim
  | _ => exact h.elim
/-! ### a, b, c = e, f, g: three local names -/
def sPar3 (i j l : Nat) (a b c : EM DH.X) : SM := fun sl st => (a sl st).s fun x st1 => (b sl st1).s fun y st2 => (c sl st2).s fun z st3 => .nx (((sl.set i (some x)).set j (some y)).set l (some z)) st3
theorem q_par3 {x y z : Str} {a b c : Expr} {i j l kt k2 : Nat} {px py pz pt pt2 pos : Pos} {ma mb mc : EM DH.X} (hc : X.calm = true) (hN : X.N.Nodup) (hi : X.N[i]? = some x) (hj : X.N[j]? = some y) (hl : X.N[l]? = some z) (hij : i ≠ j) (hil : i ≠ l) (hjl : j ≠ l)
    (hx : X.env.scope.names.lookup x = some .local) (hy : X.env.scope.names.lookup y = some .local) (hz : X.env.scope.names.lookup z = some .local)
    (ha : PE X a (rdE G E ma)) (hb : PE X b (rdE G E mb)) (hcc : PE X c (rdE G E mc)) (he : starEach [a, b, c] X.env = (false, eval a X.env) :: starEach [b, c] X.env) (he2 : starEach [b, c] X.env = (false, eval b X.env) :: starEach [c] X.env) (he3 : starEach [c] X.env = (false, eval c X.env) :: starEach [] X.env)
    (hw : swappedStores [.Tuple [.Name x px, .Name y py, .Name z pz] kt pt] (.Tuple [a, b, c] k2 pt2) X.env = pure (some [x, y, z])) (hs : swapsWithSole [.Tuple [.Name x px, .Name y py, .Name z pz] kt pt] (.Tuple [a, b, c] k2 pt2) pos.line X.env = pure false) :
    PS X (.Assign [.Tuple [.Name x px, .Name y py, .Name z pz] kt pt] (.Tuple [a, b, c] k2 pt2) pos) (rdS G E (sPar3 i j l ma mb mc)) := by
  refine PS.imp (ps_par3 hc hN hi hj hl hij hil hjl hx hy hz (pa_cons ha (pa_cons hb (pa_cons hcc pa_nil he3) he2) he) hw hs) fun D σ H h => ?_
  obtain ⟨F, ρ, sl, st, sk, R, h⟩ := h
  refine ⟨F, ρ, sl, st, sk, R, PostG.mono (PostS.part (R := rX G) h) fun v H1 h1 => ?_⟩
  obtain ⟨x, st1, ρ1, s1, R1, r1, h1⟩ := h1
  refine ⟨F, ρ1, sl, st1, sk.mono s1, R1, PostG.mono (PostS.part (R := rX G) h1) fun w H2 h2 => ?_⟩
  obtain ⟨y, st2, ρ2, s2, R2, r2, h2⟩ := h2
  refine ⟨F, ρ2, sl, st2, (sk.mono s1).mono s2, R2, PostG.mono (PostS.part (R := rX G) h2) fun u H3 h3 => ?_⟩
  obtain ⟨z, st3, ρ3, s3, R3, r3, h3⟩ := h3
  exact ⟨v, w, u, rfl, h3 ρ3 H3 _ (Stp.refl _ _) R3 ((((((sk.mono s1).mono s2).mono s3).set i ((r1.mono s2).mono s3)).set j (r2.mono s3)).set l r3)⟩
/-! ### x %= e, x //= e, x -= e -/
def gModP : D → D → Store → O DH.X := fun a b st => match a with
  | .int i => (match b with
    | .int (.ofNat j) => (match Nat.blt 0 j with
      | true => .ok (.d (.int (i.emod (Int.ofNat j)))) st
      | false => .bad)
    | _ => .bad)
  | _ => .bad
theorem ip_mod : PIp X .Mod (rI (fun _ j => 0 < j) fun i j => .int (i % j)) := fun pins s σ H x y v u Q I rx ry h => iop_mod pins s σ H x y v u Q I rx ry h
theorem modP_v : OpV G (rI (fun _ j => 0 < j) fun i j => .int (i % j)) (f2 gModP) := op2 fun E F ρ H st a b v w Q R ra rb h => by
  cases a with
  | int i =>
    cases b with
    | int j =>
      cases j with
      | ofNat k =>
        unfold gModP at h
        cases z : Nat.blt 0 k with
        | false => simp only [z] at h; exact h.elim
        | true =>
          simp only [z] at h
          have : 0 < k := Nat.le_of_ble_eq_true z
          exact ⟨i, Int.ofNat k, ra, rb, by show (0 : Int) < (k : Int); omega, now1 R h rfl⟩
      | negSucc k => exact h.elim
    | _ => exact h.elim
  | _ => exact h.elim
theorem cdiv_ok {i : Int} {k : Nat} (h1 : 0 < k) (h2 : k < 1073741824) : CDiv i (Int.ofNat k) := by
  have e2 : Int.ofNat k = (k : Int) := rfl
  unfold CDiv
  rw [e2]
  omega
def gDivP : D → D → Store → O DH.X := fun a b st => match a with
  | .int i => (match b with
    | .int (.ofNat j) => (match Nat.blt 0 j && Nat.blt j 1073741824 with
      | true => .ok (.d (.int (i.ediv (Int.ofNat j)))) st
      | false => .bad)
    | _ => .bad)
  | _ => .bad
theorem ip_fdiv : PIp X .FloorDiv (rI CDiv fun i j => .int (i / j)) := fun pins s σ H x y v u Q I rx ry h => iop_fdiv pins s σ H x y v u Q I rx ry h
theorem divP_v : OpV G (rI CDiv fun i j => .int (i / j)) (f2 gDivP) := op2 fun E F ρ H st a b v w Q R ra rb h => by
  cases a with
  | int i =>
    cases b with
    | int j =>
      cases j with
      | ofNat k =>
        unfold gDivP at h
        cases z : (Nat.blt 0 k && Nat.blt k 1073741824) with
        | false => simp only [z] at h; exact h.elim
        | true =>
          simp only [z] at h
          obtain ⟨z1, z2⟩ := Bool.and_eq_true_iff.mp z
          have h1 : 0 < k := Nat.le_of_ble_eq_true z1
          have h2 : k < 1073741824 := Nat.le_of_ble_eq_true z2
          exact ⟨i, Int.ofNat k, ra, rb, cdiv_ok h1 h2, now1 R h rfl⟩
      | negSucc k => exact h.elim
    | _ => exact h.elim
  | _ => exact h.elim
theorem ip_sub : PIp X .Sub (rI0 fun i j => .int (i - j)) := fun pins s σ H x y v u Q I rx ry h => iop_sub pins s σ H x y v u Q I rx ry h
end
end DH
namespace DH
open PySem PySem.Spec PyProof.Rows L2
/-! ### generator expressions with an if -/
section
variable {X : Cx} {G : Gm} {cenv : Env} {a b c : Expr} {pos : Pos} {ma mb mc : EM DH.X}
/-- o[i] in an element -/
theorem l_ixOp {value slice : Expr} (hK : G.K = X.K) (hs : PlainIx slice) : OpL X G (subscriptTail value slice) (f2 gIx) := by
  have key : ∀ {a b : D} {st st' : Store} {y : DH.X}, gIx a b st = .ok y st' → st' = st ∧ ((∃ f xs i x, a = .tup f xs ∧ b = .int i ∧ getM xs i = some x ∧ y = .d x) ∨ (∃ xs i x, a = .lst xs ∧ b = .int i ∧ getM xs i = some x ∧ y = .d x) ∨
      ∃ cs i c, a = .str cs ∧ b = .int i ∧ small cs.length = true ∧ getM cs i = some c ∧ y = .d (.str [c])) := fun {a b st st' y} h => by
    unfold gIx at h
    split at h
    · rename_i f xs i
      cases q : getM xs i with
      | none => rw [q] at h; cases h
      | some x => rw [q] at h; cases h; exact ⟨rfl, .inl ⟨f, xs, i, x, rfl, rfl, q, rfl⟩⟩
    · rename_i xs i
      cases q : getM xs i with
      | none => rw [q] at h; cases h
      | some x => rw [q] at h; cases h; exact ⟨rfl, .inr (.inl ⟨xs, i, x, rfl, rfl, q, rfl⟩)⟩
    · rename_i cs i
      cases z : small cs.length with
      | false => rw [z] at h; cases h
      | true =>
        rw [z] at h
        simp only at h
        cases q : getM cs i with
        | none => rw [q] at h; cases h
        | some x => rw [q] at h; cases h; exact ⟨rfl, .inr (.inr ⟨cs, i, x, rfl, rfl, z, q, rfl⟩)⟩
    · cases h
  refine ⟨fun x z st y st' h => ?_, fun A' E' F ρ H st s x z y v w v' w' hh hu I R rx rz rv rw' h => ?_⟩
  · obtain ⟨a, b, _, _, h⟩ := f2_ok h
    exact (key h).1
  · obtain ⟨a, b, q1, q2, h⟩ := f2_ok h
    obtain ⟨pins, σ, s0, I⟩ := I
    have hn := line63
    rcases (key h).2 with ⟨f, xs, i, x, rfl, rfl, q, rfl⟩ | ⟨xs, i, x, rfl, rfl, q, rfl⟩ | ⟨cs, i, c, rfl, rfl, z, q, rfl⟩
    · obtain ⟨p, vs, e, fz, r⟩ := view R rx q1
      have e2 : w = .int i := view R rz q2
      subst e e2
      cases rv
      obtain ⟨t, rfl⟩ := rw'
      obtain ⟨u, hu', ru⟩ := r.atI q
      have fz' : SqT X.K H p vs := by rw [← hK]; exact fz
      obtain ⟨its, r2, pl, hz⟩ := I.tuple fz'
      obtain ⟨j, h1, h2, h3, h4, h5⟩ := atI_get hu'
      obtain ⟨w', ew, rw''⟩ := r2.get h2
      have hl := r2.length
      exact subscriptTail_builtinR (s := s) (x := w') pl.typeIs slot_tuple_getitem.lookup
        (getItem_tuple (j := j) (Q := fun r s' => r = w' ∧ LPost G F ρ H (.d x) s r s') pl (by omega) (by omega) (by rw [List.size_toArray, ← hl]; exact h1) (by simpa using ew) ⟨rfl, ⟨u, rw'', ru⟩, keeps_refl s⟩) (hs _ _)
    · obtain ⟨p, vs, e, fz, r⟩ := view R rx q1
      have e2 : w = .int i := view R rz q2
      subst e e2
      cases rv
      obtain ⟨t, rfl⟩ := rw'
      obtain ⟨u, hu', ru⟩ := r.atI q
      obtain ⟨its, r2, pl, hz⟩ := I.list (SqL.of fz)
      obtain ⟨j, h1, h2, h3, h4, h5⟩ := atI_get hu'
      obtain ⟨w', ew, rw''⟩ := r2.get h2
      have hl := r2.length
      have fin : LPost G F ρ H (.d x) s w' s := ⟨⟨u, rw'', ru⟩, keeps_refl s⟩
      have pl' : s.heap.IsList p its.toArray := pl.isList
      by_cases h0 : 0 ≤ i
      · have hj : i.toNat = j := by
          rw [seqIndex_of h0 h5] at h1
          exact Option.some.inj h1
        exact item_listR pl' h0 (by omega) (by rw [hj]; simpa using ew) fin (hs _ _)
      · have hj : (i + (its.toArray.size : Int)).toNat = j := by
          rw [seqIndex_neg (by omega) h4] at h1
          rw [List.size_toArray, ← hl]
          exact Option.some.inj h1
        exact subscriptTail_builtinR (s := s) (x := w') pl'.typeIs slot_list_getitem.lookup
          (wpAny_getItem_list_neg (Q := fun r s' => r = w' ∧ LPost G F ρ H (.d x) s r s') pl' (by omega) (by rw [List.size_toArray] <;> omega) (by omega) (by rw [hj]; simpa using ew) ⟨rfl, fin⟩) (hs _ _)
    · have e1 : v = .str (strOf cs) := view R rx q1
      have e2 : w = .int i := view R rz q2
      subst e1 e2
      obtain ⟨t, rfl⟩ := rv
      obtain ⟨t', rfl⟩ := rw'
      have he : L2.atI (strOf cs).cps.toList i = some c := by
        show L2.atI cs.toArray.toList i = some c
        rw [← getM_eq]; exact q
      obtain ⟨j, h1, h2, h3, h4, h5⟩ := atI_get he
      have hl : (strOf cs).cps.toList.length = (strOf cs).length := by simp [Str.length]
      rw [hl] at h1 h4 h5
      have hz : (strOf cs).length ≤ sizeLine := by rw [str_len]; exact small_ok z
      exact tail_any (typeIs_str s _ t) slot_str_getitem.lookup (getItem_str (c := c) (by
        have e1 : decide (i < -(2 ^ 63 : Int)) = false := decide_eq_false (by omega)
        have e2 : decide (i ≥ 2 ^ 63) = false := decide_eq_false (by omega)
        rw [e1, e2, Bool.or_false]) (by rw [h1]; simpa using h2) ⟨⟨.str ⟨#[c]⟩, ⟨_, rfl⟩, rfl⟩, keeps_toks _ _⟩) (hs _ _)
theorem l_ix (hK : G.K = X.K) (ha : PL X G cenv a ma) (hb : PL X G cenv b mb) (hs : PlainIx b) : PL X G cenv (.Subscript a b pos) (eBin (f2 gIx) ma mb) :=
  ⟨bin_pure (l_ixOp (value := a) hK hs).pure_ ha.pure_ hb.pure_, fun A' E' F ρ H sl st s y hh hu L h => Subscript_ (l_two (l_ixOp hK hs) ha hb hh hu L h)⟩
/-- a test of a generator expression -/
structure PLT (X : Cx) (G : Gm) (cenv : Env) (e : Expr) (m : EM Bool) : Prop where
  pure_ : ∀ sl st y st', m sl st = .ok y st' → st' = st
  run : ∀ (A' : Around) (E' : Value → Shared → Prop) (F : Addr → Prop) (ρ : List Addr) (H : Hp) (sl : Slots) (st : Store) (s : Shared) (y : Bool), A'.handled = none → A'.units + 100 < cLine → LSt X G cenv F ρ H sl st s → m sl st = .ok y st →
    wpAny (model X.prog X.w) A' (isTrue e cenv (eval e cenv)) (fun k s' => k = y ∧ PySem.Keeps s s') E' s
theorem test_ok {m : EM DH.X} {sl : Slots} {st st' : Store} {y : Bool} (h : eTest m sl st = .ok y st') : m sl st = .ok (.d (.bl y)) st' := by
  obtain ⟨x, st1, e, h⟩ := O.bind_ok h
  split at h
  · cases h; exact e
  · cases h
theorem lt_cmp {op : CmpOp} {f : DH.X → DH.X → Store → O DH.X} (ho : OpL X G (compareOp op) f) (ha : PL X G cenv a ma) (hb : PL X G cenv b mb) (hm : behindInMarks op b = false) : PLT X G cenv (.Compare a [op] [b] pos) (eTest (eBin f ma mb)) := by
  refine ⟨fun sl st y st' h => bin_pure ho.pure_ ha.pure_ hb.pure_ sl st _ st' (test_ok h), fun A' E' F ρ H sl st s y hh hu L h => ?_⟩
  refine wpAny_isTrue_Compare1 (wpAny_mono (l_two ho ha hb (E' := E') hh hu L (test_ok h)) (fun v s1 h1 => wpAny_mono h1 (fun u s2 h2 => wpAny_mono h2 (fun r s3 h3 => ?_) fun _ _ e => e) fun _ _ e => e) fun _ _ e => e) hm
  obtain ⟨⟨w, rw', rx⟩, k⟩ := h3
  have e : w = .bl y := rx
  subst e
  cases rw'
  exact wpAny_truthy_bool ⟨rfl, k⟩
end
/-- what each item's element is, where the test lets it pass -/
def evF (i : Nat) (mc : EM Bool) (me : EM DH.X) (sl : Slots) (st : Store) : List D → Option (List (Option D))
  | [] => some []
  | x :: xs => (match mc (sl.set i (some (.d x))) st with
    | .ok true _ => (match me (sl.set i (some (.d x))) st with
      | .ok (.d r) _ => (match evF i mc me sl st xs with
        | some rs => some (some r :: rs)
        | none => none)
      | _ => none)
    | .ok false _ => (match evF i mc me sl st xs with
      | some rs => some (none :: rs)
      | none => none)
    | _ => none)
theorem evF_at {i : Nat} {mc : EM Bool} {me : EM DH.X} {sl : Slots} {st : Store} : ∀ {xs : List D} {rs : List (Option D)}, evF i mc me sl st xs = some rs → rs.length = xs.length ∧ ∀ (j : Nat) (x : D), xs[j]? = some x →
    (∃ r st1 st', rs[j]? = some (some r) ∧ mc (sl.set i (some (.d x))) st = .ok true st1 ∧ me (sl.set i (some (.d x))) st = .ok (.d r) st') ∨ ∃ st1, rs[j]? = some none ∧ mc (sl.set i (some (.d x))) st = .ok false st1
  | [], rs, h => by
    have e : [] = rs := Option.some.inj h
    subst e
    exact ⟨rfl, fun j x hx => by cases hx⟩
  | y :: ys, rs, h => by
    have step : ∀ (o : Option D) (cs : List (Option D)), evF i mc me sl st ys = some cs → o :: cs = rs → ((∃ r st1 st', o = some r ∧ mc (sl.set i (some (.d y))) st = .ok true st1 ∧ me (sl.set i (some (.d y))) st = .ok (.d r) st') ∨ ∃ st1, o = none ∧ mc (sl.set i (some (.d y))) st = .ok false st1) →
        rs.length = (y :: ys).length ∧ ∀ (j : Nat) (x : D), (y :: ys)[j]? = some x →
    (∃ r st1 st', rs[j]? = some (some r) ∧ mc (sl.set i (some (.d x))) st = .ok true st1 ∧ me (sl.set i (some (.d x))) st = .ok (.d r) st') ∨ ∃ st1, rs[j]? = some none ∧ mc (sl.set i (some (.d x))) st = .ok false st1 := fun o cs q2 e hd => by
      subst e
      obtain ⟨l, g⟩ := evF_at q2
      refine ⟨by rw [List.length_cons, List.length_cons, l], fun j x hx => ?_⟩
      cases j with
      | zero =>
        have : y = x := by simpa using hx
        subst this
        rcases hd with ⟨r, st1, st', rfl, h1, h2⟩ | ⟨st1, rfl, h1⟩
        · exact .inl ⟨r, st1, st', rfl, h1, h2⟩
        · exact .inr ⟨st1, rfl, h1⟩
      | succ j =>
        rcases g j x (by simpa using hx) with ⟨r, st1, st', h0, h1, h2⟩ | ⟨st1, h0, h1⟩
        · exact .inl ⟨r, st1, st', by simpa using h0, h1, h2⟩
        · exact .inr ⟨st1, by simpa using h0, h1⟩
    unfold evF at h
    split at h
    · rename_i st1 q
      split at h
      · rename_i r st' q1
        cases q2 : evF i mc me sl st ys with
        | none => rw [q2] at h; cases h
        | some cs =>
          rw [q2] at h
          exact step _ cs q2 (Option.some.inj h) (.inl ⟨r, st1, st', rfl, q, q1⟩)
      · cases h
    · rename_i st1 q
      cases q2 : evF i mc me sl st ys with
      | none => rw [q2] at h; cases h
      | some cs =>
        rw [q2] at h
        exact step _ cs q2 (Option.some.inj h) (.inr ⟨st1, rfl, q⟩)
    · cases h
def keptO : List (Option D) → List D
  | [] => []
  | some r :: rs => r :: keptO rs
  | none :: rs => keptO rs
def pzO (os : List (Option D)) (i : Nat) : Bool := match os[i]? with
  | some (some _) => true
  | _ => false
theorem kept_range : ∀ (os : List (Option D)), ((List.range os.length).filter (pzO os)).map (fun i => (os[i]?).join) = (keptO os).map some
  | [] => rfl
  | o :: os => by
    rw [List.length_cons, List.range_succ_eq_map, List.filter_cons]
    have e : ((List.range os.length).map Nat.succ).filter (pzO (o :: os)) = ((List.range os.length).filter (pzO os)).map Nat.succ := by
      rw [List.filter_map]
      congr 1
    have e2 : (((List.range os.length).filter (pzO os)).map Nat.succ).map (fun i => ((o :: os)[i]?).join) = (keptO os).map some := by
      rw [List.map_map, ← kept_range os]
      congr 1
    cases o with
    | none =>
      show List.map _ (List.filter _ (List.map Nat.succ _)) = _
      rw [e, e2]; rfl
    | some r =>
      show List.map _ (0 :: List.filter _ (List.map Nat.succ _)) = _
      rw [List.map_cons, e, e2]; rfl
theorem kept_at {os : List (Option D)} {j i : Nat} (h : (passing (pzO os) os.length 0)[j]? = some i) : ∃ r, os[i]? = some (some r) ∧ (keptO os)[j]? = some r := by
  have e : passing (pzO os) os.length 0 = (List.range os.length).filter (pzO os) := by unfold passing; simp
  rw [e] at h
  have h1 : pzO os i = true := (List.mem_filter.mp (List.mem_of_getElem? h)).2
  unfold pzO at h1
  split at h1
  · rename_i r q
    refine ⟨r, q, ?_⟩
    have h2 := congrArg (fun l => l[j]?) (kept_range os)
    simp only [List.getElem?_map, h, Option.map_some] at h2
    rw [q] at h2
    cases z : (keptO os)[j]? with
    | none => rw [z] at h2; cases h2
    | some r' => rw [z] at h2; simp at h2; rw [h2]
  · cases h1
theorem kept_len (os : List (Option D)) : (passing (pzO os) os.length 0).length = (keptO os).length := by
  have e : passing (pzO os) os.length 0 = (List.range os.length).filter (pzO os) := by unfold passing; simp
  have h := congrArg List.length (kept_range os)
  rw [List.length_map, List.length_map] at h
  rw [e, h]
def eGenF (fin : List D → Option D) (i : Nat) (mi : EM DH.X) (mc : EM Bool) (me : EM DH.X) : EM DH.X := fun sl st => (mi sl st).bind fun y st1 => match deref st1 y with
  | some d => (match seqD d with
    | some xs => (match evF i mc me sl st1 xs with
      | some rs => (match fin (keptO rs) with
        | some r => .ok (.d r) st1
        | none => .bad)
      | none => .bad)
    | none => .bad)
  | none => .bad
section
variable {X : Cx} {G : Gm} {E : XK} {pins : List (Addr × Obj)} {σ : L2.St} {H : Hp} {s : Shared}
theorem gen_oneF {c P : Addr} {elt iter tst : Expr} {x : Str} {px gpos : Pos} {scope : Scope} {mi me : EM DH.X} {mc : EM Bool} {k i : Nat} {Q' : Value → Shared → Prop} {R' : List D → Slots → Store → (Addr → Prop) → List Addr → Hp → Prop}
    (hK : G.K = X.K) (hr : Room k X.A) (TB : LamX.TabB X.base X.mg c P) (hcode : X.env.code = .ref c) (hm : (P, X.env.qual ++ "<genexpr>") ∈ G.T) (hu : ∀ p ∈ G.T, p.1 = P → p.2 = X.env.qual ++ "<genexpr>")
    (S : GenS X.env.scope scope [x]) (hN : X.N.Nodup) (hix : X.N[i]? = some x) (hdot : X.N.contains (".0" : Str) = false) (hi : PE X iter (rdE G E mi)) (hel : ∀ (C : Addr) (code : Value), PL X G (genEnv scope (cloFrom X.env.cells scope.names []) C code builtinsNs X.env) elt me)
    (htl : ∀ (C : Addr) (code : Value), PLT X G (genEnv scope (cloFrom X.env.cells scope.names []) C code builtinsNs X.env) tst mc)
    (hs : ∀ v, genFold iter X.env v = pure v) (I : Inv X pins σ H s)
    (h : rdE G E mi σ H fun v H1 => ∃ F ρ sl st y d xs os, SlOk G F ρ H1 sl σ ∧ Rep G F ρ st H1 ∧ RelX G F ρ H1 y v ∧ deref st y = some d ∧ seqD d = some xs ∧ evF i mc me sl st xs = some os ∧ R' (keptO os) sl st F ρ H1)
    (hQ : ∀ rs sl st F ρ H1 g s5, SlOk G F ρ H1 sl σ → Rep G F ρ st H1 → R' rs sl st F ρ H1 → ReadyD X G pins σ H1 rs g s5 → Q' (.ref g) s5) :
    wpAny (model X.prog X.w) X.A (eval (.GeneratorExp elt [⟨.Name x px, iter, [tst], 0⟩] scope gpos) X.env) Q' X.xe s := by
  have hhas : ∀ y ∈ scope.names, y.2 = .free → ∃ c, X.env.cells.lookup y.1 = some c := fun y hy e => I.ok.has _ (S.free y hy e)
  refine wpAny_GeneratorExp_walksQD hr.hd S.co (closure_ok hhas) S.cell S.dot (S.loc x (by simp)) S.kind (by have := hr.dp; omega) ?_ hs
  refine thn (hi.run pins s σ H _ I h) fun xv s1 ⟨v, H1, I1, r1, q1⟩ => ?_
  obtain ⟨F, ρ, sl, st, y, d, xs, os, sk, R, rx, q1, q2, q3, q4⟩ := q1
  obtain ⟨hlen, hev⟩ := evF_at q3
  refine src_walk hK I1 (view R rx q1) q2 r1 fun o fp Pf St W => ⟨I1.nolimit.push o, ?_⟩
  refine gen_code (T := G.T) (Q2 := fun code bi s₄ => ∃ Ia fp wr n₀ Pf St₀ pz F, Value.ref s1.heap.objs.size = .ref Ia ∧ (∀ A' : Around, A'.handled = none → Walks X.prog X.w A' Ia fp wr n₀ Pf St₀) ∧ St₀ 0 s₄.heap ∧ (∀ b ∈ fp, b < s₄.heap.objs.size) ∧ s₄.heap.NoLimit ∧ cStatics ∉ wr ∧
          (∀ href : Heap, (∀ b o, s₄.heap.get? b = some o → href.get? b = some o) →
            QuietGenD X.prog X.w (genEnv scope (cloFrom X.env.cells scope.names []) s₄.heap.objs.size code bi X.env) x [tst] elt (List.range s₄.heap.objs.size) wr Pf pz F href (X.A.depth + 1) (X.A.units + 8)) ∧
          (∀ a h₅ tk gs, gs.bare = true → s₄.heap.objs.size < a → h₅.objs.size = a + 1 → (∀ b o, s₄.heap.get? b = some o → h₅.get? b = some o) →
            WalksS X.prog X.w X.A.in4 a (a :: s₄.heap.objs.size :: List.range s₄.heap.objs.size) (s₄.heap.objs.size :: wr) (GenOnlyQ s₄.gens.size) (passing pz n₀ 0).length
              (fun j y => ∃ i, (passing pz n₀ 0)[j]? = some i ∧ F i y) (GenAt X.prog X.w X.A.in4 a s₄.gens.size s₄.heap.objs.size (List.range s₄.heap.objs.size) wr pz n₀ F) →
            GenAt X.prog X.w X.A.in4 a s₄.gens.size s₄.heap.objs.size (List.range s₄.heap.objs.size) wr pz n₀ F 0 { s₄ with gens := s₄.gens.push gs, toks := tk, heap := h₅ } →
            Q' (.ref a) { s₄ with gens := s₄.gens.push gs, toks := tk, heap := h₅ })) I1 TB hcode R.tab hm hu fun code H2 h4 tk g => ?_
  have hPs : ∃ ps, s1.heap.get? P = some { cls := .none, data := .fields ps } := by
    obtain ⟨ps, hP, _⟩ := R.tab _ hm
    exact ⟨ps, I1.hok P _ hP⟩
  have hPlt : P < s1.heap.objs.size := let ⟨_, e⟩ := hPs; Heap.lt_size e
  have hcl : cStatics < s1.heap.objs.size := let ⟨_, hns, _⟩ := I1.nolimit; hns.lt
  have lt4 : ∀ b u, s1.heap.get? b = some u → b < h4.objs.size := fun b u e => Nat.lt_of_lt_of_le (Heap.lt_size e) (Nat.le_of_succ_le g.size)
  refine ⟨s1.heap.objs.size, fp, [s1.heap.objs.size], xs.length, Pf, St, pzO os, (fun i y => ∃ r v, os[i]? = some (some r) ∧ RelV v y ∧ RelD G (Nn F ρ) H2 r v), rfl, W.walk, ?_, ?_, g.lim, ?_, ?_, ?_⟩
  · refine (W.walk X.A hr.hd).frame _ _ _ W.start fun b hb u e => g.old b u (fun z => ?_) e
    subst z
    rcases W.feet b hb with z | ⟨u', e1, e2⟩
    · rw [z] at hPlt; exact Nat.lt_irrefl _ hPlt
    · obtain ⟨ps, e3⟩ := hPs
      rw [e1] at e3
      cases e3
      exact e2 rfl
  · intro b hb
    show b < h4.objs.size
    rcases W.feet b hb with z | ⟨u', e1, e2⟩
    · rw [z]; exact g.size
    · exact lt4 b u' e1
  · intro z
    have : cStatics = s1.heap.objs.size := by simpa using z
    rw [this] at hcl
    exact Nat.lt_irrefl _ hcl
  · intro href hhref
    have keep : ∀ {s2 : Shared}, (∀ b ∈ List.range h4.objs.size, b ∉ [s1.heap.objs.size] → ∀ o, href.get? b = some o → s2.heap.get? b = some o) → ∀ b u, b ≠ s1.heap.objs.size → h4.get? b = some u → s2.heap.get? b = some u := fun {s2} hk b u hb e =>
      hk b (List.mem_range.mpr (Heap.lt_size e)) (by simpa using hb) u (hhref b u e)
    refine ⟨fun A' E' j v s₂ m₂ hA hd1 hu1 hPv hn hm' hk => ?_, fun A' E' j v s₂ m₂ hA hd1 hu1 hPv hp hn hm' hk => ?_⟩
    · obtain ⟨dd, vv, hx1, rv, rdd⟩ := W.item j v hPv
      have L := elt_lst (code := code) (C := h4.objs.size) I1 g rfl S hN hix hdot sk R rdd rv hn hm' (keep hk)
      have pl := htl h4.objs.size code
      have fin : ∀ (bb : Bool) (st1 : Store), mc (sl.set i (some (.d dd))) st = .ok bb st1 → bb = pzO os j → wpAny (model X.prog X.w) A' (forIn [tst] true fun c r => if r = true then do let ok ← isTrue c (genEnv scope (cloFrom X.env.cells scope.names []) h4.objs.size code builtinsNs X.env) (eval c (genEnv scope (cloFrom X.env.cells scope.names []) h4.objs.size code builtinsNs X.env)); pure (ForInStep.yield ok) else pure (ForInStep.yield r)) (fun ok s₃ => ok = pzO os j ∧ PySem.Keeps s₂ s₃) E' s₂ := fun bb st1 hmc hz => by
        have est := pl.pure_ _ _ _ _ hmc
        subst est
        rw [List.forIn_cons, if_pos rfl]
        refine wpAny_bind (wpAny_bind (wpAny_mono (pl.run A' E' F ρ H2 _ _ s₂ bb hA (by have := hr.un; have : A'.units ≤ X.A.units + 8 := hu1; omega) L hmc) (fun u s3 p => wpAny_pure ?_) fun _ _ e => e))
        obtain ⟨rfl, kp⟩ := p
        show wpAny _ _ (forIn [] _ _) _ _ _
        rw [List.forIn_nil]
        exact wpAny_pure ⟨hz, kp⟩
      rcases hev j dd hx1 with ⟨r, st1, st', h0, h1, h2⟩ | ⟨st1, h0, h1⟩
      · exact fin true st1 h1 (by unfold pzO; rw [h0])
      · exact fin false st1 h1 (by unfold pzO; rw [h0])
    · obtain ⟨dd, vv, hx1, rv, rdd⟩ := W.item j v hPv
      rcases hev j dd hx1 with ⟨r, st1, st', hr1, _, hme⟩ | ⟨st1, h0, h1⟩
      · have L := elt_lst (code := code) (C := h4.objs.size) I1 g rfl S hN hix hdot sk R rdd rv hn hm' (keep hk)
        have pl := hel h4.objs.size code
        have est := pl.pure_ _ _ _ _ hme
        subst est
        refine wpAny_mono (pl.run A' E' F ρ H2 _ _ s₂ (.d r) hA (by have := hr.un; have : A'.units ≤ X.A.units + 8 := hu1; omega) L hme) (fun u s3 p => ?_) fun _ _ e => e
        obtain ⟨⟨v3, rv3, rx3⟩, kp⟩ := p
        exact ⟨⟨r, v3, hr1, rv3, rx3⟩, kp⟩
      · unfold pzO at hp
        rw [h0] at hp
        cases hp
  · intro ga h5 tk5 gs hgb hag hsz5 hk5 W5 hat
    rw [← hlen] at W5 hat
    rw [kept_len] at W5
    refine hQ (keptO os) sl st F ρ H1 ga _ sk R q4 ⟨_, _, _, _, _, W5.in4_1, hat, fun b hb => ?_, fun j y hy => ?_, fun s' hmv => ?_⟩
    · show b < h5.objs.size
      have h9 : (h4.objs.size : Nat) < ga := hag
      have h10 : ga < h5.objs.size := by rw [hsz5]; exact Nat.lt_succ_self _
      rcases List.mem_cons.mp hb with z | hb
      · rw [z]; exact h10
      · rcases List.mem_cons.mp hb with z | hb
        · rw [z]; exact Nat.lt_trans h9 h10
        · exact Nat.lt_trans (List.mem_range.mp hb) (Nat.lt_trans h9 h10)
    · obtain ⟨i', hij, r, v, hr1, rv, rd'⟩ := hy
      obtain ⟨r', e1, e2⟩ := kept_at hij
      rw [hr1] at e1
      have : r = r' := Option.some.inj (Option.some.inj e1)
      subst this
      exact ⟨r, v, _, _, e2, rv, rd'⟩
    · refine ⟨H2, g.ext, g.tab, ?_⟩
      have nwr : ∀ b u, b ≠ s1.heap.objs.size → h4.get? b = some u → b ∉ h4.objs.size :: [s1.heap.objs.size] := fun b u hb e hm => by
        rcases List.mem_cons.mp hm with z | z
        · have h11 := Heap.lt_size e
          rw [z] at h11
          exact Nat.lt_irrefl _ h11
        · exact hb (by simpa using z)
      have J := g.inv s'.heap s'.gens s'.drawn s'.toks (fun b u hb e => hmv.heap b u (nwr b u hb e) (hk5 b u e)) (AllBare.movedS (I1.bare.push hgb) hmv)
      have eta := GxR.sh_eta s1 s' hmv.os
      rw [eta] at J
      exact J
theorem q_genF {fin : List D → Option D} {id : String} {f : Str} {c P : Addr} {elt iter tst : Expr} {x : Str} {px p pos gpos : Pos} {scope : Scope} {mi me : EM DH.X} {mc : EM Bool} {k i : Nat}
    (hfin : FinOk X G id fin) (hg : Gl X f) (hmf : X.mg f = none) (hbf : bootBuiltins f = some (.builtin id)) (hnf : f ≠ "__name__") (hdf : (f == ("__debug__" : Str)) = false)
    (hK : G.K = X.K) (hr : Room k X.A) (TB : LamX.TabB X.base X.mg c P) (hcode : X.env.code = .ref c) (hm : (P, X.env.qual ++ "<genexpr>") ∈ G.T) (hu : ∀ p ∈ G.T, p.1 = P → p.2 = X.env.qual ++ "<genexpr>")
    (S : GenS X.env.scope scope [x]) (hN : X.N.Nodup) (hix : X.N[i]? = some x) (hdot : X.N.contains (".0" : Str) = false) (hi : PE X iter (rdE G E mi)) (hel : ∀ (C : Addr) (code : Value), PL X G (genEnv scope (cloFrom X.env.cells scope.names []) C code builtinsNs X.env) elt me)
    (htl : ∀ (C : Addr) (code : Value), PLT X G (genEnv scope (cloFrom X.env.cells scope.names []) C code builtinsNs X.env) tst mc)
    (hs : ∀ v, genFold iter X.env v = pure v)
    (he : starEach [.GeneratorExp elt [⟨.Name x px, iter, [tst], 0⟩] scope gpos] X.env = (false, eval (.GeneratorExp elt [⟨.Name x px, iter, [tst], 0⟩] scope gpos) X.env) :: starEach [] X.env) :
    PE X (.Call (.Name f p) [.GeneratorExp elt [⟨.Name x px, iter, [tst], 0⟩] scope gpos] [] pos) (rdE G E (eGenF fin i mi mc me)) := by
  refine ⟨fun pins s σ H Q I h => ?_⟩
  refine wpAny_Call_Name_kw (ld_blt I hg hmf hbf ?_ hnf hdf)
  refine PyProof.Rows.callWith_builtin1 ?_ he (by rfl)
  rw [he]
  show wpAny _ _ (spliced ((false, eval (.GeneratorExp elt [⟨.Name x px, iter, [tst], 0⟩] scope gpos) X.env) :: backTo pos (starEach [] X.env))) _ _ s
  refine Calls.spliced_cons (gen_oneF (R' := fun rs sl st F ρ H1 => ∃ r, fin rs = some r ∧ PostG G E (rX G) F ρ H1 (.ok (.d r) st) Q) hK hr TB hcode hm hu S hN hix hdot hi hel htl hs I ?_ fun rs sl st F ρ H1 g s5 sk R hR hG => ?_)
  · obtain ⟨F, ρ, sl, st, sk, R, h⟩ := h
    refine ⟨F, ρ, sl, st, sk, R, PostG.mono (PostG.bind (R := rX G) h) fun v H1 h1 => ?_⟩
    obtain ⟨y, st1, ρ1, s1, R1, r1, h1⟩ := h1
    cases q1 : deref st1 y with
    | none => simp only [q1] at h1; exact h1.elim
    | some d =>
      simp only [q1] at h1
      cases q2 : seqD d with
      | none => simp only [q2] at h1; exact h1.elim
      | some xs =>
        simp only [q2] at h1
        cases q3 : evF i mc me sl st1 xs with
        | none => simp only [q3] at h1; exact h1.elim
        | some os =>
          simp only [q3] at h1
          cases q4 : fin (keptO os) with
          | none => simp only [q4] at h1; exact h1.elim
          | some r =>
            simp only [q4] at h1
            exact ⟨F, ρ1, sl, st1, y, d, xs, os, sk.mono s1, R1, r1, q1, q2, q3, r, q4, h1⟩
  · obtain ⟨r, hr1, hP⟩ := hR
    refine Calls.spliced_nil ?_
    refine hfin pins σ H1 rs r g s5 _ hr1 hG fun u v H2 s' rv rd' e1 t1 J => ?_
    obtain ⟨R2, s2⟩ := R.ext e1 t1
    exact ⟨v, H2, J, rv, hP ρ H2 v s2 R2 (rd' _ _)⟩
end
end DH
namespace DH
open PySem PySem.Spec PyProof.Rows L2
/-! ### range(i, j, -1) -/
def rangeDnM (xs : List X) : Option (List D) := match xs with
  | [.d (.int i), .d (.int j), .d (.int (.negSucc 0))] => (match int62 i && int62 j with
    | true => some (upI i (.negSucc 0) (i - j).toNat)
    | false => none)
  | _ => none
theorem rangeDn_inv {xs : List X} {ds : List D} (h : rangeDnM xs = some ds) : ∃ i j, xs = [.d (.int i), .d (.int j), .d (.int (.negSucc 0))] ∧ int62 i = true ∧ int62 j = true ∧ ds = upI i (.negSucc 0) (i - j).toNat := by
  unfold rangeDnM at h
  split at h
  · rename_i i j
    cases q : int62 i && int62 j with
    | false => rw [q] at h; cases h
    | true =>
      rw [q] at h
      obtain ⟨q1, q2⟩ := Bool.and_eq_true_iff.mp q
      exact ⟨i, j, rfl, q1, q2, (Option.some.inj h).symm⟩
  · cases h
section
variable {X : Cx} {G : Gm} {E : XK} {tg a b c : Expr} {m : EM (List DH.X)} {p pos : Pos}
theorem q_rangeDn (hg : Gl X "range") (hm : X.mg "range" = none) (ha : PA X [a, b, c] (rdA G E m)) (hs : starEach [a, b, c] X.env = (false, eval a X.env) :: starEach [b, c] X.env) (hpl : (backTo pos (starEach [b, c] X.env)).any (·.1) = false) : PI X tg (.Call (.Name "range" p) [a, b, c] [] pos) (rdI G E (iRg rangeDnM m)) := by
  refine PI.imp (pi_range3 hg hm ha hs hpl) fun σ H Q h => ?_
  obtain ⟨F, ρ, sl, st, sk, R, h⟩ := rd_rg (P := fun vs S => ∃ i j, vs = [.int i, .int j, .int (.negSucc 0)] ∧ int62 i = true ∧ int62 j = true ∧ S (Itc i (.negSucc 0) (i - j).toNat)) h fun F ρ H xs vs ds r e => by
    obtain ⟨i, j, e1, e2, e3, e5⟩ := rangeDn_inv e
    subst e1 e5
    obtain ⟨u, r', a1, a2, u2, r2, a3, a4, u3, r3, a5, a6, a7⟩ := r
    have a7 : r3 = [] := a7
    have a2 : u = .int i := a2
    have a4 : u2 = .int j := a4
    have a6 : u3 = .int (.negSucc 0) := a6
    subst a7 a2 a4 a6 a5 a3
    exact ⟨i, j, a1, e2, e3, it_rangeC⟩
  refine ⟨F, ρ, sl, st, sk, R, PostG.mono h fun vs H1 h1 => ?_⟩
  obtain ⟨S, ⟨i, j, e1, e2, e3, e5⟩, q⟩ := h1
  obtain ⟨b1, b2⟩ := int62_ok e2
  obtain ⟨b3, b4⟩ := int62_ok e3
  exact ⟨i, j, .negSucc 0, (i - j).toNat, e1, RgC.neg b1 b2 b3 b4, q _ e5⟩
end
end DH
namespace DH
open PySem PySem.Spec PyProof.Rows L2
/-! ### tuple * int -/
theorem tuple_mul1 (l : Addr) (items : Array Value) (n : Nat) (dd : Option Addr) (sl : Array (Option Value)) (u : PySem.Tok) :
    Meets (Builtin.«tuple.__mul__» ⟨[.ref l, .int 1 u], []⟩) (fun _ R s => s.heap.get? l = some { cls := .type "tuple", dict := dd, data := .seq items n, slots := sl } ∧
      R (.ok (.ret (Value.ref l))) s) :=
  .of_wp fun prog w A R s h => by
    obtain ⟨hp, g, d, tk, os⟩ := s
    obtain ⟨hl, h⟩ := h
    have f1 := AutoSeq1.idx_int
    have c1 : (items.isEmpty || (1 : Int) == 1) = true := by simp
    wp_walk using wpAny_loadPart' hl
    repeat (first
      | (refine PySem.W.KFB.if_so (by simp) ?_; wp_walk using wpAny_loadPart' hl)
      | (refine wpAny_ite_true (by simp) ?_; wp_walk using wpAny_loadPart' hl))
    all_goals exact ⟨_, rfl, h⟩
def rRepT1 (K : PySem.W.Frag) : R2 := fun x y H Q => ∃ l xs, x = .ref l ∧ y = .int 1 ∧ SqT K H l xs ∧ Q (.ref l) H
theorem op_repT1 {X : Cx} : OpR X (binaryOp .Mult) (rRepT1 X.K) := by
  intro pins s σ H x y v u Q I rx ry h
  obtain ⟨l, xs, rfl, rfl, hT, q⟩ := h
  cases rx
  obtain ⟨t, rfl⟩ := ry
  obtain ⟨its, r, ⟨⟨cls, dd, data, sl⟩, ho, hc, n, hd⟩, hs⟩ := I.tuple hT
  simp only at hc hd
  subst hc hd
  refine wpAny_binaryOp_repeat_ref (T := "tuple") (U := "int") (by decide) ⟨_, ho, rfl⟩ (fun s' => typeIs_int s' 1 t) noFill_tuple_mul F.fills_int_mul F.slot_int_rmul repeat_tuple F.slot_int_index.lookup
    (call_meets F.slot_int_rmul (typeIs_int s 1 t) F.entry_int_rmul (F.args_int_rmul_2 _ _) (int_rmul_tuple 1 t l its.toArray n dd sl)
      ⟨ho, rfl, ⟨_, ho, rfl⟩, call_meets F.slot_tuple_mul ⟨_, ho, rfl⟩ F.entry_tuple_mul (F.args_tuple_mul_2 _ _) (tuple_mul1 l its.toArray n dd sl t) ⟨ho, ?_⟩⟩)
  exact ⟨.ref l, H, I, rfl, q⟩
def fMulT (mu : Bool) : DH.X → DH.X → Store → O DH.X := fun x y st => match x, y with
  | .d (.tup f xs), .d (.int (.ofNat k)) => (match k with
    | 0 => .bad
    | 1 => .ok (.d (.tup f xs)) st
    | k + 2 => (match xs with
      | [] => .bad
      | x :: r => (match Nat.ble (k + 2) 1000 && Nat.ble (x :: r).length 1000 with
        | true => newT (repL (k + 2) (x :: r)) st
        | false => .bad)))
  | x, y => f2 (gMul mu) x y st
abbrev rMulT (K : PySem.W.Frag) : R2 := fun x y H Q => rMulAll x y H Q ∨ rRepT K x y H Q ∨ rRepT1 K x y H Q
theorem mul_allT {X : Cx} : OpR X (binaryOp .Mult) (rMulT X.K) := mul_all.or (op_repT.or op_repT1)
theorem mulT_v {G : Gm} {mu : Bool} : OpV G (rMulT G.K) (fMulT mu) := by
  intro E F ρ H st x y v w Q R rx ry h
  unfold fMulT at h
  split at h
  · rename_i f xs k
    obtain ⟨p, vs, e1, f1, r1⟩ := rx
    have ew : w = .int (Int.ofNat k) := ry
    subst ew e1
    match k, h with
    | 0, h => exact h.elim
    | 1, h =>
      refine .inr (.inr ⟨p, vs, rfl, rfl, f1.sq, ?_⟩)
      exact PostG.now (R := rX G) h R (show RelX G F ρ H (.d (.tup f xs)) (.ref p) from ⟨p, vs, rfl, f1, r1⟩)
    | k + 2, h =>
      cases xs with
      | nil => exact h.elim
      | cons x r =>
        simp only at h
        cases z : (Nat.ble (k + 2) 1000 && Nat.ble (x :: r).length 1000) with
        | false => rw [z] at h; exact h.elim
        | true =>
          rw [z] at h
          obtain ⟨z1, z2⟩ := Bool.and_eq_true_iff.mp z
          have z1 := Nat.le_of_ble_eq_true z1
          have z2 := Nat.le_of_ble_eq_true z2
          have l1 := r1.length
          refine .inr (.inl ⟨p, Int.ofNat (k + 2), vs, rfl, rfl, f1.sq, ?_, ?_, ?_, by rw [l1]; exact z2, fun q hq => ?_⟩)
          · rintro rfl
            cases l1
          · show (2 : Int) ≤ ((k + 2 : Nat) : Int)
            omega
          · show ((k + 2 : Nat) : Int) ≤ 1000
            omega
          · have := newT_ok R (rel_rep r1 (k + 2)) hq h
            rw [repL_eq] at this
            exact this
  · exact .inl (mul_v E F ρ H st x y v w Q R rx ry h)
end DH
namespace DH
/-! ### mirrors stepped through with open places -/
section
variable {sl sl' : Slots} {st st' st1 st2 : Store} {m n : EM X} {x y : X} {b : Bool}
theorem eVar_at {i : Nat} (h : sl[i]? = some (some x)) : eVar i sl st = .ok x st := by
  unfold eVar
  rw [h]
theorem eTest_ok (h : m sl st = .ok (.d (.bl b)) st') : eTest m sl st = .ok b st' := by
  unfold eTest
  rw [h]
  rfl
theorem tNotM_ok {t : EM Bool} (h : t sl st = .ok b st') : tNotM t sl st = .ok (!b) st' := by
  unfold tNotM
  rw [h]
  rfl
theorem tAnd_ok {t u : EM Bool} (h : t sl st = .ok true st1) (h2 : u sl st1 = .ok b st') : tAndM t u sl st = .ok b st' := by
  unfold tAndM
  rw [h]
  exact h2
theorem tAnd_f {t u : EM Bool} (h : t sl st = .ok false st1) : tAndM t u sl st = .ok false st1 := by
  unfold tAndM
  rw [h]
  rfl
theorem tOr_ok {t u : EM Bool} (h : t sl st = .ok false st1) (h2 : u sl st1 = .ok b st') : tOrM t u sl st = .ok b st' := by
  unfold tOrM
  rw [h]
  exact h2
theorem tOr_t {t u : EM Bool} (h : t sl st = .ok true st1) : tOrM t u sl st = .ok true st1 := by
  unfold tOrM
  rw [h]
  rfl
theorem sIf_f {t : EM Bool} {a c : SM} (h : t sl st = .ok false st1) : sIf t a c sl st = c sl st1 := by
  unfold sIf
  rw [h]
  rfl
theorem sIf_t {t : EM Bool} {a c : SM} (h : t sl st = .ok true st1) : sIf t a c sl st = a sl st1 := by
  unfold sIf
  rw [h]
  rfl
theorem sExpr_ok (h : m sl st = .ok x st') : sExpr m sl st = .nx sl st' := by
  unfold sExpr
  rw [h]
  rfl
theorem sRet_ok (h : m sl st = .ok x st') : sRet m sl st = .rt x st' := by
  unfold sRet
  rw [h]
  rfl
theorem sSeq_eq {a c : SM} {o : SO} (h : a sl st = .nx sl' st') (h2 : c sl' st' = o) : sSeq a c sl st = o := by
  rw [sSeq_nx h]
  exact h2
theorem aCons_at {r : EM (List X)} {xs : List X} (h : m sl st = .ok x st1) (h2 : r sl st1 = .ok xs st2) : aCons m r sl st = .ok (x :: xs) st2 := aCons_ok h h2
theorem aOne (h : m sl st = .ok x st1) : aCons m aNil sl st = .ok [x] st1 := aCons_ok h rfl
theorem aTwo (h : m sl st = .ok x st1) (h2 : n sl st1 = .ok y st2) : aCons m (aCons n aNil) sl st = .ok [x, y] st2 := aCons_ok h (aOne h2)
theorem app1 {f : List X → Store → O X} {o : O X} (h : m sl st = .ok x st1) (h2 : f [x] st1 = o) : eApp f (aCons m aNil) sl st = o := eApp_ok (aOne h) h2
theorem app2 {f : List X → Store → O X} {o : O X} (h : m sl st = .ok x st1) (h2 : n sl st1 = .ok y st2) (h3 : f [x, y] st2 = o) : eApp f (aCons m (aCons n aNil)) sl st = o := eApp_ok (aTwo h h2) h3
theorem bin_at {f : X → X → Store → O X} {o : O X} (h : m sl st = .ok x st1) (h2 : n sl st1 = .ok y st2) (h3 : f x y st2 = o) : eBin f m n sl st = o := eBin_ok h h2 h3
theorem f2d {g : D → D → Store → O X} {a c : D} : f2 g (.d a) (.d c) st = g a c st := rfl
/-- a def called: it hands back data, the store as it was and more behind it -/
theorem mkD_rt {np k : Nat} {body : SM} {xs : List X} {st : Store} {d : D} {more : List MO} (hn : Nat.beq xs.length np = true) (h : body (xs.map some ++ List.replicate (k - xs.length) none) st = .rt (.d d) (st ++ more)) : mkD np k body xs st = .ok (.d d) st := by
  unfold mkD
  rw [hn]
  show endF (body _ st) st.length = _
  rw [h]
  show O.ok (X.d d) ((st ++ more).take st.length) = _
  rw [List.take_left]
theorem mkD_rt0 {np k : Nat} {body : SM} {xs : List X} {st : Store} {d : D} (hn : Nat.beq xs.length np = true) (h : body (xs.map some ++ List.replicate (k - xs.length) none) st = .rt (.d d) st) : mkD np k body xs st = .ok (.d d) st :=
  mkD_rt (more := []) hn (by rw [List.append_nil]; exact h)
theorem mkD_nx {np k : Nat} {body : SM} {xs : List X} {st : Store} {more : List MO} (hn : Nat.beq xs.length np = true) (h : body (xs.map some ++ List.replicate (k - xs.length) none) st = .nx sl' (st ++ more)) : mkD np k body xs st = .ok (.d .non) st := by
  unfold mkD
  rw [hn]
  show endF (body _ st) st.length = _
  rw [h]
  show O.ok (X.d .non) ((st ++ more).take st.length) = _
  rw [List.take_left]
end
/-! ### comprehensions -/
section
variable {sl : Slots} {st : Store} {t : Tgt} {c : EM Bool} {e : EM X} {vs : List Nat} {m : EM Src}
theorem cLoop_sel {xs0 : List D} {sl0 : Slots} {p : D → Bool} {f : D → D} : ∀ (xs acc : List D), (∀ x ∈ xs, ∃ sl1, tgM t x sl0 = some sl1 ∧ c sl1 st = .ok (p x) st ∧ (p x = true → e sl1 st = .ok (.d (f x)) st)) →
    cLoopG (xs0, none) t c e sl0 xs acc st = .ok (((xs.filter p).map f).reverse ++ acc) st
  | [], acc, h => rfl
  | x :: xs, acc, h => by
    obtain ⟨sl1, h1, h2, h3⟩ := h x (List.mem_cons_self ..)
    have ih := fun acc => cLoop_sel (xs0 := xs0) (sl0 := sl0) (p := p) (f := f) xs acc fun y hy => h y (List.mem_cons_of_mem _ hy)
    unfold cLoopG
    show (match tgM t x sl0 with | none => O.bad | some sl1 => _) = _
    rw [h1]
    show (match c sl1 st with | .ok true st1 => _ | .ok false st1 => _ | _ => O.bad) = _
    rw [h2]
    cases q : p x with
    | true =>
      show (match e sl1 st with | .ok (.d y) st2 => _ | _ => O.bad) = _
      rw [h3 q]
      show cLoopG (xs0, none) t c e sl0 xs (f x :: acc) st = _
      rw [ih, List.filter_cons, q]
      simp
    | false =>
      show cLoopG (xs0, none) t c e sl0 xs acc st = _
      rw [ih, List.filter_cons, q]
      simp
theorem comp_sel {xs : List D} (p : D → Bool) (f : D → D) (hm : m sl st = .ok (xs, none) st) (hz : small xs.length = true)
    (h : ∀ x ∈ xs, ∃ sl1, tgM t x (wipeS sl vs) = some sl1 ∧ c sl1 st = .ok (p x) st ∧ (p x = true → e sl1 st = .ok (.d (f x)) st)) :
    eCompG false vs m t c e sl st = .ok (.d (.lst ((xs.filter p).map f))) st := by
  unfold eCompG
  rw [hm]
  show (match small xs.length with | true => _ | false => O.bad) = _
  rw [hz]
  show (cLoopG (xs, none) t c e (wipeS sl vs) xs [] st).bind _ = _
  rw [cLoop_sel xs [] h]
  show newL false (revD _ []) st = _
  rw [revD_eq]
  simp [newL]
theorem comp_map {xs : List D} (f : D → D) (hm : m sl st = .ok (xs, none) st) (hz : small xs.length = true)
    (h : ∀ x ∈ xs, ∃ sl1, tgM t x (wipeS sl vs) = some sl1 ∧ e sl1 st = .ok (.d (f x)) st) :
    eCompG false vs m t cYes e sl st = .ok (.d (.lst (xs.map f))) st := by
  have := comp_sel (c := cYes) (e := e) (t := t) (vs := vs) (fun _ => true) f hm hz fun x hx => by
    obtain ⟨sl1, h1, h2⟩ := h x hx
    exact ⟨sl1, h1, rfl, fun _ => h2⟩
  rw [List.filter_eq_self.mpr (fun _ _ => rfl)] at this
  exact this
/-- none is chosen -/
theorem comp_none {xs : List D} (hm : m sl st = .ok (xs, none) st) (hz : small xs.length = true)
    (h : ∀ x ∈ xs, ∃ sl1, tgM t x (wipeS sl vs) = some sl1 ∧ c sl1 st = .ok false st) :
    eCompG false vs m t c e sl st = .ok (.d (.lst [])) st := by
  have := comp_sel (c := c) (e := e) (t := t) (vs := vs) (fun _ => false) (fun x => x) hm hz fun x hx => by
    obtain ⟨sl1, h1, h2⟩ := h x hx
    exact ⟨sl1, h1, h2, fun z => by cases z⟩
  rw [show (xs.filter fun _ => false) = [] by simp] at this
  exact this
/-! ### loops -/
theorem fLoop_inv {b : SM} {xs0 : List D} {S : Type} (enc : S → Slots × Store) (step : S → D → S) (I : S → Prop) : ∀ (xs : List D) (s : S), I s →
    (∀ x ∈ xs, ∀ s, I s → I (step s x) ∧ ∃ sl1, tgM t x (enc s).1 = some sl1 ∧ b sl1 (enc s).2 = .nx (enc (step s x)).1 (enc (step s x)).2) →
    fLoopG (xs0, none) t b xs (enc s).1 (enc s).2 = .nx (enc (xs.foldl step s)).1 (enc (xs.foldl step s)).2 ∧ I (xs.foldl step s)
  | [], s, hI, h => ⟨rfl, hI⟩
  | x :: xs, s, hI, h => by
    obtain ⟨h0, sl1, h1, h2⟩ := h x (List.mem_cons_self ..) s hI
    obtain ⟨i1, i2⟩ := fLoop_inv (xs0 := xs0) enc step I xs (step s x) h0 fun y hy => h y (List.mem_cons_of_mem _ hy)
    refine ⟨?_, i2⟩
    unfold fLoopG
    show (match tgM t x (enc s).1 with | none => SO.bad | some sl1 => _) = _
    rw [h1]
    show (match b sl1 (enc s).2 with | .nx sl' st' => _ | .ct sl' st' => _ | .bk sl' st' => _ | o => o) = _
    rw [h2]
    exact i1
theorem for_inv {b : SM} {xs : List D} {S : Type} (enc : S → Slots × Store) (step : S → D → S) (I : S → Prop) (s : S) (hs : enc s = (sl, st)) (hm : m sl st = .ok (xs, none) st) (hI : I s)
    (h : ∀ x ∈ xs, ∀ s, I s → I (step s x) ∧ ∃ sl1, tgM t x (enc s).1 = some sl1 ∧ b sl1 (enc s).2 = .nx (enc (step s x)).1 (enc (step s x)).2) :
    sForG m t b sl st = .nx (enc (xs.foldl step s)).1 (enc (xs.foldl step s)).2 ∧ I (xs.foldl step s) := by
  have := fLoop_inv (xs0 := xs) (t := t) (b := b) enc step I xs s hI h
  rw [hs] at this
  refine ⟨?_, this.2⟩
  unfold sForG
  rw [hm]
  exact this.1
end
/-! ### numbers -/
abbrev nD (k : Nat) : D := .int (Int.ofNat k)
abbrev tN (p : List Nat) : D := .tup true (p.map nD)
theorem upI_nats : ∀ (n i : Nat), upI (Int.ofNat i) 1 n = (upN i n).map nD
  | 0, i => rfl
  | n + 1, i => by
    show D.int (Int.ofNat i) :: upI (Int.ofNat i + 1) 1 n = nD i :: (upN (i + 1) n).map nD
    rw [← upI_nats n (i + 1)]
    rfl
theorem getM_nat {α : Type} (xs : List α) (k : Nat) (h : k < xs.length) : getM xs (Int.ofNat k) = xs[k]? := by
  unfold getM ixM
  simp only [show Nat.blt k xs.length = true from Nat.ble_eq_true_of_le h]
theorem gIx_tup {f : Bool} {xs : List D} {k : Nat} {y : D} {st : Store} (h : xs[k]? = some y) : gIx (.tup f xs) (nD k) st = .ok (.d y) st := by
  have hk : k < xs.length := (List.getElem?_eq_some_iff.mp h).1
  show (match getM xs (Int.ofNat k) with | some x => O.ok (X.d x) st | none => .bad) = _
  rw [getM_nat xs k hk, h]
theorem gIx_lst {xs : List D} {k : Nat} {y : D} {st : Store} (h : xs[k]? = some y) : gIx (.lst xs) (nD k) st = .ok (.d y) st := by
  have hk : k < xs.length := (List.getElem?_eq_some_iff.mp h).1
  show (match getM xs (Int.ofNat k) with | some x => O.ok (X.d x) st | none => .bad) = _
  rw [getM_nat xs k hk, h]
theorem eqI_self (i : Int) : eqI i i = true := by
  cases i with
  | ofNat k => exact Nat.beq_refl k
  | negSucc k => exact Nat.beq_refl k
theorem eqI_nat (a b : Nat) : eqI (Int.ofNat a) (Int.ofNat b) = Nat.beq a b := rfl
theorem all2_ints {n : Nat} : ∀ p : List Int, all2 (eqD n) (p.map D.int) (p.map D.int) = true
  | [] => rfl
  | i :: p => by
    show (match eqD n (.int i) (.int i) with | true => all2 (eqD n) (p.map D.int) (p.map D.int) | false => false) = true
    rw [show eqD n (.int i) (.int i) = true from by cases n <;> exact eqI_self i]
    exact all2_ints p
end DH
namespace DH
open PySem PySem.Spec PyProof.Rows L2
/-! ### a def sees no more of the store than the first places -/
def lowX (k : Nat) : DH.X → Bool
  | .d _ => true
  | .loc l => Nat.blt l k
def lowXs (k : Nat) : List DH.X → Bool
  | [] => true
  | x :: r => (match lowX k x with
    | true => lowXs k r
    | false => false)
/-- f run over the first k places of the store alone -/
def frameF (k : Nat) (f : Fn) : Fn := fun xs st => match lowXs k xs && Nat.ble k st.length with
  | false => f xs st
  | true => (match f xs (st.take k) with
    | .ok x st' => (match lowX k x && Nat.beq st'.length k with
      | true => .ok x (st' ++ st.drop k)
      | false => .bad)
    | .exn c fs st' => (match Nat.beq st'.length k with
      | true => .exn c fs (st' ++ st.drop k)
      | false => .bad)
    | .bad => .bad)
section
variable {G : Gm} {F : Addr → Prop} {ρ : List Addr} {H : Hp} {st : Store} {k : Nat}
theorem nn_take : Nn (fun a => F a ∨ a ∈ ρ.drop k) (ρ.take k) = Nn F ρ := by
  funext a
  refine propext ⟨fun z => ?_, fun z => ?_⟩
  · rcases z with (z | z) | z
    · exact .inl z
    · exact .inr (List.mem_of_mem_drop z)
    · exact .inr (List.mem_of_mem_take z)
  · rcases z with z | z
    · exact .inl (.inl z)
    · rw [← List.take_append_drop k ρ] at z
      rcases List.mem_append.mp z with z | z
      · exact .inr z
      · exact .inl (.inr z)
theorem RelX.low {x : DH.X} {v : V} (h : RelX G F ρ H x v) (hl : lowX k x = true) : RelX G (fun a => F a ∨ a ∈ ρ.drop k) (ρ.take k) H x v := by
  cases x with
  | d y =>
    show RelD G (Nn _ _) H y v
    rw [nn_take]
    exact h
  | loc l =>
    obtain ⟨a, e, r⟩ := h
    exact ⟨a, by rw [List.getElem?_take_of_lt (Nat.le_of_ble_eq_true hl)]; exact e, r⟩
theorem RelX.unlow {x : DH.X} {v : V} (h : RelX G (fun a => F a ∨ a ∈ ρ.drop k) (ρ.take k) H x v) (hl : lowX k x = true) : RelX G F ρ H x v := by
  cases x with
  | d y =>
    have h : RelD G (Nn _ _) H y v := h
    rw [nn_take] at h
    exact h
  | loc l =>
    obtain ⟨a, e, r⟩ := h
    exact ⟨a, by rw [List.getElem?_take_of_lt (Nat.le_of_ble_eq_true hl)] at e; exact e, r⟩
theorem RelXs.low : ∀ {xs : List DH.X} {vs : List V}, RelXs G F ρ H xs vs → lowXs k xs = true → RelXs G (fun a => F a ∨ a ∈ ρ.drop k) (ρ.take k) H xs vs
  | [], vs, h, _ => h
  | x :: r, vs, h, hl => by
    obtain ⟨v, t, e, h1, h2⟩ := h
    unfold lowXs at hl
    cases q : lowX k x with
    | false => rw [q] at hl; cases hl
    | true =>
      rw [q] at hl
      exact ⟨v, t, e, h1.low q, RelXs.low h2 hl⟩
theorem Rep.low (R : Rep G F ρ st H) : Rep G (fun a => F a ∨ a ∈ ρ.drop k) (ρ.take k) (st.take k) H := by
  have nd : (ρ.take k ++ ρ.drop k).Nodup := by rw [List.take_append_drop]; exact R.nd
  rw [List.nodup_append] at nd
  refine ⟨by rw [List.length_take, List.length_take, R.len], nd.1, fun a ha z => ?_, fun a z => ?_, fun l a o e1 e2 => ?_, R.tab⟩
  · rcases z with z | z
    · exact R.dis a (List.mem_of_mem_take ha) z
    · exact nd.2.2 a ha a z rfl
  · rcases z with z | z
    · exact R.fin a z
    · have hm := List.mem_of_mem_drop z
      obtain ⟨l, hl, e⟩ := List.mem_iff_getElem.mp hm
      have hs : l < st.length := by rw [← R.len]; exact hl
      have q := R.obj l a st[l] (by rw [List.getElem?_eq_getElem hl, e]) (List.getElem?_eq_getElem hs)
      cases ho : st[l] with
      | lst xs =>
        rw [ho] at q
        obtain ⟨vs, e, _⟩ := q
        exact ⟨_, e, (fun ps z => by cases z), fun vs z => by cases z⟩
      | dct t kvs =>
        rw [ho] at q
        rcases q with ⟨ps, e, _⟩ | ⟨ps, e, _⟩ <;> exact ⟨_, e, (fun ps z => by cases z), fun vs z => by cases z⟩
      | ins c fs =>
        rw [ho] at q
        obtain ⟨dx, ps, e, _⟩ := q
        exact ⟨_, e, (fun ps z => by cases z), fun vs z => by cases z⟩
      | orc l =>
        rw [ho] at q
        obtain ⟨x, y, z, e, _⟩ := q
        exact ⟨_, e, (fun ps z => by cases z), fun vs z => by cases z⟩
  · rw [nn_take]
    by_cases hl : l < k
    · rw [List.getElem?_take_of_lt hl] at e1 e2
      exact R.obj l a o e1 e2
    · rw [List.getElem?_eq_none (by rw [List.length_take]; omega)] at e1
      cases e1
theorem frame_back {ρ' : List Addr} {H' : Hp} {st' : Store} (R : Rep G F ρ st H) (hk : k ≤ st.length) (hl : st'.length = k) (s : Stp (ρ.take k) H ρ' H') (R' : Rep G (fun a => F a ∨ a ∈ ρ.drop k) ρ' st' H') : ρ' = ρ.take k ∧ Stp ρ H ρ H' ∧ Rep G F ρ (st' ++ st.drop k) H' := by
  have hlr : (ρ.take k).length = k := by rw [List.length_take, R.len]; omega
  have e : ρ' = ρ.take k := by
    obtain ⟨m, e⟩ := s.pre
    have h1 : ρ'.length = k := by rw [R'.len, hl]
    rw [e, List.length_append, hlr] at h1
    have : m = [] := List.length_eq_zero_iff.mp (by omega)
    rw [e, this, List.append_nil]
  subst e
  have s' : Stp ρ H ρ H' := ⟨fun a o h n ha => s.keep a o h n fun z => ha (List.mem_of_mem_take z), ⟨[], by simp⟩, fun _ z => .inl z, s.some⟩
  have nd : (ρ.take k ++ ρ.drop k).Nodup := by rw [List.take_append_drop]; exact R.nd
  rw [List.nodup_append] at nd
  refine ⟨rfl, s', by rw [List.length_append, List.length_drop, hl, R.len]; omega, R.nd, R.dis, fun a z => ?_, fun l a o e1 e2 => ?_, R'.tab⟩
  · exact R'.fin a (.inl z)
  · by_cases h : l < k
    · rw [List.getElem?_append_left (by omega)] at e2
      have := R'.obj l a o (by rw [List.getElem?_take_of_lt h]; exact e1) e2
      rw [nn_take] at this
      exact this
    · rw [List.getElem?_append_right (by omega), hl, List.getElem?_drop, show k + (l - k) = l by omega] at e2
      have r0 := R.obj l a o e1 e2
      have na : a ∉ ρ.take k := fun z => by
        refine nd.2.2 a z a ?_ rfl
        refine List.mem_of_getElem? (i := l - k) ?_
        rw [List.getElem?_drop, show k + (l - k) = l by omega]
        exact e1
      refine r0.mono s'.keeps ?_
      cases o with
      | lst xs =>
        obtain ⟨vs, q, _⟩ := r0
        rw [q]; exact s.keep a _ q (fun ps z => by cases z) na
      | dct t kvs =>
        rcases r0 with ⟨ps, q, _⟩ | ⟨ps, q, _⟩
        · rw [q]; exact s.keep a _ q (fun ps z => by cases z) na
        · rw [q]; exact s.keep a _ q (fun ps z => by cases z) na
      | ins c fs =>
        obtain ⟨dx, ps, q, _⟩ := r0
        rw [q]; exact s.keep a _ q (fun ps z => by cases z) na
      | orc l =>
        obtain ⟨x, y, z, q, _⟩ := r0
        rw [q]; exact s.keep a _ q (fun ps z => by cases z) na
theorem RelE.unlow {fs : List (Nat × D)} {d : Option Addr} (h : RelE G (fun a => F a ∨ a ∈ ρ.drop k) (ρ.take k) H fs d) : RelE G F ρ H fs d := by
  cases fs with
  | nil => exact h
  | cons f r =>
    obtain ⟨a, ps, e, n, h1, h2⟩ := h
    rw [nn_take] at n h2
    exact ⟨a, ps, e, n, h1, h2⟩
theorem frame_sp {f : Fn} {vs : List V} {H : Hp} {Q : VK} {E : XK} (h : spF G (frameF k f) vs H Q E) : spF G f vs H Q E := by
  obtain ⟨F, ρ, xs, st, rx, R, h⟩ := h
  unfold frameF at h
  cases q : lowXs k xs && Nat.ble k st.length with
  | false =>
    rw [q] at h
    exact ⟨F, ρ, xs, st, rx, R, h⟩
  | true =>
    rw [q] at h
    obtain ⟨q1, q2⟩ := Bool.and_eq_true_iff.mp q
    have hk : k ≤ st.length := Nat.le_of_ble_eq_true q2
    refine ⟨_, _, xs, st.take k, rx.low q1, R.low (k := k), ?_⟩
    simp only at h
    cases z : f xs (st.take k) with
    | bad => rw [z] at h; exact h.elim
    | ok x st' =>
      rw [z] at h
      simp only at h
      cases w : lowX k x && Nat.beq st'.length k with
      | false => rw [w] at h; exact h.elim
      | true =>
        rw [w] at h
        obtain ⟨w1, w2⟩ := Bool.and_eq_true_iff.mp w
        intro ρ' H' b s R' rb
        obtain ⟨e, s', R2⟩ := frame_back R hk (Nat.eq_of_beq_eq_true w2) s R'
        subst e
        exact h ρ H' b s' R2 (RelX.unlow rb w1)
    | exn c fs st' =>
      rw [z] at h
      simp only at h
      cases w : Nat.beq st'.length k with
      | false => rw [w] at h; exact h.elim
      | true =>
        rw [w] at h
        intro ρ' H' d s R' rb
        obtain ⟨e, s', R2⟩ := frame_back R hk (Nat.eq_of_beq_eq_true w) s R'
        subst e
        exact h ρ H' d s' R2 (RelE.unlow rb)
end
theorem frame0 {f : Fn} {xs : List DH.X} {y : D} (hl : lowXs 0 xs = true) (h : f xs [] = .ok (.d y) []) (st : Store) : frameF 0 f xs st = .ok (.d y) st := by
  unfold frameF
  rw [hl]
  show (match f xs [] with | .ok x st' => _ | .exn c fs st' => _ | .bad => O.bad) = _
  rw [h]
  rfl
/-! ### tuples of numbers -/
def natsOf : List D → Option (List Nat)
  | [] => some []
  | .int (.ofNat k) :: r => (match natsOf r with
    | some p => some (k :: p)
    | none => none)
  | _ :: _ => none
theorem natsOf_eq : ∀ {ys : List D} {p : List Nat}, natsOf ys = some p → ys = p.map nD
  | [], p, h => by
    have e : [] = p := Option.some.inj h
    rw [← e]; rfl
  | y :: r, p, h => by
    unfold natsOf at h
    cases y with
    | int i =>
      cases i with
      | ofNat k =>
        simp only at h
        cases q : natsOf r with
        | none => rw [q] at h; cases h
        | some t =>
          rw [q] at h
          have e : k :: t = p := Option.some.inj h
          rw [← e, natsOf_eq q]
          rfl
      | negSucc k => cases h
    | _ => cases h
/-- a def over one tuple of numbers, told for some of them -/
def fast1 (dom : List Nat → Bool) (g : List Nat → D) (f : Fn) : Fn := fun xs st => match xs with
  | [.d (.tup true ys)] => (match natsOf ys with
    | some p => (match dom p with
      | true => .ok (.d (g p)) st
      | false => f xs st)
    | none => f xs st)
  | _ => f xs st
theorem fast1_eq {dom : List Nat → Bool} {g : List Nat → D} {f : Fn} (h : ∀ p, dom p = true → ∀ st, f [.d (tN p)] st = .ok (.d (g p)) st) : fast1 dom g f = f := by
  funext xs st
  unfold fast1
  split
  · rename_i ys
    cases q : natsOf ys with
    | none => rfl
    | some p =>
      simp only
      cases z : dom p with
      | false => rfl
      | true =>
        rw [natsOf_eq q]
        exact (h p z st).symm
  · rfl
/-- a def over two tuples of numbers -/
def fast2 (dom : List Nat → List Nat → Bool) (g : List Nat → List Nat → D) (f : Fn) : Fn := fun xs st => match xs with
  | [.d (.tup true ys), .d (.tup true zs)] => (match natsOf ys, natsOf zs with
    | some p, some q => (match dom p q with
      | true => .ok (.d (g p q)) st
      | false => f xs st)
    | _, _ => f xs st)
  | _ => f xs st
theorem fast2_eq {dom : List Nat → List Nat → Bool} {g : List Nat → List Nat → D} {f : Fn} (h : ∀ p q, dom p q = true → ∀ st, f [.d (tN p), .d (tN q)] st = .ok (.d (g p q)) st) : fast2 dom g f = f := by
  funext xs st
  unfold fast2
  split
  · rename_i ys zs
    cases q : natsOf ys with
    | none => rfl
    | some p =>
      cases q2 : natsOf zs with
      | none => rfl
      | some r =>
        simp only
        cases z : dom p r with
        | false => rfl
        | true =>
          rw [natsOf_eq q, natsOf_eq q2]
          exact (h p r z st).symm
  · rfl
/-- the same, f's frame first -/
theorem fast1_fr {G : Gm} {dom : List Nat → Bool} {g : List Nat → D} {f : Fn} (h : ∀ p, dom p = true → f [.d (tN p)] [] = .ok (.d (g p)) []) {vs : List V} {H : Hp} {Q : VK} {E : XK} (hs : spF G (fast1 dom g (frameF 0 f)) vs H Q E) : spF G f vs H Q E := by
  rw [fast1_eq fun p hp st => frame0 rfl (h p hp) st] at hs
  exact frame_sp hs
theorem fast2_fr {G : Gm} {dom : List Nat → List Nat → Bool} {g : List Nat → List Nat → D} {f : Fn} (h : ∀ p q, dom p q = true → f [.d (tN p), .d (tN q)] [] = .ok (.d (g p q)) []) {vs : List V} {H : Hp} {Q : VK} {E : XK} (hs : spF G (fast2 dom g (frameF 0 f)) vs H Q E) : spF G f vs H Q E := by
  rw [fast2_eq fun p q hp st => frame0 rfl (h p q hp) st] at hs
  exact frame_sp hs
end DH
namespace DH
/-! ### rows of moves: each of the first numbers once -/
def getN (p : List Nat) (k : Nat) : Nat := match p, k with
  | [], _ => 0
  | x :: _, 0 => x
  | _ :: r, k + 1 => getN r k
theorem getN_eq : ∀ (p : List Nat) (k : Nat), getN p k = p.getD k 0
  | [], k => by simp [getN]
  | x :: r, 0 => by simp [getN]
  | x :: r, k + 1 => by rw [getN, getN_eq r k]; simp
theorem getN_get {p : List Nat} {k : Nat} (h : k < p.length) : p[k]? = some (getN p k) := by
  rw [getN_eq, List.getD_eq_getElem?_getD, List.getElem?_eq_getElem h]; rfl
theorem getN_map (f : Nat → Nat) : ∀ (p : List Nat) (k : Nat), k < p.length → getN (p.map f) k = f (getN p k)
  | [], k, h => by cases h
  | x :: r, 0, h => rfl
  | x :: r, k + 1, h => getN_map f r k (by simpa using h)
theorem getN_mem {p : List Nat} {k : Nat} (h : k < p.length) : getN p k ∈ p := List.mem_of_getElem? (getN_get h)
def consA (a : Nat) : List (List Nat) → List (List Nat)
  | [] => []
  | l :: ls => (a :: l) :: consA a ls
theorem consA_mem {a : Nat} {l : List Nat} : ∀ {ls : List (List Nat)}, l ∈ ls → (a :: l) ∈ consA a ls
  | m :: ls, h => by
    unfold consA
    rcases List.mem_cons.mp h with e | h
    · rw [e]; exact List.mem_cons_self ..
    · exact List.mem_cons_of_mem _ (consA_mem h)
theorem consA_inv {a : Nat} {l : List Nat} : ∀ {ls : List (List Nat)}, l ∈ consA a ls → ∃ t ∈ ls, l = a :: t
  | [], h => by cases h
  | m :: ls, h => by
    unfold consA at h
    rcases List.mem_cons.mp h with e | h
    · exact ⟨m, List.mem_cons_self .., e⟩
    · obtain ⟨t, h1, h2⟩ := consA_inv h
      exact ⟨t, List.mem_cons_of_mem _ h1, h2⟩
def permsF : Nat → List Nat → List (List Nat)
  | 0, _ => [[]]
  | n + 1, left => flatM (fun r => consA (getN left r) (permsF n (left.eraseIdx r))) (upN 0 (n + 1))
def perms (n : Nat) : List (List Nat) := permsF n (upN 0 n)
theorem upN_len : ∀ (n i : Nat), (upN i n).length = n
  | 0, i => rfl
  | n + 1, i => by unfold upN; rw [List.length_cons, upN_len n]
/-- by rolls -/
def permOf : List Nat → List (Nat × Nat) → List Nat
  | _, [] => []
  | left, (_, r) :: l => getN left r :: permOf (left.eraseIdx r) l
def TMv : Nat → RT
  | 0 => .leaf
  | n + 1 => .node (n + 1) fun _ => TMv n
theorem TMv_wf : ∀ n, n < 1073741824 → (TMv n).Wf
  | 0, _ => trivial
  | n + 1, h => ⟨Nat.succ_pos n, h, fun _ _ => TMv_wf n (by omega)⟩
theorem permOf_mem : ∀ (n : Nat) (left : List Nat) (l : List (Nat × Nat)), left.length = n → l ∈ (TMv n).paths → permOf left l ∈ permsF n left
  | 0, left, l, hl, h => by
    have : l = [] := by
      have h : l ∈ [[]] := h
      simpa using h
    subst this
    exact List.mem_cons_self ..
  | n + 1, left, l, hl, h => by
    obtain ⟨r, hr, t, ht, rfl⟩ := RT.mem_node h
    show getN left r :: permOf (left.eraseIdx r) t ∈ flatM _ _
    exact flatM_mem (upN_mem (n + 1) 0 r (Nat.zero_le _) (by omega)) (consA_mem (permOf_mem n _ t (by rw [List.length_eraseIdx_of_lt (by omega)]; omega) ht))
theorem perm_erase : ∀ (left : List Nat) (r : Nat), r < left.length → (getN left r :: left.eraseIdx r).Perm left
  | [], r, h => by cases h
  | x :: l, 0, h => List.Perm.refl _
  | x :: l, r + 1, h => by
    show (getN l r :: x :: l.eraseIdx r).Perm (x :: l)
    exact (List.Perm.swap _ _ _).trans ((perm_erase l r (by simpa using h)).cons x)
theorem permsF_perm : ∀ (n : Nat) (left p : List Nat), left.length = n → p ∈ permsF n left → p.Perm left
  | 0, left, p, hl, h => by
    have e : p = [] := by
      have h : p ∈ [[]] := h
      simpa using h
    rw [e, List.length_eq_zero_iff.mp hl]
  | n + 1, left, p, hl, h => by
    obtain ⟨r, h1, h2⟩ := flatM_inv h
    obtain ⟨t, h3, h4⟩ := consA_inv h2
    have hr : r < n + 1 := by have := upN_inv h1; omega
    rw [h4]
    exact ((permsF_perm n _ t (by rw [List.length_eraseIdx_of_lt (by omega)]; omega) h3).cons _).trans (perm_erase left r (by omega))
theorem perms_perm {n : Nat} {p : List Nat} (h : p ∈ perms n) : p.Perm (upN 0 n) := permsF_perm n _ p (upN_len n 0) h
theorem perms_len {n : Nat} {p : List Nat} (h : p ∈ perms n) : p.length = n := by rw [(perms_perm h).length_eq, upN_len]
theorem perms_lt {n : Nat} {p : List Nat} (h : p ∈ perms n) {k : Nat} (hk : k ∈ p) : k < n := by
  have := upN_inv ((perms_perm h).mem_iff.mp hk)
  omega
theorem upN_nodup : ∀ (n i : Nat), (upN i n).Nodup
  | 0, i => List.nodup_nil
  | n + 1, i => by
    unfold upN
    rw [List.nodup_cons]
    exact ⟨fun h => by have := upN_inv h; omega, upN_nodup n (i + 1)⟩
theorem perms_nodup {n : Nat} {p : List Nat} (h : p ∈ perms n) : p.Nodup := (perms_perm h).nodup_iff.mpr (upN_nodup n 0)
/-! told by looking -/
def dropV (x : Nat) : List Nat → Option (List Nat)
  | [] => none
  | y :: r => (match Nat.beq x y with
    | true => some r
    | false => (match dropV x r with
      | some t => some (y :: t)
      | none => none))
def isP : List Nat → List Nat → Bool
  | [], left => (match left with
    | [] => true
    | _ => false)
  | x :: r, left => (match dropV x left with
    | some t => isP r t
    | none => false)
theorem dropV_ok : ∀ {left t : List Nat} {x : Nat}, dropV x left = some t → ∃ r, r < left.length ∧ getN left r = x ∧ left.eraseIdx r = t
  | [], t, x, h => by cases h
  | y :: l, t, x, h => by
    unfold dropV at h
    cases q : Nat.beq x y with
    | true =>
      rw [q] at h
      have e : l = t := Option.some.inj h
      exact ⟨0, by simp, (Nat.eq_of_beq_eq_true q).symm, e⟩
    | false =>
      rw [q] at h
      simp only at h
      cases z : dropV x l with
      | none => rw [z] at h; cases h
      | some u =>
        rw [z] at h
        obtain ⟨r, h1, h2, h3⟩ := dropV_ok z
        have e : y :: u = t := Option.some.inj h
        exact ⟨r + 1, by simpa using h1, h2, by rw [← e, ← h3]; rfl⟩
theorem isP_mem : ∀ (p left : List Nat), isP p left = true → p ∈ permsF left.length left
  | [], left, h => by
    cases left with
    | nil => exact List.mem_cons_self ..
    | cons _ _ => cases h
  | x :: r, left, h => by
    unfold isP at h
    cases q : dropV x left with
    | none => rw [q] at h; cases h
    | some t =>
      rw [q] at h
      obtain ⟨i, h1, h2, h3⟩ := dropV_ok q
      have ih := isP_mem r t h
      have hl : left.length = t.length + 1 := by rw [← h3, List.length_eraseIdx_of_lt h1]; omega
      rw [hl]
      show x :: r ∈ flatM _ _
      refine flatM_mem (upN_mem _ 0 i (Nat.zero_le _) (by omega)) ?_
      rw [h2, h3]
      exact consA_mem ih
def permOk (m : Nat) (p : List Nat) : Bool := match p with
  | [] => false
  | x :: r => (match Nat.ble (x :: r).length m with
    | true => isP (x :: r) (upN 0 (x :: r).length)
    | false => false)
theorem permOk_mem {m : Nat} {p : List Nat} (h : permOk m p = true) : 0 < p.length ∧ p.length ≤ m ∧ p ∈ perms p.length := by
  cases p with
  | nil => cases h
  | cons x r =>
    unfold permOk at h
    cases q : Nat.ble (x :: r).length m with
    | false => simp only [q] at h; cases h
    | true =>
      simp only [q] at h
      have := isP_mem _ _ h
      rw [upN_len] at this
      exact ⟨by simp, Nat.le_of_ble_eq_true q, this⟩
theorem dropV_perm {left : List Nat} {x : Nat} (h : x ∈ left) : ∃ t, dropV x left = some t ∧ (x :: t).Perm left := by
  induction left with
  | nil => cases h
  | cons y l ih =>
    unfold dropV
    cases q : Nat.beq x y with
    | true =>
      rw [Nat.eq_of_beq_eq_true q]
      exact ⟨l, rfl, List.Perm.refl _⟩
    | false =>
      have hx : x ∈ l := by
        rcases List.mem_cons.mp h with e | h
        · rw [e, show Nat.beq y y = true from Nat.beq_refl y] at q; cases q
        · exact h
      obtain ⟨t, h1, h2⟩ := ih hx
      rw [h1]
      exact ⟨y :: t, rfl, (List.Perm.swap _ _ _).trans (h2.cons y)⟩
theorem isP_perm : ∀ (p left : List Nat), p.Perm left → isP p left = true
  | [], left, h => by
    rw [h.symm.eq_nil]
    rfl
  | x :: r, left, h => by
    obtain ⟨t, h1, h2⟩ := dropV_perm (h.mem_iff.mp (List.mem_cons_self ..))
    unfold isP
    rw [h1]
    exact isP_perm r t (List.Perm.cons_inv (h.trans h2.symm))
theorem permOk_of {n m : Nat} {p : List Nat} (h : p ∈ perms n) (h0 : 0 < n) (hm : n ≤ m) : permOk m p = true := by
  have hl := perms_len h
  cases p with
  | nil => exact absurd hl (by simp; omega)
  | cons x r =>
    unfold permOk
    simp only [show Nat.ble (x :: r).length m = true from Nat.ble_eq_true_of_le (by omega)]
    rw [hl]
    exact isP_perm _ _ (perms_perm h)
/-! one behind the other, back -/
def comp (p q : List Nat) : List Nat := match p with
  | [] => []
  | k :: r => getN q k :: comp r q
theorem comp_eq (q : List Nat) : ∀ p : List Nat, comp p q = p.map (getN q)
  | [] => rfl
  | k :: r => by rw [comp, comp_eq q r]; rfl
/-- where x first stands -/
def idxN (x : Nat) : List Nat → Nat → Nat
  | [], _ => 0
  | y :: r, k => (match Nat.beq x y with
    | true => k
    | false => idxN x r (k + 1))
theorem idxN_ok {x : Nat} : ∀ {p : List Nat} (k : Nat), x ∈ p → k ≤ idxN x p k ∧ idxN x p k < k + p.length ∧ getN p (idxN x p k - k) = x
  | y :: r, k, h => by
    unfold idxN
    cases q : Nat.beq x y with
    | true =>
      refine ⟨Nat.le_refl _, by simp, ?_⟩
      rw [show k - k = 0 by omega]
      exact (Nat.eq_of_beq_eq_true q).symm
    | false =>
      have hx : x ∈ r := by
        rcases List.mem_cons.mp h with e | h
        · rw [e, show Nat.beq y y = true from Nat.beq_refl y] at q; cases q
        · exact h
      obtain ⟨h1, h2, h3⟩ := idxN_ok (k + 1) hx
      simp only
      refine ⟨by omega, by simp only [List.length_cons]; omega, ?_⟩
      show getN (y :: r) (idxN x r (k + 1) - k) = x
      rw [show idxN x r (k + 1) - k = (idxN x r (k + 1) - (k + 1)) + 1 by omega]
      exact h3
def invp (p : List Nat) : List Nat := (upN 0 p.length).map fun x => idxN x p 0
theorem natsOf_map : ∀ p : List Nat, natsOf (p.map nD) = some p
  | [] => rfl
  | k :: r => by
    show (match natsOf (r.map nD) with | some p => some (k :: p) | none => none) = _
    rw [natsOf_map r]
end DH
namespace DH
theorem isP_of : ∀ (p left : List Nat), p.Nodup → (∀ x ∈ p, x ∈ left) → p.length = left.length → isP p left = true
  | [], left, _, _, h => by
    have : left = [] := List.length_eq_zero_iff.mp (by simpa using h.symm)
    rw [this]
    rfl
  | x :: r, left, hn, hm, hl => by
    rw [List.nodup_cons] at hn
    obtain ⟨t, h1, h2⟩ := dropV_perm (hm x (List.mem_cons_self ..))
    unfold isP
    rw [h1]
    refine isP_of r t hn.2 (fun y hy => ?_) ?_
    · have hy2 := h2.mem_iff.mpr (hm y (List.mem_cons_of_mem _ hy))
      rcases List.mem_cons.mp hy2 with e | h
      · rw [← e] at hn; exact absurd hy hn.1
      · exact h
    · have := h2.length_eq
      simp at this hl
      omega
theorem upN_get {n i k : Nat} (h : k < n) : getN (upN i n) k = i + k := by
  induction n generalizing i k with
  | zero => omega
  | succ n ih =>
    cases k with
    | zero => rfl
    | succ k =>
      show getN (upN (i + 1) n) k = _
      rw [ih (by omega)]
      omega
theorem perms_of {n : Nat} {p : List Nat} (hn : p.Nodup) (hm : ∀ x ∈ p, x < n) (hl : p.length = n) : p ∈ perms n := by
  have := isP_mem p (upN 0 n) (isP_of p _ hn (fun x hx => upN_mem n 0 x (Nat.zero_le _) (by have := hm x hx; omega)) (by rw [upN_len, hl]))
  rw [upN_len] at this
  exact this
theorem ext_getN {p q : List Nat} (hl : p.length = q.length) (h : ∀ k, k < p.length → getN p k = getN q k) : p = q := by
  refine List.ext_getElem? fun k => ?_
  by_cases hk : k < p.length
  · rw [getN_get hk, getN_get (by omega), h k hk]
  · rw [List.getElem?_eq_none (by omega), List.getElem?_eq_none (by omega)]
theorem getN_inj {p : List Nat} (hn : p.Nodup) {i j : Nat} (hi : i < p.length) (hj : j < p.length) (h : getN p i = getN p j) : i = j := by
  have h1 := getN_get hi
  have h2 := getN_get hj
  rw [List.getElem?_eq_getElem hi] at h1
  rw [List.getElem?_eq_getElem hj] at h2
  exact (List.getElem_inj hn).mp ((Option.some.inj h1).trans (h.trans (Option.some.inj h2).symm))
theorem comp_len (p q : List Nat) : (comp p q).length = p.length := by rw [comp_eq, List.length_map]
theorem comp_get {p q : List Nat} {k : Nat} (h : k < p.length) : getN (comp p q) k = getN q (getN p k) := by rw [comp_eq, getN_map _ _ _ h]
theorem invp_len (p : List Nat) : (invp p).length = p.length := by unfold invp; rw [List.length_map, upN_len]
theorem invp_get {p : List Nat} {x : Nat} (h : x < p.length) : getN (invp p) x = idxN x p 0 := by
  unfold invp
  rw [getN_map _ _ _ (by rw [upN_len]; exact h), upN_get h]
  simp
section
variable {n : Nat} {p q r : List Nat}
theorem perms_has (h : p ∈ perms n) {x : Nat} (hx : x < n) : x ∈ p := (perms_perm h).mem_iff.mpr (upN_mem n 0 x (Nat.zero_le _) (by omega))
theorem perms_get_lt (h : p ∈ perms n) {k : Nat} (hk : k < n) : getN p k < n := perms_lt h (getN_mem (by rw [perms_len h]; exact hk))
theorem inv_r (h : p ∈ perms n) {x : Nat} (hx : x < n) : getN p (getN (invp p) x) = x ∧ getN (invp p) x < n := by
  have hl := perms_len h
  rw [invp_get (by omega)]
  obtain ⟨_, h2, h3⟩ := idxN_ok 0 (perms_has h hx)
  rw [show idxN x p 0 - 0 = idxN x p 0 by omega] at h3
  exact ⟨h3, by omega⟩
theorem inv_l (h : p ∈ perms n) {k : Nat} (hk : k < n) : getN (invp p) (getN p k) = k := by
  obtain ⟨h1, h2⟩ := inv_r h (perms_get_lt h hk)
  have hl := perms_len h
  exact getN_inj (perms_nodup h) (by omega) (by omega) h1
theorem nodup_get {l : List Nat} (h : ∀ i j, i < l.length → j < l.length → getN l i = getN l j → i = j) : l.Nodup := by
  rw [List.nodup_iff_pairwise_ne, List.pairwise_iff_getElem]
  intro i j hi hj hij e
  have h1 := getN_get hi
  have h2 := getN_get hj
  rw [List.getElem?_eq_getElem hi] at h1
  rw [List.getElem?_eq_getElem hj] at h2
  have := h i j hi hj (by rw [← Option.some.inj h1, ← Option.some.inj h2]; exact e)
  omega
theorem mem_getN {l : List Nat} {x : Nat} (h : x ∈ l) : ∃ k, k < l.length ∧ getN l k = x := by
  obtain ⟨k, hk, e⟩ := List.mem_iff_getElem.mp h
  have h1 := getN_get hk
  rw [List.getElem?_eq_getElem hk] at h1
  exact ⟨k, hk, by rw [← Option.some.inj h1]; exact e⟩
theorem comp_mem (hp : p ∈ perms n) (hq : q ∈ perms n) : comp p q ∈ perms n := by
  have lp := perms_len hp
  have lq := perms_len hq
  refine perms_of (nodup_get fun i j hi hj e => ?_) (fun x hx => ?_) (by rw [comp_len, lp])
  · rw [comp_len, lp] at hi hj
    rw [comp_get (by omega), comp_get (by omega)] at e
    have h1 := getN_inj (perms_nodup hq) (by rw [lq]; exact perms_get_lt hp hi) (by rw [lq]; exact perms_get_lt hp hj) e
    exact getN_inj (perms_nodup hp) (by omega) (by omega) h1
  · obtain ⟨k, hk, e⟩ := mem_getN hx
    rw [comp_len, lp] at hk
    rw [comp_get (by omega)] at e
    rw [← e]
    exact perms_get_lt hq (perms_get_lt hp hk)
theorem invp_mem (hp : p ∈ perms n) : invp p ∈ perms n := by
  have lp := perms_len hp
  refine perms_of (nodup_get fun i j hi hj e => ?_) (fun x hx => ?_) (by rw [invp_len, lp])
  · rw [invp_len, lp] at hi hj
    have h1 := (inv_r hp hi).1
    have h2 := (inv_r hp hj).1
    rw [e, h2] at h1
    exact h1.symm
  · obtain ⟨k, hk, e⟩ := mem_getN hx
    rw [invp_len, lp] at hk
    rw [← e]
    exact (inv_r hp hk).2
theorem home_mem : upN 0 n ∈ perms n := perms_of (upN_nodup n 0) (fun x hx => by have := upN_inv hx; omega) (upN_len n 0)
theorem comp_assoc (hp : p ∈ perms n) (hq : q ∈ perms n) : comp (comp p q) r = comp p (comp q r) := by
  have lp := perms_len hp
  have lq := perms_len hq
  refine ext_getN (by rw [comp_len, comp_len, comp_len]) fun k hk => ?_
  rw [comp_len, comp_len] at hk
  rw [comp_get (by rw [comp_len]; exact hk), comp_get hk, comp_get hk, comp_get (by rw [lq]; exact perms_get_lt hp (by omega))]
theorem comp_home (hp : p ∈ perms n) : comp p (upN 0 n) = p := by
  have lp := perms_len hp
  refine ext_getN (by rw [comp_len]) fun k hk => ?_
  rw [comp_len] at hk
  rw [comp_get hk, upN_get (perms_get_lt hp (by omega))]
  omega
theorem home_comp (hp : p ∈ perms n) : comp (upN 0 n) p = p := by
  have lp := perms_len hp
  refine ext_getN (by rw [comp_len, upN_len, lp]) fun k hk => ?_
  rw [comp_len, upN_len] at hk
  rw [comp_get (by rw [upN_len]; exact hk), upN_get hk]
  simp
theorem comp_inv (hp : p ∈ perms n) : comp p (invp p) = upN 0 n := by
  have lp := perms_len hp
  refine ext_getN (by rw [comp_len, upN_len, lp]) fun k hk => ?_
  rw [comp_len] at hk
  rw [comp_get hk, inv_l hp (by omega), upN_get (by omega)]
  omega
theorem inv_comp (hp : p ∈ perms n) : comp (invp p) p = upN 0 n := by
  have lp := perms_len hp
  refine ext_getN (by rw [comp_len, invp_len, upN_len, lp]) fun k hk => ?_
  rw [comp_len] at hk
  have hk' : k < n := by rw [invp_len, lp] at hk; exact hk
  rw [comp_get hk, (inv_r hp hk').1, upN_get hk']
  omega
theorem inv_unique (hp : p ∈ perms n) (hq : q ∈ perms n) (h : comp p q = upN 0 n) : invp p = q := by
  have h1 : comp (invp p) (comp p q) = q := by rw [← comp_assoc (invp_mem hp) hp, inv_comp hp, home_comp hq]
  rw [h, comp_home (invp_mem hp)] at h1
  exact h1
theorem inv_of_comp (hp : p ∈ perms n) (hq : q ∈ perms n) : invp (comp p q) = comp (invp q) (invp p) := by
  refine inv_unique (comp_mem hp hq) (comp_mem (invp_mem hq) (invp_mem hp)) ?_
  rw [comp_assoc hp hq, ← comp_assoc (p := q) (q := invp q) hq (invp_mem hq), comp_inv hq, home_comp (invp_mem hp), comp_inv hp]
theorem inv_inv (hp : p ∈ perms n) : invp (invp p) = p := inv_unique (invp_mem hp) hp (inv_comp hp)
theorem inv_home : invp (upN 0 n) = upN 0 n := inv_unique home_mem home_mem (comp_home home_mem)
end
/-! even ones -/
def lessB (x : Nat) : List Nat → Nat
  | [] => 0
  | y :: r => (match Nat.blt y x with
    | true => lessB x r + 1
    | false => lessB x r)
def invc : List Nat → Nat
  | [] => 0
  | x :: r => lessB x r + invc r
def evenN (p : List Nat) : Bool := Nat.beq (Nat.mod (invc p) 2) 0
/-- two neighbours exchanged -/
def swapN : Nat → List Nat → List Nat
  | 0, x :: y :: r => y :: x :: r
  | k + 1, x :: r => x :: swapN k r
  | _, p => p
theorem swapN_mem {n k : Nat} (hk : k + 1 < n) : swapN k (upN 0 n) ∈ perms n := by
  have key : ∀ (k : Nat) (l : List Nat), (swapN k l).Perm l := fun k => by
    induction k with
    | zero =>
      intro l
      match l with
      | [] => exact List.Perm.refl _
      | [x] => exact List.Perm.refl _
      | x :: y :: r => exact List.Perm.swap _ _ _
    | succ k ih =>
      intro l
      match l with
      | [] => exact List.Perm.refl _
      | x :: r => exact (ih r).cons x
  have h := isP_mem _ _ (isP_perm _ _ (key k (upN 0 n)))
  rw [upN_len] at h
  exact h
/-- by a word of exchanges -/
def byWord (n : Nat) : List Nat → List Nat → List Nat
  | [], p => p
  | k :: w, p => byWord n w (comp p (swapN k (upN 0 n)))
def parityB : List Nat → Bool
  | [] => true
  | _ :: w => !parityB w
section
variable {n : Nat} (hs : ∀ p ∈ perms n, ∀ k, k + 1 < n → evenN (comp p (swapN k (upN 0 n))) = !evenN p)
include hs
theorem even_word : ∀ (w p : List Nat), (∀ k ∈ w, k + 1 < n) → p ∈ perms n → byWord n w p ∈ perms n ∧ evenN (byWord n w p) = (evenN p == parityB w)
  | [], p, _, hp => ⟨hp, by
    have : ∀ b : Bool, b = (b == true) := by decide
    exact this (evenN p)⟩
  | k :: w, p, hw, hp => by
    have hk := hw k (List.mem_cons_self ..)
    obtain ⟨h1, h2⟩ := even_word w (comp p (swapN k (upN 0 n))) (fun j hj => hw j (List.mem_cons_of_mem _ hj)) (comp_mem hp (swapN_mem hk))
    refine ⟨h1, h2.trans ?_⟩
    rw [hs p hp k hk]
    show _ = (evenN p == !parityB w)
    cases evenN p <;> cases parityB w <;> rfl
omit hs in
theorem word_comp : ∀ (w p : List Nat), (∀ k ∈ w, k + 1 < n) → p ∈ perms n → ∀ q ∈ perms n, byWord n w (comp q p) = comp q (byWord n w p)
  | [], p, _, hp, q, hq => rfl
  | k :: w, p, hw, hp, q, hq => by
    have hk := hw k (List.mem_cons_self ..)
    show byWord n w (comp (comp q p) _) = comp q (byWord n w (comp p _))
    rw [comp_assoc hq hp]
    exact word_comp w _ (fun j hj => hw j (List.mem_cons_of_mem _ hj)) (comp_mem hp (swapN_mem hk)) q hq
theorem even_comp (h0 : evenN (upN 0 n) = true) (wd : List Nat → List Nat) (hw : ∀ q ∈ perms n, byWord n (wd q) (upN 0 n) = q ∧ ∀ k ∈ wd q, k + 1 < n) {p q : List Nat} (hp : p ∈ perms n) (hq : q ∈ perms n) : evenN (comp p q) = (evenN p == evenN q) := by
  obtain ⟨e, hk⟩ := hw q hq
  have h1 := (even_word hs (wd q) p hk hp).2
  have h2 := (even_word hs (wd q) (upN 0 n) hk home_mem).2
  have h3 := word_comp (wd q) (upN 0 n) hk home_mem p hp
  rw [comp_home hp, e] at h3
  rw [e, h0] at h2
  rw [h3] at h1
  rw [h1, h2]
  cases evenN p <;> cases parityB (wd q) <;> rfl
end
/-! order -/
def factN : Nat → Nat
  | 0 => 1
  | n + 1 => (n + 1) * factN n
def rankN : List Nat → Nat
  | [] => 0
  | x :: r => lessB x r * factN r.length + rankN r
theorem lessB_le (x : Nat) : ∀ r : List Nat, lessB x r ≤ r.length
  | [] => Nat.le_refl _
  | y :: r => by
    unfold lessB
    have := lessB_le x r
    cases Nat.blt y x <;> simp <;> omega
theorem factN_pos : ∀ n, 0 < factN n
  | 0 => Nat.one_pos
  | n + 1 => Nat.mul_pos (Nat.succ_pos n) (factN_pos n)
theorem rankN_lt : ∀ p : List Nat, rankN p < factN p.length
  | [] => Nat.one_pos
  | x :: r => by
    have h1 := lessB_le x r
    have h2 := rankN_lt r
    show lessB x r * factN r.length + rankN r < (r.length + 1) * factN r.length
    have h3 : lessB x r * factN r.length ≤ r.length * factN r.length := Nat.mul_le_mul_right _ h1
    rw [Nat.add_mul]
    omega
theorem lessB_perm {x : Nat} {a b : List Nat} (h : a.Perm b) : lessB x a = lessB x b := by
  induction h with
  | nil => rfl
  | cons y _ ih => unfold lessB; rw [ih]
  | swap y z l =>
    unfold lessB
    unfold lessB
    cases Nat.blt y x <;> cases Nat.blt z x <;> rfl
  | trans _ _ i1 i2 => exact i1.trans i2
theorem lessB_mono {x y : Nat} (h : x < y) : ∀ l : List Nat, lessB x l ≤ lessB y l
  | [] => Nat.le_refl _
  | z :: l => by
    unfold lessB
    have := lessB_mono h l
    cases q : Nat.blt z x with
    | true =>
      have : Nat.blt z y = true := Nat.ble_eq_true_of_le (by have := Nat.le_of_ble_eq_true q; omega)
      rw [this]
      simp
      omega
    | false => cases Nat.blt z y <;> simp <;> omega
theorem lessB_strict {x y : Nat} (h : x < y) : ∀ {l : List Nat}, x ∈ l → lessB x l < lessB y l
  | z :: l, hx => by
    unfold lessB
    have hm := lessB_mono h l
    rcases List.mem_cons.mp hx with e | hx
    · subst e
      have h1 : Nat.blt x x = false := by
        cases q : Nat.blt x x with
        | true => exact absurd (Nat.le_of_ble_eq_true q) (by omega)
        | false => rfl
      rw [h1, show Nat.blt x y = true from Nat.ble_eq_true_of_le h]
      simp
      omega
    · have := lessB_strict h hx
      cases q : Nat.blt z x with
      | true =>
        have : Nat.blt z y = true := Nat.ble_eq_true_of_le (by have := Nat.le_of_ble_eq_true q; omega)
        rw [this]
        simp
        omega
      | false => cases Nat.blt z y <;> simp <;> omega
theorem lessB_self (x : Nat) (r : List Nat) : lessB x (x :: r) = lessB x r := by
  show (match Nat.blt x x with | true => lessB x r + 1 | false => lessB x r) = lessB x r
  have h1 : Nat.blt x x = false := by
    cases q : Nat.blt x x with
    | true => exact absurd (Nat.le_of_ble_eq_true q) (by omega)
    | false => rfl
  rw [h1]
def lexN : List Nat → List Nat → Bool
  | x :: r, y :: s => (match Nat.blt x y with
    | true => true
    | false => (match Nat.blt y x with
      | true => false
      | false => lexN r s))
  | [], _ :: _ => true
  | _, [] => false
theorem rank_less {x y : Nat} {r s : List Nat} (h : (x :: r).Perm (y :: s)) (hxy : x < y) : rankN (x :: r) < rankN (y :: s) := by
  have h1 : lessB x r < lessB y s := by
    rw [← lessB_self x r, ← lessB_self y s, ← lessB_perm (x := y) h]
    exact lessB_strict hxy (List.mem_cons_self ..)
  have hl : r.length = s.length := by have := h.length_eq; simpa using this
  show lessB x r * factN r.length + rankN r < lessB y s * factN s.length + rankN s
  have h2 := rankN_lt r
  rw [← hl]
  have h3 : (lessB x r + 1) * factN r.length ≤ lessB y s * factN r.length := Nat.mul_le_mul_right _ h1
  rw [Nat.add_mul] at h3
  omega
theorem rank_lex : ∀ {p q : List Nat}, p.Perm q → (Nat.blt (rankN p) (rankN q)) = lexN p q
  | [], q, h => by
    rw [h.symm.eq_nil]
    rfl
  | x :: r, [], h => by cases h.eq_nil
  | x :: r, y :: s, h => by
    unfold lexN
    cases q : Nat.blt x y with
    | true =>
      have hxy : x < y := Nat.le_of_ble_eq_true q
      exact Nat.ble_eq_true_of_le (rank_less h hxy)
    | false =>
      cases q2 : Nat.blt y x with
      | true =>
        have hyx : y < x := Nat.le_of_ble_eq_true q2
        have := rank_less h.symm hyx
        cases z : Nat.blt (rankN (x :: r)) (rankN (y :: s)) with
        | true => exact absurd (Nat.le_of_ble_eq_true z) (by omega)
        | false => rfl
      | false =>
        have hxy : ¬ x < y := fun z => by rw [show Nat.blt x y = true from Nat.ble_eq_true_of_le z] at q; cases q
        have hyx : ¬ y < x := fun z => by rw [show Nat.blt y x = true from Nat.ble_eq_true_of_le z] at q2; cases q2
        have e : x = y := by omega
        subst e
        have hp := List.Perm.cons_inv h
        rw [← rank_lex hp]
        show Nat.blt (lessB x r * factN r.length + rankN r) (lessB x s * factN s.length + rankN s) = _
        rw [lessB_perm hp, hp.length_eq]
        cases z : Nat.blt (rankN r) (rankN s) with
        | true => exact Nat.ble_eq_true_of_le (by have := Nat.le_of_ble_eq_true z; omega)
        | false =>
          cases w : Nat.blt (lessB x s * factN s.length + rankN r) (lessB x s * factN s.length + rankN s) with
          | true =>
            have h1 := Nat.le_of_ble_eq_true w
            rw [show Nat.blt (rankN r) (rankN s) = true from Nat.ble_eq_true_of_le (by omega)] at z
            cases z
          | false => rfl
/-! tables -/
theorem tab6 {α : Type} {f g : List Nat → α} (h1 : (perms 1).map f = (perms 1).map g) (h2 : (perms 2).map f = (perms 2).map g) (h3 : (perms 3).map f = (perms 3).map g) (h4 : (perms 4).map f = (perms 4).map g) (h5 : (perms 5).map f = (perms 5).map g) (h6 : (perms 6).map f = (perms 6).map g) : ∀ p, permOk 6 p = true → f p = g p := fun p h => by
  obtain ⟨a, b, c⟩ := permOk_mem h
  have : p.length = 1 ∨ p.length = 2 ∨ p.length = 3 ∨ p.length = 4 ∨ p.length = 5 ∨ p.length = 6 := by omega
  rcases this with e | e | e | e | e | e <;> rw [e] at c
  · exact map_at h1 c
  · exact map_at h2 c
  · exact map_at h3 c
  · exact map_at h4 c
  · exact map_at h5 c
  · exact map_at h6 c
end DH
namespace DH
/-! circuits -/
def walkR (p : List Nat) (s : Nat) : Nat → Nat → List Nat
  | 0, _ => []
  | f + 1, h => h :: (match Nat.beq (getN p h) s with
    | true => []
    | false => walkR p s f (getN p h))
def allGe (s : Nat) : List Nat → Bool
  | [] => true
  | x :: r => (match Nat.ble s x with
    | true => allGe s r
    | false => false)
def ringsF (p : List Nat) (n : Nat) : List Nat → List (List Nat)
  | [] => []
  | s :: r => (match allGe s (walkR p s n s) with
    | true => walkR p s n s :: ringsF p n r
    | false => ringsF p n r)
def ringsN (p : List Nat) : List (List Nat) := ringsF p p.length (upN 0 p.length)
def tupsD : List (List Nat) → List D
  | [] => []
  | r :: l => .tup false (r.map nD) :: tupsD l
def ringsD (p : List Nat) : D := .tup false (tupsD (ringsN p))
def eqNs : List Nat → List Nat → Bool
  | [], [] => true
  | x :: r, y :: s => (match Nat.beq x y with
    | true => eqNs r s
    | false => false)
  | _, _ => false
def ordF (p : List Nat) : Nat → List Nat → Nat
  | 0, _ => 1
  | f + 1, q => (match eqNs q (upN 0 p.length) with
    | true => 1
    | false => ordF p f (comp q p) + 1)
/-- after how many times all are home -/
def ordN (p : List Nat) : Nat := ordF p 60 p
end DH
namespace DH
theorem fast1_at {dom : List Nat → Bool} {g : List Nat → D} {f : Fn} {p : List Nat} (h : dom p = true) (st : Store) : fast1 dom g f [.d (tN p)] st = .ok (.d (g p)) st := by
  unfold fast1
  simp only
  rw [natsOf_map]
  simp only [h]
theorem fast2_at {dom : List Nat → List Nat → Bool} {g : List Nat → List Nat → D} {f : Fn} {p q : List Nat} (h : dom p q = true) (st : Store) : fast2 dom g f [.d (tN p), .d (tN q)] st = .ok (.d (g p q)) st := by
  unfold fast2
  simp only
  rw [natsOf_map, natsOf_map]
  simp only [h]
end DH
/-! the same combinators by recursors: the kernel runs them faster -/
noncomputable section
namespace DH
def nthR {α : Type} (l : List α) : Nat → Option α := List.rec (motive := fun _ => Nat → Option α) (fun _ => none) (fun x _ ih k => Nat.rec (motive := fun _ => Option α) (some x) (fun j _ => ih j) k) l
theorem nthR_eq {α : Type} : ∀ (l : List α) (k : Nat), nthR l k = l[k]?
  | [], k => by simp [nthR]
  | x :: r, 0 => rfl
  | x :: r, k + 1 => by
    show nthR r k = _
    rw [nthR_eq r k]
    simp
def setR {α : Type} (l : List α) (y : α) : Nat → List α := List.rec (motive := fun _ => Nat → List α) (fun _ => []) (fun x r ih k => Nat.rec (motive := fun _ => List α) (y :: r) (fun j _ => x :: ih j) k) l
theorem setR_eq {α : Type} (y : α) : ∀ (l : List α) (k : Nat), setR l y k = l.set k y
  | [], k => rfl
  | x :: r, 0 => rfl
  | x :: r, k + 1 => by
    show x :: setR r y k = _
    rw [setR_eq y r k]
    rfl
def lenR {α : Type} (l : List α) : Nat := List.rec (motive := fun _ => Nat) 0 (fun _ _ ih => Nat.add ih 1) l
theorem lenR_eq {α : Type} : ∀ (l : List α), lenR l = l.length
  | [] => rfl
  | x :: r => by
    show Nat.add (lenR r) 1 = _
    rw [lenR_eq r]
    rfl
def appR {α : Type} (l m : List α) : List α := List.rec (motive := fun _ => List α) m (fun x _ ih => x :: ih) l
theorem appR_eq {α : Type} (m : List α) : ∀ (l : List α), appR l m = l ++ m
  | [] => rfl
  | x :: r => by
    show x :: appR r m = _
    rw [appR_eq m r]
    rfl
def takeR {α : Type} (l : List α) : Nat → List α := List.rec (motive := fun _ => Nat → List α) (fun _ => []) (fun x _ ih k => Nat.rec (motive := fun _ => List α) [] (fun j _ => x :: ih j) k) l
theorem takeR_eq {α : Type} : ∀ (l : List α) (k : Nat), takeR l k = l.take k
  | [], k => by simp [takeR]
  | x :: r, 0 => rfl
  | x :: r, k + 1 => by
    show x :: takeR r k = _
    rw [takeR_eq r k]
    rfl
def revR {α : Type} (l : List α) : List α → List α := List.rec (motive := fun _ => List α → List α) (fun a => a) (fun x _ ih a => ih (x :: a)) l
theorem revR_eq : ∀ (l a : List D), revR l a = revD l a
  | [], a => rfl
  | x :: r, a => by
    show revR r (x :: a) = _
    rw [revR_eq r]
    rfl
/-! names -/
def eVarF (i : Nat) : EM X := fun sl st => match nthR sl i with
  | some (some x) => .ok x st
  | _ => .bad
theorem eVarF_eq : eVarF = eVar := by
  funext i sl st
  unfold eVarF eVar
  rw [nthR_eq]
  all_goals
    cases sl[i]? with
    | none => rfl
    | some o => cases o <;> rfl
def derefF (st : Store) : X → Option D
  | .d x => some x
  | .loc l => match nthR st l with
    | some (.lst xs) => some (.lst xs)
    | some (.dct t kvs) => some (.dct t kvs)
    | some (.ins c fs) => some (.obj c fs)
    | some (.orc _) => none
    | none => none
theorem derefF_eq : derefF = deref := by
  funext st x
  cases x with
  | d y => rfl
  | loc l =>
    unfold derefF deref
    simp only [nthR_eq]
    all_goals rfl
def f2F (g : D → D → Store → O X) : X → X → Store → O X := fun x y st => match derefF st x with
  | some a => (match derefF st y with
    | some b => g a b st
    | none => .bad)
  | none => .bad
theorem f2F_eq : f2F = f2 := by
  funext g x y st
  unfold f2F f2
  rw [derefF_eq]
  cases deref st x with
  | none => rfl
  | some a => cases deref st y <;> rfl
def f1F (g : D → Store → O X) : List X → Store → O X := fun xs st => match xs with
  | [x] => (match derefF st x with
    | some a => g a st
    | none => .bad)
  | _ => .bad
theorem f1F_eq : f1F = f1 := by
  funext g xs st
  unfold f1F f1
  rw [derefF_eq]
  all_goals rfl
def getF {α : Type} (xs : List α) (i : Int) : Option α := match i with
  | .ofNat k => nthR xs k
  | .negSucc k => getM xs (.negSucc k)
theorem getF_eq {α : Type} (xs : List α) (i : Int) : getF xs i = getM xs i := by
  cases i with
  | ofNat k =>
    show nthR xs k = _
    rw [nthR_eq]
    unfold getM ixM
    simp only
    cases q : Nat.blt k xs.length with
    | true => rfl
    | false =>
      simp only
      exact List.getElem?_eq_none (Nat.le_of_not_lt fun z => by rw [show Nat.blt k xs.length = true from Nat.ble_eq_true_of_le z] at q; cases q)
  | negSucc k => rfl
def gIxF (a b : D) (st : Store) : O X := match b with
  | .int i => (match a with
    | .tup _ xs => (match getF xs i with
      | some x => .ok (.d x) st
      | none => .bad)
    | .lst xs => (match getF xs i with
      | some x => .ok (.d x) st
      | none => .bad)
    | a => gIx a (.int i) st)
  | b => gIx a b st
theorem gIxF_eq : gIxF = gIx := by
  funext a b st
  unfold gIxF
  cases b with
  | int i =>
    cases a with
    | tup f xs =>
      show (match getF xs i with | some x => O.ok (X.d x) st | none => .bad) = _
      rw [getF_eq]
      rfl
    | lst xs =>
      show (match getF xs i with | some x => O.ok (X.d x) st | none => .bad) = _
      rw [getF_eq]
      rfl
    | _ => rfl
  | _ => rfl
def gLenF (a : D) (st : Store) : O X := match a with
  | .lst xs => .ok (.d (.int (Int.ofNat (lenR xs)))) st
  | .tup _ xs => .ok (.d (.int (Int.ofNat (lenR xs)))) st
  | a => gLen a st
theorem gLenF_eq : gLenF = gLen := by
  funext a st
  unfold gLenF
  cases a with
  | lst xs => show O.ok (X.d (.int (Int.ofNat (lenR xs)))) st = _; rw [lenR_eq]; rfl
  | tup f xs => show O.ok (X.d (.int (Int.ofNat (lenR xs)))) st = _; rw [lenR_eq]; rfl
  | _ => rfl
/-! equality: ints, texts, rows of ints first -/
def allI (xs : List D) : Bool := List.rec (motive := fun _ => Bool) true (fun x _ ih => match x with
  | .int _ => ih
  | _ => false) xs
def eqIs (xs : List D) : List D → Bool := List.rec (motive := fun _ => List D → Bool) (fun ys => match ys with
  | [] => true
  | _ :: _ => false) (fun x _ ih ys => match ys with
  | [] => false
  | y :: s => (match x with
    | .int i => (match y with
      | .int j => (match eqI i j with
        | true => ih s
        | false => false)
      | _ => false)
    | _ => false)) xs
theorem allI_ok (n : Nat) : ∀ xs : List D, allI xs = true → allB (okD n) xs = true
  | [], _ => rfl
  | x :: r, h => by
    cases x with
    | int i =>
      show (match okD n (.int i) with | true => allB (okD n) r | false => false) = true
      rw [show okD n (.int i) = true from by cases n <;> rfl]
      exact allI_ok n r h
    | _ => exact absurd (show false = true from h) Bool.false_ne_true
theorem eqIs_ok (n : Nat) : ∀ xs ys : List D, allI xs = true → allI ys = true → eqIs xs ys = all2 (eqD n) xs ys
  | [], [], _, _ => rfl
  | [], _ :: _, _, _ => rfl
  | x :: r, [], _, _ => rfl
  | x :: r, y :: s, h, h2 => by
    cases x with
    | int i =>
      cases y with
      | int j =>
        show (match eqI i j with | true => eqIs r s | false => false) = (match eqD n (.int i) (.int j) with | true => all2 (eqD n) r s | false => false)
        rw [eqIs_ok n r s h h2, show eqD n (.int i) (.int j) = eqI i j from by cases n <;> rfl]
      | _ => exact absurd (show false = true from h2) Bool.false_ne_true
    | _ => exact absurd (show false = true from h) Bool.false_ne_true
/-- told at once -/
def eqQ (a b : D) : Option Bool := match a with
  | .int i => (match b with
    | .int j => some (eqI i j)
    | _ => none)
  | .bl i => (match b with
    | .bl j => some (match i with
      | true => j
      | false => !j)
    | _ => none)
  | .tup _ xs => (match b with
    | .tup _ ys => (match allI xs with
      | true => (match allI ys with
        | true => some (eqIs xs ys)
        | false => none)
      | false => none)
    | _ => none)
  | .lst xs => (match b with
    | .lst ys => (match allI xs with
      | true => (match allI ys with
        | true => some (eqIs xs ys)
        | false => none)
      | false => none)
    | _ => none)
  | _ => none
theorem eqQ_ok {a b : D} {r : Bool} (h : eqQ a b = some r) : okD 64 a = true ∧ okD 64 b = true ∧ eqD 64 a b = r := by
  unfold eqQ at h
  cases a with
  | int i =>
    cases b with
    | int j => exact ⟨rfl, rfl, Option.some.inj h⟩
    | _ => cases h
  | bl i =>
    cases b with
    | bl j =>
      refine ⟨rfl, rfl, ?_⟩
      have h := Option.some.inj h
      rw [← h]
      cases i <;> cases j <;> rfl
    | _ => cases h
  | tup f xs =>
    cases b with
    | tup g ys =>
      simp only at h
      cases q : allI xs with
      | false => rw [q] at h; cases h
      | true =>
        cases q2 : allI ys with
        | false => rw [q, q2] at h; cases h
        | true =>
          rw [q, q2] at h
          have h := Option.some.inj h
          refine ⟨allI_ok 63 xs q, allI_ok 63 ys q2, ?_⟩
          rw [← h, eqIs_ok 63 xs ys q q2]
          rfl
    | _ => cases h
  | lst xs =>
    cases b with
    | lst ys =>
      simp only at h
      cases q : allI xs with
      | false => rw [q] at h; cases h
      | true =>
        cases q2 : allI ys with
        | false => rw [q, q2] at h; cases h
        | true =>
          rw [q, q2] at h
          have h := Option.some.inj h
          refine ⟨allI_ok 63 xs q, allI_ok 63 ys q2, ?_⟩
          rw [← h, eqIs_ok 63 xs ys q q2]
          rfl
    | _ => cases h
  | _ => cases h
def gEqF (a b : D) (st : Store) : O X := match eqQ a b with
  | some r => .ok (.d (.bl r)) st
  | none => gEq a b st
def gNeF (a b : D) (st : Store) : O X := match eqQ a b with
  | some r => .ok (.d (.bl (!r))) st
  | none => gNe a b st
theorem gEqF_eq : gEqF = gEq := by
  funext a b st
  unfold gEqF
  cases q : eqQ a b with
  | none => rfl
  | some r =>
    obtain ⟨h1, h2, h3⟩ := eqQ_ok q
    unfold gEq
    rw [h1, h2, h3]
theorem gNeF_eq : gNeF = gNe := by
  funext a b st
  unfold gNeF
  cases q : eqQ a b with
  | none => rfl
  | some r =>
    obtain ⟨h1, h2, h3⟩ := eqQ_ok q
    unfold gNe
    rw [h1, h2, h3]
/-! statements -/
def sSetF (i : Nat) (m : EM X) : SM := fun sl st => match m sl st with
  | .ok x st1 => .nx (setR sl (some x) i) st1
  | .exn c fs st1 => .exn c fs st1
  | .bad => .bad
theorem sSetF_eq : sSetF = sSet := by
  funext i m sl st
  unfold sSetF sSet O.s
  cases m sl st with
  | ok x st1 => simp only [setR_eq]
  | exn c fs st1 => rfl
  | bad => rfl
def sParF (i j : Nat) (a b : EM X) : SM := fun sl st => match a sl st with
  | .ok x st1 => (match b sl st1 with
    | .ok y st2 => .nx (setR (setR sl (some x) i) (some y) j) st2
    | .exn c fs st1 => .exn c fs st1
    | .bad => .bad)
  | .exn c fs st1 => .exn c fs st1
  | .bad => .bad
theorem sParF_eq : sParF = sPar := by
  funext i j a b sl st
  unfold sParF sPar O.s
  cases a sl st with
  | ok x st1 =>
    simp only
    cases b sl st1 with
    | ok y st2 => simp only [setR_eq]
    | exn c fs st1 => rfl
    | bad => rfl
  | exn c fs st1 => rfl
  | bad => rfl
/-! targets, loops -/
def tgF (t : Tgt) (x : D) (sl : Slots) : Option Slots := match t with
  | .nm i => some (setR sl (some (.d x)) i)
  | t => tgM t x sl
theorem tgF_eq (t : Tgt) (x : D) (sl : Slots) : tgF t x sl = tgM t x sl := by
  cases t with
  | nm i => show some (setR sl (some (.d x)) i) = some _; rw [setR_eq]
  | _ => rfl
def sameIs (xs : List D) : List D → Bool := eqIs xs
def fLoopF (sr : Src) (t : Tgt) (b : SM) (l : List D) : Slots → Store → SO := List.rec (motive := fun _ => Slots → Store → SO)
  (fun sl st => match ckS sr st with
    | true => .nx sl st
    | false => .bad)
  (fun x _ ih sl st => match ckS sr st with
    | true => (match tgF t x sl with
      | none => .bad
      | some sl1 => (match b sl1 st with
        | .nx sl' st' => ih sl' st'
        | .ct sl' st' => ih sl' st'
        | .bk sl' st' => .nx sl' st'
        | o => o))
    | false => .bad) l
theorem fLoopF_eq (sr : Src) (t : Tgt) (b : SM) : ∀ l : List D, fLoopF sr t b l = fLoopG sr t b l
  | [] => rfl
  | x :: r => by
    have ih := fLoopF_eq sr t b r
    funext sl st
    show (match ckS sr st with | true => (match tgF t x sl with | none => SO.bad | some sl1 => (match b sl1 st with | .nx sl' st' => fLoopF sr t b r sl' st' | .ct sl' st' => fLoopF sr t b r sl' st' | .bk sl' st' => .nx sl' st' | o => o)) | false => .bad) = _
    rw [ih, tgF_eq]
    rfl
def sForF (m : EM Src) (t : Tgt) (b : SM) : SM := fun sl st => match m sl st with
  | .ok sr st1 => fLoopF sr t b sr.1 sl st1
  | .exn c fs st1 => .exn c fs st1
  | .bad => .bad
theorem sForF_eq : sForF = sForG := by
  funext m t b sl st
  unfold sForF sForG O.s
  cases m sl st with
  | ok sr st1 => simp only [fLoopF_eq]
  | exn c fs st1 => rfl
  | bad => rfl
def wipeR (sl : Slots) (vs : List Nat) : Slots := List.rec (motive := fun _ => Slots) sl (fun v _ ih => setR ih none v) vs
theorem wipeR_eq (sl : Slots) : ∀ vs, wipeR sl vs = wipeS sl vs
  | [] => rfl
  | v :: vs => by
    show setR (wipeR sl vs) none v = _
    rw [wipeR_eq sl vs, setR_eq]
    rfl
def cLoopF (sr : Src) (t : Tgt) (c : EM Bool) (e : EM X) (sl0 : Slots) (l : List D) : List D → Store → O (List D) := List.rec (motive := fun _ => List D → Store → O (List D))
  (fun acc st => match ckS sr st with
    | true => .ok acc st
    | false => .bad)
  (fun x _ ih acc st => match ckS sr st with
    | true => (match tgF t x sl0 with
      | none => .bad
      | some sl1 => (match c sl1 st with
        | .ok b st1 => (match b with
          | true => (match e sl1 st1 with
            | .ok y st2 => (match y with
              | .d y => ih (y :: acc) st2
              | _ => .bad)
            | _ => .bad)
          | false => ih acc st1)
        | _ => .bad))
    | false => .bad) l
theorem cLoopF_eq (sr : Src) (t : Tgt) (c : EM Bool) (e : EM X) (sl0 : Slots) : ∀ l : List D, cLoopF sr t c e sl0 l = cLoopG sr t c e sl0 l
  | [] => rfl
  | x :: r => by
    have ih := cLoopF_eq sr t c e sl0 r
    funext acc st
    show (match ckS sr st with | true => (match tgF t x sl0 with | none => O.bad | some sl1 => (match c sl1 st with | .ok b st1 => (match b with | true => (match e sl1 st1 with | .ok y st2 => (match y with | .d y => cLoopF sr t c e sl0 r (y :: acc) st2 | _ => .bad) | _ => .bad) | false => cLoopF sr t c e sl0 r acc st1) | _ => .bad)) | false => .bad) = _
    have e2 : cLoopG sr t c e sl0 (x :: r) acc st = (match ckS sr st with
      | true => (match tgM t x sl0 with
        | none => .bad
        | some sl1 => (match c sl1 st with
          | .ok true st1 => (match e sl1 st1 with
            | .ok (.d y) st2 => cLoopG sr t c e sl0 r (y :: acc) st2
            | _ => .bad)
          | .ok false st1 => cLoopG sr t c e sl0 r acc st1
          | _ => .bad))
      | false => .bad) := rfl
    rw [e2, ih, tgF_eq]
    cases ckS sr st with
    | false => rfl
    | true =>
      simp only
      cases tgM t x sl0 with
      | none => rfl
      | some sl1 =>
        simp only
        cases c sl1 st with
        | ok b st1 =>
          cases b with
          | false => rfl
          | true =>
            simp only
            cases e sl1 st1 with
            | ok y st2 => cases y <;> rfl
            | exn _ _ _ => rfl
            | bad => rfl
        | exn _ _ _ => rfl
        | bad => rfl
def eCompF (mu : Bool) (vs : List Nat) (m : EM Src) (t : Tgt) (c : EM Bool) (e : EM X) : EM X := fun sl st => match m sl st with
  | .ok sr st1 => (match small (lenR sr.1) with
    | true => (match cLoopF sr t c e (wipeR sl vs) sr.1 [] st1 with
      | .ok acc st2 => newL mu (revR acc []) st2
      | .exn c fs st2 => .exn c fs st2
      | .bad => .bad)
    | false => .bad)
  | .exn c fs st1 => .exn c fs st1
  | .bad => .bad
theorem eCompF_eq : eCompF = eCompG := by
  funext mu vs m t c e sl st
  unfold eCompF eCompG O.bind
  cases m sl st with
  | ok sr st1 =>
    simp only [lenR_eq, cLoopF_eq, wipeR_eq, revR_eq]
    cases small sr.1.length with
    | false => rfl
    | true =>
      simp only
      cases cLoopG sr t c e (wipeS sl vs) sr.1 [] st1 <;> rfl
  | exn c fs st1 => rfl
  | bad => rfl
def wLoopF (t : EM Bool) (b : SM) (n : Nat) : Slots → Store → SO := Nat.rec (motive := fun _ => Slots → Store → SO) (fun _ _ => .bad) (fun _ ih sl st => match t sl st with
  | .ok k st1 => (match k with
    | false => .nx sl st1
    | true => (match b sl st1 with
      | .nx sl' st' => ih sl' st'
      | .ct sl' st' => ih sl' st'
      | .bk sl' st' => .nx sl' st'
      | o => o))
  | .exn c fs st1 => .exn c fs st1
  | .bad => .bad) n
theorem wLoopF_eq : wLoopF = wLoop := by
  funext t b n
  induction n with
  | zero => rfl
  | succ n ih =>
    funext sl st
    show (match t sl st with | .ok k st1 => (match k with | false => SO.nx sl st1 | true => (match b sl st1 with | .nx sl' st' => wLoopF t b n sl' st' | .ct sl' st' => wLoopF t b n sl' st' | .bk sl' st' => .nx sl' st' | o => o)) | .exn c fs st1 => .exn c fs st1 | .bad => .bad) = _
    have e2 : wLoop t b (n + 1) sl st = (t sl st).s fun k st1 => match k with
      | false => .nx sl st1
      | true => (match b sl st1 with
        | .nx sl' st' => wLoop t b n sl' st'
        | .ct sl' st' => wLoop t b n sl' st'
        | .bk sl' st' => .nx sl' st'
        | o => o) := rfl
    rw [e2, ih]
    cases t sl st with
    | ok k st1 =>
      cases k with
      | false => rfl
      | true =>
        show (match b sl st1 with | .nx sl' st' => wLoop t b n sl' st' | .ct sl' st' => wLoop t b n sl' st' | .bk sl' st' => SO.nx sl' st' | o => o) = (match b sl st1 with | .nx sl' st' => wLoop t b n sl' st' | .ct sl' st' => wLoop t b n sl' st' | .bk sl' st' => SO.nx sl' st' | o => o)
        cases b sl st1 <;> rfl
    | exn _ _ _ => rfl
    | bad => rfl
/-! methods, places -/
def isKdF (k : Kd) (st : Store) (x : X) : Bool := match derefF st x with
  | none => false
  | some d => (match k with
    | .l => (match d with | .lst _ => true | _ => false)
    | .t => (match d with | .tup f _ => f | _ => false)
    | .s => (match d with | .str _ => true | _ => false)
    | .d => (match d with | .dct _ _ => true | _ => false))
theorem isKdF_eq : isKdF = isKd := by
  funext k st x
  unfold isKdF isKd
  rw [derefF_eq]
  cases deref st x with
  | none => cases k <;> rfl
  | some d =>
    cases k <;> cases d <;> first | rfl | (rename_i f _; cases f <;> rfl)
def eMethF (k : Kd) (f : X → List X → Store → O X) (o : EM X) (m : EM (List X)) : EM X := fun sl st => (o sl st).bind fun x st1 => match isKdF k st1 x with
  | true => (m sl st1).bind fun xs st2 => f x xs st2
  | false => .bad
theorem eMethF_eq : eMethF = eMeth := by
  funext k f o m sl st
  unfold eMethF eMeth
  rw [isKdF_eq]
  all_goals
    unfold O.bind
    cases o sl st with
    | ok x st1 =>
      simp only
      cases isKd k st1 x <;> rfl
    | exn _ _ _ => rfl
    | bad => rfl
def mAppendF (x : X) (xs : List X) (st : Store) : O X := match x with
  | .loc l => (match xs with
    | [z] => (match z with
      | .d y => (match nthR st l with
        | some mo => (match mo with
          | .lst ys => (match small (Nat.add (lenR ys) 1) with
            | true => .ok (.d .non) (setR st (.lst (appR ys [y])) l)
            | false => .bad)
          | _ => .bad)
        | none => .bad)
      | _ => .bad)
    | _ => .bad)
  | _ => .bad
theorem mAppendF_eq : mAppendF = mAppend := by
  funext x xs st
  unfold mAppendF mAppend
  cases x with
  | d y => rfl
  | loc l =>
    cases xs with
    | nil => rfl
    | cons z t =>
      cases t with
      | cons _ _ => cases z <;> rfl
      | nil =>
        cases z with
        | loc _ => rfl
        | d y =>
          simp only [nthR_eq]
          cases st[l]? with
          | none => rfl
          | some mo =>
            cases mo with
            | lst ys =>
              simp only [lenR_eq, setR_eq, appR_eq]
              all_goals rfl
            | _ => rfl
def setAtF (x : X) (i : X) (y : X) (st : Store) : Option Store := match x with
  | .loc l => (match derefF st i with
    | some d => (match d with
      | .int k => (match y with
        | .d z => (match nthR st l with
          | some mo => (match mo with
            | .lst xs => (match ixM (lenR xs) k with
              | some j => some (setR st (.lst (setR xs z j)) l)
              | none => none)
            | _ => none)
          | none => none)
        | _ => none)
      | _ => none)
    | none => none)
  | _ => none
theorem setAtF_eq : setAtF = setAt := by
  funext x i y st
  unfold setAtF setAt
  rw [derefF_eq]
  cases x with
  | d _ => rfl
  | loc l =>
    simp only
    cases deref st i with
    | none => rfl
    | some d =>
      cases d with
      | int k =>
        cases y with
        | loc _ => rfl
        | d z =>
          simp only [nthR_eq]
          cases st[l]? with
          | none => rfl
          | some mo =>
            cases mo with
            | lst xs =>
              simp only [lenR_eq, setR_eq]
              all_goals (cases ixM xs.length k <;> rfl)
            | _ => rfl
      | _ => rfl
def tgSubF (o i : EM X) (y : X) : EM Unit := fun sl st => (o sl st).bind fun x st1 => (i sl st1).bind fun k st2 => match setAtF x k y st2 with
  | some st3 => .ok () st3
  | none => .bad
theorem tgSubF_eq : tgSubF = tgSub := by
  funext o i y sl st
  unfold tgSubF tgSub
  rw [setAtF_eq]
  all_goals
    unfold O.bind
    cases o sl st with
    | ok x st1 =>
      simp only
      cases i sl st1 with
      | ok k st2 =>
        simp only
        cases setAt x k y st2 <;> rfl
      | exn _ _ _ => rfl
      | bad => rfl
    | exn _ _ _ => rfl
    | bad => rfl
def sSetIxF (e o i : EM X) : SM := fun sl st => (e sl st).s fun y st1 => (tgSubF o i y sl st1).s fun _ st2 => .nx sl st2
theorem sSetIxF_eq : sSetIxF = sSetIx := by
  funext e o i sl st
  unfold sSetIxF sSetIx
  rw [tgSubF_eq]
def mSubF (o i : EM X) : TM := fun y sl st => (tgSubF o i (.d y) sl st).bind fun _ st1 => .ok sl st1
theorem mSubF_eq : mSubF = mSub := by
  funext o i y sl st
  unfold mSubF mSub
  rw [tgSubF_eq]
/-! defs -/
def slotsF (tail : Slots) (xs : List X) : Slots := List.rec (motive := fun _ => Slots) tail (fun x _ ih => some x :: ih) xs
theorem slotsF_eq (tail : Slots) : ∀ xs : List X, slotsF tail xs = xs.map some ++ tail
  | [] => rfl
  | x :: r => by
    show some x :: slotsF tail r = _
    rw [slotsF_eq tail r]
    rfl
def backF (x : X) (st : Store) (n : Nat) : O X := match x with
  | .d y => .ok (.d y) (takeR st n)
  | .loc l => match Nat.blt l n with
    | true => .ok (.loc l) (takeR st n)
    | false => (match nthR st l with
      | some mo => (match mo with
        | .lst ys => .ok (.d (.lst ys)) (takeR st n)
        | .dct t ys => .ok (.d (.dct t ys)) (takeR st n)
        | .ins c fs => .ok (.d (.obj c fs)) (takeR st n)
        | .orc _ => .bad)
      | none => .bad)
theorem backF_eq : backF = backX := by
  funext x st n
  unfold backF backX
  cases x with
  | d y => simp only [takeR_eq]
  | loc l =>
    simp only [takeR_eq, nthR_eq]
    cases Nat.blt l n with
    | true => rfl
    | false =>
      simp only
      cases st[l]? with
      | none => rfl
      | some mo => cases mo <;> rfl
def mkDF (np : Nat) (tail : Slots) (b : SM) : Fn := fun xs st => match Nat.beq (lenR xs) np with
  | true => (match b (slotsF tail xs) st with
    | .nx _ st1 => .ok (.d .non) (takeR st1 (lenR st))
    | .rt x st1 => backF x st1 (lenR st)
    | .exn c fs st1 => .exn c fs (takeR st1 (lenR st))
    | _ => .bad)
  | false => .bad
theorem mkDF_eq {np n : Nat} {tail : Slots} {b : SM} (h : tail = List.replicate (n - np) none) : mkDF np tail b = mkD np n b := by
  funext xs st
  unfold mkDF mkD
  rw [lenR_eq]
  cases q : Nat.beq xs.length np with
  | false => rfl
  | true =>
    have e := Nat.eq_of_beq_eq_true q
    simp only
    unfold mkF endF
    rw [slotsF_eq, h, e]
    cases b (xs.map some ++ List.replicate (n - np) none) st with
    | rt x st1 => simp only [backF_eq, lenR_eq]
    | nx _ st1 => simp only [takeR_eq, lenR_eq]
    | exn c fs st1 => simp only [takeR_eq, lenR_eq]
    | bk _ _ => rfl
    | ct _ _ => rfl
    | bad => rfl
end DH
end
namespace DH
open PySem PySem.Spec PyProof.Rows L2
/-! ### for .. in reversed(tuple or list that nobody changes) -/
def iRevD (m : EM DH.X) : EM (List D) := fun sl st => (m sl st).bind fun x st1 => match x with
  | .d (.tup _ xs) => .ok xs.reverse st1
  | .d (.lst xs) => .ok xs.reverse st1
  | _ => .bad
section
variable {G : Gm} {F : Addr → Prop} {ρ : List Addr} {H : Hp} {a : Addr} {vs : List V} {xs : List D}
theorem rev_at {α : Type} {xs : List α} {i : Nat} {x : α} (h : xs.reverse[i]? = some x) : i < xs.length ∧ xs[xs.length - 1 - i]? = some x := by
  have hl : i < xs.reverse.length := (List.getElem?_eq_some_iff.mp h).1
  rw [List.length_reverse] at hl
  rw [List.getElem?_reverse hl] at h
  exact ⟨hl, h⟩
theorem it_revT {b : Bool} (f : FzT G (Nn F ρ) H b a vs) (r : RelDs G (Nn F ρ) H xs vs) : ItOk G F ρ H xs.reverse (_root_.RT.ItvT G.K a vs.length) where
  stop := fun ρ' H' s => by
    show vs.length ≤ _
    rw [List.length_reverse, r.length]
    exact Nat.le_refl _
  go := fun F' i x ρ' H' st hF hx s R => by
    have e : SqT G.K H' a vs := ((s.keeps (F := F)).fzT f).sq
    obtain ⟨hl, hx'⟩ := rev_at hx
    obtain ⟨v, hv, rv⟩ := r.get hx'
    rw [← r.length] at hv hl
    refine ⟨⟨hl, vs, v, e, hv⟩, fun w H2 y => ?_⟩
    obtain ⟨e1, e2⟩ := y
    refine ⟨.inl e1, ?_⟩
    have hw := e2 vs e
    rw [hv] at hw
    cases hw
    rw [e1]
    exact RelD.mono (keeps_go hF s) x rv
theorem it_revL (f : FzL G (Nn F ρ) H a vs) (r : RelDs G (Nn F ρ) H xs vs) : ItOk G F ρ H xs.reverse (Itv G.K a vs.length) where
  stop := fun ρ' H' s => by
    show vs.length ≤ _
    rw [List.length_reverse, r.length]
    exact Nat.le_refl _
  go := fun F' i x ρ' H' st hF hx s R => by
    have e : SqL G.K H' a vs := SqL.of (s.keep a _ f.1 (fun ps z => by cases z) fun z => f.2 (.inr z))
    obtain ⟨hl, hx'⟩ := rev_at hx
    obtain ⟨v, hv, rv⟩ := r.get hx'
    rw [← r.length] at hv hl
    refine ⟨⟨hl, vs, v, e, hv⟩, fun w H2 y => ?_⟩
    obtain ⟨e1, e2⟩ := y
    refine ⟨.inl e1, ?_⟩
    have hw := e2 vs e
    rw [hv] at hw
    cases hw
    rw [e1]
    exact RelD.mono (keeps_go hF s) x rv
end
section
variable {X : Cx} {G : Gm} {E : XK}
theorem q_revI {tg e : Expr} {m : EM DH.X} {p pos : Pos} (hK : G.K = X.K) (hg : Gl X "reversed") (hm : X.mg "reversed" = none) (he : PE X e (rdE G E m)) (hs : starEach [e] X.env = (false, eval e X.env) :: starEach [] X.env) : PI X tg (.Call (.Name "reversed" p) [e] [] pos) (rdI G E (iRevD m)) := by
  refine PI.imp (_root_.RT.pi_revA hg hm he hs) fun σ H Q h => ?_
  obtain ⟨F, ρ, sl, st, sk, R, h⟩ := h
  refine ⟨F, ρ, sl, st, sk, R, PostG.mono (PostG.bind (R := rX G) h) fun v H1 h1 => ?_⟩
  obtain ⟨x, st1, ρ1, s1, R1, r1, h1⟩ := h1
  rw [← hK]
  match x, r1, h1 with
  | .d (.tup b xs), r1, h1 =>
    obtain ⟨a, vs, e, f, r⟩ := r1
    exact ⟨a, vs, e, .inr ⟨f.sq, h1 ρ1 H1 _ (Stp.refl _ _) R1 (it_revT f r)⟩⟩
  | .d (.lst xs), r1, h1 =>
    obtain ⟨a, vs, e, f, r⟩ := r1
    exact ⟨a, vs, e, .inl ⟨f.sq, h1 ρ1 H1 _ (Stp.refl _ _) R1 (it_revL f r)⟩⟩
  | .loc l, r1, h1 => exact h1.elim
  | .d .non, r1, h1 => exact h1.elim
  | .d (.bl _), r1, h1 => exact h1.elim
  | .d (.int _), r1, h1 => exact h1.elim
  | .d (.str _), r1, h1 => exact h1.elim
  | .d (.dct _ _), r1, h1 => exact h1.elim
  | .d (.obj _ _), r1, h1 => exact h1.elim
end
end DH
namespace DHk08
noncomputable section
open PySem PySem.Spec PyProof.Rows L2 DH
def top (i : Nat) : Stmt := PySem.Challenge.pw_dancehall_k08_words_of_passes.main.body.getD i (.Pass ⟨0, 0, 0, 0⟩)
def sub (s : Stmt) (j : Nat) : Stmt := match s with
  | .ClassDef (body := b) .. => b.getD j (.Pass ⟨0, 0, 0, 0⟩)
  | _ => .Pass ⟨0, 0, 0, 0⟩
abbrev s_law_roll : Stmt := top 25
abbrev s_law_dice : Stmt := top 24
abbrev s_law_rounds : Stmt := top 26
abbrev s_law_told : Stmt := top 27
abbrev s_law_wound : Stmt := top 28
abbrev s_danced_back : Stmt := top 18
abbrev s_is_far_commuting : Stmt := top 19
abbrev s_turned_threes : Stmt := top 21
abbrev s_put_other : Stmt := top 22
abbrev s_sorted_word : Stmt := top 20
abbrev s_unwound : Stmt := top 17
abbrev s_at_home : Stmt := top 12
abbrev s_check_word : Stmt := top 14
abbrev s_winding : Stmt := top 16
abbrev s_word_spots : Stmt := top 15
abbrev s_law : Stmt := top 29
theorem nd_BadBook : (("BadBook" : Str) == ("__debug__" : Str)) = false := by decide
theorem nc_BadBook : (("BadBook" : Str) == ("__classdict__" : Str)) = false := by decide
theorem nd_BadFigure : (("BadFigure" : Str) == ("__debug__" : Str)) = false := by decide
theorem nc_BadFigure : (("BadFigure" : Str) == ("__classdict__" : Str)) = false := by decide
theorem nd_BadPlace : (("BadPlace" : Str) == ("__debug__" : Str)) = false := by decide
theorem nc_BadPlace : (("BadPlace" : Str) == ("__classdict__" : Str)) = false := by decide
theorem nd_BadText : (("BadText" : Str) == ("__debug__" : Str)) = false := by decide
theorem nc_BadText : (("BadText" : Str) == ("__classdict__" : Str)) = false := by decide
theorem nd_BadTune : (("BadTune" : Str) == ("__debug__" : Str)) = false := by decide
theorem nc_BadTune : (("BadTune" : Str) == ("__classdict__" : Str)) = false := by decide
theorem nd_Bump : (("Bump" : Str) == ("__debug__" : Str)) = false := by decide
theorem nc_Bump : (("Bump" : Str) == ("__classdict__" : Str)) = false := by decide
theorem nd_MOST : (("MOST" : Str) == ("__debug__" : Str)) = false := by decide
theorem nc_MOST : (("MOST" : Str) == ("__classdict__" : Str)) = false := by decide
theorem nd_NoWay : (("NoWay" : Str) == ("__debug__" : Str)) = false := by decide
theorem nc_NoWay : (("NoWay" : Str) == ("__classdict__" : Str)) = false := by decide
theorem nd_TooLarge : (("TooLarge" : Str) == ("__debug__" : Str)) = false := by decide
theorem nc_TooLarge : (("TooLarge" : Str) == ("__classdict__" : Str)) = false := by decide
theorem nd_law_dice_u : (("_law_dice" : Str) == ("__debug__" : Str)) = false := by decide
theorem nc_law_dice_u : (("_law_dice" : Str) == ("__classdict__" : Str)) = false := by decide
theorem nd_law_roll_u : (("_law_roll" : Str) == ("__debug__" : Str)) = false := by decide
theorem nc_law_roll_u : (("_law_roll" : Str) == ("__classdict__" : Str)) = false := by decide
theorem nd_law_rounds_u : (("_law_rounds" : Str) == ("__debug__" : Str)) = false := by decide
theorem nc_law_rounds_u : (("_law_rounds" : Str) == ("__classdict__" : Str)) = false := by decide
theorem nd_law_told_u : (("_law_told" : Str) == ("__debug__" : Str)) = false := by decide
theorem nc_law_told_u : (("_law_told" : Str) == ("__classdict__" : Str)) = false := by decide
theorem nd_law_wound_u : (("_law_wound" : Str) == ("__debug__" : Str)) = false := by decide
theorem nc_law_wound_u : (("_law_wound" : Str) == ("__classdict__" : Str)) = false := by decide
theorem nd_abs : (("abs" : Str) == ("__debug__" : Str)) = false := by decide
theorem nc_abs : (("abs" : Str) == ("__classdict__" : Str)) = false := by decide
theorem nd_any : (("any" : Str) == ("__debug__" : Str)) = false := by decide
theorem nc_any : (("any" : Str) == ("__classdict__" : Str)) = false := by decide
theorem nd_at_home : (("at_home" : Str) == ("__debug__" : Str)) = false := by decide
theorem nc_at_home : (("at_home" : Str) == ("__classdict__" : Str)) = false := by decide
theorem nd_back : (("back" : Str) == ("__debug__" : Str)) = false := by decide
theorem nc_back : (("back" : Str) == ("__classdict__" : Str)) = false := by decide
theorem nd_cell : (("cell" : Str) == ("__debug__" : Str)) = false := by decide
theorem nc_cell : (("cell" : Str) == ("__classdict__" : Str)) = false := by decide
theorem nd_cells : (("cells" : Str) == ("__debug__" : Str)) = false := by decide
theorem nc_cells : (("cells" : Str) == ("__classdict__" : Str)) = false := by decide
theorem nd_check_word : (("check_word" : Str) == ("__debug__" : Str)) = false := by decide
theorem nc_check_word : (("check_word" : Str) == ("__classdict__" : Str)) = false := by decide
theorem nd_danced_back : (("danced_back" : Str) == ("__debug__" : Str)) = false := by decide
theorem nc_danced_back : (("danced_back" : Str) == ("__classdict__" : Str)) = false := by decide
theorem nd_dice : (("dice" : Str) == ("__debug__" : Str)) = false := by decide
theorem nc_dice : (("dice" : Str) == ("__classdict__" : Str)) = false := by decide
theorem nd_due : (("due" : Str) == ("__debug__" : Str)) = false := by decide
theorem nc_due : (("due" : Str) == ("__classdict__" : Str)) = false := by decide
theorem nd_far : (("far" : Str) == ("__debug__" : Str)) = false := by decide
theorem nc_far : (("far" : Str) == ("__classdict__" : Str)) = false := by decide
theorem nd_found : (("found" : Str) == ("__debug__" : Str)) = false := by decide
theorem nc_found : (("found" : Str) == ("__classdict__" : Str)) = false := by decide
theorem nd_int : (("int" : Str) == ("__debug__" : Str)) = false := by decide
theorem nc_int : (("int" : Str) == ("__classdict__" : Str)) = false := by decide
theorem nd_is_far_commuting : (("is_far_commuting" : Str) == ("__debug__" : Str)) = false := by decide
theorem nc_is_far_commuting : (("is_far_commuting" : Str) == ("__classdict__" : Str)) = false := by decide
theorem nd_k : (("k" : Str) == ("__debug__" : Str)) = false := by decide
theorem nc_k : (("k" : Str) == ("__classdict__" : Str)) = false := by decide
theorem nd_law : (("law" : Str) == ("__debug__" : Str)) = false := by decide
theorem nc_law : (("law" : Str) == ("__classdict__" : Str)) = false := by decide
theorem nd_len : (("len" : Str) == ("__debug__" : Str)) = false := by decide
theorem nc_len : (("len" : Str) == ("__classdict__" : Str)) = false := by decide
theorem nd_list : (("list" : Str) == ("__debug__" : Str)) = false := by decide
theorem nc_list : (("list" : Str) == ("__classdict__" : Str)) = false := by decide
theorem nd_many : (("many" : Str) == ("__debug__" : Str)) = false := by decide
theorem nc_many : (("many" : Str) == ("__classdict__" : Str)) = false := by decide
theorem nd_max : (("max" : Str) == ("__debug__" : Str)) = false := by decide
theorem nc_max : (("max" : Str) == ("__classdict__" : Str)) = false := by decide
theorem nd_min : (("min" : Str) == ("__debug__" : Str)) = false := by decide
theorem nc_min : (("min" : Str) == ("__classdict__" : Str)) = false := by decide
theorem nd_most : (("most" : Str) == ("__debug__" : Str)) = false := by decide
theorem nc_most : (("most" : Str) == ("__classdict__" : Str)) = false := by decide
theorem nd_one : (("one" : Str) == ("__debug__" : Str)) = false := by decide
theorem nc_one : (("one" : Str) == ("__classdict__" : Str)) = false := by decide
theorem nd_ordered : (("ordered" : Str) == ("__debug__" : Str)) = false := by decide
theorem nc_ordered : (("ordered" : Str) == ("__classdict__" : Str)) = false := by decide
theorem nd_other : (("other" : Str) == ("__debug__" : Str)) = false := by decide
theorem nc_other : (("other" : Str) == ("__classdict__" : Str)) = false := by decide
theorem nd_pair : (("pair" : Str) == ("__debug__" : Str)) = false := by decide
theorem nc_pair : (("pair" : Str) == ("__classdict__" : Str)) = false := by decide
theorem nd_place : (("place" : Str) == ("__debug__" : Str)) = false := by decide
theorem nc_place : (("place" : Str) == ("__classdict__" : Str)) = false := by decide
theorem nd_put_other : (("put_other" : Str) == ("__debug__" : Str)) = false := by decide
theorem nc_put_other : (("put_other" : Str) == ("__classdict__" : Str)) = false := by decide
theorem nd_script : (("script" : Str) == ("__debug__" : Str)) = false := by decide
theorem nc_script : (("script" : Str) == ("__classdict__" : Str)) = false := by decide
theorem nd_short : (("short" : Str) == ("__debug__" : Str)) = false := by decide
theorem nc_short : (("short" : Str) == ("__classdict__" : Str)) = false := by decide
theorem nd_sorted : (("sorted" : Str) == ("__debug__" : Str)) = false := by decide
theorem nc_sorted : (("sorted" : Str) == ("__classdict__" : Str)) = false := by decide
theorem nd_sorted_word : (("sorted_word" : Str) == ("__debug__" : Str)) = false := by decide
theorem nc_sorted_word : (("sorted_word" : Str) == ("__classdict__" : Str)) = false := by decide
theorem nd_spots : (("spots" : Str) == ("__debug__" : Str)) = false := by decide
theorem nc_spots : (("spots" : Str) == ("__classdict__" : Str)) = false := by decide
theorem nd_three : (("three" : Str) == ("__debug__" : Str)) = false := by decide
theorem nc_three : (("three" : Str) == ("__classdict__" : Str)) = false := by decide
theorem nd_threes : (("threes" : Str) == ("__debug__" : Str)) = false := by decide
theorem nc_threes : (("threes" : Str) == ("__classdict__" : Str)) = false := by decide
theorem nd_tuple : (("tuple" : Str) == ("__debug__" : Str)) = false := by decide
theorem nc_tuple : (("tuple" : Str) == ("__classdict__" : Str)) = false := by decide
theorem nd_turned_threes : (("turned_threes" : Str) == ("__debug__" : Str)) = false := by decide
theorem nc_turned_threes : (("turned_threes" : Str) == ("__classdict__" : Str)) = false := by decide
theorem nd_two : (("two" : Str) == ("__debug__" : Str)) = false := by decide
theorem nc_two : (("two" : Str) == ("__classdict__" : Str)) = false := by decide
theorem nd_unwound : (("unwound" : Str) == ("__debug__" : Str)) = false := by decide
theorem nc_unwound : (("unwound" : Str) == ("__classdict__" : Str)) = false := by decide
theorem nd_what : (("what" : Str) == ("__debug__" : Str)) = false := by decide
theorem nc_what : (("what" : Str) == ("__classdict__" : Str)) = false := by decide
theorem nd_winding : (("winding" : Str) == ("__debug__" : Str)) = false := by decide
theorem nc_winding : (("winding" : Str) == ("__classdict__" : Str)) = false := by decide
theorem nd_word : (("word" : Str) == ("__debug__" : Str)) = false := by decide
theorem nc_word : (("word" : Str) == ("__classdict__" : Str)) = false := by decide
theorem nd_word_spots : (("word_spots" : Str) == ("__debug__" : Str)) = false := by decide
theorem nc_word_spots : (("word_spots" : Str) == ("__classdict__" : Str)) = false := by decide
def fa : List He.Fa := [.free "int", .free "abs", .glo "_law_dice", .free "list", .free "range", .free "max", .free "min", .free "sorted", .free "tuple", .free "reversed", .free "len", .glo "turned_threes", .exc "BadFigure", .glo "BadFigure", .glo "is_far_commuting", .int "MOST" 24, .exc "BadPlace", .glo "BadPlace", .free "any", .glo "check_word", .glo "at_home", .glo "_law_roll", .glo "_law_wound", .glo "winding", .glo "word_spots", .glo "sorted_word", .glo "unwound", .glo "danced_back", .glo "put_other", .glo "_law_told", .glo "BadBook", .glo "BadTune", .glo "Bump", .glo "NoWay", .glo "TooLarge", .glo "BadText", .glo "_law_rounds", .glo "law"]
def d_law_roll : He.DefD := ⟨("_law_roll", none), "_law_roll", "_law_roll", defArgs s_law_roll, defBody s_law_roll, defScope s_law_roll, [], []⟩
def d_law_dice : He.DefD := ⟨("_law_dice", none), "_law_dice", "_law_dice", defArgs s_law_dice, defBody s_law_dice, defScope s_law_dice, [], []⟩
def d_law_rounds : He.DefD := ⟨("_law_rounds", none), "_law_rounds", "_law_rounds", defArgs s_law_rounds, defBody s_law_rounds, defScope s_law_rounds, [], []⟩
def d_law_told : He.DefD := ⟨("_law_told", none), "_law_told", "_law_told", defArgs s_law_told, defBody s_law_told, defScope s_law_told, [], []⟩
def d_law_wound : He.DefD := ⟨("_law_wound", none), "_law_wound", "_law_wound", defArgs s_law_wound, defBody s_law_wound, defScope s_law_wound, [], []⟩
def d_danced_back : He.DefD := ⟨("danced_back", none), "danced_back", "danced_back", defArgs s_danced_back, defBody s_danced_back, defScope s_danced_back, [], []⟩
def d_is_far_commuting : He.DefD := ⟨("is_far_commuting", none), "is_far_commuting", "is_far_commuting", defArgs s_is_far_commuting, defBody s_is_far_commuting, defScope s_is_far_commuting, [], []⟩
def d_turned_threes : He.DefD := ⟨("turned_threes", none), "turned_threes", "turned_threes", defArgs s_turned_threes, defBody s_turned_threes, defScope s_turned_threes, [], []⟩
def d_put_other : He.DefD := ⟨("put_other", none), "put_other", "put_other", defArgs s_put_other, defBody s_put_other, defScope s_put_other, [], []⟩
def d_sorted_word : He.DefD := ⟨("sorted_word", none), "sorted_word", "sorted_word", defArgs s_sorted_word, defBody s_sorted_word, defScope s_sorted_word, [], []⟩
def d_unwound : He.DefD := ⟨("unwound", none), "unwound", "unwound", defArgs s_unwound, defBody s_unwound, defScope s_unwound, [], []⟩
def d_at_home : He.DefD := ⟨("at_home", none), "at_home", "at_home", defArgs s_at_home, defBody s_at_home, defScope s_at_home, [], []⟩
def d_check_word : He.DefD := ⟨("check_word", none), "check_word", "check_word", defArgs s_check_word, defBody s_check_word, defScope s_check_word, [], []⟩
def d_winding : He.DefD := ⟨("winding", none), "winding", "winding", defArgs s_winding, defBody s_winding, defScope s_winding, [], []⟩
def d_word_spots : He.DefD := ⟨("word_spots", none), "word_spots", "word_spots", defArgs s_word_spots, defBody s_word_spots, defScope s_word_spots, [], []⟩
def d_law : He.DefD := ⟨("law", none), "law", "law", defArgs s_law, defBody s_law, defScope s_law, [], []⟩
def fn : List He.DefD := [d_law_roll, d_law_dice, d_law_rounds, d_law_told, d_law_wound, d_danced_back, d_is_far_commuting, d_turned_threes, d_put_other, d_sorted_word, d_unwound, d_at_home, d_check_word, d_winding, d_word_spots, d_law]
def clsN : List Str := ["DanceFault", "BadPlace", "BadFigure", "BadTune", "BadBook", "Bump", "NoWay", "TooLarge", "BadText"]
def ca (K : PySem.W.Frag) (n : Nat) : Addr := He.ga K (clsN.getD n "")
def tf : List He.Defn := [("check_word", none), ("law", none)]
def lamT (K : PySem.W.Frag) : List (Addr × Str) := [((He.cT K ("check_word", none)).2, (envOfC "check_word" (defScope s_check_word) 0 0 .none).qual ++ "<genexpr>"), ((He.cT K ("law", none)).2, (envOfC "law" (defScope s_law) 0 0 .none).qual ++ "<lambda>")]
def fldN : List Str := ["step", "row"]
abbrev gm (K : PySem.W.Frag) : Gm := ⟨K, ca K, fnOf fldN, lamT K, rollM⟩
theorem fnInj (K : PySem.W.Frag) : ∀ m n, (gm K).fn m = (gm K).fn n → m = n := fnOf_inj (names := fldN) (by decide +kernel) (by decide +kernel)
def psL : List Nat := []
def txL : List (Nat × List Nat) := []
def rsL : List Nat := [1, 2]
def hsL : List (Nat × List Nat) := [(4, [98, 111, 111, 107]), (2, [102, 105, 103, 117, 114, 101]), (1, [112, 108, 97, 99, 101]), (3, [116, 117, 110, 101]), (5, [98, 117, 109, 112]), (6, [110, 111, 32, 119, 97, 121]), (7, [108, 97, 114, 103, 101]), (8, [116, 101, 120, 116])]
def kons : List (Str × D) := []
def ts : List He.Tab := []
def cons : List (Str × List (List Nat × D)) := []
def exB (K : PySem.W.Frag) : Bool := ((cons.all fun q => conB K q.1 q.2) && kons.all fun q => ckD K q.2 (.ref (He.ga K q.1))) && ((rsL.all fun c => hsL.all fun h => decide (PySem.W.exmOne K (.ref (ca K c)) (.ref (ca K h.1)) = some (Nat.beq c h.1))) && (decide ((lamT K).map (·.1)).Nodup && ((psL.all fun c => decide (PySem.W.exmOne K (.ref (ca K c)) (.ref (ca K c)) = some true)) && txL.all fun t => t.2.all fun k => decide (PySem.W.exmOne K (.ref (ca K k)) (.ref (ca K t.1)) = some true))))
structure Facts (w : World) (K : PySem.W.Frag) (mg : Str → Option Value) (base : Heap) : Prop where
  says : He.SaysD fa fn K
  inB : K.In base
  ns : base.Ns mainGlobals mg
  tabs : ∀ p ∈ tf, LamX.TabB base mg (He.cT K p).1 (He.cT K p).2
  more : exB K = true
  tb : ∀ (i : Nat) (t : He.Tab), ts[i]? = some t → ∃ es n, KDict K w (t.1 K) es n
section
variable {w : World} {K : PySem.W.Frag} {mg : Str → Option Value} {base : Heap}
theorem Facts.g (c : Facts w K mg base) (i : Nat) {x : Str} (h : fa[i]? = some (.glo x)) : mg x = some (.ref (He.ga K x)) := He.glo_ok c.inB c.ns (c.says.fact i h)
theorem Facts.fr (c : Facts w K mg base) (i : Nat) {x : Str} (h : fa[i]? = some (.free x)) : mg x = none := He.free_ok c.inB c.ns (c.says.fact i h)
theorem Facts.it (c : Facts w K mg base) (i : Nat) {x : Str} {n : Int} (h : fa[i]? = some (.int x n)) : ∃ t, mg x = some (.int n t) := He.int_ok c.inB c.ns (c.says.fact i h)
theorem Facts.ex (c : Facts w K mg base) (i : Nat) {x : Str} (h : fa[i]? = some (.exc x)) : PySem.W.excIn K (He.ga K x) He.veBase "ValueError.__new__" = true ∧ PySem.W.keepIn K (.ref (He.ga K x)) = true ∧ PySem.W.subIn K (.ref (He.ga K x)) (.type "BaseException") = some true ∧
    PySem.W.typeIn K (.ref (He.ga K x)) = some (.type "type") := He.exc_ok (c.says.fact i h)
theorem Facts.cls (c : Facts w K mg base) (i : Nat) {x : Str} (h : fa[i]? = some (.cls x)) : Cls K (He.ga K x) := He.cls_ok (c.says.fact i h)
theorem Facts.na (c : Facts w K mg base) (i : Nat) {x f : Str} (h : fa[i]? = some (.noat x f)) : NoAttr K (He.ga K x) f := He.noat_ok (c.says.fact i h)
theorem Facts.mt (c : Facts w K mg base) (i : Nat) {x m : Str} (h : fa[i]? = some (.meth x m)) : Meth K (He.ga K x) m (He.ma K (He.ga K x) m) := He.meth_ok (c.says.fact i h)
theorem Facts.mkc (c : Facts w K mg base) (i : Nat) {x : Str} (h : fa[i]? = some (.mkr x)) : Mk K (He.ga K x) (He.ma K (He.ga K x) "__init__") := He.mkr_ok (c.says.fact i h)
theorem Facts.kd (c : Facts w K mg base) (i : Nat) {t : He.Tab} (h : ts[i]? = some t) : ∃ es n, KDict K w (t.1 K) es n := c.tb i t h
theorem Facts.con (c : Facts w K mg base) (i : Nat) {q : Str × List (List Nat × D)} (h : cons[i]? = some q) : conB K q.1 q.2 = true := List.all_eq_true.mp (He.ba (He.ba c.more).1).1 q (List.mem_of_getElem? h)
theorem Facts.kon (c : Facts w K mg base) (i : Nat) {q : Str × D} (h : kons[i]? = some q) : ckD K q.2 (.ref (He.ga K q.1)) = true := List.all_eq_true.mp (He.ba (He.ba c.more).1).2 q (List.mem_of_getElem? h)
theorem Facts.nodup (c : Facts w K mg base) : ((lamT K).map (·.1)).Nodup := of_decide_eq_true (He.ba (He.ba (He.ba c.more).2).2).1
theorem Facts.px (c : Facts w K mg base) (i : Nat) {k : Nat} (h : psL[i]? = some k) : PySem.W.exmOne K (.ref (ca K k)) (.ref (ca K k)) = some true := of_decide_eq_true (List.all_eq_true.mp (He.ba (He.ba (He.ba (He.ba c.more).2).2).2).1 k (List.mem_of_getElem? h))
theorem Facts.tx (c : Facts w K mg base) (i : Nat) {C : Nat} {cs : List Nat} (h : txL[i]? = some (C, cs)) : ∀ k ∈ cs, PySem.W.exmOne K (.ref (ca K k)) (.ref (ca K C)) = some true := fun k hk => of_decide_eq_true (List.all_eq_true.mp (List.all_eq_true.mp (He.ba (He.ba (He.ba (He.ba c.more).2).2).2).2 (C, cs) (List.mem_of_getElem? h)) k hk)
theorem tab_uniq {T : List (Addr × Str)} {p0 : Addr × Str} (h : (T.map (·.1)).Nodup) (hm : p0 ∈ T) : ∀ p ∈ T, p.1 = p0.1 → p.2 = p0.2 := by
  induction T with
  | nil => cases hm
  | cons a T ih =>
    rw [List.map_cons, List.nodup_cons] at h
    intro p hp e
    rcases List.mem_cons.mp hm with z | z
    · rcases List.mem_cons.mp hp with y | y
      · rw [y, z]
      · exact absurd (List.mem_map.mpr ⟨p, y, by rw [e, z]⟩) h.1
    · rcases List.mem_cons.mp hp with y | y
      · exact absurd (List.mem_map.mpr ⟨p0, z, by rw [← e, y]⟩) h.1
      · exact ih h.2 z p y e
end
def hdsL : List ExceptHandler := match defBody s_law_told with
  | [.Try _ hs _ _ _] => hs
  | _ => []
def toldL (K : PySem.W.Frag) : List (Value × (Addr → Value → Option Addr → TS)) := [(.ref (ca K 4), fun _ _ _ => tRet (tC (.str "book"))), (.ref (ca K 2), fun _ _ _ => tRet (tC (.str "figure"))), (.ref (ca K 1), fun _ _ _ => tRet (tC (.str "place"))), (.ref (ca K 3), fun _ _ _ => tRet (tC (.str "tune"))), (.ref (ca K 5), fun _ _ _ => tRet (tC (.str "bump"))), (.ref (ca K 6), fun _ _ _ => tRet (tC (.str "no way"))), (.ref (ca K 7), fun _ _ _ => tRet (tC (.str "large"))), (.ref (ca K 8), fun _ _ _ => tRet (tC (.str "text")))]
theorem told_ok (K : PySem.W.Frag) : ToldOk (gm K).ca (toldL K) hsL := (.cons rfl (.cons rfl (.cons rfl (.cons rfl (.cons rfl (.cons rfl (.cons rfl (.cons rfl .nil))))))))
theorem told_ex {w : World} {K : PySem.W.Frag} {mg : Str → Option Value} {base : Heap} (c : Facts w K mg base) : ∀ k ∈ rsL, ∀ h ∈ hsL, PySem.W.exmOne (gm K).K (.ref ((gm K).ca k)) (.ref ((gm K).ca h.1)) = some (Nat.beq k h.1) := fun k hk h hh =>
  of_decide_eq_true (List.all_eq_true.mp (List.all_eq_true.mp (He.ba (He.ba c.more).2).1 k hk) h hh)
theorem hds_ok {w : World} {K : PySem.W.Frag} {mg : Str → Option Value} {base : Heap} (c : Facts w K mg base) (P : Program) (A : Around) (stk : List Env) (cdg : Value) (s : Shared) (H : Hp) :
    HdsOk (cxOf C8.CX0 P w K mg base ["what"] "_law_told" (defScope s_law_told) (He.ga K "_law_told") cdg A stk s H C8.E0).nox hdsL (toldL K) := (.cons ⟨rfl, nd_BadBook, .inl (c.g 30 rfl)⟩ (fun _ _ _ _ _ _ _ => pss_one (ps_ret pe_str)) (.cons ⟨rfl, nd_BadFigure, .inl (c.g 13 rfl)⟩ (fun _ _ _ _ _ _ _ => pss_one (ps_ret pe_str)) (.cons ⟨rfl, nd_BadPlace, .inl (c.g 17 rfl)⟩ (fun _ _ _ _ _ _ _ => pss_one (ps_ret pe_str)) (.cons ⟨rfl, nd_BadTune, .inl (c.g 31 rfl)⟩ (fun _ _ _ _ _ _ _ => pss_one (ps_ret pe_str)) (.cons ⟨rfl, nd_Bump, .inl (c.g 32 rfl)⟩ (fun _ _ _ _ _ _ _ => pss_one (ps_ret pe_str)) (.cons ⟨rfl, nd_NoWay, .inl (c.g 33 rfl)⟩ (fun _ _ _ _ _ _ _ => pss_one (ps_ret pe_str)) (.cons ⟨rfl, nd_TooLarge, .inl (c.g 34 rfl)⟩ (fun _ _ _ _ _ _ _ => pss_one (ps_ret pe_str)) (.cons ⟨rfl, nd_BadText, .inl (c.g 35 rfl)⟩ (fun _ _ _ _ _ _ _ => pss_one (ps_ret pe_str)) .nil))))))))
/-! _law_roll -/
theorem sc_law_roll : FnScope ["dice", "many", "found"] ["dice", "many"] (defScope s_law_roll) := ⟨rfl, rfl, rfl, by decide +kernel, rfl, by decide +kernel, by decide +kernel⟩
theorem ok_law_roll {P : Program} {w : World} {K : PySem.W.Frag} {mg : Str → Option Value} {base : Heap} (c : Facts w K mg base) : ∃ fd, FunD K "_law_roll" "_law_roll" (defArgs s_law_roll) (defBody s_law_roll) (defScope s_law_roll) [] [] (He.ga K "_law_roll") fd ∧ L2.Binds K fd ["dice", "many"] [] ∧ FnOk P w K mg base (L2.CX P w) 2 (He.ga K "_law_roll") fd ["dice", "many"] (spF (gm K) mRoll) := by
  obtain ⟨fd, F⟩ := c.says.def_ 0 (d := d_law_roll) rfl
  have key : FnOk P w K mg base (L2.CX P w) 2 (He.ga K "_law_roll") fd ["dice", "many"] (spF (gm K) rollM) := def_okD (G := gm K) (np := 2) (n := 3) (b := bRoll) F sc_law_roll rfl rfl (fun cdv hcv hcd A outer s H E hr => (q_cons (q_if (PW.pt (q_wor (q_tcmp (op_eqD hr.units) eq_v (q_ix ix_seq ix_v (q_var rfl (.inl rfl) nd_dice nc_dice) q_int (fun _ _ => rfl)) q_int (nomark _)) (q_wor1 (PW.pt (q_wand (q_tcmp (op_eqD hr.units) eq_v (q_ix ix_seq ix_v (q_var rfl (.inl rfl) nd_dice nc_dice) q_int (fun _ _ => rfl)) q_int (nomark _)) (q_wand1 (q_tcmp op_gt gt_v (q_ix ix_seq ix_v (q_var rfl (.inl rfl) nd_dice nc_dice) q_int (fun _ _ => rfl)) q_int (nomark _)))))))) (q_cons (q_set sc_law_roll.nd rfl (.inl rfl) (.inl rfl) (q_op op_modN mod_v (q_callTy call_int1 int_v rfl (c.fr 0 rfl) boot_int (q_acons (q_ix ix_seq ix_v (q_var rfl (.inl rfl) nd_dice nc_dice) q_int (fun _ _ => rfl)) q_anil rfl) (by decide) nd_int rfl rfl) (q_var rfl (.inl rfl) nd_many nc_many)) rfl rfl)
  (q_cons (q_setIx (q_op op_fdivN div_v (q_ix ix_seq ix_v (q_var rfl (.inl rfl) nd_dice nc_dice) q_int (fun _ _ => rfl)) (q_var rfl (.inl rfl) nd_many nc_many)) (q_var rfl (.inl rfl) nd_dice nc_dice) q_int rfl rfl rfl (fun _ => rfl))
  (q_one (q_ret (q_var rfl (.inl rfl) nd_found nc_found))))) q_nil)
  (q_cons (q_setIx q_int (q_var rfl (.inl rfl) nd_dice nc_dice) q_int rfl rfl rfl (fun _ => rfl))
  (q_cons (q_setIx (q_op op_modN mod_v (q_callTy call_int1 int_v rfl (c.fr 0 rfl) boot_int (q_acons (q_op add_all add_v (q_op add_all add_v (q_op mul_all mul_v (q_ix ix_seq ix_v (q_var rfl (.inl rfl) nd_dice nc_dice) q_int (fun _ _ => rfl)) q_int) (q_op mul_all mul_v (q_ix ix_seq ix_v (q_var rfl (.inl rfl) nd_dice nc_dice) q_int (fun _ _ => rfl)) q_int)) q_int) q_anil rfl) (by decide) nd_int rfl rfl) q_int) (q_var rfl (.inl rfl) nd_dice nc_dice) q_int rfl rfl rfl (fun _ => rfl))
  (q_cons (q_setIx (q_op add_all add_v (q_ix ix_seq ix_v (q_var rfl (.inl rfl) nd_dice nc_dice) q_int (fun _ _ => rfl)) q_int) (q_var rfl (.inl rfl) nd_dice nc_dice) q_int rfl rfl rfl (fun _ => rfl))
  (q_one (q_ret (q_op op_modN mod_v (q_callTy call_int1 int_v rfl (c.fr 0 rfl) boot_int (q_acons (q_op add_all add_v (q_op op_fdivN div_v (q_ix ix_seq ix_v (q_var rfl (.inl rfl) nd_dice nc_dice) q_int (fun _ _ => rfl)) q_int) (q_ix ix_seq ix_v (q_var rfl (.inl rfl) nd_dice nc_dice) q_int (fun _ _ => rfl))) q_anil rfl) (by decide) nd_int rfl rfl) (q_var rfl (.inl rfl) nd_many nc_many)))))))))
  exact ⟨fd, F, (F.bindsN fun _ _ _ _ _ _ us hl => match us, hl with | [_, _], _ => rfl), key.imp fun _ _ _ _ h => roll_sp rfl h⟩
/-! _law_dice -/
theorem sc_law_dice : FnScope ["cell"] ["cell"] (defScope s_law_dice) := ⟨rfl, rfl, rfl, by decide +kernel, rfl, by decide +kernel, by decide +kernel⟩
def bS_m_law_dice : SM := (sSeq (sIf (eTest (eChain (f2 gLt) (f2 gLt) (eBin (f2 gSub) (eC (.int 0)) (eC (.int 10))) (eVar 0) (eC (.int 10)))) (sRet (eApp (fLst false) (aCons (eApp (f1 gAbs) (aCons (eVar 0) aNil)) (aCons (eC (.int 0)) (aCons (eC (.int 2)) aNil))))) sNx)
  (sRet (eApp (fLst false) (aCons (eVar 0) (aCons (eBin (fAdd false) (eC (.int 1)) (eBin (f2 gMod) (eApp (f1 gInt) (aCons (eVar 0) aNil)) (eC (.int 1009)))) (aCons (eApp (f1 gInt) (aCons (eBin (f2 gGe) (eVar 0) (eBin (f2 gPow) (eC (.int 10)) (eC (.int 18)))) aNil)) aNil))))))
def mS_law_dice : Fn := mkD 1 1 bS_m_law_dice
theorem okS_law_dice {P : Program} {w : World} {K : PySem.W.Frag} {mg : Str → Option Value} {base : Heap} (c : Facts w K mg base) : ∃ fd, FunD K "_law_dice" "_law_dice" (defArgs s_law_dice) (defBody s_law_dice) (defScope s_law_dice) [] [] (He.ga K "_law_dice") fd ∧ L2.Binds K fd ["cell"] [] ∧ FnOk P w K mg base (L2.CX P w) 2 (He.ga K "_law_dice") fd ["cell"] (spF (gm K) mS_law_dice) := by
  obtain ⟨fd, F⟩ := c.says.def_ 1 (d := d_law_dice) rfl
  refine ⟨fd, F, (F.bindsN fun _ _ _ _ _ _ us hl => match us, hl with | [_], _ => rfl), def_okD (G := gm K) F sc_law_dice rfl rfl fun cdv hcv hcd A outer s H E hr => ?_⟩
  exact (q_cons (q_if (q_tchain op_lt lt_v op_lt lt_v (q_op op_sub sub_v q_int q_int) (q_var rfl (.inl rfl) nd_cell nc_cell) q_int (by with_unfolding_all rfl)) (q_one (q_ret (q_lst (q_acons (q_callB call_abs abs_v rfl (c.fr 1 rfl) boot_abs (q_acons (q_var rfl (.inl rfl) nd_cell nc_cell) q_anil rfl) (by decide) nd_abs rfl rfl) (q_acons q_int (q_acons q_int q_anil rfl) rfl) rfl)))) q_nil)
  (q_one (q_ret (q_lst (q_acons (q_var rfl (.inl rfl) nd_cell nc_cell) (q_acons (q_op add_allX addX_v q_int (q_op op_modN mod_v (q_callTy call_int1 int_v rfl (c.fr 0 rfl) boot_int (q_acons (q_var rfl (.inl rfl) nd_cell nc_cell) q_anil rfl) (by decide) nd_int rfl rfl) q_int)) (q_acons (q_callTy call_int1 int_v rfl (c.fr 0 rfl) boot_int (q_acons (q_cmp op_ge ge_v (q_var rfl (.inl rfl) nd_cell nc_cell) (q_op op_pow pow_v q_int q_int) (nomark _)) q_anil rfl) (by decide) nd_int rfl rfl) q_anil rfl) rfl) rfl)))))
def b_m_law_dice : SM := (sSeq (sIf (eTest (eChain (f2F gLt) (f2F gLt) (eBin (f2F gSub) (eC (.int 0)) (eC (.int 10))) (eVarF 0) (eC (.int 10)))) (sRet (eApp (fLst false) (aCons (eApp (f1F gAbs) (aCons (eVarF 0) aNil)) (aCons (eC (.int 0)) (aCons (eC (.int 2)) aNil))))) sNx)
  (sRet (eApp (fLst false) (aCons (eVarF 0) (aCons (eBin (fAdd false) (eC (.int 1)) (eBin (f2F gMod) (eApp (f1F gInt) (aCons (eVarF 0) aNil)) (eC (.int 1009)))) (aCons (eApp (f1F gInt) (aCons (eBin (f2F gGe) (eVarF 0) (eBin (f2F gPow) (eC (.int 10)) (eC (.int 18)))) aNil)) aNil))))))
theorem eF_law_dice : b_m_law_dice = bS_m_law_dice := by simp only [b_m_law_dice, bS_m_law_dice, eVarF_eq, f2F_eq, f1F_eq, gIxF_eq, gLenF_eq, gEqF_eq, gNeF_eq, sSetF_eq, sParF_eq, eMethF_eq, mAppendF_eq, sSetIxF_eq, mSubF_eq, eCompF_eq, sForF_eq, wLoopF_eq]
def m_law_dice : Fn := mkDF 1 [] b_m_law_dice
theorem mF_law_dice : m_law_dice = mS_law_dice := by
  unfold m_law_dice mS_law_dice
  rw [eF_law_dice]
  exact mkDF_eq rfl
theorem ok_law_dice {P : Program} {w : World} {K : PySem.W.Frag} {mg : Str → Option Value} {base : Heap} (c : Facts w K mg base) : ∃ fd, FunD K "_law_dice" "_law_dice" (defArgs s_law_dice) (defBody s_law_dice) (defScope s_law_dice) [] [] (He.ga K "_law_dice") fd ∧ L2.Binds K fd ["cell"] [] ∧ FnOk P w K mg base (L2.CX P w) 2 (He.ga K "_law_dice") fd ["cell"] (spF (gm K) m_law_dice) := by
  obtain ⟨fd, F, b, G⟩ := okS_law_dice (P := P) (w := w) c
  exact ⟨fd, F, b, by rw [mF_law_dice]; exact G⟩
/-! _law_rounds -/
theorem sc_law_rounds : FnScope ["script", "most", "cells", "cell"] ["script", "most"] (defScope s_law_rounds) := ⟨rfl, rfl, rfl, by decide +kernel, rfl, by decide +kernel, by decide +kernel⟩
def b_m_law_rounds : SM := (sSeq (sIf (eTest (eBin (f2 gEq) (eVar 2) (eApp (fLst false) aNil))) (sSet 2 (eApp (fLst false) (aCons (eC (.int 0)) aNil))) sNx)
  (sRet (eCompG false [3] (iSeqX (eVar 2)) (.nm 3) cYes (eApp m_law_dice (aCons (eVar 3) aNil)))))
theorem ok_law_rounds {P : Program} {w : World} {K : PySem.W.Frag} {mg : Str → Option Value} {base : Heap} (c : Facts w K mg base) (hm : ∀ ns : List Int, ∃ x y z st, b_m_law_rounds (none :: some (.d (.int 1)) :: some (.d (.lst ((ns.take 1).map D.int))) :: List.replicate 1 none) [] = .rt (.d (.lst [.lst (diceD x y z)])) st) :
    ∃ fd, FunD K "_law_rounds" "_law_rounds" (defArgs s_law_rounds) (defBody s_law_rounds) (defScope s_law_rounds) [] [] (He.ga K "_law_rounds") fd ∧ L2.Binds K fd ["script", "most"] [] ∧ FnOk P w K mg base (L2.CX P w) 3 (He.ga K "_law_rounds") fd ["script", "most"] (spRounds (gm K)) := by
  obtain ⟨fd, F⟩ := c.says.def_ 2 (d := d_law_rounds) rfl
  obtain ⟨fd_law_dice, F_law_dice, b_law_dice, G_law_dice⟩ := ok_law_dice (P := P) (w := w) c
  refine ⟨fd, F, (F.bindsN fun _ _ _ _ _ _ us hl => match us, hl with | [_, _], _ => rfl), rounds_ok (G := gm K) (n := 1) rfl F sc_law_rounds rfl rfl (fun cdv A outer s H E hr => ⟨ps_asg (pe_slice sl_list (pe_var rfl (.inl rfl) nd_script nc_script) po_none (po_some (pe_var rfl (.inl rfl) nd_most nc_most))) (pg_name sc_law_rounds.nd rfl (.inl rfl)) rfl rfl rfl, ?_⟩) hm⟩
  exact (q_cons (q_if (q_tcmp (op_eqD hr.units) eq_v (q_var rfl (.inl rfl) nd_cells nc_cells) (q_lst q_anil) (nomark _)) (q_one (q_set sc_law_rounds.nd rfl (.inl rfl) (.inl rfl) (q_lst (q_acons q_int q_anil rfl)) rfl rfl)) q_nil)
  (q_one (q_ret (q_compG rfl rfl sc_law_rounds.nd (q_seqX rfl (q_var rfl (.inl rfl) nd_cells nc_cells)) (own := [("cell", 3)]) (blkOk_by rfl) rfl (fun s H C cl fp => (pg_name sc_law_rounds.nd rfl (.inl rfl) (.inr rfl))) (fun s H C cl fp => q_yes) (fun s H C cl fp => (q_call G_law_dice (hr.mono (by decide)) rfl (c.g 2 rfl) F_law_dice.kp b_law_dice LamX.takes0 (q_acons (q_var rfl (.inl rfl) nd_cell nc_cell) q_anil rfl) nd_law_dice_u rfl rfl)) (fun _ => rfl)))))
/-! _law_told -/
theorem sc_law_told : FnScope ["what"] ["what"] (defScope s_law_told) := ⟨rfl, rfl, rfl, by decide +kernel, rfl, by decide +kernel, by decide +kernel⟩
/-! _law_wound -/
theorem sc_law_wound : FnScope ["word", "many", "spots", "found", "one", "k", "pair"] ["word", "many"] (defScope s_law_wound) := ⟨rfl, rfl, rfl, by decide +kernel, rfl, by decide +kernel, by decide +kernel⟩
def bS_m_law_wound : SM := (sSeq (sTupN [2, 3] (aCons (eRg1 (gListRg true) (eVar 1)) (aCons (eDNew true) aNil)))
  (sSeq (sForG (iSeqX (eVar 0)) (.nm 4) (sSeq (sSet 5 (eBin (f2 gSub) (eApp (f1 gAbs) (aCons (eVar 4) aNil)) (eC (.int 1))))
  (sSeq (sSet 6 (eApp fTup (aCons (eApp (f11 gMin2) (aCons (eBin (f2 gIx) (eVar 2) (eVar 5)) (aCons (eBin (f2 gIx) (eVar 2) (eBin (fAdd false) (eVar 5) (eC (.int 1)))) aNil))) (aCons (eApp (f11 gMax2) (aCons (eBin (f2 gIx) (eVar 2) (eVar 5)) (aCons (eBin (f2 gIx) (eVar 2) (eBin (fAdd false) (eVar 5) (eC (.int 1)))) aNil))) aNil))))
  (sSeq (sDPutM (eBin (fAdd false) (eDGet2 (eVar 3) (eVar 6) (eC (.int 0))) (eIf (eTest (eBin (f2 gGt) (eVar 4) (eC (.int 0)))) (eC (.int 1)) (eBin (f2 gSub) (eC (.int 0)) (eC (.int 1))))) (eVar 3) (eVar 6))
  (sAsg (eApp fTup (aCons (eBin (f2 gIx) (eVar 2) (eBin (fAdd false) (eVar 5) (eC (.int 1)))) (aCons (eBin (f2 gIx) (eVar 2) (eVar 5)) aNil))) (mTup 2 (mCons (mSub (eVar 2) (eVar 5)) (mCons (mSub (eVar 2) (eBin (fAdd false) (eVar 5) (eC (.int 1)))) mNil))))))))
  (sRet (eApp fTup (aCons (eApp (gTupOf false) (aCons (eVar 2) aNil)) (aCons (eApp (gTupOf false) (aCons (eCompG false [6] (iSeqX (eApp (f1 (gSortedX false)) (aCons (eVar 3) aNil))) (.nm 6) (eTest (eBin (f2 gNe) (eDGet (eVar 3) (eVar 6)) (eC (.int 0)))) (eApp fTup (aCons (eVar 6) (aCons (eDGet (eVar 3) (eVar 6)) aNil)))) aNil)) aNil))))))
def mS_law_wound : Fn := mkD 2 7 bS_m_law_wound
theorem okS_law_wound {P : Program} {w : World} {K : PySem.W.Frag} {mg : Str → Option Value} {base : Heap} (c : Facts w K mg base) : ∃ fd, FunD K "_law_wound" "_law_wound" (defArgs s_law_wound) (defBody s_law_wound) (defScope s_law_wound) [] [] (He.ga K "_law_wound") fd ∧ L2.Binds K fd ["word", "many"] [] ∧ FnOk P w K mg base (L2.CX P w) 2 (He.ga K "_law_wound") fd ["word", "many"] (spF (gm K) mS_law_wound) := by
  obtain ⟨fd, F⟩ := c.says.def_ 4 (d := d_law_wound) rfl
  refine ⟨fd, F, (F.bindsN fun _ _ _ _ _ _ us hl => match us, hl with | [_, _], _ => rfl), def_okD (G := gm K) F sc_law_wound rfl rfl fun cdv hcv hcd A outer s H E hr => ?_⟩
  exact (q_cons (q_tupN (is := [2, 3]) rfl rfl (q_acons (q_listRg1 rfl rfl (c.fr 3 rfl) rfl (c.fr 4 rfl) (q_var rfl (.inl rfl) nd_many nc_many) rfl rfl) (q_acons q_dnewT q_anil rfl) rfl) (pgs_cons (pg_name sc_law_wound.nd rfl (.inl rfl) (.inl rfl)) (pgs_cons (pg_name sc_law_wound.nd rfl (.inr rfl) (.inl rfl)) pgs_nil rfl) rfl) rfl rfl rfl rfl rfl)
  (q_cons (q_forG rfl (passes_of rfl) rfl (q_seqX rfl (q_var rfl (.inl rfl) nd_word nc_word)) (pg_name sc_law_wound.nd rfl (.inl rfl) (.inl rfl)) (q_cons (q_set sc_law_wound.nd rfl (.inl rfl) (.inl rfl) (q_op op_sub sub_v (q_callB call_abs abs_v rfl (c.fr 1 rfl) boot_abs (q_acons (q_var rfl (.inl rfl) nd_one nc_one) q_anil rfl) (by decide) nd_abs rfl rfl) q_int) rfl rfl)
  (q_cons (q_set sc_law_wound.nd rfl (.inl rfl) (.inl rfl) (q_tup (q_acons (q_callB (call_min2 rfl) min2_v rfl (c.fr 6 rfl) boot_min (q_acons (q_ix ix_seq ix_v (q_var rfl (.inl rfl) nd_spots nc_spots) (q_var rfl (.inl rfl) nd_k nc_k) (fun _ _ => rfl)) (q_acons (q_ix ix_seq ix_v (q_var rfl (.inl rfl) nd_spots nc_spots) (q_op add_allX addX_v (q_var rfl (.inl rfl) nd_k nc_k) q_int) (fun _ _ => rfl)) q_anil rfl) rfl) (by decide) nd_min rfl rfl) (q_acons (q_callB (call_max2 rfl) max2_v rfl (c.fr 5 rfl) boot_max (q_acons (q_ix ix_seq ix_v (q_var rfl (.inl rfl) nd_spots nc_spots) (q_var rfl (.inl rfl) nd_k nc_k) (fun _ _ => rfl)) (q_acons (q_ix ix_seq ix_v (q_var rfl (.inl rfl) nd_spots nc_spots) (q_op add_allX addX_v (q_var rfl (.inl rfl) nd_k nc_k) q_int) (fun _ _ => rfl)) q_anil rfl) rfl) (by decide) nd_max rfl rfl) q_anil rfl) rfl)) rfl rfl)
  (q_cons (q_dput (u65 hr) (q_op add_allX addX_v (q_dget2 (u65 hr) (q_var rfl (.inr (.inl rfl)) nd_found nc_found) (q_var rfl (.inl rfl) nd_pair nc_pair) q_int ⟨rfl, rfl, rfl, rfl⟩) (q_ifE (q_tcmp op_gt gt_v (q_var rfl (.inl rfl) nd_one nc_one) q_int (nomark _)) q_int (q_op op_sub sub_v q_int q_int))) (q_var rfl (.inr (.inl rfl)) nd_found nc_found) (q_var rfl (.inl rfl) nd_pair nc_pair) rfl)
  (q_one (q_asg (q_tup (q_acons (q_ix ix_seq ix_v (q_var rfl (.inl rfl) nd_spots nc_spots) (q_op add_allX addX_v (q_var rfl (.inl rfl) nd_k nc_k) q_int) (fun _ _ => rfl)) (q_acons (q_ix ix_seq ix_v (q_var rfl (.inl rfl) nd_spots nc_spots) (q_var rfl (.inl rfl) nd_k nc_k) (fun _ _ => rfl)) q_anil rfl) rfl)) (q_gtup rfl rfl (q_gscons (q_gsub (q_var rfl (.inl rfl) nd_spots nc_spots) (q_var rfl (.inl rfl) nd_k nc_k) (fun _ => rfl)) (q_gscons (q_gsub (q_var rfl (.inl rfl) nd_spots nc_spots) (q_op add_allX addX_v (q_var rfl (.inl rfl) nd_k nc_k) q_int) (fun _ => rfl)) q_gsnil rfl) rfl) rfl rfl) rfl rfl rfl))))) (fun _ => rfl))
  (q_one (q_ret (q_tup (q_acons (q_callTy (tup_of (fl := false)) tup_v rfl (c.fr 8 rfl) boot_tuple (q_acons (q_var rfl (.inl rfl) nd_spots nc_spots) q_anil rfl) (by decide) nd_tuple rfl rfl) (q_acons (q_callTy (tup_of (fl := false)) tup_v rfl (c.fr 8 rfl) boot_tuple (q_acons (q_compG rfl rfl sc_law_wound.nd (q_seqX rfl (q_callB (sort_allX rfl (u65 hr)) sortedX_v rfl (c.fr 7 rfl) boot_sorted (q_acons (q_var rfl (.inr (.inl rfl)) nd_found nc_found) q_anil rfl) (by decide) nd_sorted rfl rfl)) (own := [("pair", 6)]) (blkOk_by rfl) rfl (fun s H C cl fp => (pg_name sc_law_wound.nd rfl (.inl rfl) (.inr rfl))) (fun s H C cl fp => (q_test1 (q_tcmp (op_neD hr.units) ne_v (q_dget (u65 hr) (q_var rfl (.inr (.inl rfl)) nd_found nc_found) (q_var rfl (.inl rfl) nd_pair nc_pair) (fun _ _ => rfl)) q_int (nomark _)))) (fun s H C cl fp => (q_tup (q_acons (q_var rfl (.inl rfl) nd_pair nc_pair) (q_acons (q_dget (u65 hr) (q_var rfl (.inr (.inl rfl)) nd_found nc_found) (q_var rfl (.inl rfl) nd_pair nc_pair) (fun _ _ => rfl)) q_anil rfl) rfl))) (fun _ => rfl)) q_anil rfl) (by decide) nd_tuple rfl rfl) q_anil rfl) rfl))))))
def b_m_law_wound : SM := (sSeq (sTupN [2, 3] (aCons (eRg1 (gListRg true) (eVarF 1)) (aCons (eDNew true) aNil)))
  (sSeq (sForF (iSeqX (eVarF 0)) (.nm 4) (sSeq (sSetF 5 (eBin (f2F gSub) (eApp (f1F gAbs) (aCons (eVarF 4) aNil)) (eC (.int 1))))
  (sSeq (sSetF 6 (eApp fTup (aCons (eApp (f11 gMin2) (aCons (eBin (f2F gIxF) (eVarF 2) (eVarF 5)) (aCons (eBin (f2F gIxF) (eVarF 2) (eBin (fAdd false) (eVarF 5) (eC (.int 1)))) aNil))) (aCons (eApp (f11 gMax2) (aCons (eBin (f2F gIxF) (eVarF 2) (eVarF 5)) (aCons (eBin (f2F gIxF) (eVarF 2) (eBin (fAdd false) (eVarF 5) (eC (.int 1)))) aNil))) aNil))))
  (sSeq (sDPutM (eBin (fAdd false) (eDGet2 (eVarF 3) (eVarF 6) (eC (.int 0))) (eIf (eTest (eBin (f2F gGt) (eVarF 4) (eC (.int 0)))) (eC (.int 1)) (eBin (f2F gSub) (eC (.int 0)) (eC (.int 1))))) (eVarF 3) (eVarF 6))
  (sAsg (eApp fTup (aCons (eBin (f2F gIxF) (eVarF 2) (eBin (fAdd false) (eVarF 5) (eC (.int 1)))) (aCons (eBin (f2F gIxF) (eVarF 2) (eVarF 5)) aNil))) (mTup 2 (mCons (mSubF (eVarF 2) (eVarF 5)) (mCons (mSubF (eVarF 2) (eBin (fAdd false) (eVarF 5) (eC (.int 1)))) mNil))))))))
  (sRet (eApp fTup (aCons (eApp (gTupOf false) (aCons (eVarF 2) aNil)) (aCons (eApp (gTupOf false) (aCons (eCompF false [6] (iSeqX (eApp (f1F (gSortedX false)) (aCons (eVarF 3) aNil))) (.nm 6) (eTest (eBin (f2F gNeF) (eDGet (eVarF 3) (eVarF 6)) (eC (.int 0)))) (eApp fTup (aCons (eVarF 6) (aCons (eDGet (eVarF 3) (eVarF 6)) aNil)))) aNil)) aNil))))))
theorem eF_law_wound : b_m_law_wound = bS_m_law_wound := by simp only [b_m_law_wound, bS_m_law_wound, eVarF_eq, f2F_eq, f1F_eq, gIxF_eq, gLenF_eq, gEqF_eq, gNeF_eq, sSetF_eq, sParF_eq, eMethF_eq, mAppendF_eq, sSetIxF_eq, mSubF_eq, eCompF_eq, sForF_eq, wLoopF_eq]
def m_law_wound : Fn := mkDF 2 [none, none, none, none, none] b_m_law_wound
theorem mF_law_wound : m_law_wound = mS_law_wound := by
  unfold m_law_wound mS_law_wound
  rw [eF_law_wound]
  exact mkDF_eq rfl
theorem ok_law_wound {P : Program} {w : World} {K : PySem.W.Frag} {mg : Str → Option Value} {base : Heap} (c : Facts w K mg base) : ∃ fd, FunD K "_law_wound" "_law_wound" (defArgs s_law_wound) (defBody s_law_wound) (defScope s_law_wound) [] [] (He.ga K "_law_wound") fd ∧ L2.Binds K fd ["word", "many"] [] ∧ FnOk P w K mg base (L2.CX P w) 2 (He.ga K "_law_wound") fd ["word", "many"] (spF (gm K) m_law_wound) := by
  obtain ⟨fd, F, b, G⟩ := okS_law_wound (P := P) (w := w) c
  exact ⟨fd, F, b, by rw [mF_law_wound]; exact G⟩
/-! danced_back -/
theorem sc_danced_back : FnScope ["word", "one"] ["word"] (defScope s_danced_back) := ⟨rfl, rfl, rfl, by decide +kernel, rfl, by decide +kernel, by decide +kernel⟩
def bS_m_danced_back : SM := (sRet (eApp (gTupOf false) (aCons (eCompG false [1] (srcD (iRevD (eVar 0))) (.nm 1) cYes (eBin (f2 gSub) (eC (.int 0)) (eVar 1))) aNil)))
def mS_danced_back : Fn := mkD 1 2 bS_m_danced_back
theorem okS_danced_back {P : Program} {w : World} {K : PySem.W.Frag} {mg : Str → Option Value} {base : Heap} (c : Facts w K mg base) : ∃ fd, FunD K "danced_back" "danced_back" (defArgs s_danced_back) (defBody s_danced_back) (defScope s_danced_back) [] [] (He.ga K "danced_back") fd ∧ L2.Binds K fd ["word"] [] ∧ FnOk P w K mg base (L2.CX P w) 2 (He.ga K "danced_back") fd ["word"] (spF (gm K) mS_danced_back) := by
  obtain ⟨fd, F⟩ := c.says.def_ 5 (d := d_danced_back) rfl
  refine ⟨fd, F, (F.bindsN fun _ _ _ _ _ _ us hl => match us, hl with | [_], _ => rfl), def_okD (G := gm K) F sc_danced_back rfl rfl fun cdv hcv hcd A outer s H E hr => ?_⟩
  exact (q_one (q_ret (q_callTy (tup_of (fl := false)) tup_v rfl (c.fr 8 rfl) boot_tuple (q_acons (q_compG rfl rfl sc_danced_back.nd (q_src (q_revI rfl rfl (c.fr 9 rfl) (q_var rfl (.inl rfl) nd_word nc_word) rfl)) (own := [("one", 1)]) (blkOk_by rfl) rfl (fun s H C cl fp => (pg_name sc_danced_back.nd rfl (.inl rfl) (.inr rfl))) (fun s H C cl fp => q_yes) (fun s H C cl fp => (q_op op_sub sub_v q_int (q_var rfl (.inl rfl) nd_one nc_one))) (fun _ => rfl)) q_anil rfl) (by decide) nd_tuple rfl rfl)))
def b_m_danced_back : SM := (sRet (eApp (gTupOf false) (aCons (eCompF false [1] (srcD (iRevD (eVarF 0))) (.nm 1) cYes (eBin (f2F gSub) (eC (.int 0)) (eVarF 1))) aNil)))
theorem eF_danced_back : b_m_danced_back = bS_m_danced_back := by simp only [b_m_danced_back, bS_m_danced_back, eVarF_eq, f2F_eq, f1F_eq, gIxF_eq, gLenF_eq, gEqF_eq, gNeF_eq, sSetF_eq, sParF_eq, eMethF_eq, mAppendF_eq, sSetIxF_eq, mSubF_eq, eCompF_eq, sForF_eq, wLoopF_eq]
def m_danced_back : Fn := mkDF 1 [none] b_m_danced_back
theorem mF_danced_back : m_danced_back = mS_danced_back := by
  unfold m_danced_back mS_danced_back
  rw [eF_danced_back]
  exact mkDF_eq rfl
theorem ok_danced_back {P : Program} {w : World} {K : PySem.W.Frag} {mg : Str → Option Value} {base : Heap} (c : Facts w K mg base) : ∃ fd, FunD K "danced_back" "danced_back" (defArgs s_danced_back) (defBody s_danced_back) (defScope s_danced_back) [] [] (He.ga K "danced_back") fd ∧ L2.Binds K fd ["word"] [] ∧ FnOk P w K mg base (L2.CX P w) 2 (He.ga K "danced_back") fd ["word"] (spF (gm K) m_danced_back) := by
  obtain ⟨fd, F, b, G⟩ := okS_danced_back (P := P) (w := w) c
  exact ⟨fd, F, b, by rw [mF_danced_back]; exact G⟩
/-! is_far_commuting -/
theorem sc_is_far_commuting : FnScope ["one", "other"] ["one", "other"] (defScope s_is_far_commuting) := ⟨rfl, rfl, rfl, by decide +kernel, rfl, by decide +kernel, by decide +kernel⟩
def bS_m_is_far_commuting : SM := (sRet (eBin (f2 gGt) (eApp (f1 gAbs) (aCons (eBin (f2 gSub) (eApp (f1 gAbs) (aCons (eVar 0) aNil)) (eApp (f1 gAbs) (aCons (eVar 1) aNil))) aNil)) (eC (.int 1))))
def mS_is_far_commuting : Fn := mkD 2 2 bS_m_is_far_commuting
theorem okS_is_far_commuting {P : Program} {w : World} {K : PySem.W.Frag} {mg : Str → Option Value} {base : Heap} (c : Facts w K mg base) : ∃ fd, FunD K "is_far_commuting" "is_far_commuting" (defArgs s_is_far_commuting) (defBody s_is_far_commuting) (defScope s_is_far_commuting) [] [] (He.ga K "is_far_commuting") fd ∧ L2.Binds K fd ["one", "other"] [] ∧ FnOk P w K mg base (L2.CX P w) 2 (He.ga K "is_far_commuting") fd ["one", "other"] (spF (gm K) mS_is_far_commuting) := by
  obtain ⟨fd, F⟩ := c.says.def_ 6 (d := d_is_far_commuting) rfl
  refine ⟨fd, F, (F.bindsN fun _ _ _ _ _ _ us hl => match us, hl with | [_, _], _ => rfl), def_okD (G := gm K) F sc_is_far_commuting rfl rfl fun cdv hcv hcd A outer s H E hr => ?_⟩
  exact (q_one (q_ret (q_cmp op_gt gt_v (q_callB call_abs abs_v rfl (c.fr 1 rfl) boot_abs (q_acons (q_op op_sub sub_v (q_callB call_abs abs_v rfl (c.fr 1 rfl) boot_abs (q_acons (q_var rfl (.inl rfl) nd_one nc_one) q_anil rfl) (by decide) nd_abs rfl rfl) (q_callB call_abs abs_v rfl (c.fr 1 rfl) boot_abs (q_acons (q_var rfl (.inl rfl) nd_other nc_other) q_anil rfl) (by decide) nd_abs rfl rfl)) q_anil rfl) (by decide) nd_abs rfl rfl) q_int (nomark _))))
def b_m_is_far_commuting : SM := (sRet (eBin (f2F gGt) (eApp (f1F gAbs) (aCons (eBin (f2F gSub) (eApp (f1F gAbs) (aCons (eVarF 0) aNil)) (eApp (f1F gAbs) (aCons (eVarF 1) aNil))) aNil)) (eC (.int 1))))
theorem eF_is_far_commuting : b_m_is_far_commuting = bS_m_is_far_commuting := by simp only [b_m_is_far_commuting, bS_m_is_far_commuting, eVarF_eq, f2F_eq, f1F_eq, gIxF_eq, gLenF_eq, gEqF_eq, gNeF_eq, sSetF_eq, sParF_eq, eMethF_eq, mAppendF_eq, sSetIxF_eq, mSubF_eq, eCompF_eq, sForF_eq, wLoopF_eq]
def m_is_far_commuting : Fn := mkDF 2 [] b_m_is_far_commuting
theorem mF_is_far_commuting : m_is_far_commuting = mS_is_far_commuting := by
  unfold m_is_far_commuting mS_is_far_commuting
  rw [eF_is_far_commuting]
  exact mkDF_eq rfl
theorem ok_is_far_commuting {P : Program} {w : World} {K : PySem.W.Frag} {mg : Str → Option Value} {base : Heap} (c : Facts w K mg base) : ∃ fd, FunD K "is_far_commuting" "is_far_commuting" (defArgs s_is_far_commuting) (defBody s_is_far_commuting) (defScope s_is_far_commuting) [] [] (He.ga K "is_far_commuting") fd ∧ L2.Binds K fd ["one", "other"] [] ∧ FnOk P w K mg base (L2.CX P w) 2 (He.ga K "is_far_commuting") fd ["one", "other"] (spF (gm K) m_is_far_commuting) := by
  obtain ⟨fd, F, b, G⟩ := okS_is_far_commuting (P := P) (w := w) c
  exact ⟨fd, F, b, by rw [mF_is_far_commuting]; exact G⟩
/-! turned_threes -/
theorem sc_turned_threes : FnScope ["word", "k", "one", "two", "three"] ["word"] (defScope s_turned_threes) := ⟨rfl, rfl, rfl, by decide +kernel, rfl, by decide +kernel, by decide +kernel⟩
def bS_m_turned_threes : SM := (sSeq (sForG (srcD (iRg range1M (aCons (eBin (f2 gSub) (eApp (f1 gLen) (aCons (eVar 0) aNil)) (eC (.int 2))) aNil))) (.nm 1) (sSeq (sAsg (eSl false (eVar 0) (eP (eVar 1)) (eP (eBin (fAdd false) (eVar 1) (eC (.int 3))))) (mTup 3 (mCons (mNm 2) (mCons (mNm 3) (mCons (mNm 4) mNil)))))
  (sIf (tAndM (eTest (eBin (f2 gEq) (eVar 2) (eVar 4))) (tAndM (eTest (eBin (f2 gGt) (eBin (fMulT false) (eVar 2) (eVar 3)) (eC (.int 0)))) (eTest (eBin (f2 gEq) (eApp (f1 gAbs) (aCons (eBin (f2 gSub) (eApp (f1 gAbs) (aCons (eVar 2) aNil)) (eApp (f1 gAbs) (aCons (eVar 3) aNil))) aNil)) (eC (.int 1)))))) (sRet (eVar 1)) sNx)))
  (sRet (eC .non)))
def mS_turned_threes : Fn := mkD 1 5 bS_m_turned_threes
theorem okS_turned_threes {P : Program} {w : World} {K : PySem.W.Frag} {mg : Str → Option Value} {base : Heap} (c : Facts w K mg base) : ∃ fd, FunD K "turned_threes" "turned_threes" (defArgs s_turned_threes) (defBody s_turned_threes) (defScope s_turned_threes) [] [] (He.ga K "turned_threes") fd ∧ L2.Binds K fd ["word"] [] ∧ FnOk P w K mg base (L2.CX P w) 2 (He.ga K "turned_threes") fd ["word"] (spF (gm K) mS_turned_threes) := by
  obtain ⟨fd, F⟩ := c.says.def_ 7 (d := d_turned_threes) rfl
  refine ⟨fd, F, (F.bindsN fun _ _ _ _ _ _ us hl => match us, hl with | [_], _ => rfl), def_okD (G := gm K) F sc_turned_threes rfl rfl fun cdv hcv hcd A outer s H E hr => ?_⟩
  exact (q_cons (q_forG rfl (passes_of rfl) rfl (q_src (q_range1 rfl (c.fr 4 rfl) (q_acons (q_op op_sub sub_v (q_callB len_all len_v rfl (c.fr 10 rfl) boot_len (q_acons (q_var rfl (.inl rfl) nd_word nc_word) q_anil rfl) (by decide) nd_len rfl rfl) q_int) q_anil rfl) rfl)) (pg_name sc_turned_threes.nd rfl (.inl rfl) (.inl rfl)) (q_cons (q_asg (q_slice rfl (q_var rfl (.inl rfl) nd_word nc_word) (q_P (q_var rfl (.inl rfl) nd_k nc_k)) (q_P (q_op add_allX addX_v (q_var rfl (.inl rfl) nd_k nc_k) q_int))) (q_gtup rfl rfl (q_gscons (q_gname sc_turned_threes.nd rfl (.inl rfl) (.inl rfl)) (q_gscons (q_gname sc_turned_threes.nd rfl (.inl rfl) (.inl rfl)) (q_gscons (q_gname sc_turned_threes.nd rfl (.inl rfl) (.inl rfl)) q_gsnil rfl) rfl) rfl) rfl rfl) rfl rfl rfl)
  (q_one (q_if (PW.pt (q_wand (q_tcmp (op_eqD hr.units) eq_v (q_var rfl (.inl rfl) nd_one nc_one) (q_var rfl (.inl rfl) nd_three nc_three) (nomark _)) (q_wand (q_tcmp op_gt gt_v (q_op mul_allT mulT_v (q_var rfl (.inl rfl) nd_one nc_one) (q_var rfl (.inl rfl) nd_two nc_two)) q_int (nomark _)) (q_wand1 (q_tcmp (op_eqD hr.units) eq_v (q_callB call_abs abs_v rfl (c.fr 1 rfl) boot_abs (q_acons (q_op op_sub sub_v (q_callB call_abs abs_v rfl (c.fr 1 rfl) boot_abs (q_acons (q_var rfl (.inl rfl) nd_one nc_one) q_anil rfl) (by decide) nd_abs rfl rfl) (q_callB call_abs abs_v rfl (c.fr 1 rfl) boot_abs (q_acons (q_var rfl (.inl rfl) nd_two nc_two) q_anil rfl) (by decide) nd_abs rfl rfl)) q_anil rfl) (by decide) nd_abs rfl rfl) q_int (nomark _)))))) (q_one (q_ret (q_var rfl (.inl rfl) nd_k nc_k))) q_nil))) (fun _ => rfl))
  (q_one (q_ret q_non)))
def b_m_turned_threes : SM := (sSeq (sForF (srcD (iRg range1M (aCons (eBin (f2F gSub) (eApp (f1F gLenF) (aCons (eVarF 0) aNil)) (eC (.int 2))) aNil))) (.nm 1) (sSeq (sAsg (eSl false (eVarF 0) (eP (eVarF 1)) (eP (eBin (fAdd false) (eVarF 1) (eC (.int 3))))) (mTup 3 (mCons (mNm 2) (mCons (mNm 3) (mCons (mNm 4) mNil)))))
  (sIf (tAndM (eTest (eBin (f2F gEqF) (eVarF 2) (eVarF 4))) (tAndM (eTest (eBin (f2F gGt) (eBin (fMulT false) (eVarF 2) (eVarF 3)) (eC (.int 0)))) (eTest (eBin (f2F gEqF) (eApp (f1F gAbs) (aCons (eBin (f2F gSub) (eApp (f1F gAbs) (aCons (eVarF 2) aNil)) (eApp (f1F gAbs) (aCons (eVarF 3) aNil))) aNil)) (eC (.int 1)))))) (sRet (eVarF 1)) sNx)))
  (sRet (eC .non)))
theorem eF_turned_threes : b_m_turned_threes = bS_m_turned_threes := by simp only [b_m_turned_threes, bS_m_turned_threes, eVarF_eq, f2F_eq, f1F_eq, gIxF_eq, gLenF_eq, gEqF_eq, gNeF_eq, sSetF_eq, sParF_eq, eMethF_eq, mAppendF_eq, sSetIxF_eq, mSubF_eq, eCompF_eq, sForF_eq, wLoopF_eq]
def m_turned_threes : Fn := mkDF 1 [none, none, none, none] b_m_turned_threes
theorem mF_turned_threes : m_turned_threes = mS_turned_threes := by
  unfold m_turned_threes mS_turned_threes
  rw [eF_turned_threes]
  exact mkDF_eq rfl
theorem ok_turned_threes {P : Program} {w : World} {K : PySem.W.Frag} {mg : Str → Option Value} {base : Heap} (c : Facts w K mg base) : ∃ fd, FunD K "turned_threes" "turned_threes" (defArgs s_turned_threes) (defBody s_turned_threes) (defScope s_turned_threes) [] [] (He.ga K "turned_threes") fd ∧ L2.Binds K fd ["word"] [] ∧ FnOk P w K mg base (L2.CX P w) 2 (He.ga K "turned_threes") fd ["word"] (spF (gm K) m_turned_threes) := by
  obtain ⟨fd, F, b, G⟩ := okS_turned_threes (P := P) (w := w) c
  exact ⟨fd, F, b, by rw [mF_turned_threes]; exact G⟩
/-! put_other -/
theorem sc_put_other : FnScope ["word", "place", "one", "two"] ["word", "place"] (defScope s_put_other) := ⟨rfl, rfl, rfl, by decide +kernel, rfl, by decide +kernel, by decide +kernel⟩
def bS_m_put_other : SM := (sSeq (sIf (tOrM (tNotM (eTest (eChain (f2 gLe) (f2 gLt) (eC (.int 0)) (eVar 1) (eBin (f2 gSub) (eApp (f1 gLen) (aCons (eVar 0) aNil)) (eC (.int 2)))))) (eTest (eBin (fIsN false) (eApp m_turned_threes (aCons (eSl false (eVar 0) (eP (eVar 1)) (eP (eBin (fAdd false) (eVar 1) (eC (.int 3))))) aNil)) (eC .non)))) (sRaise 2) sNx)
  (sSeq (sPar 2 3 (eBin (f2 gIx) (eVar 0) (eVar 1)) (eBin (f2 gIx) (eVar 0) (eBin (fAdd false) (eVar 1) (eC (.int 1)))))
  (sRet (eBin (fAdd false) (eBin (fAdd false) (eApp (gTupOf false) (aCons (eSl false (eVar 0) eNoP (eP (eVar 1))) aNil)) (eApp fTup (aCons (eVar 3) (aCons (eVar 2) (aCons (eVar 3) aNil))))) (eApp (gTupOf false) (aCons (eSl false (eVar 0) (eP (eBin (fAdd false) (eVar 1) (eC (.int 3)))) eNoP) aNil))))))
def mS_put_other : Fn := mkD 2 4 bS_m_put_other
theorem okS_put_other {P : Program} {w : World} {K : PySem.W.Frag} {mg : Str → Option Value} {base : Heap} (c : Facts w K mg base) : ∃ fd, FunD K "put_other" "put_other" (defArgs s_put_other) (defBody s_put_other) (defScope s_put_other) [] [] (He.ga K "put_other") fd ∧ L2.Binds K fd ["word", "place"] [] ∧ FnOk P w K mg base (L2.CX P w) 3 (He.ga K "put_other") fd ["word", "place"] (spF (gm K) mS_put_other) := by
  obtain ⟨fd, F⟩ := c.says.def_ 8 (d := d_put_other) rfl
  obtain ⟨fd_turned_threes, F_turned_threes, b_turned_threes, G_turned_threes⟩ := ok_turned_threes (P := P) (w := w) c
  refine ⟨fd, F, (F.bindsN fun _ _ _ _ _ _ us hl => match us, hl with | [_, _], _ => rfl), def_okD (G := gm K) F sc_put_other rfl rfl fun cdv hcv hcd A outer s H E hr => ?_⟩
  exact (q_cons (q_if (PW.pt (q_wor (q_tnot (q_tchain op_le le_v op_lt lt_v q_int (q_var rfl (.inl rfl) nd_place nc_place) (q_op op_sub sub_v (q_callB len_all len_v rfl (c.fr 10 rfl) boot_len (q_acons (q_var rfl (.inl rfl) nd_word nc_word) q_anil rfl) (by decide) nd_len rfl rfl) q_int) (by with_unfolding_all rfl))) (q_wor1 (q_tcmp op_isN isN_v (q_call G_turned_threes (hr.mono (by decide)) rfl (c.g 11 rfl) F_turned_threes.kp b_turned_threes (takes_of rfl rfl rfl rfl) (q_acons (q_slice rfl (q_var rfl (.inl rfl) nd_word nc_word) (q_P (q_var rfl (.inl rfl) nd_place nc_place)) (q_P (q_op add_allX addX_v (q_var rfl (.inl rfl) nd_place nc_place) q_int))) q_anil rfl) nd_turned_threes rfl rfl) q_non (nomark _))))) (q_one (q_raiseC rfl rfl (takes_of rfl rfl rfl rfl) (c.ex 12 rfl).1 (c.ex 12 rfl).2.1 (c.ex 12 rfl).2.2.1 (c.ex 12 rfl).2.2.2 (c.g 13 rfl) rfl nd_BadFigure)) q_nil)
  (q_cons (q_par rfl sc_put_other.nd rfl rfl (by decide) rfl rfl (q_ix ix_seq ix_v (q_var rfl (.inl rfl) nd_word nc_word) (q_var rfl (.inl rfl) nd_place nc_place) (fun _ _ => rfl)) (q_ix ix_seq ix_v (q_var rfl (.inl rfl) nd_word nc_word) (q_op add_allX addX_v (q_var rfl (.inl rfl) nd_place nc_place) q_int) (fun _ _ => rfl)) rfl rfl rfl rfl)
  (q_one (q_ret (q_op add_allX addX_v (q_op add_allX addX_v (q_callTy (tup_of (fl := false)) tup_v rfl (c.fr 8 rfl) boot_tuple (q_acons (q_slice rfl (q_var rfl (.inl rfl) nd_word nc_word) q_noP (q_P (q_var rfl (.inl rfl) nd_place nc_place))) q_anil rfl) (by decide) nd_tuple rfl rfl) (q_tup (q_acons (q_var rfl (.inl rfl) nd_two nc_two) (q_acons (q_var rfl (.inl rfl) nd_one nc_one) (q_acons (q_var rfl (.inl rfl) nd_two nc_two) q_anil rfl) rfl) rfl))) (q_callTy (tup_of (fl := false)) tup_v rfl (c.fr 8 rfl) boot_tuple (q_acons (q_slice rfl (q_var rfl (.inl rfl) nd_word nc_word) (q_P (q_op add_allX addX_v (q_var rfl (.inl rfl) nd_place nc_place) q_int)) q_noP) q_anil rfl) (by decide) nd_tuple rfl rfl))))))
def b_m_put_other : SM := (sSeq (sIf (tOrM (tNotM (eTest (eChain (f2F gLe) (f2F gLt) (eC (.int 0)) (eVarF 1) (eBin (f2F gSub) (eApp (f1F gLenF) (aCons (eVarF 0) aNil)) (eC (.int 2)))))) (eTest (eBin (fIsN false) (eApp m_turned_threes (aCons (eSl false (eVarF 0) (eP (eVarF 1)) (eP (eBin (fAdd false) (eVarF 1) (eC (.int 3))))) aNil)) (eC .non)))) (sRaise 2) sNx)
  (sSeq (sParF 2 3 (eBin (f2F gIxF) (eVarF 0) (eVarF 1)) (eBin (f2F gIxF) (eVarF 0) (eBin (fAdd false) (eVarF 1) (eC (.int 1)))))
  (sRet (eBin (fAdd false) (eBin (fAdd false) (eApp (gTupOf false) (aCons (eSl false (eVarF 0) eNoP (eP (eVarF 1))) aNil)) (eApp fTup (aCons (eVarF 3) (aCons (eVarF 2) (aCons (eVarF 3) aNil))))) (eApp (gTupOf false) (aCons (eSl false (eVarF 0) (eP (eBin (fAdd false) (eVarF 1) (eC (.int 3)))) eNoP) aNil))))))
theorem eF_put_other : b_m_put_other = bS_m_put_other := by simp only [b_m_put_other, bS_m_put_other, eVarF_eq, f2F_eq, f1F_eq, gIxF_eq, gLenF_eq, gEqF_eq, gNeF_eq, sSetF_eq, sParF_eq, eMethF_eq, mAppendF_eq, sSetIxF_eq, mSubF_eq, eCompF_eq, sForF_eq, wLoopF_eq]
def m_put_other : Fn := mkDF 2 [none, none] b_m_put_other
theorem mF_put_other : m_put_other = mS_put_other := by
  unfold m_put_other mS_put_other
  rw [eF_put_other]
  exact mkDF_eq rfl
theorem ok_put_other {P : Program} {w : World} {K : PySem.W.Frag} {mg : Str → Option Value} {base : Heap} (c : Facts w K mg base) : ∃ fd, FunD K "put_other" "put_other" (defArgs s_put_other) (defBody s_put_other) (defScope s_put_other) [] [] (He.ga K "put_other") fd ∧ L2.Binds K fd ["word", "place"] [] ∧ FnOk P w K mg base (L2.CX P w) 3 (He.ga K "put_other") fd ["word", "place"] (spF (gm K) m_put_other) := by
  obtain ⟨fd, F, b, G⟩ := okS_put_other (P := P) (w := w) c
  exact ⟨fd, F, b, by rw [mF_put_other]; exact G⟩
/-! sorted_word -/
theorem sc_sorted_word : FnScope ["word", "found", "k"] ["word"] (defScope s_sorted_word) := ⟨rfl, rfl, rfl, by decide +kernel, rfl, by decide +kernel, by decide +kernel⟩
def bS_m_sorted_word : SM := (sSeq (sSet 1 (eApp (f1 (gList true)) (aCons (eVar 0) aNil)))
  (sSeq (sSet 2 (eC (.int 0)))
  (sSeq (wLoop (eTest (eBin (f2 gLt) (eVar 2) (eBin (f2 gSub) (eApp (f1 gLen) (aCons (eVar 1) aNil)) (eC (.int 1))))) (sIf (tAndM (eTest (eApp m_is_far_commuting (aCons (eBin (f2 gIx) (eVar 1) (eVar 2)) (aCons (eBin (f2 gIx) (eVar 1) (eBin (fAdd false) (eVar 2) (eC (.int 1)))) aNil)))) (eTest (eBin (f2 gGt) (eApp (f1 gAbs) (aCons (eBin (f2 gIx) (eVar 1) (eVar 2)) aNil)) (eApp (f1 gAbs) (aCons (eBin (f2 gIx) (eVar 1) (eBin (fAdd false) (eVar 2) (eC (.int 1)))) aNil))))) (sSeq (sAsg (eApp fTup (aCons (eBin (f2 gIx) (eVar 1) (eBin (fAdd false) (eVar 2) (eC (.int 1)))) (aCons (eBin (f2 gIx) (eVar 1) (eVar 2)) aNil))) (mTup 2 (mCons (mSub (eVar 1) (eVar 2)) (mCons (mSub (eVar 1) (eBin (fAdd false) (eVar 2) (eC (.int 1)))) mNil))))
  (sSet 2 (eApp (f11 gMax2) (aCons (eC (.int 0)) (aCons (eBin (f2 gSub) (eVar 2) (eC (.int 1))) aNil))))) (sAug 2 fAug (eC (.int 1)))) 400)
  (sRet (eApp (gTupOf false) (aCons (eVar 1) aNil))))))
def mS_sorted_word : Fn := mkD 1 3 bS_m_sorted_word
theorem okS_sorted_word {P : Program} {w : World} {K : PySem.W.Frag} {mg : Str → Option Value} {base : Heap} (c : Facts w K mg base) : ∃ fd, FunD K "sorted_word" "sorted_word" (defArgs s_sorted_word) (defBody s_sorted_word) (defScope s_sorted_word) [] [] (He.ga K "sorted_word") fd ∧ L2.Binds K fd ["word"] [] ∧ FnOk P w K mg base (L2.CX P w) 3 (He.ga K "sorted_word") fd ["word"] (spF (gm K) mS_sorted_word) := by
  obtain ⟨fd, F⟩ := c.says.def_ 9 (d := d_sorted_word) rfl
  obtain ⟨fd_is_far_commuting, F_is_far_commuting, b_is_far_commuting, G_is_far_commuting⟩ := ok_is_far_commuting (P := P) (w := w) c
  refine ⟨fd, F, (F.bindsN fun _ _ _ _ _ _ us hl => match us, hl with | [_], _ => rfl), def_okD (G := gm K) F sc_sorted_word rfl rfl fun cdv hcv hcd A outer s H E hr => ?_⟩
  exact (q_cons (q_set sc_sorted_word.nd rfl (.inl rfl) (.inl rfl) (q_callTy call_list_of list_v rfl (c.fr 3 rfl) boot_list (q_acons (q_var rfl (.inl rfl) nd_word nc_word) q_anil rfl) (by decide) nd_list rfl rfl) rfl rfl)
  (q_cons (q_set sc_sorted_word.nd rfl (.inl rfl) (.inl rfl) q_int rfl rfl)
  (q_cons (q_while (passes_of rfl) (q_tcmp op_lt lt_v (q_var rfl (.inl rfl) nd_k nc_k) (q_op op_sub sub_v (q_callB len_all len_v rfl (c.fr 10 rfl) boot_len (q_acons (q_var rfl (.inl rfl) nd_found nc_found) q_anil rfl) (by decide) nd_len rfl rfl) q_int) (nomark _)) (q_one (q_if (PW.pt (q_wand (q_tval (q_call G_is_far_commuting (hr.mono (by decide)) rfl (c.g 14 rfl) F_is_far_commuting.kp b_is_far_commuting (takes_of rfl rfl rfl rfl) (q_acons (q_ix ix_seq ix_v (q_var rfl (.inl rfl) nd_found nc_found) (q_var rfl (.inl rfl) nd_k nc_k) (fun _ _ => rfl)) (q_acons (q_ix ix_seq ix_v (q_var rfl (.inl rfl) nd_found nc_found) (q_op add_allX addX_v (q_var rfl (.inl rfl) nd_k nc_k) q_int) (fun _ _ => rfl)) q_anil rfl) rfl) nd_is_far_commuting rfl rfl) (fun _ => rfl)) (q_wand1 (q_tcmp op_gt gt_v (q_callB call_abs abs_v rfl (c.fr 1 rfl) boot_abs (q_acons (q_ix ix_seq ix_v (q_var rfl (.inl rfl) nd_found nc_found) (q_var rfl (.inl rfl) nd_k nc_k) (fun _ _ => rfl)) q_anil rfl) (by decide) nd_abs rfl rfl) (q_callB call_abs abs_v rfl (c.fr 1 rfl) boot_abs (q_acons (q_ix ix_seq ix_v (q_var rfl (.inl rfl) nd_found nc_found) (q_op add_allX addX_v (q_var rfl (.inl rfl) nd_k nc_k) q_int) (fun _ _ => rfl)) q_anil rfl) (by decide) nd_abs rfl rfl) (nomark _))))) (q_cons (q_asg (q_tup (q_acons (q_ix ix_seq ix_v (q_var rfl (.inl rfl) nd_found nc_found) (q_op add_allX addX_v (q_var rfl (.inl rfl) nd_k nc_k) q_int) (fun _ _ => rfl)) (q_acons (q_ix ix_seq ix_v (q_var rfl (.inl rfl) nd_found nc_found) (q_var rfl (.inl rfl) nd_k nc_k) (fun _ _ => rfl)) q_anil rfl) rfl)) (q_gtup rfl rfl (q_gscons (q_gsub (q_var rfl (.inl rfl) nd_found nc_found) (q_var rfl (.inl rfl) nd_k nc_k) (fun _ => rfl)) (q_gscons (q_gsub (q_var rfl (.inl rfl) nd_found nc_found) (q_op add_allX addX_v (q_var rfl (.inl rfl) nd_k nc_k) q_int) (fun _ => rfl)) q_gsnil rfl) rfl) rfl rfl) rfl rfl rfl)
  (q_one (q_set sc_sorted_word.nd rfl (.inl rfl) (.inl rfl) (q_callB (call_max2 rfl) max2_v rfl (c.fr 5 rfl) boot_max (q_acons q_int (q_acons (q_op op_sub sub_v (q_var rfl (.inl rfl) nd_k nc_k) q_int) q_anil rfl) rfl) (by decide) nd_max rfl rfl) rfl rfl))) (q_one (q_aug sc_sorted_word.nd rfl (.inl rfl) (.inl rfl) q_int ip_aug aug_v)))))
  (q_one (q_ret (q_callTy (tup_of (fl := false)) tup_v rfl (c.fr 8 rfl) boot_tuple (q_acons (q_var rfl (.inl rfl) nd_found nc_found) q_anil rfl) (by decide) nd_tuple rfl rfl))))))
def b_m_sorted_word : SM := (sSeq (sSetF 1 (eApp (f1F (gList true)) (aCons (eVarF 0) aNil)))
  (sSeq (sSetF 2 (eC (.int 0)))
  (sSeq (wLoopF (eTest (eBin (f2F gLt) (eVarF 2) (eBin (f2F gSub) (eApp (f1F gLenF) (aCons (eVarF 1) aNil)) (eC (.int 1))))) (sIf (tAndM (eTest (eApp m_is_far_commuting (aCons (eBin (f2F gIxF) (eVarF 1) (eVarF 2)) (aCons (eBin (f2F gIxF) (eVarF 1) (eBin (fAdd false) (eVarF 2) (eC (.int 1)))) aNil)))) (eTest (eBin (f2F gGt) (eApp (f1F gAbs) (aCons (eBin (f2F gIxF) (eVarF 1) (eVarF 2)) aNil)) (eApp (f1F gAbs) (aCons (eBin (f2F gIxF) (eVarF 1) (eBin (fAdd false) (eVarF 2) (eC (.int 1)))) aNil))))) (sSeq (sAsg (eApp fTup (aCons (eBin (f2F gIxF) (eVarF 1) (eBin (fAdd false) (eVarF 2) (eC (.int 1)))) (aCons (eBin (f2F gIxF) (eVarF 1) (eVarF 2)) aNil))) (mTup 2 (mCons (mSubF (eVarF 1) (eVarF 2)) (mCons (mSubF (eVarF 1) (eBin (fAdd false) (eVarF 2) (eC (.int 1)))) mNil))))
  (sSetF 2 (eApp (f11 gMax2) (aCons (eC (.int 0)) (aCons (eBin (f2F gSub) (eVarF 2) (eC (.int 1))) aNil))))) (sAug 2 fAug (eC (.int 1)))) 400)
  (sRet (eApp (gTupOf false) (aCons (eVarF 1) aNil))))))
theorem eF_sorted_word : b_m_sorted_word = bS_m_sorted_word := by simp only [b_m_sorted_word, bS_m_sorted_word, eVarF_eq, f2F_eq, f1F_eq, gIxF_eq, gLenF_eq, gEqF_eq, gNeF_eq, sSetF_eq, sParF_eq, eMethF_eq, mAppendF_eq, sSetIxF_eq, mSubF_eq, eCompF_eq, sForF_eq, wLoopF_eq]
def m_sorted_word : Fn := mkDF 1 [none, none] b_m_sorted_word
theorem mF_sorted_word : m_sorted_word = mS_sorted_word := by
  unfold m_sorted_word mS_sorted_word
  rw [eF_sorted_word]
  exact mkDF_eq rfl
theorem ok_sorted_word {P : Program} {w : World} {K : PySem.W.Frag} {mg : Str → Option Value} {base : Heap} (c : Facts w K mg base) : ∃ fd, FunD K "sorted_word" "sorted_word" (defArgs s_sorted_word) (defBody s_sorted_word) (defScope s_sorted_word) [] [] (He.ga K "sorted_word") fd ∧ L2.Binds K fd ["word"] [] ∧ FnOk P w K mg base (L2.CX P w) 3 (He.ga K "sorted_word") fd ["word"] (spF (gm K) m_sorted_word) := by
  obtain ⟨fd, F, b, G⟩ := okS_sorted_word (P := P) (w := w) c
  exact ⟨fd, F, b, by rw [mF_sorted_word]; exact G⟩
/-! unwound -/
theorem sc_unwound : FnScope ["word", "found", "one"] ["word"] (defScope s_unwound) := ⟨rfl, rfl, rfl, by decide +kernel, rfl, by decide +kernel, by decide +kernel⟩
def bS_m_unwound : SM := (sSeq (sSet 1 (eApp (fLst true) aNil))
  (sSeq (sForG (iSeqX (eVar 0)) (.nm 2) (sIf (tAndM (eTest (eBin (f2 gNe) (eVar 1) (eApp (fLst false) aNil))) (eTest (eBin (f2 gEq) (eBin (f2 gIx) (eVar 1) (eNeg (eC (.int 1)))) (eBin (f2 gSub) (eC (.int 0)) (eVar 2))))) (sExpr (eMeth .l mPop (eVar 1) aNil)) (sExpr (eMeth .l mAppend (eVar 1) (aCons (eVar 2) aNil)))))
  (sRet (eApp (gTupOf false) (aCons (eVar 1) aNil)))))
def mS_unwound : Fn := mkD 1 3 bS_m_unwound
theorem okS_unwound {P : Program} {w : World} {K : PySem.W.Frag} {mg : Str → Option Value} {base : Heap} (c : Facts w K mg base) : ∃ fd, FunD K "unwound" "unwound" (defArgs s_unwound) (defBody s_unwound) (defScope s_unwound) [] [] (He.ga K "unwound") fd ∧ L2.Binds K fd ["word"] [] ∧ FnOk P w K mg base (L2.CX P w) 2 (He.ga K "unwound") fd ["word"] (spF (gm K) mS_unwound) := by
  obtain ⟨fd, F⟩ := c.says.def_ 10 (d := d_unwound) rfl
  refine ⟨fd, F, (F.bindsN fun _ _ _ _ _ _ us hl => match us, hl with | [_], _ => rfl), def_okD (G := gm K) F sc_unwound rfl rfl fun cdv hcv hcd A outer s H E hr => ?_⟩
  exact (q_cons (q_set sc_unwound.nd rfl (.inl rfl) (.inl rfl) (q_lst q_anil) rfl rfl)
  (q_cons (q_forG rfl (passes_of rfl) rfl (q_seqX rfl (q_var rfl (.inl rfl) nd_word nc_word)) (pg_name sc_unwound.nd rfl (.inl rfl) (.inl rfl)) (q_one (q_if (PW.pt (q_wand (q_tcmp (op_neD hr.units) ne_v (q_var rfl (.inl rfl) nd_found nc_found) (q_lst q_anil) (nomark _)) (q_wand1 (q_tcmp (op_eqD hr.units) eq_v (q_ix ix_seq ix_v (q_var rfl (.inl rfl) nd_found nc_found) (q_neg q_int) (fun _ _ => rfl)) (q_op op_sub sub_v q_int (q_var rfl (.inl rfl) nd_one nc_one)) (nomark _))))) (q_one (q_expr (q_meth0 (k := .l) rfl PySem.F.plainAttrs_list PySem.F.slot_list_pop PySem.F.type_list_pop mt_pop pop_v (q_var rfl (.inl rfl) nd_found nc_found) rfl rfl) rfl)) (q_one (q_expr (q_meth (k := .l) rfl PySem.F.plainAttrs_list PySem.F.slot_list_append PySem.F.type_list_append mt_append append_v (q_var rfl (.inl rfl) nd_found nc_found) (q_acons (q_var rfl (.inl rfl) nd_one nc_one) q_anil rfl) rfl rfl rfl rfl rfl) rfl)))) (fun _ => rfl))
  (q_one (q_ret (q_callTy (tup_of (fl := false)) tup_v rfl (c.fr 8 rfl) boot_tuple (q_acons (q_var rfl (.inl rfl) nd_found nc_found) q_anil rfl) (by decide) nd_tuple rfl rfl)))))
def b_m_unwound : SM := (sSeq (sSetF 1 (eApp (fLst true) aNil))
  (sSeq (sForF (iSeqX (eVarF 0)) (.nm 2) (sIf (tAndM (eTest (eBin (f2F gNeF) (eVarF 1) (eApp (fLst false) aNil))) (eTest (eBin (f2F gEqF) (eBin (f2F gIxF) (eVarF 1) (eNeg (eC (.int 1)))) (eBin (f2F gSub) (eC (.int 0)) (eVarF 2))))) (sExpr (eMethF .l mPop (eVarF 1) aNil)) (sExpr (eMethF .l mAppendF (eVarF 1) (aCons (eVarF 2) aNil)))))
  (sRet (eApp (gTupOf false) (aCons (eVarF 1) aNil)))))
theorem eF_unwound : b_m_unwound = bS_m_unwound := by simp only [b_m_unwound, bS_m_unwound, eVarF_eq, f2F_eq, f1F_eq, gIxF_eq, gLenF_eq, gEqF_eq, gNeF_eq, sSetF_eq, sParF_eq, eMethF_eq, mAppendF_eq, sSetIxF_eq, mSubF_eq, eCompF_eq, sForF_eq, wLoopF_eq]
def m_unwound : Fn := mkDF 1 [none, none] b_m_unwound
theorem mF_unwound : m_unwound = mS_unwound := by
  unfold m_unwound mS_unwound
  rw [eF_unwound]
  exact mkDF_eq rfl
theorem ok_unwound {P : Program} {w : World} {K : PySem.W.Frag} {mg : Str → Option Value} {base : Heap} (c : Facts w K mg base) : ∃ fd, FunD K "unwound" "unwound" (defArgs s_unwound) (defBody s_unwound) (defScope s_unwound) [] [] (He.ga K "unwound") fd ∧ L2.Binds K fd ["word"] [] ∧ FnOk P w K mg base (L2.CX P w) 2 (He.ga K "unwound") fd ["word"] (spF (gm K) m_unwound) := by
  obtain ⟨fd, F, b, G⟩ := okS_unwound (P := P) (w := w) c
  exact ⟨fd, F, b, by rw [mF_unwound]; exact G⟩
/-! at_home -/
theorem sc_at_home : FnScope ["many"] ["many"] (defScope s_at_home) := ⟨rfl, rfl, rfl, by decide +kernel, rfl, by decide +kernel, by decide +kernel⟩
def bS_m_at_home : SM := (sSeq (sIf (tNotM (eTest (eChain (f2 gLt) (f2 gLe) (eC (.int 0)) (eVar 0) (eC (.int 24))))) (sRaise 1) sNx)
  (sRet (eRg1 gTupRg (eVar 0))))
def mS_at_home : Fn := mkD 1 1 bS_m_at_home
theorem okS_at_home {P : Program} {w : World} {K : PySem.W.Frag} {mg : Str → Option Value} {base : Heap} (c : Facts w K mg base) : ∃ fd, FunD K "at_home" "at_home" (defArgs s_at_home) (defBody s_at_home) (defScope s_at_home) [] [] (He.ga K "at_home") fd ∧ L2.Binds K fd ["many"] [] ∧ FnOk P w K mg base (L2.CX P w) 2 (He.ga K "at_home") fd ["many"] (spF (gm K) mS_at_home) := by
  obtain ⟨fd, F⟩ := c.says.def_ 11 (d := d_at_home) rfl
  refine ⟨fd, F, (F.bindsN fun _ _ _ _ _ _ us hl => match us, hl with | [_], _ => rfl), def_okD (G := gm K) F sc_at_home rfl rfl fun cdv hcv hcd A outer s H E hr => ?_⟩
  exact (q_cons (q_if (q_tnot (q_tchain op_lt lt_v op_le le_v q_int (q_var rfl (.inl rfl) nd_many nc_many) (q_gint rfl (c.it 15 rfl) nd_MOST) (by with_unfolding_all rfl))) (q_one (q_raiseC rfl rfl (takes_of rfl rfl rfl rfl) (c.ex 16 rfl).1 (c.ex 16 rfl).2.1 (c.ex 16 rfl).2.2.1 (c.ex 16 rfl).2.2.2 (c.g 17 rfl) rfl nd_BadPlace)) q_nil)
  (q_one (q_ret (q_tupRg1 rfl rfl (c.fr 8 rfl) rfl (c.fr 4 rfl) (q_var rfl (.inl rfl) nd_many nc_many) rfl rfl))))
def b_m_at_home : SM := (sSeq (sIf (tNotM (eTest (eChain (f2F gLt) (f2F gLe) (eC (.int 0)) (eVarF 0) (eC (.int 24))))) (sRaise 1) sNx)
  (sRet (eRg1 gTupRg (eVarF 0))))
theorem eF_at_home : b_m_at_home = bS_m_at_home := by simp only [b_m_at_home, bS_m_at_home, eVarF_eq, f2F_eq, f1F_eq, gIxF_eq, gLenF_eq, gEqF_eq, gNeF_eq, sSetF_eq, sParF_eq, eMethF_eq, mAppendF_eq, sSetIxF_eq, mSubF_eq, eCompF_eq, sForF_eq, wLoopF_eq]
def m_at_home : Fn := mkDF 1 [] b_m_at_home
theorem mF_at_home : m_at_home = mS_at_home := by
  unfold m_at_home mS_at_home
  rw [eF_at_home]
  exact mkDF_eq rfl
theorem ok_at_home {P : Program} {w : World} {K : PySem.W.Frag} {mg : Str → Option Value} {base : Heap} (c : Facts w K mg base) : ∃ fd, FunD K "at_home" "at_home" (defArgs s_at_home) (defBody s_at_home) (defScope s_at_home) [] [] (He.ga K "at_home") fd ∧ L2.Binds K fd ["many"] [] ∧ FnOk P w K mg base (L2.CX P w) 2 (He.ga K "at_home") fd ["many"] (spF (gm K) m_at_home) := by
  obtain ⟨fd, F, b, G⟩ := okS_at_home (P := P) (w := w) c
  exact ⟨fd, F, b, by rw [mF_at_home]; exact G⟩
/-! check_word -/
theorem sc_check_word : FnScope ["word", "many", "one"] ["word", "many"] (defScope s_check_word) := ⟨rfl, rfl, rfl, by decide +kernel, rfl, by decide +kernel, by decide +kernel⟩
def bS_m_check_word : SM := (sIf (tOrM (tNotM (eTest (eChain (f2 gLe) (f2 gLe) (eC (.int 2)) (eVar 1) (eC (.int 12))))) (eTest (eGen finAny 2 (eVar 0) (eOrV (eBin (f2 gEq) (eVar 2) (eC (.int 0))) (eBin (f2 gGe) (eApp (f1 gAbs) (aCons (eVar 2) aNil)) (eVar 1)))))) (sRaise 2) sNx)
def mS_check_word : Fn := mkD 2 3 bS_m_check_word
theorem okS_check_word {P : Program} {w : World} {K : PySem.W.Frag} {mg : Str → Option Value} {base : Heap} (c : Facts w K mg base) : ∃ fd, FunD K "check_word" "check_word" (defArgs s_check_word) (defBody s_check_word) (defScope s_check_word) [] [] (He.ga K "check_word") fd ∧ L2.Binds K fd ["word", "many"] [] ∧ FnOk P w K mg base (L2.CX P w) 2 (He.ga K "check_word") fd ["word", "many"] (spF (gm K) mS_check_word) := by
  obtain ⟨fd, F⟩ := c.says.def_ 12 (d := d_check_word) rfl
  obtain ⟨oc, od, dV, kV, doc, pm, an, cdv0, ct0, osl, efd, lk, hcd0, _, _⟩ := F.ex
  refine ⟨fd, F, (F.bindsN fun _ _ _ _ _ _ us hl => match us, hl with | [_, _], _ => rfl), def_okD (G := gm K) F sc_check_word rfl rfl fun cdv hcv hcd A outer s H E hr => ?_⟩
  obtain ⟨ctv, ec⟩ := He.codeIn_ref hcd
  subst ec
  have e2 : He.codeOf K ("check_word", none) = ctv := He.codeOf_eq lk hcv
  have TB : LamX.TabB base mg ctv (He.cT K ("check_word", none)).2 := by rw [← e2]; exact c.tabs ("check_word", none) (.head _)
  have hcode : (Value.ref ctv) = .ref ctv := rfl
  have hmT : ((He.cT K ("check_word", none)).2, (envOfC "check_word" (defScope s_check_word) 0 0 .none).qual ++ "<genexpr>") ∈ (gm K).T := (.head _)
  have hu := tab_uniq c.nodup hmT
  exact (q_one (q_if (PW.pt (q_wor (q_tnot (q_tchain op_le le_v op_le le_v q_int (q_var rfl (.inr (.inl rfl)) nd_many nc_many) q_int (by with_unfolding_all rfl))) (q_wor1 (q_tval (q_gen (i := 2) fin_any rfl (c.fr 18 rfl) boot_any (by decide) nd_any rfl hr TB hcode hmT hu (genS_by rfl) sc_check_word.nd rfl rfl (q_var rfl (.inl rfl) nd_word nc_word) (fun C code => (l_or (l_cmp (l_eq rfl) (l_var rfl (.inl rfl) nd_one nc_one) l_int (nomark _)) (l_one (l_cmp l_ge (l_call1 l_abs rfl (c.fr 1 rfl) boot_abs (l_var rfl (.inl rfl) nd_one nc_one) (by decide) nd_abs rfl) (l_var rfl (.inr (.inr rfl)) nd_many nc_many) (nomark _))))) (fun _ => rfl) rfl) (fun _ => rfl))))) (q_one (q_raiseC rfl rfl (takes_of rfl rfl rfl rfl) (c.ex 12 rfl).1 (c.ex 12 rfl).2.1 (c.ex 12 rfl).2.2.1 (c.ex 12 rfl).2.2.2 (c.g 13 rfl) rfl nd_BadFigure)) q_nil))
def b_m_check_word : SM := (sIf (tOrM (tNotM (eTest (eChain (f2F gLe) (f2F gLe) (eC (.int 2)) (eVarF 1) (eC (.int 12))))) (eTest (eGen finAny 2 (eVarF 0) (eOrV (eBin (f2F gEqF) (eVarF 2) (eC (.int 0))) (eBin (f2F gGe) (eApp (f1F gAbs) (aCons (eVarF 2) aNil)) (eVarF 1)))))) (sRaise 2) sNx)
theorem eF_check_word : b_m_check_word = bS_m_check_word := by simp only [b_m_check_word, bS_m_check_word, eVarF_eq, f2F_eq, f1F_eq, gIxF_eq, gLenF_eq, gEqF_eq, gNeF_eq, sSetF_eq, sParF_eq, eMethF_eq, mAppendF_eq, sSetIxF_eq, mSubF_eq, eCompF_eq, sForF_eq, wLoopF_eq]
def m_check_word : Fn := mkDF 2 [none] b_m_check_word
theorem mF_check_word : m_check_word = mS_check_word := by
  unfold m_check_word mS_check_word
  rw [eF_check_word]
  exact mkDF_eq rfl
theorem ok_check_word {P : Program} {w : World} {K : PySem.W.Frag} {mg : Str → Option Value} {base : Heap} (c : Facts w K mg base) : ∃ fd, FunD K "check_word" "check_word" (defArgs s_check_word) (defBody s_check_word) (defScope s_check_word) [] [] (He.ga K "check_word") fd ∧ L2.Binds K fd ["word", "many"] [] ∧ FnOk P w K mg base (L2.CX P w) 2 (He.ga K "check_word") fd ["word", "many"] (spF (gm K) m_check_word) := by
  obtain ⟨fd, F, b, G⟩ := okS_check_word (P := P) (w := w) c
  exact ⟨fd, F, b, by rw [mF_check_word]; exact G⟩
/-! winding -/
theorem sc_winding : FnScope ["word", "many", "found", "spots", "one", "k", "pair"] ["word", "many"] (defScope s_winding) := ⟨rfl, rfl, rfl, by decide +kernel, rfl, by decide +kernel, by decide +kernel⟩
def bS_m_winding : SM := (sSeq (sExpr (eApp m_check_word (aCons (eVar 0) (aCons (eVar 1) aNil))))
  (sSeq (sTupN [2, 3] (aCons (eDNew true) (aCons (eApp (f1 (gList true)) (aCons (eApp m_at_home (aCons (eVar 1) aNil)) aNil)) aNil)))
  (sSeq (sForG (iSeqX (eVar 0)) (.nm 4) (sSeq (sSet 5 (eBin (f2 gSub) (eApp (f1 gAbs) (aCons (eVar 4) aNil)) (eC (.int 1))))
  (sSeq (sSet 6 (eApp fTup (aCons (eApp (f11 gMin2) (aCons (eBin (f2 gIx) (eVar 3) (eVar 5)) (aCons (eBin (f2 gIx) (eVar 3) (eBin (fAdd false) (eVar 5) (eC (.int 1)))) aNil))) (aCons (eApp (f11 gMax2) (aCons (eBin (f2 gIx) (eVar 3) (eVar 5)) (aCons (eBin (f2 gIx) (eVar 3) (eBin (fAdd false) (eVar 5) (eC (.int 1)))) aNil))) aNil))))
  (sSeq (sDPutM (eBin (fAdd false) (eDGet2 (eVar 2) (eVar 6) (eC (.int 0))) (eIf (eTest (eBin (f2 gGt) (eVar 4) (eC (.int 0)))) (eC (.int 1)) (eNeg (eC (.int 1))))) (eVar 2) (eVar 6))
  (sAsg (eApp fTup (aCons (eBin (f2 gIx) (eVar 3) (eBin (fAdd false) (eVar 5) (eC (.int 1)))) (aCons (eBin (f2 gIx) (eVar 3) (eVar 5)) aNil))) (mTup 2 (mCons (mSub (eVar 3) (eVar 5)) (mCons (mSub (eVar 3) (eBin (fAdd false) (eVar 5) (eC (.int 1)))) mNil))))))))
  (sRet (eApp (gTupOf false) (aCons (eCompG false [6] (iSeqX (eApp (f1 (gSortedX false)) (aCons (eVar 2) aNil))) (.nm 6) (eTest (eBin (f2 gNe) (eDGet (eVar 2) (eVar 6)) (eC (.int 0)))) (eApp fTup (aCons (eVar 6) (aCons (eDGet (eVar 2) (eVar 6)) aNil)))) aNil))))))
def mS_winding : Fn := mkD 2 7 bS_m_winding
theorem okS_winding {P : Program} {w : World} {K : PySem.W.Frag} {mg : Str → Option Value} {base : Heap} (c : Facts w K mg base) : ∃ fd, FunD K "winding" "winding" (defArgs s_winding) (defBody s_winding) (defScope s_winding) [] [] (He.ga K "winding") fd ∧ L2.Binds K fd ["word", "many"] [] ∧ FnOk P w K mg base (L2.CX P w) 3 (He.ga K "winding") fd ["word", "many"] (spF (gm K) mS_winding) := by
  obtain ⟨fd, F⟩ := c.says.def_ 13 (d := d_winding) rfl
  obtain ⟨fd_at_home, F_at_home, b_at_home, G_at_home⟩ := ok_at_home (P := P) (w := w) c
  obtain ⟨fd_check_word, F_check_word, b_check_word, G_check_word⟩ := ok_check_word (P := P) (w := w) c
  refine ⟨fd, F, (F.bindsN fun _ _ _ _ _ _ us hl => match us, hl with | [_, _], _ => rfl), def_okD (G := gm K) F sc_winding rfl rfl fun cdv hcv hcd A outer s H E hr => ?_⟩
  exact (q_cons (q_expr (q_call G_check_word (hr.mono (by decide)) rfl (c.g 19 rfl) F_check_word.kp b_check_word (takes_of rfl rfl rfl rfl) (q_acons (q_var rfl (.inl rfl) nd_word nc_word) (q_acons (q_var rfl (.inl rfl) nd_many nc_many) q_anil rfl) rfl) nd_check_word rfl rfl) rfl)
  (q_cons (q_tupN (is := [2, 3]) rfl rfl (q_acons q_dnewT (q_acons (q_callTy call_list_of list_v rfl (c.fr 3 rfl) boot_list (q_acons (q_call G_at_home (hr.mono (by decide)) rfl (c.g 20 rfl) F_at_home.kp b_at_home (takes_of rfl rfl rfl rfl) (q_acons (q_var rfl (.inl rfl) nd_many nc_many) q_anil rfl) nd_at_home rfl rfl) q_anil rfl) (by decide) nd_list rfl rfl) q_anil rfl) rfl) (pgs_cons (pg_name sc_winding.nd rfl (.inr rfl) (.inl rfl)) (pgs_cons (pg_name sc_winding.nd rfl (.inl rfl) (.inl rfl)) pgs_nil rfl) rfl) rfl rfl rfl rfl rfl)
  (q_cons (q_forG rfl (passes_of rfl) rfl (q_seqX rfl (q_var rfl (.inl rfl) nd_word nc_word)) (pg_name sc_winding.nd rfl (.inl rfl) (.inl rfl)) (q_cons (q_set sc_winding.nd rfl (.inl rfl) (.inl rfl) (q_op op_sub sub_v (q_callB call_abs abs_v rfl (c.fr 1 rfl) boot_abs (q_acons (q_var rfl (.inl rfl) nd_one nc_one) q_anil rfl) (by decide) nd_abs rfl rfl) q_int) rfl rfl)
  (q_cons (q_set sc_winding.nd rfl (.inl rfl) (.inl rfl) (q_tup (q_acons (q_callB (call_min2 rfl) min2_v rfl (c.fr 6 rfl) boot_min (q_acons (q_ix ix_seq ix_v (q_var rfl (.inl rfl) nd_spots nc_spots) (q_var rfl (.inl rfl) nd_k nc_k) (fun _ _ => rfl)) (q_acons (q_ix ix_seq ix_v (q_var rfl (.inl rfl) nd_spots nc_spots) (q_op add_allX addX_v (q_var rfl (.inl rfl) nd_k nc_k) q_int) (fun _ _ => rfl)) q_anil rfl) rfl) (by decide) nd_min rfl rfl) (q_acons (q_callB (call_max2 rfl) max2_v rfl (c.fr 5 rfl) boot_max (q_acons (q_ix ix_seq ix_v (q_var rfl (.inl rfl) nd_spots nc_spots) (q_var rfl (.inl rfl) nd_k nc_k) (fun _ _ => rfl)) (q_acons (q_ix ix_seq ix_v (q_var rfl (.inl rfl) nd_spots nc_spots) (q_op add_allX addX_v (q_var rfl (.inl rfl) nd_k nc_k) q_int) (fun _ _ => rfl)) q_anil rfl) rfl) (by decide) nd_max rfl rfl) q_anil rfl) rfl)) rfl rfl)
  (q_cons (q_dput (u65 hr) (q_op add_allX addX_v (q_dget2 (u65 hr) (q_var rfl (.inr (.inl rfl)) nd_found nc_found) (q_var rfl (.inl rfl) nd_pair nc_pair) q_int ⟨rfl, rfl, rfl, rfl⟩) (q_ifE (q_tcmp op_gt gt_v (q_var rfl (.inl rfl) nd_one nc_one) q_int (nomark _)) q_int (q_neg q_int))) (q_var rfl (.inr (.inl rfl)) nd_found nc_found) (q_var rfl (.inl rfl) nd_pair nc_pair) rfl)
  (q_one (q_asg (q_tup (q_acons (q_ix ix_seq ix_v (q_var rfl (.inl rfl) nd_spots nc_spots) (q_op add_allX addX_v (q_var rfl (.inl rfl) nd_k nc_k) q_int) (fun _ _ => rfl)) (q_acons (q_ix ix_seq ix_v (q_var rfl (.inl rfl) nd_spots nc_spots) (q_var rfl (.inl rfl) nd_k nc_k) (fun _ _ => rfl)) q_anil rfl) rfl)) (q_gtup rfl rfl (q_gscons (q_gsub (q_var rfl (.inl rfl) nd_spots nc_spots) (q_var rfl (.inl rfl) nd_k nc_k) (fun _ => rfl)) (q_gscons (q_gsub (q_var rfl (.inl rfl) nd_spots nc_spots) (q_op add_allX addX_v (q_var rfl (.inl rfl) nd_k nc_k) q_int) (fun _ => rfl)) q_gsnil rfl) rfl) rfl rfl) rfl rfl rfl))))) (fun _ => rfl))
  (q_one (q_ret (q_callTy (tup_of (fl := false)) tup_v rfl (c.fr 8 rfl) boot_tuple (q_acons (q_compG rfl rfl sc_winding.nd (q_seqX rfl (q_callB (sort_allX rfl (u65 hr)) sortedX_v rfl (c.fr 7 rfl) boot_sorted (q_acons (q_var rfl (.inr (.inl rfl)) nd_found nc_found) q_anil rfl) (by decide) nd_sorted rfl rfl)) (own := [("pair", 6)]) (blkOk_by rfl) rfl (fun s H C cl fp => (pg_name sc_winding.nd rfl (.inl rfl) (.inr rfl))) (fun s H C cl fp => (q_test1 (q_tcmp (op_neD hr.units) ne_v (q_dget (u65 hr) (q_var rfl (.inr (.inl rfl)) nd_found nc_found) (q_var rfl (.inl rfl) nd_pair nc_pair) (fun _ _ => rfl)) q_int (nomark _)))) (fun s H C cl fp => (q_tup (q_acons (q_var rfl (.inl rfl) nd_pair nc_pair) (q_acons (q_dget (u65 hr) (q_var rfl (.inr (.inl rfl)) nd_found nc_found) (q_var rfl (.inl rfl) nd_pair nc_pair) (fun _ _ => rfl)) q_anil rfl) rfl))) (fun _ => rfl)) q_anil rfl) (by decide) nd_tuple rfl rfl))))))
def b_m_winding : SM := (sSeq (sExpr (eApp m_check_word (aCons (eVarF 0) (aCons (eVarF 1) aNil))))
  (sSeq (sTupN [2, 3] (aCons (eDNew true) (aCons (eApp (f1F (gList true)) (aCons (eApp m_at_home (aCons (eVarF 1) aNil)) aNil)) aNil)))
  (sSeq (sForF (iSeqX (eVarF 0)) (.nm 4) (sSeq (sSetF 5 (eBin (f2F gSub) (eApp (f1F gAbs) (aCons (eVarF 4) aNil)) (eC (.int 1))))
  (sSeq (sSetF 6 (eApp fTup (aCons (eApp (f11 gMin2) (aCons (eBin (f2F gIxF) (eVarF 3) (eVarF 5)) (aCons (eBin (f2F gIxF) (eVarF 3) (eBin (fAdd false) (eVarF 5) (eC (.int 1)))) aNil))) (aCons (eApp (f11 gMax2) (aCons (eBin (f2F gIxF) (eVarF 3) (eVarF 5)) (aCons (eBin (f2F gIxF) (eVarF 3) (eBin (fAdd false) (eVarF 5) (eC (.int 1)))) aNil))) aNil))))
  (sSeq (sDPutM (eBin (fAdd false) (eDGet2 (eVarF 2) (eVarF 6) (eC (.int 0))) (eIf (eTest (eBin (f2F gGt) (eVarF 4) (eC (.int 0)))) (eC (.int 1)) (eNeg (eC (.int 1))))) (eVarF 2) (eVarF 6))
  (sAsg (eApp fTup (aCons (eBin (f2F gIxF) (eVarF 3) (eBin (fAdd false) (eVarF 5) (eC (.int 1)))) (aCons (eBin (f2F gIxF) (eVarF 3) (eVarF 5)) aNil))) (mTup 2 (mCons (mSubF (eVarF 3) (eVarF 5)) (mCons (mSubF (eVarF 3) (eBin (fAdd false) (eVarF 5) (eC (.int 1)))) mNil))))))))
  (sRet (eApp (gTupOf false) (aCons (eCompF false [6] (iSeqX (eApp (f1F (gSortedX false)) (aCons (eVarF 2) aNil))) (.nm 6) (eTest (eBin (f2F gNeF) (eDGet (eVarF 2) (eVarF 6)) (eC (.int 0)))) (eApp fTup (aCons (eVarF 6) (aCons (eDGet (eVarF 2) (eVarF 6)) aNil)))) aNil))))))
theorem eF_winding : b_m_winding = bS_m_winding := by simp only [b_m_winding, bS_m_winding, eVarF_eq, f2F_eq, f1F_eq, gIxF_eq, gLenF_eq, gEqF_eq, gNeF_eq, sSetF_eq, sParF_eq, eMethF_eq, mAppendF_eq, sSetIxF_eq, mSubF_eq, eCompF_eq, sForF_eq, wLoopF_eq]
def m_winding : Fn := mkDF 2 [none, none, none, none, none] b_m_winding
theorem mF_winding : m_winding = mS_winding := by
  unfold m_winding mS_winding
  rw [eF_winding]
  exact mkDF_eq rfl
theorem ok_winding {P : Program} {w : World} {K : PySem.W.Frag} {mg : Str → Option Value} {base : Heap} (c : Facts w K mg base) : ∃ fd, FunD K "winding" "winding" (defArgs s_winding) (defBody s_winding) (defScope s_winding) [] [] (He.ga K "winding") fd ∧ L2.Binds K fd ["word", "many"] [] ∧ FnOk P w K mg base (L2.CX P w) 3 (He.ga K "winding") fd ["word", "many"] (spF (gm K) m_winding) := by
  obtain ⟨fd, F, b, G⟩ := okS_winding (P := P) (w := w) c
  exact ⟨fd, F, b, by rw [mF_winding]; exact G⟩
/-! word_spots -/
theorem sc_word_spots : FnScope ["word", "many", "spots", "one", "k"] ["word", "many"] (defScope s_word_spots) := ⟨rfl, rfl, rfl, by decide +kernel, rfl, by decide +kernel, by decide +kernel⟩
def bS_m_word_spots : SM := (sSeq (sExpr (eApp m_check_word (aCons (eVar 0) (aCons (eVar 1) aNil))))
  (sSeq (sSet 2 (eApp (f1 (gList true)) (aCons (eApp m_at_home (aCons (eVar 1) aNil)) aNil)))
  (sSeq (sForG (iSeqX (eVar 0)) (.nm 3) (sSeq (sSet 4 (eBin (f2 gSub) (eApp (f1 gAbs) (aCons (eVar 3) aNil)) (eC (.int 1))))
  (sAsg (eApp fTup (aCons (eBin (f2 gIx) (eVar 2) (eBin (fAdd false) (eVar 4) (eC (.int 1)))) (aCons (eBin (f2 gIx) (eVar 2) (eVar 4)) aNil))) (mTup 2 (mCons (mSub (eVar 2) (eVar 4)) (mCons (mSub (eVar 2) (eBin (fAdd false) (eVar 4) (eC (.int 1)))) mNil))))))
  (sRet (eApp (gTupOf false) (aCons (eVar 2) aNil))))))
def mS_word_spots : Fn := mkD 2 5 bS_m_word_spots
theorem okS_word_spots {P : Program} {w : World} {K : PySem.W.Frag} {mg : Str → Option Value} {base : Heap} (c : Facts w K mg base) : ∃ fd, FunD K "word_spots" "word_spots" (defArgs s_word_spots) (defBody s_word_spots) (defScope s_word_spots) [] [] (He.ga K "word_spots") fd ∧ L2.Binds K fd ["word", "many"] [] ∧ FnOk P w K mg base (L2.CX P w) 3 (He.ga K "word_spots") fd ["word", "many"] (spF (gm K) mS_word_spots) := by
  obtain ⟨fd, F⟩ := c.says.def_ 14 (d := d_word_spots) rfl
  obtain ⟨fd_at_home, F_at_home, b_at_home, G_at_home⟩ := ok_at_home (P := P) (w := w) c
  obtain ⟨fd_check_word, F_check_word, b_check_word, G_check_word⟩ := ok_check_word (P := P) (w := w) c
  refine ⟨fd, F, (F.bindsN fun _ _ _ _ _ _ us hl => match us, hl with | [_, _], _ => rfl), def_okD (G := gm K) F sc_word_spots rfl rfl fun cdv hcv hcd A outer s H E hr => ?_⟩
  exact (q_cons (q_expr (q_call G_check_word (hr.mono (by decide)) rfl (c.g 19 rfl) F_check_word.kp b_check_word (takes_of rfl rfl rfl rfl) (q_acons (q_var rfl (.inl rfl) nd_word nc_word) (q_acons (q_var rfl (.inl rfl) nd_many nc_many) q_anil rfl) rfl) nd_check_word rfl rfl) rfl)
  (q_cons (q_set sc_word_spots.nd rfl (.inl rfl) (.inl rfl) (q_callTy call_list_of list_v rfl (c.fr 3 rfl) boot_list (q_acons (q_call G_at_home (hr.mono (by decide)) rfl (c.g 20 rfl) F_at_home.kp b_at_home (takes_of rfl rfl rfl rfl) (q_acons (q_var rfl (.inl rfl) nd_many nc_many) q_anil rfl) nd_at_home rfl rfl) q_anil rfl) (by decide) nd_list rfl rfl) rfl rfl)
  (q_cons (q_forG rfl (passes_of rfl) rfl (q_seqX rfl (q_var rfl (.inl rfl) nd_word nc_word)) (pg_name sc_word_spots.nd rfl (.inl rfl) (.inl rfl)) (q_cons (q_set sc_word_spots.nd rfl (.inl rfl) (.inl rfl) (q_op op_sub sub_v (q_callB call_abs abs_v rfl (c.fr 1 rfl) boot_abs (q_acons (q_var rfl (.inl rfl) nd_one nc_one) q_anil rfl) (by decide) nd_abs rfl rfl) q_int) rfl rfl)
  (q_one (q_asg (q_tup (q_acons (q_ix ix_seq ix_v (q_var rfl (.inl rfl) nd_spots nc_spots) (q_op add_allX addX_v (q_var rfl (.inl rfl) nd_k nc_k) q_int) (fun _ _ => rfl)) (q_acons (q_ix ix_seq ix_v (q_var rfl (.inl rfl) nd_spots nc_spots) (q_var rfl (.inl rfl) nd_k nc_k) (fun _ _ => rfl)) q_anil rfl) rfl)) (q_gtup rfl rfl (q_gscons (q_gsub (q_var rfl (.inl rfl) nd_spots nc_spots) (q_var rfl (.inl rfl) nd_k nc_k) (fun _ => rfl)) (q_gscons (q_gsub (q_var rfl (.inl rfl) nd_spots nc_spots) (q_op add_allX addX_v (q_var rfl (.inl rfl) nd_k nc_k) q_int) (fun _ => rfl)) q_gsnil rfl) rfl) rfl rfl) rfl rfl rfl))) (fun _ => rfl))
  (q_one (q_ret (q_callTy (tup_of (fl := false)) tup_v rfl (c.fr 8 rfl) boot_tuple (q_acons (q_var rfl (.inl rfl) nd_spots nc_spots) q_anil rfl) (by decide) nd_tuple rfl rfl))))))
def b_m_word_spots : SM := (sSeq (sExpr (eApp m_check_word (aCons (eVarF 0) (aCons (eVarF 1) aNil))))
  (sSeq (sSetF 2 (eApp (f1F (gList true)) (aCons (eApp m_at_home (aCons (eVarF 1) aNil)) aNil)))
  (sSeq (sForF (iSeqX (eVarF 0)) (.nm 3) (sSeq (sSetF 4 (eBin (f2F gSub) (eApp (f1F gAbs) (aCons (eVarF 3) aNil)) (eC (.int 1))))
  (sAsg (eApp fTup (aCons (eBin (f2F gIxF) (eVarF 2) (eBin (fAdd false) (eVarF 4) (eC (.int 1)))) (aCons (eBin (f2F gIxF) (eVarF 2) (eVarF 4)) aNil))) (mTup 2 (mCons (mSubF (eVarF 2) (eVarF 4)) (mCons (mSubF (eVarF 2) (eBin (fAdd false) (eVarF 4) (eC (.int 1)))) mNil))))))
  (sRet (eApp (gTupOf false) (aCons (eVarF 2) aNil))))))
theorem eF_word_spots : b_m_word_spots = bS_m_word_spots := by simp only [b_m_word_spots, bS_m_word_spots, eVarF_eq, f2F_eq, f1F_eq, gIxF_eq, gLenF_eq, gEqF_eq, gNeF_eq, sSetF_eq, sParF_eq, eMethF_eq, mAppendF_eq, sSetIxF_eq, mSubF_eq, eCompF_eq, sForF_eq, wLoopF_eq]
def m_word_spots : Fn := mkDF 2 [none, none, none] b_m_word_spots
theorem mF_word_spots : m_word_spots = mS_word_spots := by
  unfold m_word_spots mS_word_spots
  rw [eF_word_spots]
  exact mkDF_eq rfl
theorem ok_word_spots {P : Program} {w : World} {K : PySem.W.Frag} {mg : Str → Option Value} {base : Heap} (c : Facts w K mg base) : ∃ fd, FunD K "word_spots" "word_spots" (defArgs s_word_spots) (defBody s_word_spots) (defScope s_word_spots) [] [] (He.ga K "word_spots") fd ∧ L2.Binds K fd ["word", "many"] [] ∧ FnOk P w K mg base (L2.CX P w) 3 (He.ga K "word_spots") fd ["word", "many"] (spF (gm K) m_word_spots) := by
  obtain ⟨fd, F, b, G⟩ := okS_word_spots (P := P) (w := w) c
  exact ⟨fd, F, b, by rw [mF_word_spots]; exact G⟩
/-! law -/
theorem sc_law : FnScope ["script", "dice", "many", "word", "due", "short", "ordered", "k", "far", "back", "place", "threes", "other"] ["script"] (defScope s_law) := ⟨rfl, rfl, rfl, by decide +kernel, rfl, by decide +kernel, by decide +kernel⟩
def bS_m_law : SM := (sSeq (sSet 2 (eBin (fAdd false) (eC (.int 2)) (eApp mRoll (aCons (eVar 1) (aCons (eC (.int 4)) aNil)))))
  (sSeq (sSet 3 (eApp (gTupOf false) (aCons (eCompG false [7] (srcD (iRg range1M (aCons (eApp mRoll (aCons (eVar 1) (aCons (eC (.int 9)) aNil))) aNil))) (.nm 7) cYes (eBin (fMulT false) (eBin (fAdd false) (eC (.int 1)) (eApp mRoll (aCons (eVar 1) (aCons (eBin (f2 gSub) (eVar 2) (eC (.int 1))) aNil)))) (eBin (f2 gIx) (eApp (fLst false) (aCons (eC (.int 1)) (aCons (eBin (f2 gSub) (eC (.int 0)) (eC (.int 1))) aNil))) (eApp mRoll (aCons (eVar 1) (aCons (eC (.int 2)) aNil)))))) aNil)))
  (sSeq (sSet 4 (eApp m_law_wound (aCons (eVar 3) (aCons (eVar 2) aNil))))
  (sSeq (sIf (eTest (eBin (f2 gNe) (eApp fTup (aCons (eApp m_word_spots (aCons (eVar 3) (aCons (eVar 2) aNil))) (aCons (eApp m_winding (aCons (eVar 3) (aCons (eVar 2) aNil))) aNil))) (eVar 4))) (sRet (eC (.bl false))) sNx)
  (sSeq (sTupN [5, 6] (aCons (eApp m_unwound (aCons (eVar 3) aNil)) (aCons (eApp m_sorted_word (aCons (eVar 3) aNil)) aNil)))
  (sSeq (sIf (tOrM (eTest (eBin (f2 gNe) (eApp m_law_wound (aCons (eVar 5) (aCons (eVar 2) aNil))) (eVar 4))) (eTest (eBin (f2 gNe) (eApp m_law_wound (aCons (eVar 6) (aCons (eVar 2) aNil))) (eVar 4)))) (sRet (eC (.bl false))) sNx)
  (sSeq (sIf (tOrM (eTest (eBin (f2 gNe) (eCompG false [7] (srcD (iRg range2M (aCons (eC (.int 1)) (aCons (eApp (f1 gLen) (aCons (eVar 5) aNil)) aNil)))) (.nm 7) (eTest (eBin (f2 gEq) (eBin (f2 gIx) (eVar 5) (eVar 7)) (eBin (f2 gSub) (eC (.int 0)) (eBin (f2 gIx) (eVar 5) (eBin (f2 gSub) (eVar 7) (eC (.int 1))))))) (eVar 7)) (eApp (fLst false) aNil))) (eTest (eBin (f2 gNe) (eApp m_unwound (aCons (eVar 5) aNil)) (eVar 5)))) (sRet (eC (.bl false))) sNx)
  (sSeq (sIf (tOrM (eTest (eBin (f2 gNe) (eBin (f2 gMod) (eBin (f2 gSub) (eApp (f1 gLen) (aCons (eVar 3) aNil)) (eApp (f1 gLen) (aCons (eVar 5) aNil))) (eC (.int 2))) (eC (.int 0)))) (eTest (eBin (f2 gNe) (eApp (f1 (gSortedX false)) (aCons (eVar 6) aNil)) (eApp (f1 (gSortedX false)) (aCons (eVar 3) aNil))))) (sRet (eC (.bl false))) sNx)
  (sSeq (sForG (srcD (iRg range2M (aCons (eC (.int 1)) (aCons (eApp (f1 gLen) (aCons (eVar 6) aNil)) aNil)))) (.nm 7) (sSeq (sSet 8 (eBin (f2 gGt) (eApp (f1 gAbs) (aCons (eBin (f2 gSub) (eApp (f1 gAbs) (aCons (eBin (f2 gIx) (eVar 6) (eVar 7)) aNil)) (eApp (f1 gAbs) (aCons (eBin (f2 gIx) (eVar 6) (eBin (f2 gSub) (eVar 7) (eC (.int 1)))) aNil))) aNil)) (eC (.int 1))))
  (sIf (tOrM (eTest (eBin (f2 gNe) (eApp m_is_far_commuting (aCons (eBin (f2 gIx) (eVar 6) (eVar 7)) (aCons (eBin (f2 gIx) (eVar 6) (eBin (f2 gSub) (eVar 7) (eC (.int 1)))) aNil))) (eVar 8))) (tAndM (eTest (eVar 8)) (eTest (eBin (f2 gLt) (eApp (f1 gAbs) (aCons (eBin (f2 gIx) (eVar 6) (eVar 7)) aNil)) (eApp (f1 gAbs) (aCons (eBin (f2 gIx) (eVar 6) (eBin (f2 gSub) (eVar 7) (eC (.int 1)))) aNil)))))) (sRet (eC (.bl false))) sNx)))
  (sSeq (sSet 9 (eApp m_danced_back (aCons (eVar 3) aNil)))
  (sSeq (sIf (tOrM (eTest (eBin (f2 gNe) (eApp m_unwound (aCons (eBin (fAdd false) (eVar 3) (eVar 9)) aNil)) (eApp fTup aNil))) (tOrM (eTest (eBin (f2 gNe) (eApp m_danced_back (aCons (eVar 9) aNil)) (eVar 3))) (eTest (eBin (f2 gNe) (eApp (f1 gLen) (aCons (eVar 9) aNil)) (eApp (f1 gLen) (aCons (eVar 3) aNil)))))) (sRet (eC (.bl false))) sNx)
  (sSeq (sSet 10 (eApp m_turned_threes (aCons (eVar 3) aNil)))
  (sSeq (sSet 11 (eCompG false [7] (srcD (iRg range1M (aCons (eBin (f2 gSub) (eApp (f1 gLen) (aCons (eVar 3) aNil)) (eC (.int 2))) aNil))) (.nm 7) (tAndM (eTest (eBin (f2 gEq) (eBin (f2 gIx) (eVar 3) (eVar 7)) (eBin (f2 gIx) (eVar 3) (eBin (fAdd false) (eVar 7) (eC (.int 2)))))) (tAndM (eTest (eBin (f2 gGt) (eBin (fMulT false) (eBin (f2 gIx) (eVar 3) (eVar 7)) (eBin (f2 gIx) (eVar 3) (eBin (fAdd false) (eVar 7) (eC (.int 1))))) (eC (.int 0)))) (eTest (eBin (f2 gEq) (eApp (f1 gAbs) (aCons (eBin (f2 gSub) (eApp (f1 gAbs) (aCons (eBin (f2 gIx) (eVar 3) (eVar 7)) aNil)) (eApp (f1 gAbs) (aCons (eBin (f2 gIx) (eVar 3) (eBin (fAdd false) (eVar 7) (eC (.int 1)))) aNil))) aNil)) (eC (.int 1)))))) (eVar 7)))
  (sSeq (sIf (eTest (eBin (f2 gNe) (eVar 10) (eIf (eTest (eBin (f2 gNe) (eVar 11) (eApp (fLst false) aNil))) (eBin (f2 gIx) (eVar 11) (eC (.int 0))) (eC .non)))) (sRet (eC (.bl false))) sNx)
  (sSeq (sIf (eTest (eBin (fIsN true) (eVar 10) (eC .non))) (sSeq (sSet 12 (eApp m_put_other (aCons (eVar 3) (aCons (eVar 10) aNil))))
  (sIf (tOrM (eTest (eBin (f2 gNe) (eApp m_law_wound (aCons (eVar 12) (aCons (eVar 2) aNil))) (eVar 4))) (tOrM (eTest (eBin (f2 gNe) (eApp m_put_other (aCons (eVar 12) (aCons (eVar 10) aNil))) (eVar 3))) (eTest (eBin (f2 gEq) (eVar 12) (eVar 3))))) (sRet (eC (.bl false))) sNx)) sNx)
  (sSeq (sIf (eTest (eBin (f2 gNe) (eTold rsL hsL (eApp m_put_other (aCons (eApp fTup (aCons (eC (.int 1)) (aCons (eC (.int 1)) (aCons (eC (.int 1)) aNil)))) (aCons (eC (.int 0)) aNil)))) (eC (.str [102, 105, 103, 117, 114, 101])))) (sRet (eC (.bl false))) sNx)
  (sSeq (sIf (eTest (eBin (f2 gNe) (eTold rsL hsL (eApp m_put_other (aCons (eVar 3) (aCons (eC (.int 9)) aNil)))) (eC (.str [102, 105, 103, 117, 114, 101])))) (sRet (eC (.bl false))) sNx)
  (sSeq (sIf (eTest (eBin (f2 gNe) (eTold rsL hsL (eApp m_word_spots (aCons (eApp fTup (aCons (eVar 2) aNil)) (aCons (eVar 2) aNil)))) (eC (.str [102, 105, 103, 117, 114, 101])))) (sRet (eC (.bl false))) sNx)
  (sSeq (sIf (eTest (eBin (f2 gNe) (eTold rsL hsL (eApp m_winding (aCons (eApp fTup (aCons (eC (.int 0)) aNil)) (aCons (eC (.int 3)) aNil)))) (eC (.str [102, 105, 103, 117, 114, 101])))) (sRet (eC (.bl false))) sNx)
  (sIf (tOrM (eTest (eBin (f2 gNe) (eApp m_put_other (aCons (eApp fTup (aCons (eC (.int 2)) (aCons (eC (.int 1)) (aCons (eC (.int 2)) aNil)))) (aCons (eC (.int 0)) aNil))) (eApp fTup (aCons (eC (.int 1)) (aCons (eC (.int 2)) (aCons (eC (.int 1)) aNil)))))) (eTest (eBin (f2 gNe) (eTold rsL hsL (eApp m_put_other (aCons (eApp fTup (aCons (eC (.int 1)) (aCons (eBin (f2 gSub) (eC (.int 0)) (eC (.int 2))) (aCons (eC (.int 1)) aNil)))) (aCons (eC (.int 0)) aNil)))) (eC (.str [102, 105, 103, 117, 114, 101]))))) (sRet (eC (.bl false))) sNx))))))))))))))))))))
theorem okS_law {P : Program} {w : World} {K : PySem.W.Frag} {mg : Str → Option Value} {base : Heap} (c : Facts w K mg base) (hr0 : ∀ ns : List Int, ∃ x y z st, b_m_law_rounds (none :: some (.d (.int 1)) :: some (.d (.lst ((ns.take 1).map D.int))) :: List.replicate 1 none) [] = .rt (.d (.lst [.lst (diceD x y z)])) st)
    (hm : ∀ x y z : Int, ∃ l, Agr rollM (diceD x y z) l ∧ ∃ sl st, bS_m_law (none :: some (.loc 0) :: List.replicate 11 none) [.orc l] = .nx sl st) :
    ∃ fd, FunD K "law" "law" (defArgs s_law) (defBody s_law) (defScope s_law) [] [] (He.ga K "law") fd ∧ FnOk P w K mg base (L2.CX P w) 7 (He.ga K "law") fd ["script"] (spLaw (gm K)) := by
  obtain ⟨fd, F⟩ := c.says.def_ 15 (d := d_law) rfl
  obtain ⟨fd_law_roll, F_law_roll, b_law_roll, G_law_roll⟩ := ok_law_roll (P := P) (w := w) c
  obtain ⟨fd_law_rounds, F_law_rounds, b_law_rounds, G_law_rounds⟩ := ok_law_rounds (P := P) (w := w) c hr0
  obtain ⟨fd_law_told, F_law_told⟩ := c.says.def_ 3 (d := d_law_told) rfl
  have b_law_told : L2.Binds K fd_law_told ["what"] [] := F_law_told.bindsN fun _ _ _ _ _ _ us hl => match us, hl with | [_], _ => rfl
  obtain ⟨fd_law_wound, F_law_wound, b_law_wound, G_law_wound⟩ := ok_law_wound (P := P) (w := w) c
  obtain ⟨fd_danced_back, F_danced_back, b_danced_back, G_danced_back⟩ := ok_danced_back (P := P) (w := w) c
  obtain ⟨fd_is_far_commuting, F_is_far_commuting, b_is_far_commuting, G_is_far_commuting⟩ := ok_is_far_commuting (P := P) (w := w) c
  obtain ⟨fd_put_other, F_put_other, b_put_other, G_put_other⟩ := ok_put_other (P := P) (w := w) c
  obtain ⟨fd_sorted_word, F_sorted_word, b_sorted_word, G_sorted_word⟩ := ok_sorted_word (P := P) (w := w) c
  obtain ⟨fd_turned_threes, F_turned_threes, b_turned_threes, G_turned_threes⟩ := ok_turned_threes (P := P) (w := w) c
  obtain ⟨fd_unwound, F_unwound, b_unwound, G_unwound⟩ := ok_unwound (P := P) (w := w) c
  obtain ⟨fd_winding, F_winding, b_winding, G_winding⟩ := ok_winding (P := P) (w := w) c
  obtain ⟨fd_word_spots, F_word_spots, b_word_spots, G_word_spots⟩ := ok_word_spots (P := P) (w := w) c
  obtain ⟨oc, od, dV, kV, doc, pm, an, cdv0, ct0, osl, efd, lk, hcd0, _, _⟩ := F.ex
  refine ⟨fd, F, law_okO (G := gm K) (n := 11) (b := bS_m_law) rfl F sc_law rfl rfl (fun cdv hcv hcd A outer s H E hr => ?_) hm⟩
  obtain ⟨ctv, ec⟩ := He.codeIn_ref hcd
  subst ec
  have e2 : He.codeOf K ("law", none) = ctv := He.codeOf_eq lk hcv
  have TB : LamX.TabB base mg ctv (He.cT K ("law", none)).2 := by rw [← e2]; exact c.tabs ("law", none) (.tail _ (.head _))
  have hcode : (Value.ref ctv) = .ref ctv := rfl
  have hmT : ((He.cT K ("law", none)).2, (envOfC "law" (defScope s_law) 0 0 .none).qual ++ "<lambda>") ∈ (gm K).T := (.tail _ (.head _))
  have hu := tab_uniq c.nodup hmT
  exact pss_cons (ps_for (passes_of rfl) rfl (pi_seq (pe_call (E := E) G_law_rounds (hr.mono (by decide)) rfl (c.g 36 rfl) F_law_rounds.kp b_law_rounds .nil (passes_call (takes_of rfl rfl rfl rfl) fun _ _ _ _ h => h) (pa_cons (pe_var rfl (.inl rfl) nd_script nc_script) (pa_cons pe_int pa_nil rfl) rfl) nd_law_rounds_u rfl rfl)) (pg_name sc_law.nd rfl (.inr rfl) (.inl rfl)) (tb := rdS (gm K) E bS_m_law)
    ((q_cons (q_set sc_law.nd rfl (.inr rfl) (.inl rfl) (q_op add_allX addX_v q_int (q_call G_law_roll (hr.mono (by decide)) rfl (c.g 21 rfl) F_law_roll.kp b_law_roll (takes_of rfl rfl rfl rfl) (q_acons (q_var rfl (.inr (.inl rfl)) nd_dice nc_dice) (q_acons q_int q_anil rfl) rfl) nd_law_roll_u rfl rfl)) rfl rfl)
  (q_cons (q_set sc_law.nd rfl (.inr rfl) (.inl rfl) (q_callTy (tup_of (fl := false)) tup_v rfl (c.fr 8 rfl) boot_tuple (q_acons (q_compG rfl rfl sc_law.nd (q_src (q_range1 rfl (c.fr 4 rfl) (q_acons (q_call G_law_roll (hr.mono (by decide)) rfl (c.g 21 rfl) F_law_roll.kp b_law_roll (takes_of rfl rfl rfl rfl) (q_acons (q_var rfl (.inr (.inl rfl)) nd_dice nc_dice) (q_acons q_int q_anil rfl) rfl) nd_law_roll_u rfl rfl) q_anil rfl) rfl)) (own := [("k", 7)]) (blkOk_by rfl) rfl (fun s H C cl fp => (pg_name sc_law.nd rfl (.inl rfl) (.inr rfl))) (fun s H C cl fp => q_yes) (fun s H C cl fp => (q_op mul_allT mulT_v (q_op add_allX addX_v q_int (q_call G_law_roll (hr.mono (by decide)) rfl (c.g 21 rfl) F_law_roll.kp b_law_roll LamX.takes0 (q_acons (q_var rfl (.inr (.inl rfl)) nd_dice nc_dice) (q_acons (q_op op_sub sub_v (q_var rfl (.inr (.inl rfl)) nd_many nc_many) q_int) q_anil rfl) rfl) nd_law_roll_u rfl rfl)) (q_ix ix_seq ix_v (q_lst (q_acons q_int (q_acons (q_op op_sub sub_v q_int q_int) q_anil rfl) rfl)) (q_call G_law_roll (hr.mono (by decide)) rfl (c.g 21 rfl) F_law_roll.kp b_law_roll LamX.takes0 (q_acons (q_var rfl (.inr (.inl rfl)) nd_dice nc_dice) (q_acons q_int q_anil rfl) rfl) nd_law_roll_u rfl rfl) (fun _ _ => rfl)))) (fun _ => rfl)) q_anil rfl) (by decide) nd_tuple rfl rfl) rfl rfl)
  (q_cons (q_set sc_law.nd rfl (.inl rfl) (.inl rfl) (q_call G_law_wound (hr.mono (by decide)) rfl (c.g 22 rfl) F_law_wound.kp b_law_wound (takes_of rfl rfl rfl rfl) (q_acons (q_var rfl (.inr (.inl rfl)) nd_word nc_word) (q_acons (q_var rfl (.inr (.inl rfl)) nd_many nc_many) q_anil rfl) rfl) nd_law_wound_u rfl rfl) rfl rfl)
  (q_cons (q_if (q_tcmp (op_neD hr.units) ne_v (q_tup (q_acons (q_call G_word_spots (hr.mono (by decide)) rfl (c.g 24 rfl) F_word_spots.kp b_word_spots (takes_of rfl rfl rfl rfl) (q_acons (q_var rfl (.inr (.inl rfl)) nd_word nc_word) (q_acons (q_var rfl (.inr (.inl rfl)) nd_many nc_many) q_anil rfl) rfl) nd_word_spots rfl rfl) (q_acons (q_call G_winding (hr.mono (by decide)) rfl (c.g 23 rfl) F_winding.kp b_winding (takes_of rfl rfl rfl rfl) (q_acons (q_var rfl (.inr (.inl rfl)) nd_word nc_word) (q_acons (q_var rfl (.inr (.inl rfl)) nd_many nc_many) q_anil rfl) rfl) nd_winding rfl rfl) q_anil rfl) rfl)) (q_var rfl (.inl rfl) nd_due nc_due) (nomark _)) (q_one (q_ret q_bl)) q_nil)
  (q_cons (q_tupN (is := [5, 6]) rfl rfl (q_acons (q_call G_unwound (hr.mono (by decide)) rfl (c.g 26 rfl) F_unwound.kp b_unwound (takes_of rfl rfl rfl rfl) (q_acons (q_var rfl (.inr (.inl rfl)) nd_word nc_word) q_anil rfl) nd_unwound rfl rfl) (q_acons (q_call G_sorted_word (hr.mono (by decide)) rfl (c.g 25 rfl) F_sorted_word.kp b_sorted_word (takes_of rfl rfl rfl rfl) (q_acons (q_var rfl (.inr (.inl rfl)) nd_word nc_word) q_anil rfl) nd_sorted_word rfl rfl) q_anil rfl) rfl) (pgs_cons (pg_name sc_law.nd rfl (.inr rfl) (.inl rfl)) (pgs_cons (pg_name sc_law.nd rfl (.inl rfl) (.inl rfl)) pgs_nil rfl) rfl) rfl rfl rfl rfl rfl)
  (q_cons (q_if (PW.pt (q_wor (q_tcmp (op_neD hr.units) ne_v (q_call G_law_wound (hr.mono (by decide)) rfl (c.g 22 rfl) F_law_wound.kp b_law_wound (takes_of rfl rfl rfl rfl) (q_acons (q_var rfl (.inr (.inl rfl)) nd_short nc_short) (q_acons (q_var rfl (.inr (.inl rfl)) nd_many nc_many) q_anil rfl) rfl) nd_law_wound_u rfl rfl) (q_var rfl (.inl rfl) nd_due nc_due) (nomark _)) (q_wor1 (q_tcmp (op_neD hr.units) ne_v (q_call G_law_wound (hr.mono (by decide)) rfl (c.g 22 rfl) F_law_wound.kp b_law_wound (takes_of rfl rfl rfl rfl) (q_acons (q_var rfl (.inl rfl) nd_ordered nc_ordered) (q_acons (q_var rfl (.inr (.inl rfl)) nd_many nc_many) q_anil rfl) rfl) nd_law_wound_u rfl rfl) (q_var rfl (.inl rfl) nd_due nc_due) (nomark _))))) (q_one (q_ret q_bl)) q_nil)
  (q_cons (q_if (PW.pt (q_wor (q_tcmp (op_neD hr.units) ne_v (q_compG rfl rfl sc_law.nd (q_src (q_range2 rfl (c.fr 4 rfl) (q_acons q_int (q_acons (q_callB len_all len_v rfl (c.fr 10 rfl) boot_len (q_acons (q_var rfl (.inr (.inl rfl)) nd_short nc_short) q_anil rfl) (by decide) nd_len rfl rfl) q_anil rfl) rfl) rfl rfl)) (own := [("k", 7)]) (blkOk_by rfl) rfl (fun s H C cl fp => (pg_name sc_law.nd rfl (.inl rfl) (.inr rfl))) (fun s H C cl fp => (q_test1 (q_tcmp (op_eqD hr.units) eq_v (q_ix ix_seq ix_v (q_var rfl (.inr (.inl rfl)) nd_short nc_short) (q_var rfl (.inl rfl) nd_k nc_k) (fun _ _ => rfl)) (q_op op_sub sub_v q_int (q_ix ix_seq ix_v (q_var rfl (.inr (.inl rfl)) nd_short nc_short) (q_op op_sub sub_v (q_var rfl (.inl rfl) nd_k nc_k) q_int) (fun _ _ => rfl))) (nomark _)))) (fun s H C cl fp => (q_var rfl (.inl rfl) nd_k nc_k)) (fun _ => rfl)) (q_lst q_anil) (nomark _)) (q_wor1 (q_tcmp (op_neD hr.units) ne_v (q_call G_unwound (hr.mono (by decide)) rfl (c.g 26 rfl) F_unwound.kp b_unwound (takes_of rfl rfl rfl rfl) (q_acons (q_var rfl (.inr (.inl rfl)) nd_short nc_short) q_anil rfl) nd_unwound rfl rfl) (q_var rfl (.inr (.inl rfl)) nd_short nc_short) (nomark _))))) (q_one (q_ret q_bl)) q_nil)
  (q_cons (q_if (PW.pt (q_wor (q_tcmp (op_neD hr.units) ne_v (q_op op_modN mod_v (q_op op_sub sub_v (q_callB len_all len_v rfl (c.fr 10 rfl) boot_len (q_acons (q_var rfl (.inr (.inl rfl)) nd_word nc_word) q_anil rfl) (by decide) nd_len rfl rfl) (q_callB len_all len_v rfl (c.fr 10 rfl) boot_len (q_acons (q_var rfl (.inr (.inl rfl)) nd_short nc_short) q_anil rfl) (by decide) nd_len rfl rfl)) q_int) q_int (nomark _)) (q_wor1 (q_tcmp (op_neD hr.units) ne_v (q_callB (sort_allX rfl (u65 hr)) sortedX_v rfl (c.fr 7 rfl) boot_sorted (q_acons (q_var rfl (.inl rfl) nd_ordered nc_ordered) q_anil rfl) (by decide) nd_sorted rfl rfl) (q_callB (sort_allX rfl (u65 hr)) sortedX_v rfl (c.fr 7 rfl) boot_sorted (q_acons (q_var rfl (.inr (.inl rfl)) nd_word nc_word) q_anil rfl) (by decide) nd_sorted rfl rfl) (nomark _))))) (q_one (q_ret q_bl)) q_nil)
  (q_cons (q_forG rfl (passes_of rfl) rfl (q_src (q_range2 rfl (c.fr 4 rfl) (q_acons q_int (q_acons (q_callB len_all len_v rfl (c.fr 10 rfl) boot_len (q_acons (q_var rfl (.inl rfl) nd_ordered nc_ordered) q_anil rfl) (by decide) nd_len rfl rfl) q_anil rfl) rfl) rfl rfl)) (pg_name sc_law.nd rfl (.inl rfl) (.inl rfl)) (q_cons (q_set sc_law.nd rfl (.inl rfl) (.inl rfl) (q_cmp op_gt gt_v (q_callB call_abs abs_v rfl (c.fr 1 rfl) boot_abs (q_acons (q_op op_sub sub_v (q_callB call_abs abs_v rfl (c.fr 1 rfl) boot_abs (q_acons (q_ix ix_seq ix_v (q_var rfl (.inl rfl) nd_ordered nc_ordered) (q_var rfl (.inl rfl) nd_k nc_k) (fun _ _ => rfl)) q_anil rfl) (by decide) nd_abs rfl rfl) (q_callB call_abs abs_v rfl (c.fr 1 rfl) boot_abs (q_acons (q_ix ix_seq ix_v (q_var rfl (.inl rfl) nd_ordered nc_ordered) (q_op op_sub sub_v (q_var rfl (.inl rfl) nd_k nc_k) q_int) (fun _ _ => rfl)) q_anil rfl) (by decide) nd_abs rfl rfl)) q_anil rfl) (by decide) nd_abs rfl rfl) q_int (nomark _)) rfl rfl)
  (q_one (q_if (PW.pt (q_wor (q_tcmp (op_neD hr.units) ne_v (q_call G_is_far_commuting (hr.mono (by decide)) rfl (c.g 14 rfl) F_is_far_commuting.kp b_is_far_commuting (takes_of rfl rfl rfl rfl) (q_acons (q_ix ix_seq ix_v (q_var rfl (.inl rfl) nd_ordered nc_ordered) (q_var rfl (.inl rfl) nd_k nc_k) (fun _ _ => rfl)) (q_acons (q_ix ix_seq ix_v (q_var rfl (.inl rfl) nd_ordered nc_ordered) (q_op op_sub sub_v (q_var rfl (.inl rfl) nd_k nc_k) q_int) (fun _ _ => rfl)) q_anil rfl) rfl) nd_is_far_commuting rfl rfl) (q_var rfl (.inl rfl) nd_far nc_far) (nomark _)) (q_wor1 (PW.pt (q_wand (q_tval (q_var rfl (.inl rfl) nd_far nc_far) (fun _ => rfl)) (q_wand1 (q_tcmp op_lt lt_v (q_callB call_abs abs_v rfl (c.fr 1 rfl) boot_abs (q_acons (q_ix ix_seq ix_v (q_var rfl (.inl rfl) nd_ordered nc_ordered) (q_var rfl (.inl rfl) nd_k nc_k) (fun _ _ => rfl)) q_anil rfl) (by decide) nd_abs rfl rfl) (q_callB call_abs abs_v rfl (c.fr 1 rfl) boot_abs (q_acons (q_ix ix_seq ix_v (q_var rfl (.inl rfl) nd_ordered nc_ordered) (q_op op_sub sub_v (q_var rfl (.inl rfl) nd_k nc_k) q_int) (fun _ _ => rfl)) q_anil rfl) (by decide) nd_abs rfl rfl) (nomark _)))))))) (q_one (q_ret q_bl)) q_nil))) (fun _ => rfl))
  (q_cons (q_set sc_law.nd rfl (.inl rfl) (.inl rfl) (q_call G_danced_back (hr.mono (by decide)) rfl (c.g 27 rfl) F_danced_back.kp b_danced_back (takes_of rfl rfl rfl rfl) (q_acons (q_var rfl (.inr (.inl rfl)) nd_word nc_word) q_anil rfl) nd_danced_back rfl rfl) rfl rfl)
  (q_cons (q_if (PW.pt (q_wor (q_tcmp (op_neD hr.units) ne_v (q_call G_unwound (hr.mono (by decide)) rfl (c.g 26 rfl) F_unwound.kp b_unwound (takes_of rfl rfl rfl rfl) (q_acons (q_op add_allX addX_v (q_var rfl (.inr (.inl rfl)) nd_word nc_word) (q_var rfl (.inl rfl) nd_back nc_back)) q_anil rfl) nd_unwound rfl rfl) (q_tup q_anil) (nomark _)) (q_wor (q_tcmp (op_neD hr.units) ne_v (q_call G_danced_back (hr.mono (by decide)) rfl (c.g 27 rfl) F_danced_back.kp b_danced_back (takes_of rfl rfl rfl rfl) (q_acons (q_var rfl (.inl rfl) nd_back nc_back) q_anil rfl) nd_danced_back rfl rfl) (q_var rfl (.inr (.inl rfl)) nd_word nc_word) (nomark _)) (q_wor1 (q_tcmp (op_neD hr.units) ne_v (q_callB len_all len_v rfl (c.fr 10 rfl) boot_len (q_acons (q_var rfl (.inl rfl) nd_back nc_back) q_anil rfl) (by decide) nd_len rfl rfl) (q_callB len_all len_v rfl (c.fr 10 rfl) boot_len (q_acons (q_var rfl (.inr (.inl rfl)) nd_word nc_word) q_anil rfl) (by decide) nd_len rfl rfl) (nomark _)))))) (q_one (q_ret q_bl)) q_nil)
  (q_cons (q_set sc_law.nd rfl (.inl rfl) (.inl rfl) (q_call G_turned_threes (hr.mono (by decide)) rfl (c.g 11 rfl) F_turned_threes.kp b_turned_threes (takes_of rfl rfl rfl rfl) (q_acons (q_var rfl (.inr (.inl rfl)) nd_word nc_word) q_anil rfl) nd_turned_threes rfl rfl) rfl rfl)
  (q_cons (q_setCompG rfl rfl sc_law.nd rfl rfl rfl (q_src (q_range1 rfl (c.fr 4 rfl) (q_acons (q_op op_sub sub_v (q_callB len_all len_v rfl (c.fr 10 rfl) boot_len (q_acons (q_var rfl (.inr (.inl rfl)) nd_word nc_word) q_anil rfl) (by decide) nd_len rfl rfl) q_int) q_anil rfl) rfl)) (own := [("k", 7)]) (blkOk_by rfl) rfl (fun s H C cl fp => (pg_name sc_law.nd rfl (.inl rfl) (.inr rfl))) (fun s H C cl fp => (q_test1 (PW.pt (q_wand (q_tcmp (op_eqD hr.units) eq_v (q_ix ix_seq ix_v (q_var rfl (.inr (.inl rfl)) nd_word nc_word) (q_var rfl (.inl rfl) nd_k nc_k) (fun _ _ => rfl)) (q_ix ix_seq ix_v (q_var rfl (.inr (.inl rfl)) nd_word nc_word) (q_op add_allX addX_v (q_var rfl (.inl rfl) nd_k nc_k) q_int) (fun _ _ => rfl)) (nomark _)) (q_wand (q_tcmp op_gt gt_v (q_op mul_allT mulT_v (q_ix ix_seq ix_v (q_var rfl (.inr (.inl rfl)) nd_word nc_word) (q_var rfl (.inl rfl) nd_k nc_k) (fun _ _ => rfl)) (q_ix ix_seq ix_v (q_var rfl (.inr (.inl rfl)) nd_word nc_word) (q_op add_allX addX_v (q_var rfl (.inl rfl) nd_k nc_k) q_int) (fun _ _ => rfl))) q_int (nomark _)) (q_wand1 (q_tcmp (op_eqD hr.units) eq_v (q_callB call_abs abs_v rfl (c.fr 1 rfl) boot_abs (q_acons (q_op op_sub sub_v (q_callB call_abs abs_v rfl (c.fr 1 rfl) boot_abs (q_acons (q_ix ix_seq ix_v (q_var rfl (.inr (.inl rfl)) nd_word nc_word) (q_var rfl (.inl rfl) nd_k nc_k) (fun _ _ => rfl)) q_anil rfl) (by decide) nd_abs rfl rfl) (q_callB call_abs abs_v rfl (c.fr 1 rfl) boot_abs (q_acons (q_ix ix_seq ix_v (q_var rfl (.inr (.inl rfl)) nd_word nc_word) (q_op add_allX addX_v (q_var rfl (.inl rfl) nd_k nc_k) q_int) (fun _ _ => rfl)) q_anil rfl) (by decide) nd_abs rfl rfl)) q_anil rfl) (by decide) nd_abs rfl rfl) q_int (nomark _)))))))) (fun s H C cl fp => (q_var rfl (.inl rfl) nd_k nc_k)) (fun _ => rfl))
  (q_cons (q_if (q_tcmp (op_neD hr.units) ne_v (q_var rfl (.inl rfl) nd_place nc_place) (q_ifE (q_tcmp (op_neD hr.units) ne_v (q_var rfl (.inl rfl) nd_threes nc_threes) (q_lst q_anil) (nomark _)) (q_ix ix_seq ix_v (q_var rfl (.inl rfl) nd_threes nc_threes) q_int (fun _ _ => rfl)) q_non) (nomark _)) (q_one (q_ret q_bl)) q_nil)
  (q_cons (q_if (q_tcmp op_notN notN_v (q_var rfl (.inl rfl) nd_place nc_place) q_non (nomark _)) (q_cons (q_set sc_law.nd rfl (.inl rfl) (.inl rfl) (q_call G_put_other (hr.mono (by decide)) rfl (c.g 28 rfl) F_put_other.kp b_put_other (takes_of rfl rfl rfl rfl) (q_acons (q_var rfl (.inr (.inl rfl)) nd_word nc_word) (q_acons (q_var rfl (.inl rfl) nd_place nc_place) q_anil rfl) rfl) nd_put_other rfl rfl) rfl rfl)
  (q_one (q_if (PW.pt (q_wor (q_tcmp (op_neD hr.units) ne_v (q_call G_law_wound (hr.mono (by decide)) rfl (c.g 22 rfl) F_law_wound.kp b_law_wound (takes_of rfl rfl rfl rfl) (q_acons (q_var rfl (.inl rfl) nd_other nc_other) (q_acons (q_var rfl (.inr (.inl rfl)) nd_many nc_many) q_anil rfl) rfl) nd_law_wound_u rfl rfl) (q_var rfl (.inl rfl) nd_due nc_due) (nomark _)) (q_wor (q_tcmp (op_neD hr.units) ne_v (q_call G_put_other (hr.mono (by decide)) rfl (c.g 28 rfl) F_put_other.kp b_put_other (takes_of rfl rfl rfl rfl) (q_acons (q_var rfl (.inl rfl) nd_other nc_other) (q_acons (q_var rfl (.inl rfl) nd_place nc_place) q_anil rfl) rfl) nd_put_other rfl rfl) (q_var rfl (.inr (.inl rfl)) nd_word nc_word) (nomark _)) (q_wor1 (q_tcmp (op_eqD hr.units) eq_v (q_var rfl (.inl rfl) nd_other nc_other) (q_var rfl (.inr (.inl rfl)) nd_word nc_word) (nomark _)))))) (q_one (q_ret q_bl)) q_nil))) q_nil)
  (q_cons (q_if (q_tcmp (op_neD hr.units) ne_v (q_told (rs := rsL) (hs := hsL) (k := 3) rfl F_law_told b_law_told sc_law_told rfl (.inl rfl) (fun cdg s H => hds_ok c P _ _ cdg s H) (told_ok K) (told_ex c) rfl (c.g 29 rfl) TB hcode hmT hu (hr.mono (by decide)) (LamX.lamS_by rfl) rfl (fun _ _ _ _ _ => rfl) (fun A outer s H E f c' hrl => (q_call G_put_other (hrl.mono (by decide)) rfl (c.g 28 rfl) F_put_other.kp b_put_other (takes_of rfl rfl rfl rfl) (q_acons (q_tup (q_acons q_int (q_acons q_int (q_acons q_int q_anil rfl) rfl) rfl)) (q_acons q_int q_anil rfl) rfl) nd_put_other rfl rfl)) nd_law_told_u nd_what nc_what) (q_str rfl) (nomark _)) (q_one (q_ret q_bl)) q_nil)
  (q_cons (q_if (q_tcmp (op_neD hr.units) ne_v (q_told (rs := rsL) (hs := hsL) (k := 3) rfl F_law_told b_law_told sc_law_told rfl (.inl rfl) (fun cdg s H => hds_ok c P _ _ cdg s H) (told_ok K) (told_ex c) rfl (c.g 29 rfl) TB hcode hmT hu (hr.mono (by decide)) (LamX.lamS_by rfl) rfl (fun _ _ _ _ _ => rfl) (fun A outer s H E f c' hrl => (q_call G_put_other (hrl.mono (by decide)) rfl (c.g 28 rfl) F_put_other.kp b_put_other (takes_of rfl rfl rfl rfl) (q_acons (q_var rfl (.inr (.inr rfl)) nd_word nc_word) (q_acons q_int q_anil rfl) rfl) nd_put_other rfl rfl)) nd_law_told_u nd_what nc_what) (q_str rfl) (nomark _)) (q_one (q_ret q_bl)) q_nil)
  (q_cons (q_if (q_tcmp (op_neD hr.units) ne_v (q_told (rs := rsL) (hs := hsL) (k := 3) rfl F_law_told b_law_told sc_law_told rfl (.inl rfl) (fun cdg s H => hds_ok c P _ _ cdg s H) (told_ok K) (told_ex c) rfl (c.g 29 rfl) TB hcode hmT hu (hr.mono (by decide)) (LamX.lamS_by rfl) rfl (fun _ _ _ _ _ => rfl) (fun A outer s H E f c' hrl => (q_call G_word_spots (hrl.mono (by decide)) rfl (c.g 24 rfl) F_word_spots.kp b_word_spots (takes_of rfl rfl rfl rfl) (q_acons (q_tup (q_acons (q_var rfl (.inr (.inr rfl)) nd_many nc_many) q_anil rfl)) (q_acons (q_var rfl (.inr (.inr rfl)) nd_many nc_many) q_anil rfl) rfl) nd_word_spots rfl rfl)) nd_law_told_u nd_what nc_what) (q_str rfl) (nomark _)) (q_one (q_ret q_bl)) q_nil)
  (q_cons (q_if (q_tcmp (op_neD hr.units) ne_v (q_told (rs := rsL) (hs := hsL) (k := 3) rfl F_law_told b_law_told sc_law_told rfl (.inl rfl) (fun cdg s H => hds_ok c P _ _ cdg s H) (told_ok K) (told_ex c) rfl (c.g 29 rfl) TB hcode hmT hu (hr.mono (by decide)) (LamX.lamS_by rfl) rfl (fun _ _ _ _ _ => rfl) (fun A outer s H E f c' hrl => (q_call G_winding (hrl.mono (by decide)) rfl (c.g 23 rfl) F_winding.kp b_winding (takes_of rfl rfl rfl rfl) (q_acons (q_tup (q_acons q_int q_anil rfl)) (q_acons q_int q_anil rfl) rfl) nd_winding rfl rfl)) nd_law_told_u nd_what nc_what) (q_str rfl) (nomark _)) (q_one (q_ret q_bl)) q_nil)
  (q_one (q_if (PW.pt (q_wor (q_tcmp (op_neD hr.units) ne_v (q_call G_put_other (hr.mono (by decide)) rfl (c.g 28 rfl) F_put_other.kp b_put_other (takes_of rfl rfl rfl rfl) (q_acons (q_tup (q_acons q_int (q_acons q_int (q_acons q_int q_anil rfl) rfl) rfl)) (q_acons q_int q_anil rfl) rfl) nd_put_other rfl rfl) (q_tup (q_acons q_int (q_acons q_int (q_acons q_int q_anil rfl) rfl) rfl)) (nomark _)) (q_wor1 (q_tcmp (op_neD hr.units) ne_v (q_told (rs := rsL) (hs := hsL) (k := 3) rfl F_law_told b_law_told sc_law_told rfl (.inl rfl) (fun cdg s H => hds_ok c P _ _ cdg s H) (told_ok K) (told_ex c) rfl (c.g 29 rfl) TB hcode hmT hu (hr.mono (by decide)) (LamX.lamS_by rfl) rfl (fun _ _ _ _ _ => rfl) (fun A outer s H E f c' hrl => (q_call G_put_other (hrl.mono (by decide)) rfl (c.g 28 rfl) F_put_other.kp b_put_other (takes_of rfl rfl rfl rfl) (q_acons (q_tup (q_acons q_int (q_acons (q_op op_sub sub_v q_int q_int) (q_acons q_int q_anil rfl) rfl) rfl)) (q_acons q_int q_anil rfl) rfl) nd_put_other rfl rfl)) nd_law_told_u nd_what nc_what) (q_str rfl) (nomark _))))) (q_one (q_ret q_bl)) q_nil)))))))))))))))))))))) (fun _ => rfl)) (pss_one (ps_ret pe_bl))
def b_m_law : SM := (sSeq (sSetF 2 (eBin (fAdd false) (eC (.int 2)) (eApp mRoll (aCons (eVarF 1) (aCons (eC (.int 4)) aNil)))))
  (sSeq (sSetF 3 (eApp (gTupOf false) (aCons (eCompF false [7] (srcD (iRg range1M (aCons (eApp mRoll (aCons (eVarF 1) (aCons (eC (.int 9)) aNil))) aNil))) (.nm 7) cYes (eBin (fMulT false) (eBin (fAdd false) (eC (.int 1)) (eApp mRoll (aCons (eVarF 1) (aCons (eBin (f2F gSub) (eVarF 2) (eC (.int 1))) aNil)))) (eBin (f2F gIxF) (eApp (fLst false) (aCons (eC (.int 1)) (aCons (eBin (f2F gSub) (eC (.int 0)) (eC (.int 1))) aNil))) (eApp mRoll (aCons (eVarF 1) (aCons (eC (.int 2)) aNil)))))) aNil)))
  (sSeq (sSetF 4 (eApp m_law_wound (aCons (eVarF 3) (aCons (eVarF 2) aNil))))
  (sSeq (sIf (eTest (eBin (f2F gNeF) (eApp fTup (aCons (eApp m_word_spots (aCons (eVarF 3) (aCons (eVarF 2) aNil))) (aCons (eApp m_winding (aCons (eVarF 3) (aCons (eVarF 2) aNil))) aNil))) (eVarF 4))) (sRet (eC (.bl false))) sNx)
  (sSeq (sTupN [5, 6] (aCons (eApp m_unwound (aCons (eVarF 3) aNil)) (aCons (eApp m_sorted_word (aCons (eVarF 3) aNil)) aNil)))
  (sSeq (sIf (tOrM (eTest (eBin (f2F gNeF) (eApp m_law_wound (aCons (eVarF 5) (aCons (eVarF 2) aNil))) (eVarF 4))) (eTest (eBin (f2F gNeF) (eApp m_law_wound (aCons (eVarF 6) (aCons (eVarF 2) aNil))) (eVarF 4)))) (sRet (eC (.bl false))) sNx)
  (sSeq (sIf (tOrM (eTest (eBin (f2F gNeF) (eCompF false [7] (srcD (iRg range2M (aCons (eC (.int 1)) (aCons (eApp (f1F gLenF) (aCons (eVarF 5) aNil)) aNil)))) (.nm 7) (eTest (eBin (f2F gEqF) (eBin (f2F gIxF) (eVarF 5) (eVarF 7)) (eBin (f2F gSub) (eC (.int 0)) (eBin (f2F gIxF) (eVarF 5) (eBin (f2F gSub) (eVarF 7) (eC (.int 1))))))) (eVarF 7)) (eApp (fLst false) aNil))) (eTest (eBin (f2F gNeF) (eApp m_unwound (aCons (eVarF 5) aNil)) (eVarF 5)))) (sRet (eC (.bl false))) sNx)
  (sSeq (sIf (tOrM (eTest (eBin (f2F gNeF) (eBin (f2F gMod) (eBin (f2F gSub) (eApp (f1F gLenF) (aCons (eVarF 3) aNil)) (eApp (f1F gLenF) (aCons (eVarF 5) aNil))) (eC (.int 2))) (eC (.int 0)))) (eTest (eBin (f2F gNeF) (eApp (f1F (gSortedX false)) (aCons (eVarF 6) aNil)) (eApp (f1F (gSortedX false)) (aCons (eVarF 3) aNil))))) (sRet (eC (.bl false))) sNx)
  (sSeq (sForF (srcD (iRg range2M (aCons (eC (.int 1)) (aCons (eApp (f1F gLenF) (aCons (eVarF 6) aNil)) aNil)))) (.nm 7) (sSeq (sSetF 8 (eBin (f2F gGt) (eApp (f1F gAbs) (aCons (eBin (f2F gSub) (eApp (f1F gAbs) (aCons (eBin (f2F gIxF) (eVarF 6) (eVarF 7)) aNil)) (eApp (f1F gAbs) (aCons (eBin (f2F gIxF) (eVarF 6) (eBin (f2F gSub) (eVarF 7) (eC (.int 1)))) aNil))) aNil)) (eC (.int 1))))
  (sIf (tOrM (eTest (eBin (f2F gNeF) (eApp m_is_far_commuting (aCons (eBin (f2F gIxF) (eVarF 6) (eVarF 7)) (aCons (eBin (f2F gIxF) (eVarF 6) (eBin (f2F gSub) (eVarF 7) (eC (.int 1)))) aNil))) (eVarF 8))) (tAndM (eTest (eVarF 8)) (eTest (eBin (f2F gLt) (eApp (f1F gAbs) (aCons (eBin (f2F gIxF) (eVarF 6) (eVarF 7)) aNil)) (eApp (f1F gAbs) (aCons (eBin (f2F gIxF) (eVarF 6) (eBin (f2F gSub) (eVarF 7) (eC (.int 1)))) aNil)))))) (sRet (eC (.bl false))) sNx)))
  (sSeq (sSetF 9 (eApp m_danced_back (aCons (eVarF 3) aNil)))
  (sSeq (sIf (tOrM (eTest (eBin (f2F gNeF) (eApp m_unwound (aCons (eBin (fAdd false) (eVarF 3) (eVarF 9)) aNil)) (eApp fTup aNil))) (tOrM (eTest (eBin (f2F gNeF) (eApp m_danced_back (aCons (eVarF 9) aNil)) (eVarF 3))) (eTest (eBin (f2F gNeF) (eApp (f1F gLenF) (aCons (eVarF 9) aNil)) (eApp (f1F gLenF) (aCons (eVarF 3) aNil)))))) (sRet (eC (.bl false))) sNx)
  (sSeq (sSetF 10 (eApp m_turned_threes (aCons (eVarF 3) aNil)))
  (sSeq (sSetF 11 (eCompF false [7] (srcD (iRg range1M (aCons (eBin (f2F gSub) (eApp (f1F gLenF) (aCons (eVarF 3) aNil)) (eC (.int 2))) aNil))) (.nm 7) (tAndM (eTest (eBin (f2F gEqF) (eBin (f2F gIxF) (eVarF 3) (eVarF 7)) (eBin (f2F gIxF) (eVarF 3) (eBin (fAdd false) (eVarF 7) (eC (.int 2)))))) (tAndM (eTest (eBin (f2F gGt) (eBin (fMulT false) (eBin (f2F gIxF) (eVarF 3) (eVarF 7)) (eBin (f2F gIxF) (eVarF 3) (eBin (fAdd false) (eVarF 7) (eC (.int 1))))) (eC (.int 0)))) (eTest (eBin (f2F gEqF) (eApp (f1F gAbs) (aCons (eBin (f2F gSub) (eApp (f1F gAbs) (aCons (eBin (f2F gIxF) (eVarF 3) (eVarF 7)) aNil)) (eApp (f1F gAbs) (aCons (eBin (f2F gIxF) (eVarF 3) (eBin (fAdd false) (eVarF 7) (eC (.int 1)))) aNil))) aNil)) (eC (.int 1)))))) (eVarF 7)))
  (sSeq (sIf (eTest (eBin (f2F gNeF) (eVarF 10) (eIf (eTest (eBin (f2F gNeF) (eVarF 11) (eApp (fLst false) aNil))) (eBin (f2F gIxF) (eVarF 11) (eC (.int 0))) (eC .non)))) (sRet (eC (.bl false))) sNx)
  (sSeq (sIf (eTest (eBin (fIsN true) (eVarF 10) (eC .non))) (sSeq (sSetF 12 (eApp m_put_other (aCons (eVarF 3) (aCons (eVarF 10) aNil))))
  (sIf (tOrM (eTest (eBin (f2F gNeF) (eApp m_law_wound (aCons (eVarF 12) (aCons (eVarF 2) aNil))) (eVarF 4))) (tOrM (eTest (eBin (f2F gNeF) (eApp m_put_other (aCons (eVarF 12) (aCons (eVarF 10) aNil))) (eVarF 3))) (eTest (eBin (f2F gEqF) (eVarF 12) (eVarF 3))))) (sRet (eC (.bl false))) sNx)) sNx)
  (sSeq (sIf (eTest (eBin (f2F gNeF) (eTold rsL hsL (eApp m_put_other (aCons (eApp fTup (aCons (eC (.int 1)) (aCons (eC (.int 1)) (aCons (eC (.int 1)) aNil)))) (aCons (eC (.int 0)) aNil)))) (eC (.str [102, 105, 103, 117, 114, 101])))) (sRet (eC (.bl false))) sNx)
  (sSeq (sIf (eTest (eBin (f2F gNeF) (eTold rsL hsL (eApp m_put_other (aCons (eVarF 3) (aCons (eC (.int 9)) aNil)))) (eC (.str [102, 105, 103, 117, 114, 101])))) (sRet (eC (.bl false))) sNx)
  (sSeq (sIf (eTest (eBin (f2F gNeF) (eTold rsL hsL (eApp m_word_spots (aCons (eApp fTup (aCons (eVarF 2) aNil)) (aCons (eVarF 2) aNil)))) (eC (.str [102, 105, 103, 117, 114, 101])))) (sRet (eC (.bl false))) sNx)
  (sSeq (sIf (eTest (eBin (f2F gNeF) (eTold rsL hsL (eApp m_winding (aCons (eApp fTup (aCons (eC (.int 0)) aNil)) (aCons (eC (.int 3)) aNil)))) (eC (.str [102, 105, 103, 117, 114, 101])))) (sRet (eC (.bl false))) sNx)
  (sIf (tOrM (eTest (eBin (f2F gNeF) (eApp m_put_other (aCons (eApp fTup (aCons (eC (.int 2)) (aCons (eC (.int 1)) (aCons (eC (.int 2)) aNil)))) (aCons (eC (.int 0)) aNil))) (eApp fTup (aCons (eC (.int 1)) (aCons (eC (.int 2)) (aCons (eC (.int 1)) aNil)))))) (eTest (eBin (f2F gNeF) (eTold rsL hsL (eApp m_put_other (aCons (eApp fTup (aCons (eC (.int 1)) (aCons (eBin (f2F gSub) (eC (.int 0)) (eC (.int 2))) (aCons (eC (.int 1)) aNil)))) (aCons (eC (.int 0)) aNil)))) (eC (.str [102, 105, 103, 117, 114, 101]))))) (sRet (eC (.bl false))) sNx))))))))))))))))))))
theorem eF_law : b_m_law = bS_m_law := by simp only [b_m_law, bS_m_law, eVarF_eq, f2F_eq, f1F_eq, gIxF_eq, gLenF_eq, gEqF_eq, gNeF_eq, sSetF_eq, sParF_eq, eMethF_eq, mAppendF_eq, sSetIxF_eq, mSubF_eq, eCompF_eq, sForF_eq, wLoopF_eq]
theorem ok_law {P : Program} {w : World} {K : PySem.W.Frag} {mg : Str → Option Value} {base : Heap} (c : Facts w K mg base) (hr0 : ∀ ns : List Int, ∃ x y z st, b_m_law_rounds (none :: some (.d (.int 1)) :: some (.d (.lst ((ns.take 1).map D.int))) :: List.replicate 1 none) [] = .rt (.d (.lst [.lst (diceD x y z)])) st)
    (hm : ∀ x y z : Int, ∃ l, Agr rollM (diceD x y z) l ∧ ∃ sl st, b_m_law (none :: some (.loc 0) :: List.replicate 11 none) [.orc l] = .nx sl st) :
    ∃ fd, FunD K "law" "law" (defArgs s_law) (defBody s_law) (defScope s_law) [] [] (He.ga K "law") fd ∧ FnOk P w K mg base (L2.CX P w) 7 (He.ga K "law") fd ["script"] (spLaw (gm K)) := okS_law c hr0 (by rw [← eF_law]; exact hm)
end
end DHk08
namespace DHk08
/-! ### words of passes: who stands where, how each two have wound -/
def swapF (g : Nat → Nat) (k : Nat) : Nat → Nat := fun i => if i = k then g (k + 1) else if i = k + 1 then g k else g i
def bump (f : Nat → Nat → Int) (i j : Nat) (c : Int) : Nat → Nat → Int := fun a b => if a = i ∧ b = j then f a b + c else f a b
def sgn (x : Int) : Int := if 0 < x then 1 else -1
abbrev S : Type := (Nat → Nat) × (Nat → Nat → Int)
def at_ (x : Int) : Nat := x.natAbs - 1
def step (s : S) (x : Int) : S := (swapF s.1 (at_ x), bump s.2 (min (s.1 (at_ x)) (s.1 (at_ x + 1))) (max (s.1 (at_ x)) (s.1 (at_ x + 1))) (sgn x))
theorem bump_comm (f : Nat → Nat → Int) (i j : Nat) (c : Int) (k l : Nat) (d : Int) : bump (bump f i j c) k l d = bump (bump f k l d) i j c := by
  funext a b
  unfold bump
  by_cases h1 : a = i ∧ b = j <;> by_cases h2 : a = k ∧ b = l <;> simp only [h1, h2, if_true, if_false, and_self] <;> omega
theorem bump_back (f : Nat → Nat → Int) (i j : Nat) (c : Int) : bump (bump f i j c) i j (-c) = f := by
  funext a b
  unfold bump
  by_cases h1 : a = i ∧ b = j
  · simp only [h1, and_self, if_true]; omega
  · simp only [h1, if_false]
theorem swap_l (g : Nat → Nat) (k : Nat) : swapF g k k = g (k + 1) := by unfold swapF; simp
theorem swap_r (g : Nat → Nat) (k : Nat) : swapF g k (k + 1) = g k := by unfold swapF; simp
theorem swap_o (g : Nat → Nat) {k i : Nat} (h1 : i ≠ k) (h2 : i ≠ k + 1) : swapF g k i = g i := by unfold swapF; simp [h1, h2]
theorem swap_back (g : Nat → Nat) (k : Nat) : swapF (swapF g k) k = g := by
  funext i
  by_cases h1 : i = k
  · rw [h1, swap_l, swap_r]
  · by_cases h2 : i = k + 1
    · rw [h2, swap_r, swap_l]
    · rw [swap_o _ h1 h2, swap_o _ h1 h2]
theorem sgn_neg {x : Int} (h : x ≠ 0) : sgn (-x) = -sgn x := by
  unfold sgn
  by_cases h1 : 0 < x
  · rw [if_pos h1, if_neg (by omega)]
  · rw [if_neg h1, if_pos (by omega)]; rfl
theorem at_neg (x : Int) : at_ (-x) = at_ x := by unfold at_; rw [Int.natAbs_neg]
theorem step_cancel {x : Int} (h : x ≠ 0) (s : S) : step (step s x) (-x) = s := by
  obtain ⟨g, f⟩ := s
  unfold step
  simp only [at_neg, swap_back, swap_l, swap_r, sgn_neg h]
  rw [Nat.min_comm (g (at_ x + 1)), Nat.max_comm (g (at_ x + 1)), bump_back]
theorem swap_far (g : Nat → Nat) {k l : Nat} (h : k + 1 < l) : swapF (swapF g k) l = swapF (swapF g l) k := by
  funext i
  by_cases h1 : i = k
  · rw [h1, swap_o _ (by omega) (by omega), swap_l, swap_l, swap_o _ (by omega) (by omega)]
  · by_cases h2 : i = k + 1
    · rw [h2, swap_o _ (by omega) (by omega), swap_r, swap_r, swap_o _ (by omega) (by omega)]
    · rw [swap_o (swapF g l) h1 h2]
      by_cases h3 : i = l
      · rw [h3, swap_l, swap_l, swap_o _ (by omega) (by omega)]
      · by_cases h4 : i = l + 1
        · rw [h4, swap_r, swap_r, swap_o _ (by omega) (by omega)]
        · rw [swap_o _ h3 h4, swap_o _ h3 h4, swap_o _ h1 h2]
theorem step_far1 {x y : Int} (h : at_ x + 1 < at_ y) (s : S) : step (step s x) y = step (step s y) x := by
  obtain ⟨g, f⟩ := s
  unfold step
  simp only [swap_far g h]
  rw [swap_o g (i := at_ y) (by omega) (by omega), swap_o g (i := at_ y + 1) (by omega) (by omega), swap_o g (i := at_ x) (by omega) (by omega), swap_o g (i := at_ x + 1) (by omega) (by omega), bump_comm]
def far (x y : Int) : Prop := 1 < ((x.natAbs : Int) - (y.natAbs : Int)).natAbs
instance (x y : Int) : Decidable (far x y) := inferInstanceAs (Decidable (_ < _))
theorem step_far {x y : Int} (hx : x ≠ 0) (hy : y ≠ 0) (h : far x y) (s : S) : step (step s x) y = step (step s y) x := by
  unfold far at h
  have e : at_ x + 1 < at_ y ∨ at_ y + 1 < at_ x := by unfold at_; omega
  rcases e with e | e
  · exact step_far1 e s
  · exact (step_far1 e s).symm
theorem step_braid1 {x y : Int} (h : at_ y = at_ x + 1) (hs : sgn y = sgn x) (s : S) : step (step (step s x) y) x = step (step (step s y) x) y := by
  obtain ⟨g, f⟩ := s
  unfold step
  simp only [h, hs]
  have e1 : swapF g (at_ x) (at_ x + 1 + 1) = g (at_ x + 2) := swap_o _ (by omega) (by omega)
  have e2 : swapF g (at_ x + 1) (at_ x) = g (at_ x) := swap_o _ (by omega) (by omega)
  have e3 : swapF g (at_ x + 1) (at_ x + 1 + 1) = g (at_ x + 1) := swap_r _ _
  have e4 : swapF (swapF g (at_ x)) (at_ x + 1) (at_ x) = g (at_ x + 1) := by rw [swap_o _ (by omega) (by omega), swap_l]
  have e5 : swapF (swapF g (at_ x + 1)) (at_ x) (at_ x + 1 + 1) = g (at_ x + 1) := by rw [swap_o _ (by omega) (by omega), e3]
  simp only [swap_l, swap_r, e1, e2, e3, e4, e5]
  refine Prod.ext ?_ ?_
  · funext i
    show swapF (swapF (swapF g (at_ x)) (at_ x + 1)) (at_ x) i = swapF (swapF (swapF g (at_ x + 1)) (at_ x)) (at_ x + 1) i
    by_cases h1 : i = at_ x
    · rw [h1, swap_l, swap_l, e1, swap_o _ (by omega) (by omega), swap_l, swap_l]
    · by_cases h2 : i = at_ x + 1
      · rw [h2, swap_r, e4, swap_l, e5]
      · by_cases h3 : i = at_ x + 1 + 1
        · rw [h3, swap_o _ (by omega) (by omega), swap_r, swap_r, swap_r, swap_r, e2]
        · rw [swap_o _ h1 h2, swap_o _ h2 h3, swap_o _ h1 h2, swap_o _ h2 h3, swap_o _ h1 h2, swap_o _ h2 h3]
  · show bump (bump (bump f _ _ _) _ _ _) _ _ _ = bump (bump (bump f _ _ _) _ _ _) _ _ _
    rw [bump_comm (bump f (min (g (at_ x)) (g (at_ x + 1))) _ _), bump_comm f (min (g (at_ x)) (g (at_ x + 1))), bump_comm (bump f (min (g (at_ x + 1)) _) _ _)]
def like (x y : Int) : Prop := 0 < x * y ∧ ((x.natAbs : Int) - (y.natAbs : Int)).natAbs = 1
instance (x y : Int) : Decidable (like x y) := inferInstanceAs (Decidable (_ ∧ _))
theorem like_sgn {x y : Int} (h : like x y) : x ≠ 0 ∧ y ≠ 0 ∧ sgn x = sgn y := by
  obtain ⟨h, _⟩ := h
  rcases Int.lt_trichotomy x 0 with hx | hx | hx
  · rcases Int.lt_trichotomy y 0 with hy | hy | hy
    · exact ⟨by omega, by omega, by unfold sgn; rw [if_neg (by omega), if_neg (by omega)]⟩
    · rw [hy, Int.mul_zero] at h; omega
    · have := Int.mul_neg_of_neg_of_pos hx hy; omega
  · rw [hx, Int.zero_mul] at h; omega
  · rcases Int.lt_trichotomy y 0 with hy | hy | hy
    · have := Int.mul_neg_of_pos_of_neg hx hy; omega
    · rw [hy, Int.mul_zero] at h; omega
    · exact ⟨by omega, by omega, by unfold sgn; rw [if_pos hx, if_pos hy]⟩
theorem step_braid {x y : Int} (h : like x y) (s : S) : step (step (step s x) y) x = step (step (step s y) x) y := by
  obtain ⟨hx, hy, hs⟩ := like_sgn h
  have h2 := h.2
  have e : at_ y = at_ x + 1 ∨ at_ x = at_ y + 1 := by unfold at_; omega
  rcases e with e | e
  · exact step_braid1 e hs.symm s
  · exact (step_braid1 e hs s).symm
/-! ### unwound: a stack, its top first -/
def push (s : List Int) (x : Int) : List Int := match s with
  | [] => [x]
  | y :: t => if y = -x then t else x :: y :: t
def Rd : List Int → Prop
  | [] => True
  | x :: t => (match t with
    | [] => True
    | y :: _ => y ≠ -x) ∧ Rd t
theorem push_rd {s : List Int} (x : Int) (h : Rd s) : Rd (push s x) := by
  cases s with
  | nil => exact ⟨trivial, trivial⟩
  | cons y t =>
    unfold push
    by_cases e : y = -x
    · simp only [if_pos e]; exact h.2
    · simp only [if_neg e]; exact ⟨e, h⟩
theorem push_cancel {s : List Int} (x : Int) (h : Rd s) : push (push s x) (-x) = s := by
  cases s with
  | nil => unfold push; simp [push]
  | cons y t =>
    by_cases e : y = -x
    · have e1 : push (y :: t) x = t := by unfold push; simp only [if_pos e]
      rw [e1]
      cases t with
      | nil => rw [e]; rfl
      | cons z r =>
        have hz : z ≠ -y := h.1
        have : push (z :: r) (-x) = -x :: z :: r := by
          unfold push
          simp only [if_neg (show ¬ z = - -x by omega)]
        rw [this, e]
    · have e1 : push (y :: t) x = x :: y :: t := by unfold push; simp only [if_neg e]
      rw [e1]
      show (if x = - -x then y :: t else _) = _
      rw [if_pos (by omega)]
def redS (w : List Int) : List Int := w.foldl push []
theorem fold_rd : ∀ (w s : List Int), Rd s → Rd (w.foldl push s)
  | [], _, h => h
  | x :: w, s, h => fold_rd w (push s x) (push_rd x h)
theorem red_rd (w : List Int) : Rd (redS w) := fold_rd w [] trivial
theorem push_top {s : List Int} {x : Int} (h : Rd (x :: s)) : push s x = x :: s := by
  cases s with
  | nil => rfl
  | cons y t =>
    have : y ≠ -x := h.1
    unfold push
    simp only [if_neg this]
theorem red_self : ∀ {s : List Int}, Rd s → redS s.reverse = s
  | [], _ => rfl
  | x :: s, h => by
    have ih := red_self h.2
    unfold redS at ih ⊢
    rw [List.reverse_cons, List.foldl_append, ih]
    exact push_top h
def back (w : List Int) : List Int := w.reverse.map fun x => -x
theorem back_cons (x : Int) (w : List Int) : back (x :: w) = back w ++ [-x] := by unfold back; rw [List.reverse_cons, List.map_append]; rfl
theorem fold_back : ∀ (w s : List Int), Rd s → (back w).foldl push (w.foldl push s) = s
  | [], s, _ => rfl
  | x :: w, s, h => by
    rw [back_cons, List.foldl_append]
    show [-x].foldl push ((back w).foldl push (w.foldl push (push s x))) = s
    rw [fold_back w (push s x) (push_rd x h)]
    exact push_cancel x h
theorem red_back (w : List Int) : redS (w ++ back w) = [] := by
  unfold redS
  rw [List.foldl_append]
  exact fold_back w [] trivial
theorem back_back (w : List Int) : back (back w) = w := by
  unfold back
  rw [← List.map_reverse, List.reverse_reverse, List.map_map]
  have : ((fun x : Int => -x) ∘ fun x => -x) = id := by funext x; show - -x = x; omega
  rw [this, List.map_id]
theorem back_len (w : List Int) : (back w).length = w.length := by unfold back; rw [List.length_map, List.length_reverse]
def Nz (w : List Int) : Prop := ∀ x ∈ w, x ≠ 0
theorem push_nz {s : List Int} {x : Int} (h : Nz s) (hx : x ≠ 0) : Nz (push s x) := by
  cases s with
  | nil => intro z hz; have : z = x := by simpa [push] using hz
           rw [this]; exact hx
  | cons y t =>
    unfold push
    by_cases e : y = -x
    · simp only [if_pos e]; exact fun z hz => h z (.tail _ hz)
    · simp only [if_neg e]
      intro z hz
      rcases List.mem_cons.mp hz with rfl | hz
      · exact hx
      · exact h z hz
theorem push_step {s : List Int} {x : Int} (hx : x ≠ 0) (a : S) : (push s x).reverse.foldl step a = step (s.reverse.foldl step a) x := by
  cases s with
  | nil => rfl
  | cons y t =>
    unfold push
    by_cases e : y = -x
    · simp only [if_pos e]
      rw [List.reverse_cons, List.foldl_append, e]
      show _ = step (step _ (-x)) x
      have := step_cancel (x := -x) (by omega) (t.reverse.foldl step a)
      rw [show - -x = x by omega] at this
      exact this.symm
    · simp only [if_neg e]
      rw [List.reverse_cons, List.foldl_append]
      rfl
theorem red_step (a : S) : ∀ (w s : List Int), Nz w → (w.foldl push s).reverse.foldl step a = w.foldl step (s.reverse.foldl step a)
  | [], s, _ => rfl
  | x :: w, s, h => by
    rw [List.foldl_cons, red_step a w (push s x) (fun z hz => h z (.tail _ hz)), push_step (h x (.head _))]
    rfl
theorem push_len (s : List Int) (x : Int) : (push s x).length = s.length + 1 ∨ (push s x).length + 1 = s.length := by
  cases s with
  | nil => exact .inl rfl
  | cons y t =>
    unfold push
    by_cases e : y = -x
    · simp only [if_pos e]; exact .inr rfl
    · simp only [if_neg e]; exact .inl rfl
theorem fold_len : ∀ (w s : List Int), (w.foldl push s).length ≤ w.length + s.length ∧ (w.length + s.length - (w.foldl push s).length) % 2 = 0
  | [], s => ⟨by simp, by simp⟩
  | x :: w, s => by
    have h1 := fold_len w (push s x)
    have h2 := push_len s x
    have h3 : (x :: w).length = w.length + 1 := rfl
    rw [List.foldl_cons, h3]
    omega
theorem fold_nz : ∀ (w s : List Int), Nz w → Nz s → Nz (w.foldl push s)
  | [], _, _, h => h
  | x :: w, s, hw, h => fold_nz w (push s x) (fun z hz => hw z (.tail _ hz)) (push_nz h (hw x (.head _)))
theorem push_mem {s : List Int} {x z : Int} (h : z ∈ push s x) : z = x ∨ z ∈ s := by
  cases s with
  | nil => exact .inl (by simpa [push] using h)
  | cons y t =>
    unfold push at h
    by_cases e : y = -x
    · simp only [if_pos e] at h; exact .inr (.tail _ h)
    · simp only [if_neg e] at h; exact List.mem_cons.mp h
theorem fold_mem {z : Int} : ∀ (w s : List Int), z ∈ w.foldl push s → z ∈ w ∨ z ∈ s
  | [], _, h => .inr h
  | x :: w, s, h => by
    rcases fold_mem w (push s x) h with h | h
    · exact .inl (.tail _ h)
    · rcases push_mem h with h | h
      · exact .inl (by rw [h]; exact .head _)
      · exact .inr h
/-! ### sorted_word: what lies before the hand, the hand, what lies behind -/
def bad (a b : Int) : Prop := far a b ∧ b.natAbs < a.natAbs
instance (a b : Int) : Decidable (bad a b) := inferInstanceAs (Decidable (_ ∧ _))
def OkL : List Int → Prop
  | [] => True
  | a :: t => (match t with
    | [] => True
    | b :: _ => ¬ bad a b) ∧ OkL t
theorem okL_snoc : ∀ (p : List Int) (a b : Int), OkL (p ++ [a]) → ¬ bad a b → OkL (p ++ [a, b])
  | [], a, b, _, h => ⟨h, trivial, trivial⟩
  | [c], a, b, h, h2 => ⟨h.1, h2, trivial, trivial⟩
  | c :: d :: p, a, b, h, h2 => ⟨h.1, okL_snoc (d :: p) a b h.2 h2⟩
theorem okL_pre : ∀ (p q : List Int), OkL (p ++ q) → OkL p
  | [], _, _ => trivial
  | [c], q, _ => ⟨trivial, trivial⟩
  | c :: d :: p, q, h => ⟨h.1, okL_pre (d :: p) q h.2⟩
def wt : List Int → Nat
  | [] => 0
  | x :: t => x.natAbs * (t.length + 1) + wt t
theorem wt_swap (a b : Int) (q : List Int) : ∀ p : List Int, wt (p ++ b :: a :: q) + a.natAbs = wt (p ++ a :: b :: q) + b.natAbs
  | [] => by
    show b.natAbs * (q.length + 1 + 1) + (a.natAbs * (q.length + 1) + wt q) + a.natAbs = a.natAbs * (q.length + 1 + 1) + (b.natAbs * (q.length + 1) + wt q) + b.natAbs
    rw [Nat.mul_succ b.natAbs (q.length + 1), Nat.mul_succ a.natAbs (q.length + 1)]
    omega
  | c :: p => by
    have ih := wt_swap a b q p
    have hl : (p ++ b :: a :: q).length = (p ++ a :: b :: q).length := by simp
    show c.natAbs * ((p ++ b :: a :: q).length + 1) + wt (p ++ b :: a :: q) + a.natAbs = c.natAbs * ((p ++ a :: b :: q).length + 1) + wt (p ++ a :: b :: q) + b.natAbs
    rw [hl]
    omega
theorem wt_low {n : Nat} : ∀ l : List Int, (∀ x ∈ l, x.natAbs ≤ n) → wt l ≤ n * (l.length * (l.length + 1))
  | [], _ => by show 0 ≤ _; omega
  | x :: t, h => by
    have ih := wt_low (n := n) t fun z hz => h z (.tail _ hz)
    have hx := h x (.head _)
    have h1 : x.natAbs * (t.length + 1) ≤ n * (t.length + 1) := Nat.mul_le_mul_right _ hx
    show x.natAbs * (t.length + 1) + wt t ≤ n * ((t.length + 1) * (t.length + 1 + 1))
    have h2 : (t.length + 1) * (t.length + 1 + 1) = t.length * (t.length + 1) + (t.length + 1) + (t.length + 1) := by
      rw [Nat.mul_succ, Nat.succ_mul]
    have h3 : ∀ A B : Nat, n * (A + B + B) = n * A + n * B + n * B := fun A B => by rw [Nat.mul_add, Nat.mul_add]
    rw [h2, h3]
    generalize x.natAbs * (t.length + 1) = P at *
    generalize n * (t.length + 1) = Q at *
    generalize n * (t.length * (t.length + 1)) = R at *
    omega
/-- what the loop keeps: the same winding, the same letters -/
structure Same (w l : List Int) : Prop where
  fold : ∀ a : S, l.foldl step a = w.foldl step a
  perm : l.Perm w
theorem Same.refl (w : List Int) : Same w w := ⟨fun _ => rfl, .refl _⟩
theorem Same.swap {w p q : List Int} {a b : Int} (h : Same w (p ++ a :: b :: q)) (hz : Nz w) (hb : bad a b) : Same w (p ++ b :: a :: q) := by
  have hz' : Nz (p ++ a :: b :: q) := fun x hx => hz x (h.perm.mem_iff.mp hx)
  have ha : a ≠ 0 := hz' a (by simp)
  have hb0 : b ≠ 0 := hz' b (by simp)
  refine ⟨fun s => ?_, ?_⟩
  · rw [← h.fold s, List.foldl_append, List.foldl_append]
    show q.foldl step (step (step _ b) a) = q.foldl step (step (step _ a) b)
    rw [step_far ha hb0 hb.1]
  · refine List.Perm.trans ?_ h.perm
    exact List.Perm.append_left p (List.Perm.swap a b q)
/-! ### the three -/
theorem fold_three (p q : List Int) {x y : Int} (h : like x y) (s : S) : (p ++ x :: y :: x :: q).foldl step s = (p ++ y :: x :: y :: q).foldl step s := by
  rw [List.foldl_append, List.foldl_append]
  show q.foldl step (step (step (step _ x) y) x) = q.foldl step (step (step (step _ y) x) y)
  rw [step_braid h]
theorem like_symm {x y : Int} (h : like x y) : like y x := ⟨by rw [Int.mul_comm]; exact h.1, by have := h.2; omega⟩
theorem like_ne {x y : Int} (h : like x y) : x ≠ y := fun e => by
  have := h.2
  rw [e] at this
  omega
end DHk08
namespace DHk08
open DH
/-! ### sorted, for what is told apart by its order -/
section
variable {α : Type} {le : α → α → Bool}
theorem sortB_perm (T : PySem.W.TotalLe le) (l : List α) : (sortB le l).Perm l := by rw [sortB_eq T]; exact List.mergeSort_perm l le
theorem sortB_pw (T : PySem.W.TotalLe le) (l : List α) : (sortB le l).Pairwise (fun a b => le a b = true) := by
  rw [sortB_eq T]
  exact List.pairwise_mergeSort T.trans (fun a b => by rcases T.total a b with h | h <;> simp [h]) l
theorem sort_perm (T : PySem.W.TotalLe le) (A : ∀ a b, le a b = true → le b a = true → a = b) {l m : List α} (h : l.Perm m) : sortB le l = sortB le m :=
  List.Perm.eq_of_pairwise (fun a b _ _ h1 h2 => A a b h1 h2) (sortB_pw T l) (sortB_pw T m) (((sortB_perm T l).trans h).trans (sortB_perm T m).symm)
theorem ins_map {β : Type} (f : α → β) {le' : β → β → Bool} (h : ∀ a b, le' (f a) (f b) = le a b) (x : α) : ∀ l : List α, insB le' (f x) (l.map f) = (insB le x l).map f
  | [] => rfl
  | y :: l => by
    show (match le' (f x) (f y) with | true => f x :: f y :: l.map f | false => f y :: insB le' (f x) (l.map f)) = (match le x y with | true => x :: y :: l | false => y :: insB le x l).map f
    rw [h, ins_map f h x l]
    cases le x y <;> rfl
theorem sort_map {β : Type} (f : α → β) {le' : β → β → Bool} (h : ∀ a b, le' (f a) (f b) = le a b) : ∀ l : List α, sortB le' (l.map f) = (sortB le l).map f
  | [] => rfl
  | x :: l => by
    show insB le' (f x) (sortB le' (l.map f)) = _
    rw [sort_map f h l, ins_map f h]
    rfl
end
/-! ### ints -/
def leI (i j : Int) : Bool := !ltI j i
theorem ltI_iff (i j : Int) : ltI i j = true ↔ i < j := by
  unfold ltI
  first
    | exact decide_eq_true_iff
    | (split <;> simp <;> omega)
theorem leI_iff (i j : Int) : leI i j = true ↔ i ≤ j := by
  unfold leI
  have := ltI_iff j i
  cases q : ltI j i with
  | true => rw [q] at this; simp at this; simp; omega
  | false => rw [q] at this; simp at this; simp; omega
theorem leI_total : PySem.W.TotalLe leI := ⟨fun a b c h1 h2 => by rw [leI_iff] at *; omega, fun a b => by rw [leI_iff, leI_iff]; omega⟩
theorem sortI_perm {l m : List Int} (h : l.Perm m) : sortB leD (l.map D.int) = sortB leD (m.map D.int) := by
  rw [sort_map D.int (le := leI) (fun _ _ => rfl), sort_map D.int (le := leI) (fun _ _ => rfl), sort_perm leI_total (fun a b h1 h2 => by rw [leI_iff] at *; omega) h]
/-! ### pairs -/
abbrev Pr : Type := Nat × Nat
def kD (p : Pr) : D := .tup false [nD p.1, nD p.2]
def leP (p q : Pr) : Bool := leD (kD p) (kD q)
theorem leP_iff (p q : Pr) : leP p q = true ↔ (p.1 < q.1 ∨ (p.1 = q.1 ∧ p.2 ≤ q.2)) := by
  have e : leP p q = !lexB [.inl 1, .inl (Int.ofNat q.1), .inl 1, .inl (Int.ofNat q.2), .inl 0] [.inl 1, .inl (Int.ofNat p.1), .inl 1, .inl (Int.ofNat p.2), .inl 0] := rfl
  have hs : ∀ (x : Int) (r t : List Tok), lexB (.inl x :: r) (.inl x :: t) = lexB r t := fun x r t => by
    show (match ltI x x with | true => true | false => (match ltI x x with | true => false | false => lexB r t)) = _
    have : ltI x x = false := by
      cases q : ltI x x with
      | false => rfl
      | true => rw [ltI_iff] at q; omega
    rw [this]
  have hl : ∀ (a b : Nat) (r t : List Tok), lexB (.inl (Int.ofNat a) :: r) (.inl (Int.ofNat b) :: t) = true ↔ (a < b ∨ (a = b ∧ lexB r t = true)) := fun a b r t => by
    show (match ltI (Int.ofNat a) (Int.ofNat b) with | true => true | false => (match ltI (Int.ofNat b) (Int.ofNat a) with | true => false | false => lexB r t)) = true ↔ _
    have h1 := ltI_iff (Int.ofNat a) (Int.ofNat b)
    have h2 := ltI_iff (Int.ofNat b) (Int.ofNat a)
    have ea : (Int.ofNat a : Int) = (a : Int) := rfl
    have eb : (Int.ofNat b : Int) = (b : Int) := rfl
    cases q : ltI (Int.ofNat a) (Int.ofNat b) with
    | true =>
      rw [q] at h1
      have : a < b := by have := h1.mp rfl; omega
      simp [this]
    | false =>
      rw [q] at h1
      have n1 : ¬ a < b := fun z => by have := h1.mpr (by omega); cases this
      cases q2 : ltI (Int.ofNat b) (Int.ofNat a) with
      | true =>
        rw [q2] at h2
        have : b < a := by have := h2.mp rfl; omega
        simp
        omega
      | false =>
        rw [q2] at h2
        have n2 : ¬ b < a := fun z => by have := h2.mpr (by omega); cases this
        have : a = b := by omega
        simp [this]
  rw [e, hs]
  have h0 := hl q.1 p.1 [.inl 1, .inl (Int.ofNat q.2), .inl 0] [.inl 1, .inl (Int.ofNat p.2), .inl 0]
  rw [hs] at h0
  have h3 := hl q.2 p.2 [.inl 0] [.inl 0]
  have h4 : lexB [.inl 0] [.inl 0] = false := by rw [hs]; rfl
  rw [h4] at h3
  cases z : lexB [.inl (Int.ofNat q.1), .inl 1, .inl (Int.ofNat q.2), .inl 0] [.inl (Int.ofNat p.1), .inl 1, .inl (Int.ofNat p.2), .inl 0] with
  | true =>
    rw [z] at h0
    have := h0.mp rfl
    rw [h3] at this
    simp
    simp at this
    omega
  | false =>
    rw [z] at h0
    have : ¬ (q.1 < p.1 ∨ q.1 = p.1 ∧ q.2 < p.2) := fun w => by
      have := h0.mpr (by rw [h3]; simpa using w)
      cases this
    simp
    omega
theorem leP_total : PySem.W.TotalLe leP := ⟨fun a b c h1 h2 => by rw [leP_iff] at *; omega, fun a b => by rw [leP_iff, leP_iff]; omega⟩
theorem leP_anti (a b : Pr) (h1 : leP a b = true) (h2 : leP b a = true) : a = b := by
  rw [leP_iff] at *
  exact Prod.ext (by omega) (by omega)
/-! ### the dict -/
abbrev Es : Type := List (Pr × Int)
def encE (es : Es) : List (D × D) := es.map fun e => (kD e.1, D.int e.2)
def eqP (p q : Pr) : Bool := Nat.beq p.1 q.1 && Nat.beq p.2 q.2
theorem eqP_iff {p q : Pr} : eqP p q = true ↔ p = q := by
  unfold eqP
  rw [Bool.and_eq_true, Nat.beq_eq, Nat.beq_eq]
  exact ⟨fun h => Prod.ext h.1 h.2, fun h => by rw [h]; exact ⟨rfl, rfl⟩⟩
theorem eqK_pair (p q : Pr) : eqK (kD p) (kD q) = eqP p q := by
  show all2 eqK1 [nD p.1, nD p.2] [nD q.1, nD q.2] = _
  unfold eqP
  show (match eqI (Int.ofNat p.1) (Int.ofNat q.1) with | true => (match eqI (Int.ofNat p.2) (Int.ofNat q.2) with | true => true | false => false) | false => false) = _
  rw [eqI_nat, eqI_nat]
  cases Nat.beq p.1 q.1 <;> cases Nat.beq p.2 q.2 <;> rfl
def look (p : Pr) : Es → Option Int
  | [] => none
  | e :: r => (match eqP e.1 p with
    | true => some e.2
    | false => look p r)
theorem find_enc (p : Pr) : ∀ es : Es, findD (kD p) (encE es) = (look p es).map D.int
  | [] => rfl
  | e :: r => by
    show (match eqK (kD e.1) (kD p) with | true => some (D.int e.2) | false => findD (kD p) (encE r)) = (match eqP e.1 p with | true => some e.2 | false => look p r).map D.int
    rw [eqK_pair, find_enc p r]
    cases eqP e.1 p <;> rfl
def mapP (p : Pr) (c : Int) : Es → Es
  | [] => []
  | e :: r => (match eqP e.1 p with
    | true => (e.1, c) :: mapP p c r
    | false => e :: mapP p c r)
def putP (p : Pr) (c : Int) (es : Es) : Es := match look p es with
  | some _ => mapP p c es
  | none => es ++ [(p, c)]
theorem map_enc (p : Pr) (c : Int) : ∀ es : Es, mapD (kD p) (.int c) (encE es) = encE (mapP p c es)
  | [] => rfl
  | e :: r => by
    show (match eqK (kD e.1) (kD p) with | true => (kD e.1, D.int c) :: mapD (kD p) (.int c) (encE r) | false => (kD e.1, D.int e.2) :: mapD (kD p) (.int c) (encE r)) = encE (match eqP e.1 p with | true => (e.1, c) :: mapP p c r | false => e :: mapP p c r)
    rw [eqK_pair, map_enc p c r]
    cases eqP e.1 p <;> rfl
theorem put_enc (p : Pr) (c : Int) (es : Es) : putD (kD p) (.int c) (encE es) = encE (putP p c es) := by
  unfold putD putP
  rw [find_enc]
  cases look p es with
  | none => show encE es ++ [(kD p, D.int c)] = encE (es ++ [(p, c)]); unfold encE; rw [List.map_append]; rfl
  | some _ => exact map_enc p c es
def val (es : Es) (p : Pr) : Int := (look p es).getD 0
theorem look_mem {p : Pr} : ∀ {es : Es}, (look p es).isSome = true ↔ p ∈ es.map (·.1)
  | [] => by simp [look]
  | e :: r => by
    unfold look
    cases q : eqP e.1 p with
    | true => have := eqP_iff.mp q; simp [this]
    | false =>
      have : e.1 ≠ p := fun z => by rw [eqP_iff.mpr z] at q; cases q
      simp only [List.map_cons, List.mem_cons]
      rw [look_mem (es := r)]
      exact ⟨.inr, fun z => z.elim (fun w => absurd w.symm this) id⟩
theorem look_map {p q : Pr} {c : Int} : ∀ {es : Es}, look q (mapP p c es) = if q = p then (look q es).map (fun _ => c) else look q es
  | [] => by simp [look, mapP]
  | e :: r => by
    have ih := look_map (p := p) (q := q) (c := c) (es := r)
    unfold mapP
    cases h : eqP e.1 p with
    | true =>
      have e1 := eqP_iff.mp h
      show (match eqP e.1 q with | true => some c | false => look q (mapP p c r)) = _
      rw [ih]
      show _ = if q = p then (match eqP e.1 q with | true => some e.2 | false => look q r).map (fun _ => c) else (match eqP e.1 q with | true => some e.2 | false => look q r)
      cases h2 : eqP e.1 q with
      | true => have e2 := eqP_iff.mp h2; rw [← e1, ← e2]; simp
      | false => rfl
    | false =>
      show (match eqP e.1 q with | true => some e.2 | false => look q (mapP p c r)) = _
      rw [ih]
      show _ = if q = p then (match eqP e.1 q with | true => some e.2 | false => look q r).map (fun _ => c) else (match eqP e.1 q with | true => some e.2 | false => look q r)
      cases h2 : eqP e.1 q with
      | true =>
        have e2 := eqP_iff.mp h2
        have : q ≠ p := fun z => by rw [← z, h2] at h; cases h
        rw [if_neg this, if_neg this]
      | false => rfl
theorem look_app {p q : Pr} {c : Int} : ∀ {es : Es}, look q (es ++ [(p, c)]) = match look q es with | some x => some x | none => if q = p then some c else none
  | [] => by
    show (match eqP p q with | true => some c | false => none) = if q = p then some c else none
    cases h : eqP p q with
    | true => rw [if_pos (eqP_iff.mp h).symm]
    | false => rw [if_neg fun z => by rw [eqP_iff.mpr z.symm] at h; cases h]
  | e :: r => by
    show (match eqP e.1 q with | true => some e.2 | false => look q (r ++ [(p, c)])) = match (match eqP e.1 q with | true => some e.2 | false => look q r) with | some x => some x | none => _
    rw [look_app (es := r)]
    cases eqP e.1 q <;> rfl
theorem val_put (p q : Pr) (c : Int) (es : Es) : val (putP p c es) q = if q = p then c else val es q := by
  unfold val putP
  cases h : look p es with
  | some x =>
    show (look q (mapP p c es)).getD 0 = _
    rw [look_map]
    by_cases e : q = p
    · rw [if_pos e, if_pos e, e, h]; rfl
    · rw [if_neg e, if_neg e]
  | none =>
    show (look q (es ++ [(p, c)])).getD 0 = _
    rw [look_app]
    by_cases e : q = p
    · rw [if_pos e, if_pos e, e, h]; rfl
    · rw [if_neg e, if_neg e]
      cases look q es <;> rfl
theorem mapP_keys (p : Pr) (c : Int) : ∀ es : Es, (mapP p c es).map (·.1) = es.map (·.1)
  | [] => rfl
  | e :: r => by
    unfold mapP
    cases eqP e.1 p <;> simp only [List.map_cons, mapP_keys p c r]
theorem put_nodup {p : Pr} {c : Int} {es : Es} (h : (es.map (·.1)).Nodup) : ((putP p c es).map (·.1)).Nodup := by
  unfold putP
  cases q : look p es with
  | some x => show ((mapP p c es).map (·.1)).Nodup; rw [mapP_keys]; exact h
  | none =>
    show ((es ++ [(p, c)]).map (·.1)).Nodup
    rw [List.map_append]
    refine List.nodup_append.mpr ⟨h, by simp, fun a ha b hb => ?_⟩
    have hb : b = p := by simpa using hb
    intro e
    rw [e, hb] at ha
    have := look_mem.mpr ha
    rw [q] at this
    cases this
theorem put_len {p : Pr} {c : Int} {es : Es} : (putP p c es).length ≤ es.length + 1 := by
  unfold putP
  cases look p es with
  | some x =>
    show (mapP p c es).length ≤ _
    have := congrArg List.length (mapP_keys p c es)
    simp only [List.length_map] at this
    omega
  | none => show (es ++ [(p, c)]).length ≤ _; simp
def nzB (es : Es) (p : Pr) : Bool := !eqI (val es p) 0
def resK (es : Es) : List Pr := (sortB leP (es.map (·.1))).filter (nzB es)
def resD (es : Es) : D := .tup false ((resK es).map fun p => .tup false [kD p, .int (val es p)])
theorem val_out {es : Es} {p : Pr} (h : p ∉ es.map (·.1)) : val es p = 0 := by
  unfold val
  cases q : look p es with
  | none => rfl
  | some x => exact absurd (look_mem.mp (by rw [q]; rfl)) h
theorem eqI_iff (i j : Int) : eqI i j = true ↔ i = j := by rw [eqI_eq, beq_iff_eq]
theorem resK_mem {es : Es} {p : Pr} : p ∈ resK es ↔ val es p ≠ 0 := by
  unfold resK
  rw [List.mem_filter, (sortB_perm leP_total _).mem_iff]
  unfold nzB
  have := eqI_iff (val es p) 0
  cases q : eqI (val es p) 0 with
  | true => rw [q] at this; simp [this.mp rfl]
  | false =>
    rw [q] at this
    have hne : val es p ≠ 0 := fun z => by have := this.mpr z; cases this
    simp only [Bool.not_false, and_true]
    refine ⟨fun _ => hne, fun _ => ?_⟩
    by_cases h : p ∈ es.map (·.1)
    · exact h
    · exact absurd (val_out h) hne
theorem resK_eq {es fs : Es} (h1 : (es.map (·.1)).Nodup) (h2 : (fs.map (·.1)).Nodup) (h : ∀ p, val es p = val fs p) : resK es = resK fs := by
  have n1 : (resK es).Nodup := ((sortB_perm leP_total _).nodup_iff.mpr h1).sublist List.filter_sublist
  have n2 : (resK fs).Nodup := ((sortB_perm leP_total _).nodup_iff.mpr h2).sublist List.filter_sublist
  refine List.Perm.eq_of_pairwise (le := fun a b => leP a b = true) (fun a b _ _ h1 h2 => leP_anti a b h1 h2) ?_ ?_ ((List.perm_ext_iff_of_nodup n1 n2).mpr fun p => by rw [resK_mem, resK_mem, h])
  · exact (sortB_pw leP_total _).sublist List.filter_sublist
  · exact (sortB_pw leP_total _).sublist List.filter_sublist
theorem resD_eq {es fs : Es} (h1 : (es.map (·.1)).Nodup) (h2 : (fs.map (·.1)).Nodup) (h : ∀ p, val es p = val fs p) : resD es = resD fs := by
  unfold resD
  rw [resK_eq h1 h2 h]
  have : (fun p => D.tup false [kD p, .int (val es p)]) = fun p => D.tup false [kD p, .int (val fs p)] := by funext p; rw [h]
  rw [this]
end DHk08
noncomputable section
namespace DHk08
open PySem PySem.Spec PyProof.Rows L2 DH
/-! ### the mirrors, by what they do -/
def spD (m : Nat) (g : Nat → Nat) : List D := (upN 0 m).map fun i => nD (g i)
def letters (m : Nat) : List Int := match m with
  | 2 => [1, -1]
  | 3 => [1, -1, 2, -2]
  | 4 => [1, -1, 2, -2, 3, -3]
  | 5 => [1, -1, 2, -2, 3, -3, 4, -4]
  | _ => []
def mnI (a b : Nat) : Int := match ltI (Int.ofNat b) (Int.ofNat a) with
  | true => Int.ofNat b
  | false => Int.ofNat a
def mxI (a b : Nat) : Int := match ltI (Int.ofNat a) (Int.ofNat b) with
  | true => Int.ofNat b
  | false => Int.ofNat a
theorem mn_eq (a b : Nat) : mnI a b = Int.ofNat (min a b) := by
  unfold mnI
  have := ltI_iff (Int.ofNat b) (Int.ofNat a)
  cases q : ltI (Int.ofNat b) (Int.ofNat a) with
  | true =>
    rw [q] at this
    have : b < a := by have := this.mp rfl; exact Int.ofNat_lt.mp this
    rw [Nat.min_eq_right (by omega)]
  | false =>
    rw [q] at this
    have : ¬ b < a := fun z => by have := this.mpr (Int.ofNat_lt.mpr z); cases this
    rw [Nat.min_eq_left (by omega)]
theorem mx_eq (a b : Nat) : mxI a b = Int.ofNat (max a b) := by
  unfold mxI
  have := ltI_iff (Int.ofNat a) (Int.ofNat b)
  cases q : ltI (Int.ofNat a) (Int.ofNat b) with
  | true =>
    rw [q] at this
    have : a < b := by have := this.mp rfl; exact Int.ofNat_lt.mp this
    rw [Nat.max_eq_right (by omega)]
  | false =>
    rw [q] at this
    have : ¬ a < b := fun z => by have := this.mpr (Int.ofNat_lt.mpr z); cases this
    rw [Nat.max_eq_left (by omega)]
theorem pair_eq (a b : Nat) : (D.tup false [.int (mnI a b), .int (mxI a b)]) = kD (min a b, max a b) := by rw [mn_eq, mx_eq]; rfl
theorem look_val (es : Es) (p : Pr) (st : Store) : (match some ((look p es).map D.int) with
    | some (some d) => O.ok (X.d d) st
    | some none => .ok (.d (.int 0)) st
    | none => .bad) = .ok (.d (.int (val es p))) st := by
  unfold val
  cases look p es <;> rfl
theorem dput_run {sl : Slots} {st : Store} {i j l : Nat} {p : Pr} {es : Es} {e : EM DH.X} {c : Int} (h1 : sl[i]? = some (some (.loc l))) (h2 : sl[j]? = some (some (.d (kD p)))) (h3 : st[l]? = some (.dct true (encE es))) (he : e sl st = .ok (.d (.int c)) st) (hz : es.length ≤ 50) :
    sDPutM (eBin (fAdd false) (eDGet2 (eVar i) (eVar j) (eC (.int 0))) e) (eVar i) (eVar j) sl st = .nx sl (st.set l (.dct true (encE (putP p (val es p + c) es)))) := by
  have hd : deref st (.loc l) = some (.dct true (encE es)) := by simp only [deref, h3]
  have hk : keyOk true (kD p) = true := rfl
  have e1 : (eDGet2 (eVar i) (eVar j) (eC (.int 0)) : EM DH.X) sl st = .ok (.d (.int (val es p))) st := by
    unfold eDGet2
    rw [eVar_at h1]
    show (match isDct st (.loc l) with | false => O.bad | true => _) = _
    have : isDct st (.loc l) = true := by unfold isDct; rw [hd]
    rw [this]
    show ((eVar j sl st).bind _) = _
    rw [eVar_at h2]
    show (match lookD st (.loc l) (.d (kD p)) with | some (some d) => O.ok (X.d d) st | some none => .ok (.d (.int 0)) st | none => .bad) = _
    have : lookD st (.loc l) (.d (kD p)) = some ((look p es).map D.int) := by
      unfold lookD
      rw [hd]
      show (match keyOk true (kD p) with | true => some (findD (kD p) (encE es)) | false => none) = _
      rw [hk, find_enc]
    rw [this]
    exact look_val es p st
  unfold sDPutM
  rw [bin_at (o := .ok (.d (.int (val es p + c))) st) e1 he rfl]
  show ((eVar i sl st).s _) = _
  rw [eVar_at h1]
  show ((eVar j sl st).s _) = _
  rw [eVar_at h2]
  show (match DH.putAt (.loc l) (.d (kD p)) (.d (.int (val es p + c))) st with | some st4 => SO.nx sl st4 | none => .bad) = _
  have : DH.putAt (.loc l) (.d (kD p)) (.d (.int (val es p + c))) st = some (st.set l (.dct true (encE (putP p (val es p + c) es)))) := by
    unfold DH.putAt
    simp only [h3, hk, Bool.true_and]
    have hs : small ((encE es).length + 1) = true := Nat.ble_eq_true_of_le (by unfold encE; rw [List.length_map]; omega)
    rw [hs, put_enc]
  rw [this]
/-! ### _law_wound -/
abbrev sg0 : EM DH.X := eIf (eTest (eBin (f2 gGt) (eVar 4) (eC (.int 0)))) (eC (.int 1)) (eBin (f2 gSub) (eC (.int 0)) (eC (.int 1)))
abbrev sg1 : EM DH.X := eIf (eTest (eBin (f2 gGt) (eVar 4) (eC (.int 0)))) (eC (.int 1)) (eNeg (eC (.int 1)))
/-- a turn: the spots in slot i, the dict in slot j -/
abbrev turn (i j : Nat) (sg : EM DH.X) : SM := (sSeq (sSet 5 (eBin (f2 gSub) (eApp (f1 gAbs) (aCons (eVar 4) aNil)) (eC (.int 1))))
  (sSeq (sSet 6 (eApp fTup (aCons (eApp (f11 gMin2) (aCons (eBin (f2 gIx) (eVar i) (eVar 5)) (aCons (eBin (f2 gIx) (eVar i) (eBin (fAdd false) (eVar 5) (eC (.int 1)))) aNil))) (aCons (eApp (f11 gMax2) (aCons (eBin (f2 gIx) (eVar i) (eVar 5)) (aCons (eBin (f2 gIx) (eVar i) (eBin (fAdd false) (eVar 5) (eC (.int 1)))) aNil))) aNil))))
  (sSeq (sDPutM (eBin (fAdd false) (eDGet2 (eVar j) (eVar 6) (eC (.int 0))) sg) (eVar j) (eVar 6))
  (sAsg (eApp fTup (aCons (eBin (f2 gIx) (eVar i) (eBin (fAdd false) (eVar 5) (eC (.int 1)))) (aCons (eBin (f2 gIx) (eVar i) (eVar 5)) aNil))) (mTup 2 (mCons (mSub (eVar i) (eVar 5)) (mCons (mSub (eVar i) (eBin (fAdd false) (eVar 5) (eC (.int 1)))) mNil)))))))
def prOf (g : Nat → Nat) (x : Int) : Pr := (min (g (at_ x)) (g (at_ x + 1)), max (g (at_ x)) (g (at_ x + 1)))
def putX (g : Nat → Nat) (es : Es) (x : Int) : Es := putP (prOf g x) (val es (prOf g x) + sgn x) es
theorem turn_w {m : Nat} {x : Int} (hm : m = 2 ∨ m = 3 ∨ m = 4 ∨ m = 5) (hx : x ∈ letters m) (g : Nat → Nat) (es : Es) (w n q5 q6 : Option DH.X) (t0 : MO) (hz : es.length ≤ 50) :
    turn 2 3 sg0 [w, n, some (.loc 1), some (.loc 2), some (.d (.int x)), q5, q6] [t0, .lst (spD m g), .dct true (encE es)] = .nx [w, n, some (.loc 1), some (.loc 2), some (.d (.int x)), some (.d (nD (at_ x))), some (.d (kD (prOf g x)))] [t0, .lst (spD m (swapF g (at_ x))), .dct true (encE (putX g es x))] := by
  refine sSeq_eq (sl' := [w, n, some (.loc 1), some (.loc 2), some (.d (.int x)), some (.d (nD (at_ x))), q6]) (st' := [t0, .lst (spD m g), .dct true (encE es)]) ?_
    (sSeq_eq (sl' := [w, n, some (.loc 1), some (.loc 2), some (.d (.int x)), some (.d (nD (at_ x))), some (.d (.tup false [.int (mnI (g (at_ x)) (g (at_ x + 1))), .int (mxI (g (at_ x)) (g (at_ x + 1)))]))]) (st' := [t0, .lst (spD m g), .dct true (encE es)]) ?_ ?_)
  · rcases hm with rfl | rfl | rfl | rfl <;> (simp only [letters, List.mem_cons, List.not_mem_nil, or_false] at hx)
    · rcases hx with rfl | rfl <;> rfl
    · rcases hx with rfl | rfl | rfl | rfl <;> rfl
    · rcases hx with rfl | rfl | rfl | rfl | rfl | rfl <;> rfl
    · rcases hx with rfl | rfl | rfl | rfl | rfl | rfl | rfl | rfl <;> rfl
  · rcases hm with rfl | rfl | rfl | rfl <;> (simp only [letters, List.mem_cons, List.not_mem_nil, or_false] at hx)
    · rcases hx with rfl | rfl <;> rfl
    · rcases hx with rfl | rfl | rfl | rfl <;> rfl
    · rcases hx with rfl | rfl | rfl | rfl | rfl | rfl <;> rfl
    · rcases hx with rfl | rfl | rfl | rfl | rfl | rfl | rfl | rfl <;> rfl
  rw [pair_eq]
  refine sSeq_eq (dput_run (l := 2) (p := prOf g x) (c := sgn x) rfl rfl rfl ?_ hz) ?_
  · rcases hm with rfl | rfl | rfl | rfl <;> (simp only [letters, List.mem_cons, List.not_mem_nil, or_false] at hx)
    · rcases hx with rfl | rfl <;> rfl
    · rcases hx with rfl | rfl | rfl | rfl <;> rfl
    · rcases hx with rfl | rfl | rfl | rfl | rfl | rfl <;> rfl
    · rcases hx with rfl | rfl | rfl | rfl | rfl | rfl | rfl | rfl <;> rfl
  · rcases hm with rfl | rfl | rfl | rfl <;> (simp only [letters, List.mem_cons, List.not_mem_nil, or_false] at hx)
    · rcases hx with rfl | rfl <;> rfl
    · rcases hx with rfl | rfl | rfl | rfl <;> rfl
    · rcases hx with rfl | rfl | rfl | rfl | rfl | rfl <;> rfl
    · rcases hx with rfl | rfl | rfl | rfl | rfl | rfl | rfl | rfl <;> rfl
theorem turn_v {m : Nat} {x : Int} (hm : m = 2 ∨ m = 3 ∨ m = 4 ∨ m = 5) (hx : x ∈ letters m) (g : Nat → Nat) (es : Es) (w n q5 q6 : Option DH.X) (t0 : MO) (hz : es.length ≤ 50) :
    turn 3 2 sg1 [w, n, some (.loc 1), some (.loc 2), some (.d (.int x)), q5, q6] [t0, .dct true (encE es), .lst (spD m g)] = .nx [w, n, some (.loc 1), some (.loc 2), some (.d (.int x)), some (.d (nD (at_ x))), some (.d (kD (prOf g x)))] [t0, .dct true (encE (putX g es x)), .lst (spD m (swapF g (at_ x)))] := by
  refine sSeq_eq (sl' := [w, n, some (.loc 1), some (.loc 2), some (.d (.int x)), some (.d (nD (at_ x))), q6]) (st' := [t0, .dct true (encE es), .lst (spD m g)]) ?_
    (sSeq_eq (sl' := [w, n, some (.loc 1), some (.loc 2), some (.d (.int x)), some (.d (nD (at_ x))), some (.d (.tup false [.int (mnI (g (at_ x)) (g (at_ x + 1))), .int (mxI (g (at_ x)) (g (at_ x + 1)))]))]) (st' := [t0, .dct true (encE es), .lst (spD m g)]) ?_ ?_)
  · rcases hm with rfl | rfl | rfl | rfl <;> (simp only [letters, List.mem_cons, List.not_mem_nil, or_false] at hx)
    · rcases hx with rfl | rfl <;> rfl
    · rcases hx with rfl | rfl | rfl | rfl <;> rfl
    · rcases hx with rfl | rfl | rfl | rfl | rfl | rfl <;> rfl
    · rcases hx with rfl | rfl | rfl | rfl | rfl | rfl | rfl | rfl <;> rfl
  · rcases hm with rfl | rfl | rfl | rfl <;> (simp only [letters, List.mem_cons, List.not_mem_nil, or_false] at hx)
    · rcases hx with rfl | rfl <;> rfl
    · rcases hx with rfl | rfl | rfl | rfl <;> rfl
    · rcases hx with rfl | rfl | rfl | rfl | rfl | rfl <;> rfl
    · rcases hx with rfl | rfl | rfl | rfl | rfl | rfl | rfl | rfl <;> rfl
  rw [pair_eq]
  refine sSeq_eq (dput_run (l := 1) (p := prOf g x) (c := sgn x) rfl rfl rfl ?_ hz) ?_
  · rcases hm with rfl | rfl | rfl | rfl <;> (simp only [letters, List.mem_cons, List.not_mem_nil, or_false] at hx)
    · rcases hx with rfl | rfl <;> rfl
    · rcases hx with rfl | rfl | rfl | rfl <;> rfl
    · rcases hx with rfl | rfl | rfl | rfl | rfl | rfl <;> rfl
    · rcases hx with rfl | rfl | rfl | rfl | rfl | rfl | rfl | rfl <;> rfl
  · rcases hm with rfl | rfl | rfl | rfl <;> (simp only [letters, List.mem_cons, List.not_mem_nil, or_false] at hx)
    · rcases hx with rfl | rfl <;> rfl
    · rcases hx with rfl | rfl | rfl | rfl <;> rfl
    · rcases hx with rfl | rfl | rfl | rfl | rfl | rfl <;> rfl
    · rcases hx with rfl | rfl | rfl | rfl | rfl | rfl | rfl | rfl <;> rfl
/-- a turn of word_spots -/
abbrev turnS : SM := (sSeq (sSet 4 (eBin (f2 gSub) (eApp (f1 gAbs) (aCons (eVar 3) aNil)) (eC (.int 1))))
  (sAsg (eApp fTup (aCons (eBin (f2 gIx) (eVar 2) (eBin (fAdd false) (eVar 4) (eC (.int 1)))) (aCons (eBin (f2 gIx) (eVar 2) (eVar 4)) aNil))) (mTup 2 (mCons (mSub (eVar 2) (eVar 4)) (mCons (mSub (eVar 2) (eBin (fAdd false) (eVar 4) (eC (.int 1)))) mNil)))))
theorem turn_s {m : Nat} {x : Int} (hm : m = 2 ∨ m = 3 ∨ m = 4 ∨ m = 5) (hx : x ∈ letters m) (g : Nat → Nat) (w n q4 : Option DH.X) (t0 : MO) :
    turnS [w, n, some (.loc 1), some (.d (.int x)), q4] [t0, .lst (spD m g)] = .nx [w, n, some (.loc 1), some (.d (.int x)), some (.d (nD (at_ x)))] [t0, .lst (spD m (swapF g (at_ x)))] := by
  refine sSeq_eq (sl' := [w, n, some (.loc 1), some (.d (.int x)), some (.d (nD (at_ x)))]) (st' := [t0, .lst (spD m g)]) ?_ ?_
  · rcases hm with rfl | rfl | rfl | rfl <;> (simp only [letters, List.mem_cons, List.not_mem_nil, or_false] at hx)
    · rcases hx with rfl | rfl <;> rfl
    · rcases hx with rfl | rfl | rfl | rfl <;> rfl
    · rcases hx with rfl | rfl | rfl | rfl | rfl | rfl <;> rfl
    · rcases hx with rfl | rfl | rfl | rfl | rfl | rfl | rfl | rfl <;> rfl
  · rcases hm with rfl | rfl | rfl | rfl <;> (simp only [letters, List.mem_cons, List.not_mem_nil, or_false] at hx)
    · rcases hx with rfl | rfl <;> rfl
    · rcases hx with rfl | rfl | rfl | rfl <;> rfl
    · rcases hx with rfl | rfl | rfl | rfl | rfl | rfl <;> rfl
    · rcases hx with rfl | rfl | rfl | rfl | rfl | rfl | rfl | rfl <;> rfl
end DHk08
noncomputable section
namespace DHk08
open PySem PySem.Spec PyProof.Rows L2 DH
/-! ### what is told of the dict -/
def dP : D → Pr
  | .tup _ [.int (.ofNat a), .int (.ofNat b)] => (a, b)
  | _ => (0, 0)
theorem dP_kD (p : Pr) : dP (kD p) = p := rfl
theorem allB_all {α : Type} {f : α → Bool} (h : ∀ x, f x = true) : ∀ xs : List α, allB f xs = true
  | [] => rfl
  | x :: xs => by
    show (match f x with | true => allB f xs | false => false) = true
    rw [h x]
    exact allB_all h xs
theorem allB_map {α β : Type} {f : β → Bool} {g : α → β} (h : ∀ x, f (g x) = true) : ∀ xs : List α, allB f (xs.map g) = true
  | [] => rfl
  | x :: xs => by
    show (match f (g x) with | true => allB f (xs.map g) | false => false) = true
    rw [h x]
    exact allB_map h xs
theorem sortOk_pairs : ∀ ps : List Pr, sortOk (ps.map kD) = true
  | [] => rfl
  | p :: ps => by
    have h : allB (fun x => okD 62 x && intTup x) ((p :: ps).map kD) = true := allB_map (g := kD) (fun _ => rfl) _
    show (match allB (fun x => okD 62 x && sameS 62 (kD p) x) ((p :: ps).map kD) with | true => true | false => allB (fun x => okD 62 x && intTup x) ((p :: ps).map kD)) = true
    rw [h]
    cases allB (fun x => okD 62 x && sameS 62 (kD p) x) ((p :: ps).map kD) <;> rfl
theorem resL_eq (es : Es) : (((sortB leP (es.map (·.1))).map kD).filter fun x => nzB es (dP x)).map (fun x => D.tup false [x, .int (val es (dP x))]) = (resK es).map fun p => .tup false [kD p, .int (val es p)] := by
  rw [List.filter_map, List.map_map]
  rfl
abbrev compR (j : Nat) : EM DH.X := eCompG false [6] (iSeqX (eApp (f1 (gSortedX false)) (aCons (eVar j) aNil))) (.nm 6) (eTest (eBin (f2 gNe) (eDGet (eVar j) (eVar 6)) (eC (.int 0)))) (eApp fTup (aCons (eVar 6) (aCons (eDGet (eVar j) (eVar 6)) aNil)))
theorem compR_run {w n s2 s3 q4 q5 q6 : Option DH.X} {st : Store} {j l : Nat} {es : Es} (hz : es.length ≤ 50) (h0 : ([w, n, s2, s3, q4, q5, q6] : Slots)[j]? = some (some (.loc l)))
    (hj : ∀ z, ([w, n, s2, s3, q4, q5, some (.d z)] : Slots)[j]? = some (some (.loc l))) (h3 : st[l]? = some (.dct true (encE es))) :
    compR j [w, n, s2, s3, q4, q5, q6] st = .ok (.d (.lst ((resK es).map fun p => .tup false [kD p, .int (val es p)]))) st := by
  have hd : deref st (.loc l) = some (.dct true (encE es)) := by simp only [deref, h3]
  have hkeys : ((encE es).map fun e : D × D => e.1) = (es.map (·.1)).map kD := by unfold encE; rw [List.map_map, List.map_map]; rfl
  have hlen : ((sortB leP (es.map (·.1))).map kD).length = es.length := by rw [List.length_map, (sortB_perm leP_total _).length_eq, List.length_map]
  rw [← resL_eq]
  refine comp_sel (fun x => nzB es (dP x)) (fun x => .tup false [x, .int (val es (dP x))]) ?_ (Nat.ble_eq_true_of_le (by rw [hlen]; omega)) fun x hx => ?_
  · unfold iSeqX
    have e1 : (eApp (f1 (gSortedX false)) (aCons (eVar j) aNil) : EM DH.X) [w, n, s2, s3, q4, q5, q6] st = .ok (.d (.lst ((sortB leP (es.map (·.1))).map kD))) st := by
      refine app1 (eVar_at h0) ?_
      show (match deref st (.loc l) with | some d => gSortedX false d st | none => .bad) = _
      rw [hd]
      show (match sortOk ((encE es).map fun e : D × D => e.1) && small (encE es).length with | true => newL false (sortB leD ((encE es).map fun e : D × D => e.1)) st | false => .bad) = _
      rw [hkeys, sortOk_pairs, show small (encE es).length = true from Nat.ble_eq_true_of_le (by unfold encE; rw [List.length_map]; omega), sort_map kD (le := leP) (fun _ _ => rfl)]
      rfl
    rw [e1]
    rfl
  · obtain ⟨p, hp, rfl⟩ := List.mem_map.mp hx
    have hp : p ∈ es.map (·.1) := (sortB_perm leP_total _).mem_iff.mp hp
    obtain ⟨v, hv⟩ := Option.isSome_iff_exists.mp (look_mem.mpr hp)
    have hval : val es p = v := by unfold val; rw [hv]; rfl
    have e2 : (eDGet (eVar j) (eVar 6) : EM DH.X) [w, n, s2, s3, q4, q5, some (.d (kD p))] st = .ok (.d (.int (val es p))) st := by
      unfold eDGet
      rw [eVar_at (hj _)]
      show (match lookD st (.loc l) (.d (kD p)) with | some (some d) => O.ok (X.d d) st | _ => .bad) = _
      have : lookD st (.loc l) (.d (kD p)) = some ((look p es).map D.int) := by
        unfold lookD
        rw [hd]
        show (match keyOk true (kD p) with | true => some (findD (kD p) (encE es)) | false => none) = _
        rw [show keyOk true (kD p) = true from rfl, find_enc]
      rw [this, hv, hval]
      rfl
    refine ⟨[w, n, s2, s3, q4, q5, some (.d (kD p))], rfl, eTest_ok (bin_at e2 rfl rfl), fun _ => app2 (x := .d (kD p)) rfl e2 rfl⟩
/-! ### the runs -/
def runG (g : Nat → Nat) : List Int → Nat → Nat
  | [] => g
  | x :: w => runG (swapF g (at_ x)) w
def runE (g : Nat → Nat) (es : Es) : List Int → Es
  | [] => es
  | x :: w => runE (swapF g (at_ x)) (putX g es x) w
theorem run_step (f : Nat → Nat → Int) : ∀ (w : List Int) (g : Nat → Nat) (es : Es), (∀ p : Pr, val es p = f p.1 p.2) → (w.foldl step (g, f)).1 = runG g w ∧ ∀ p : Pr, val (runE g es w) p = (w.foldl step (g, f)).2 p.1 p.2 := by
  intro w
  induction w generalizing f with
  | nil => exact fun g es h => ⟨rfl, h⟩
  | cons x w ih =>
    intro g es h
    refine ih (step (g, f) x).2 (swapF g (at_ x)) (putX g es x) fun p => ?_
    show val (putP (prOf g x) (val es (prOf g x) + sgn x) es) p = bump f _ _ _ p.1 p.2
    rw [val_put]
    unfold bump
    by_cases e : p = prOf g x
    · have : p.1 = min (g (at_ x)) (g (at_ x + 1)) ∧ p.2 = max (g (at_ x)) (g (at_ x + 1)) := by rw [e]; exact ⟨rfl, rfl⟩
      rw [if_pos e, if_pos this, ← e, h]
    · have : ¬ (p.1 = min (g (at_ x)) (g (at_ x + 1)) ∧ p.2 = max (g (at_ x)) (g (at_ x + 1))) := fun z => e (Prod.ext z.1 z.2)
      rw [if_neg e, if_neg this, h]
theorem runE_nodup : ∀ (w : List Int) (g : Nat → Nat) (es : Es), (es.map (·.1)).Nodup → ((runE g es w).map (·.1)).Nodup
  | [], _, _, h => h
  | x :: w, g, es, h => runE_nodup w _ _ (put_nodup h)
theorem runE_len : ∀ (w : List Int) (g : Nat → Nat) (es : Es), (runE g es w).length ≤ es.length + w.length
  | [], _, _ => Nat.le_refl _
  | x :: w, g, es => by
    have h1 := runE_len w (swapF g (at_ x)) (putX g es x)
    have h2 : (putX g es x).length ≤ es.length + 1 := put_len
    show (runE _ _ w).length ≤ es.length + (w.length + 1)
    omega
theorem loop_w {m : Nat} (hm : m = 2 ∨ m = 3 ∨ m = 4 ∨ m = 5) {xs0 : List D} {w n : Option DH.X} {t0 : MO} : ∀ (v : List Int) (g : Nat → Nat) (es : Es) (q4 q5 q6 : Option DH.X), (∀ x ∈ v, x ∈ letters m) → es.length + v.length ≤ 50 →
    ∃ q4' q5' q6', fLoopG (xs0, none) (.nm 4) (turn 2 3 sg0) (v.map D.int) [w, n, some (.loc 1), some (.loc 2), q4, q5, q6] [t0, .lst (spD m g), .dct true (encE es)] = .nx [w, n, some (.loc 1), some (.loc 2), q4', q5', q6'] [t0, .lst (spD m (runG g v)), .dct true (encE (runE g es v))]
  | [], g, es, q4, q5, q6, _, _ => ⟨q4, q5, q6, rfl⟩
  | x :: v, g, es, q4, q5, q6, h, hz => by
    have hz' : es.length + (v.length + 1) ≤ 50 := hz
    have h2 : (putX g es x).length ≤ es.length + 1 := put_len
    obtain ⟨q4', q5', q6', ih⟩ := loop_w hm (xs0 := xs0) (w := w) (n := n) (t0 := t0) v (swapF g (at_ x)) (putX g es x) (some (.d (.int x))) (some (.d (nD (at_ x)))) (some (.d (kD (prOf g x)))) (fun z hz => h z (.tail _ hz)) (by omega)
    refine ⟨q4', q5', q6', ?_⟩
    show fLoopG (xs0, none) (.nm 4) (turn 2 3 sg0) (D.int x :: v.map D.int) _ _ = _
    unfold fLoopG
    show (match turn 2 3 sg0 [w, n, some (.loc 1), some (.loc 2), some (.d (.int x)), q5, q6] [t0, .lst (spD m g), .dct true (encE es)] with | .nx sl' st' => _ | .ct sl' st' => _ | .bk sl' st' => _ | o => o) = _
    rw [turn_w hm (h x (.head _)) g es w n q5 q6 t0 (by omega)]
    exact ih
theorem loop_v {m : Nat} (hm : m = 2 ∨ m = 3 ∨ m = 4 ∨ m = 5) {xs0 : List D} {w n : Option DH.X} {t0 : MO} : ∀ (v : List Int) (g : Nat → Nat) (es : Es) (q4 q5 q6 : Option DH.X), (∀ x ∈ v, x ∈ letters m) → es.length + v.length ≤ 50 →
    ∃ q4' q5' q6', fLoopG (xs0, none) (.nm 4) (turn 3 2 sg1) (v.map D.int) [w, n, some (.loc 1), some (.loc 2), q4, q5, q6] [t0, .dct true (encE es), .lst (spD m g)] = .nx [w, n, some (.loc 1), some (.loc 2), q4', q5', q6'] [t0, .dct true (encE (runE g es v)), .lst (spD m (runG g v))]
  | [], g, es, q4, q5, q6, _, _ => ⟨q4, q5, q6, rfl⟩
  | x :: v, g, es, q4, q5, q6, h, hz => by
    have hz' : es.length + (v.length + 1) ≤ 50 := hz
    have h2 : (putX g es x).length ≤ es.length + 1 := put_len
    obtain ⟨q4', q5', q6', ih⟩ := loop_v hm (xs0 := xs0) (w := w) (n := n) (t0 := t0) v (swapF g (at_ x)) (putX g es x) (some (.d (.int x))) (some (.d (nD (at_ x)))) (some (.d (kD (prOf g x)))) (fun z hz => h z (.tail _ hz)) (by omega)
    refine ⟨q4', q5', q6', ?_⟩
    show fLoopG (xs0, none) (.nm 4) (turn 3 2 sg1) (D.int x :: v.map D.int) _ _ = _
    unfold fLoopG
    show (match turn 3 2 sg1 [w, n, some (.loc 1), some (.loc 2), some (.d (.int x)), q5, q6] [t0, .dct true (encE es), .lst (spD m g)] with | .nx sl' st' => _ | .ct sl' st' => _ | .bk sl' st' => _ | o => o) = _
    rw [turn_v hm (h x (.head _)) g es w n q5 q6 t0 (by omega)]
    exact ih
theorem loop_s {m : Nat} (hm : m = 2 ∨ m = 3 ∨ m = 4 ∨ m = 5) {xs0 : List D} {w n : Option DH.X} {t0 : MO} : ∀ (v : List Int) (g : Nat → Nat) (q3 q4 : Option DH.X), (∀ x ∈ v, x ∈ letters m) →
    ∃ q3' q4', fLoopG (xs0, none) (.nm 3) turnS (v.map D.int) [w, n, some (.loc 1), q3, q4] [t0, .lst (spD m g)] = .nx [w, n, some (.loc 1), q3', q4'] [t0, .lst (spD m (runG g v))]
  | [], g, q3, q4, _ => ⟨q3, q4, rfl⟩
  | x :: v, g, q3, q4, h => by
    obtain ⟨q3', q4', ih⟩ := loop_s hm (xs0 := xs0) (w := w) (n := n) (t0 := t0) v (swapF g (at_ x)) (some (.d (.int x))) (some (.d (nD (at_ x)))) (fun z hz => h z (.tail _ hz))
    refine ⟨q3', q4', ?_⟩
    show fLoopG (xs0, none) (.nm 3) turnS (D.int x :: v.map D.int) _ _ = _
    unfold fLoopG
    show (match turnS [w, n, some (.loc 1), some (.d (.int x)), q4] [t0, .lst (spD m g)] with | .nx sl' st' => _ | .ct sl' st' => _ | .bk sl' st' => _ | o => o) = _
    rw [turn_s hm (h x (.head _)) g w n q4 t0]
    exact ih
end DHk08
noncomputable section
namespace DHk08
open PySem PySem.Spec PyProof.Rows L2 DH
/-! ### the defs -/
def wD (w : List Int) : D := .tup false (w.map D.int)
def mD (m : Nat) : D := nD m
def home (i : Nat) : Nat := i
def spotsD (m : Nat) (w : List Int) : D := .tup false (spD m (runG home w))
def windD (w : List Int) : D := resD (runE home [] w)
def dueD (m : Nat) (w : List Int) : D := .tup false [spotsD m w, windD w]
def Ltr (m : Nat) (w : List Int) : Prop := ∀ x ∈ w, x ∈ letters m
theorem bad_all (P : Int → Bool) : ∀ w : List Int, (∀ x ∈ w, P x = false) → w.map P = w.map fun _ => false
  | [], _ => rfl
  | x :: w, h => by rw [List.map_cons, List.map_cons, h x (.head _), bad_all P w fun z hz => h z (.tail _ hz)]
abbrev chE : EM DH.X := eOrV (eBin (f2 gEq) (eVar 2) (eC (.int 0))) (eBin (f2 gGe) (eApp (f1 gAbs) (aCons (eVar 2) aNil)) (eVar 1))
theorem chE_run {m : Nat} (hm : m = 2 ∨ m = 3 ∨ m = 4 ∨ m = 5) {x : Int} (hx : x ∈ letters m) (w0 : Option DH.X) (st : Store) : chE [w0, some (.d (mD m)), some (.d (.int x))] st = .ok (.d (.bl false)) st := by
  rcases hm with rfl | rfl | rfl | rfl <;> (simp only [letters, List.mem_cons, List.not_mem_nil, or_false] at hx)
  · rcases hx with rfl | rfl <;> rfl
  · rcases hx with rfl | rfl | rfl | rfl <;> rfl
  · rcases hx with rfl | rfl | rfl | rfl | rfl | rfl <;> rfl
  · rcases hx with rfl | rfl | rfl | rfl | rfl | rfl | rfl | rfl <;> rfl
theorem evD_run {m : Nat} (hm : m = 2 ∨ m = 3 ∨ m = 4 ∨ m = 5) (w0 : Option DH.X) (st : Store) : ∀ w : List Int, Ltr m w → evD 2 chE [w0, some (.d (mD m)), none] st (w.map D.int) = some (w.map fun _ => D.bl false)
  | [], _ => rfl
  | x :: w, h => by
    show evD 2 chE [w0, some (.d (mD m)), none] st (D.int x :: w.map D.int) = _
    unfold evD
    rw [evD_run hm w0 st w fun z hz => h z (.tail _ hz)]
    show (match chE [w0, some (.d (mD m)), some (.d (.int x))] st with | .ok (.d y) _ => _ | _ => none) = _
    rw [chE_run hm (h x (.head _))]
    rfl
theorem bools_f : ∀ w : List Int, boolsD (w.map fun _ => D.bl false) = some (w.map fun _ => false)
  | [] => rfl
  | x :: w => by
    show boolsD (D.bl false :: w.map fun _ => D.bl false) = _
    unfold boolsD
    rw [bools_f w]
    rfl
theorem any_f : ∀ w : List Int, anyB (fun b => b) (w.map fun _ => false) = false
  | [] => rfl
  | x :: w => any_f w
theorem check_run {m : Nat} (hm : m = 2 ∨ m = 3 ∨ m = 4 ∨ m = 5) {w : List Int} (h : Ltr m w) (st : Store) : m_check_word [.d (wD w), .d (mD m)] st = .ok (.d .non) st := by
  rw [mF_check_word]
  refine mkD_nx (more := []) (sl' := [some (.d (wD w)), some (.d (mD m)), none]) rfl ?_
  rw [List.append_nil]
  show bS_m_check_word [some (.d (wD w)), some (.d (mD m)), none] st = _
  unfold bS_m_check_word
  have e1 : (eGen DH.finAny 2 (eVar 0) chE : EM DH.X) [some (.d (wD w)), some (.d (mD m)), none] st = .ok (.d (.bl false)) st := by
    unfold eGen
    rw [eVar_at (x := .d (wD w)) rfl]
    show (match evD 2 chE [some (.d (wD w)), some (.d (mD m)), none] st (w.map D.int) with | some rs => _ | none => O.bad) = _
    rw [evD_run hm _ st w h]
    show (match DH.finAny (w.map fun _ => D.bl false) with | some d => O.ok (X.d d) st | none => O.bad) = _
    have : DH.finAny (w.map fun _ => D.bl false) = some (.bl false) := by
      unfold DH.finAny
      rw [bools_f]
      show some (D.bl (anyB (fun b => b) (w.map fun _ => false))) = _
      rw [any_f]
    rw [this]
  have e2 : (tOrM (tNotM (eTest (eChain (f2 gLe) (f2 gLe) (eC (.int 2)) (eVar 1) (eC (.int 12))))) (eTest (eGen DH.finAny 2 (eVar 0) chE)) : EM Bool) [some (.d (wD w)), some (.d (mD m)), none] st = .ok false st := by
    refine tOr_ok (st1 := st) ?_ (eTest_ok e1)
    rcases hm with rfl | rfl | rfl | rfl <;> rfl
  exact sIf_f e2
theorem home_run {m : Nat} (hm : m = 2 ∨ m = 3 ∨ m = 4 ∨ m = 5) (st : Store) : m_at_home [.d (mD m)] st = .ok (.d (.tup false (spD m home))) st := by
  rw [mF_at_home]
  refine mkD_rt (more := []) rfl ?_
  rw [List.append_nil]
  rcases hm with rfl | rfl | rfl | rfl <;> rfl
theorem wound_run {m : Nat} (hm : m = 2 ∨ m = 3 ∨ m = 4 ∨ m = 5) {w : List Int} (h : Ltr m w) (hz : w.length ≤ 20) (t0 : MO) : m_law_wound [.d (wD w), .d (mD m)] [t0] = .ok (.d (dueD m w)) [t0] := by
  rw [mF_law_wound]
  obtain ⟨q4, q5, q6, hl⟩ := loop_w hm (xs0 := w.map D.int) (w := some (.d (wD w))) (n := some (.d (mD m))) (t0 := t0) w home [] none none none h (by show 0 + w.length ≤ 50; omega)
  have hlen := runE_len w home []
  refine mkD_rt (more := [.lst (spD m (runG home w)), .dct true (encE (runE home [] w))]) rfl ?_
  show bS_m_law_wound [some (.d (wD w)), some (.d (mD m)), none, none, none, none, none] [t0] = _
  unfold bS_m_law_wound
  refine sSeq_eq (sl' := [some (.d (wD w)), some (.d (mD m)), some (.loc 1), some (.loc 2), none, none, none]) (st' := [t0, .lst (spD m home), .dct true (encE [])]) (by rcases hm with rfl | rfl | rfl | rfl <;> rfl) ?_
  refine sSeq_eq (sl' := [some (.d (wD w)), some (.d (mD m)), some (.loc 1), some (.loc 2), q4, q5, q6]) (st' := [t0, .lst (spD m (runG home w)), .dct true (encE (runE home [] w))]) hl ?_
  refine sRet_ok (app2 (x := .d (spotsD m w)) (y := .d (windD w)) rfl (app1 (compR_run (l := 2) (by have : ([] : Es).length = 0 := rfl; omega) rfl (fun _ => rfl) rfl) rfl) rfl)
theorem wind_run {m : Nat} (hm : m = 2 ∨ m = 3 ∨ m = 4 ∨ m = 5) {w : List Int} (h : Ltr m w) (hz : w.length ≤ 20) (t0 : MO) : m_winding [.d (wD w), .d (mD m)] [t0] = .ok (.d (windD w)) [t0] := by
  rw [mF_winding]
  obtain ⟨q4, q5, q6, hl⟩ := loop_v hm (xs0 := w.map D.int) (w := some (.d (wD w))) (n := some (.d (mD m))) (t0 := t0) w home [] none none none h (by show 0 + w.length ≤ 50; omega)
  have hlen := runE_len w home []
  refine mkD_rt (more := [.dct true (encE (runE home [] w)), .lst (spD m (runG home w))]) rfl ?_
  show bS_m_winding [some (.d (wD w)), some (.d (mD m)), none, none, none, none, none] [t0] = _
  unfold bS_m_winding
  refine sSeq_eq (sExpr_ok (app2 (x := .d (wD w)) (y := .d (mD m)) rfl rfl (check_run hm h _))) ?_
  have e2 : (sTupN [2, 3] (aCons (eDNew true) (aCons (eApp (f1 (gList true)) (aCons (eApp m_at_home (aCons (eVar 1) aNil)) aNil)) aNil)) : SM) [some (.d (wD w)), some (.d (mD m)), none, none, none, none, none] [t0] = .nx [some (.d (wD w)), some (.d (mD m)), some (.loc 1), some (.loc 2), none, none, none] [t0, .dct true (encE []), .lst (spD m home)] := by
    have e3 : (eApp (f1 (gList true)) (aCons (eApp m_at_home (aCons (eVar 1) aNil)) aNil) : EM DH.X) [some (.d (wD w)), some (.d (mD m)), none, none, none, none, none] [t0, .dct true []] = .ok (.loc 2) [t0, .dct true [], .lst (spD m home)] := app1 (app1 (x := .d (mD m)) rfl (home_run hm _)) rfl
    unfold sTupN
    rw [aTwo (x := .loc 1) (st1 := [t0, .dct true []]) rfl e3]
    rfl
  refine sSeq_eq e2 ?_
  refine sSeq_eq (sl' := [some (.d (wD w)), some (.d (mD m)), some (.loc 1), some (.loc 2), q4, q5, q6]) (st' := [t0, .dct true (encE (runE home [] w)), .lst (spD m (runG home w))]) hl ?_
  exact sRet_ok (app1 (compR_run (l := 1) (by have : ([] : Es).length = 0 := rfl; omega) rfl (fun _ => rfl) rfl) rfl)
theorem spots_run {m : Nat} (hm : m = 2 ∨ m = 3 ∨ m = 4 ∨ m = 5) {w : List Int} (h : Ltr m w) (t0 : MO) : m_word_spots [.d (wD w), .d (mD m)] [t0] = .ok (.d (spotsD m w)) [t0] := by
  rw [mF_word_spots]
  obtain ⟨q3, q4, hl⟩ := loop_s hm (xs0 := w.map D.int) (w := some (.d (wD w))) (n := some (.d (mD m))) (t0 := t0) w home none none h
  refine mkD_rt (more := [.lst (spD m (runG home w))]) rfl ?_
  show bS_m_word_spots [some (.d (wD w)), some (.d (mD m)), none, none, none] [t0] = _
  unfold bS_m_word_spots
  refine sSeq_eq (sExpr_ok (app2 (x := .d (wD w)) (y := .d (mD m)) rfl rfl (check_run hm h _))) ?_
  have e2 : (sSet 2 (eApp (f1 (gList true)) (aCons (eApp m_at_home (aCons (eVar 1) aNil)) aNil)) : SM) [some (.d (wD w)), some (.d (mD m)), none, none, none] [t0] = .nx [some (.d (wD w)), some (.d (mD m)), some (.loc 1), none, none] [t0, .lst (spD m home)] := by
    have e3 : (eApp (f1 (gList true)) (aCons (eApp m_at_home (aCons (eVar 1) aNil)) aNil) : EM DH.X) [some (.d (wD w)), some (.d (mD m)), none, none, none] [t0] = .ok (.loc 1) [t0, .lst (spD m home)] := app1 (app1 (x := .d (mD m)) rfl (home_run hm _)) rfl
    unfold sSet
    rw [e3]
    rfl
  refine sSeq_eq e2 ?_
  refine sSeq_eq (sl' := [some (.d (wD w)), some (.d (mD m)), some (.loc 1), q3, q4]) (st' := [t0, .lst (spD m (runG home w))]) hl ?_
  exact sRet_ok (app1 rfl rfl)
end DHk08
noncomputable section
namespace DHk08
open PySem PySem.Spec PyProof.Rows L2 DH
theorem ok_ints (n : Nat) (w : List Int) : allB (okD n) (w.map D.int) = true := allB_map (fun i => by cases n <;> rfl) w
theorem getM_last {α : Type} (l : List α) (x : α) : getM (l ++ [x]) (-1) = some x := by
  unfold getM
  show (match (match Nat.blt 0 (l ++ [x]).length with | true => some ((l ++ [x]).length - (0 + 1)) | false => none) with | some k => (l ++ [x])[k]? | none => none) = _
  have h : Nat.blt 0 (l ++ [x]).length = true := Nat.ble_eq_true_of_le (by rw [List.length_append]; show 1 ≤ l.length + 1; omega)
  rw [h]
  show (l ++ [x])[(l ++ [x]).length - 1]? = some x
  rw [List.length_append]
  show (l ++ [x])[l.length + 1 - 1]? = some x
  rw [Nat.add_sub_cancel, List.getElem?_append_right (Nat.le_refl _), Nat.sub_self]
  rfl
/-! ### danced_back -/
def negD : D → D
  | .int i => .int (0 - i)
  | d => d
theorem back_run {w : List Int} (hz : w.length ≤ 50) (st : Store) : m_danced_back [.d (wD w)] st = .ok (.d (wD (back w))) st := by
  rw [mF_danced_back]
  refine mkD_rt (more := []) rfl ?_
  rw [List.append_nil]
  show bS_m_danced_back [some (.d (wD w)), none] st = _
  unfold bS_m_danced_back
  have e1 : (eCompG false [1] (srcD (iRevD (eVar 0))) (.nm 1) cYes (eBin (f2 gSub) (eC (.int 0)) (eVar 1)) : EM DH.X) [some (.d (wD w)), none] st = .ok (.d (.lst ((w.map D.int).reverse.map negD))) st := by
    refine comp_map negD rfl (Nat.ble_eq_true_of_le (by rw [List.length_reverse, List.length_map]; omega)) fun x hx => ?_
    obtain ⟨i, _, rfl⟩ := List.mem_map.mp (List.mem_reverse.mp hx)
    exact ⟨[some (.d (wD w)), some (.d (.int i))], rfl, rfl⟩
  have e2 : (w.map D.int).reverse.map negD = (back w).map D.int := by
    unfold back
    rw [← List.map_reverse, List.map_map, List.map_map]
    refine List.map_congr_left fun i _ => ?_
    show D.int (0 - i) = D.int (-i)
    rw [Int.zero_sub]
  rw [e2] at e1
  exact sRet_ok (app1 e1 rfl)
/-! ### unwound -/
abbrev bodyU : SM := sIf (tAndM (eTest (eBin (f2 gNe) (eVar 1) (eApp (fLst false) aNil))) (eTest (eBin (f2 gEq) (eBin (f2 gIx) (eVar 1) (eNeg (eC (.int 1)))) (eBin (f2 gSub) (eC (.int 0)) (eVar 2))))) (sExpr (eMeth .l mPop (eVar 1) aNil)) (sExpr (eMeth .l mAppend (eVar 1) (aCons (eVar 2) aNil)))
def stk (s : List Int) : List D := s.reverse.map D.int
theorem app_run {w0 : Option DH.X} {x : Int} {s : List Int} {t0 : MO} (hz : s.length ≤ 50) : (sExpr (eMeth .l mAppend (eVar 1) (aCons (eVar 2) aNil)) : SM) [w0, some (.loc 1), some (.d (.int x))] [t0, .lst (stk s)] = .nx [w0, some (.loc 1), some (.d (.int x))] [t0, .lst (stk (x :: s))] := by
  refine sExpr_ok (x := .d .non) ?_
  show (match small ((stk s).length + 1) with | true => O.ok (X.d .non) (List.set [t0, .lst (stk s)] 1 (.lst (stk s ++ [D.int x]))) | false => .bad) = _
  have h1 : small ((stk s).length + 1) = true := Nat.ble_eq_true_of_le (by unfold stk; rw [List.length_map, List.length_reverse]; omega)
  rw [h1]
  show O.ok _ [t0, .lst (stk s ++ [D.int x])] = _
  have : stk (x :: s) = stk s ++ [D.int x] := by unfold stk; rw [List.reverse_cons, List.map_append]; rfl
  rw [this]
theorem turn_u {w0 : Option DH.X} {x : Int} (s : List Int) {t0 : MO} (hz : s.length ≤ 50) : bodyU [w0, some (.loc 1), some (.d (.int x))] [t0, .lst (stk s)] = .nx [w0, some (.loc 1), some (.d (.int x))] [t0, .lst (stk (push s x))] := by
  cases s with
  | nil =>
    have e1 : (eTest (eBin (f2 gNe) (eVar 1) (eApp (fLst false) aNil)) : EM Bool) [w0, some (.loc 1), some (.d (.int x))] [t0, .lst (stk [])] = .ok false [t0, .lst (stk [])] := rfl
    exact (sIf_f (tAnd_f e1)).trans (app_run hz)
  | cons y t =>
    have es : stk (y :: t) = stk t ++ [D.int y] := by unfold stk; rw [List.reverse_cons, List.map_append]; rfl
    have e1 : (eTest (eBin (f2 gNe) (eVar 1) (eApp (fLst false) aNil)) : EM Bool) [w0, some (.loc 1), some (.d (.int x))] [t0, .lst (stk (y :: t))] = .ok true [t0, .lst (stk (y :: t))] := by
      refine eTest_ok (bin_at (x := .loc 1) (y := .d (.lst [])) rfl rfl ?_)
      show (match allB (okD 63) (stk (y :: t)) with | true => O.ok (X.d (.bl (!all2 (eqD 63) (stk (y :: t)) []))) _ | false => .bad) = _
      rw [show allB (okD 63) (stk (y :: t)) = true from ok_ints 63 _]
      have : all2 (eqD 63) (stk (y :: t)) [] = false := by
        rw [es]
        cases stk t <;> rfl
      rw [this]
      rfl
    have e2 : (eTest (eBin (f2 gEq) (eBin (f2 gIx) (eVar 1) (eNeg (eC (.int 1)))) (eBin (f2 gSub) (eC (.int 0)) (eVar 2))) : EM Bool) [w0, some (.loc 1), some (.d (.int x))] [t0, .lst (stk (y :: t))] = .ok (eqI y (0 - x)) [t0, .lst (stk (y :: t))] := by
      refine eTest_ok (bin_at (x := .d (.int y)) (y := .d (.int (0 - x))) (st2 := [t0, .lst (stk (y :: t))]) (bin_at (x := .loc 1) (y := .d (.int (-1))) rfl rfl ?_) rfl rfl)
      show (match getM (stk (y :: t)) (-1) with | some x => O.ok (X.d x) _ | none => .bad) = _
      rw [es, getM_last]
    have e3 := tAnd_ok e1 e2
    unfold push
    by_cases e : y = -x
    · have : eqI y (0 - x) = true := (eqI_iff _ _).mpr (by omega)
      rw [this] at e3
      simp only [if_pos e]
      refine (sIf_t e3).trans ?_
      refine sExpr_ok (x := .d (.int y)) ?_
      show (match (stk (y :: t))[(stk (y :: t)).length - 1]? with | some y0 => O.ok (X.d y0) (List.set [t0, .lst (stk (y :: t))] 1 (.lst (stk (y :: t)).dropLast)) | none => .bad) = _
      have hg : (stk (y :: t))[(stk (y :: t)).length - 1]? = some (.int y) := by
        rw [es, List.length_append]
        show (stk t ++ [D.int y])[(stk t).length + 1 - 1]? = _
        rw [Nat.add_sub_cancel, List.getElem?_append_right (Nat.le_refl _), Nat.sub_self]
        rfl
      rw [hg]
      show O.ok _ [t0, .lst (stk (y :: t)).dropLast] = _
      rw [es, List.dropLast_concat]
    · have : eqI y (0 - x) = false := by
        cases q : eqI y (0 - x) with
        | false => rfl
        | true => have := (eqI_iff _ _).mp q; omega
      rw [this] at e3
      simp only [if_neg e]
      exact (sIf_f e3).trans (app_run hz)
theorem push_le (s : List Int) (x : Int) : (push s x).length ≤ s.length + 1 := by have := push_len s x; omega
theorem loop_u {xs0 : List D} {w0 : Option DH.X} {t0 : MO} : ∀ (v s : List Int) (q2 : Option DH.X), s.length + v.length ≤ 50 →
    ∃ q2', fLoopG (xs0, none) (.nm 2) bodyU (v.map D.int) [w0, some (.loc 1), q2] [t0, .lst (stk s)] = .nx [w0, some (.loc 1), q2'] [t0, .lst (stk (v.foldl push s))]
  | [], s, q2, _ => ⟨q2, rfl⟩
  | x :: v, s, q2, hz => by
    have hz' : s.length + (v.length + 1) ≤ 50 := hz
    have h2 := push_le s x
    obtain ⟨q2', ih⟩ := loop_u (xs0 := xs0) (w0 := w0) (t0 := t0) v (push s x) (some (.d (.int x))) (by omega)
    refine ⟨q2', ?_⟩
    show fLoopG (xs0, none) (.nm 2) bodyU (D.int x :: v.map D.int) _ _ = _
    unfold fLoopG
    show (match bodyU [w0, some (.loc 1), some (.d (.int x))] [t0, .lst (stk s)] with | .nx sl' st' => _ | .ct sl' st' => _ | .bk sl' st' => _ | o => o) = _
    rw [turn_u s (by omega)]
    exact ih
theorem unwound_run {w : List Int} (hz : w.length ≤ 50) (t0 : MO) : m_unwound [.d (wD w)] [t0] = .ok (.d (wD (redS w).reverse)) [t0] := by
  rw [mF_unwound]
  obtain ⟨q2, hl⟩ := loop_u (xs0 := w.map D.int) (w0 := some (.d (wD w))) (t0 := t0) w [] none (by show 0 + w.length ≤ 50; omega)
  refine mkD_rt (more := [.lst (stk (redS w))]) rfl ?_
  show bS_m_unwound [some (.d (wD w)), none, none] [t0] = _
  unfold bS_m_unwound
  refine sSeq_eq (sl' := [some (.d (wD w)), some (.loc 1), none]) (st' := [t0, .lst (stk [])]) rfl ?_
  refine sSeq_eq (sl' := [some (.d (wD w)), some (.loc 1), q2]) (st' := [t0, .lst (stk (redS w))]) hl ?_
  exact sRet_ok (app1 rfl rfl)
end DHk08
noncomputable section
namespace DHk08
open PySem PySem.Spec PyProof.Rows L2 DH
/-! ### is_far_commuting, sorted_word -/
def absI (i : Int) : Int := match i with
  | .ofNat n => .ofNat n
  | .negSucc n => .ofNat (n + 1)
theorem absI_eq (i : Int) : absI i = (i.natAbs : Int) := by cases i <;> rfl
theorem far_run (a b : Int) (st : Store) : m_is_far_commuting [.d (.int a), .d (.int b)] st = .ok (.d (.bl (decide (far a b)))) st := by
  rw [mF_is_far_commuting]
  refine mkD_rt (more := []) rfl ?_
  rw [List.append_nil]
  show SO.rt (X.d (.bl (ltI 1 (absI (absI a - absI b))))) st = _
  have : ltI 1 (absI (absI a - absI b)) = decide (far a b) := by
    rw [absI_eq, absI_eq, absI_eq]
    have h := ltI_iff 1 ((((a.natAbs : Int) - (b.natAbs : Int)).natAbs : Nat) : Int)
    by_cases hf : far a b
    · rw [decide_eq_true hf]
      unfold far at hf
      exact h.mpr (by omega)
    · rw [decide_eq_false hf]
      unfold far at hf
      cases q : ltI 1 ((((a.natAbs : Int) - (b.natAbs : Int)).natAbs : Nat) : Int) with
      | false => rfl
      | true => have := h.mp q; omega
  rw [this]
theorem gt_abs (a b : Int) : ltI (absI b) (absI a) = decide (b.natAbs < a.natAbs) := by
  rw [absI_eq, absI_eq]
  have h := ltI_iff (b.natAbs : Int) (a.natAbs : Int)
  by_cases hf : b.natAbs < a.natAbs
  · rw [decide_eq_true hf]; exact h.mpr (by omega)
  · rw [decide_eq_false hf]
    cases q : ltI (b.natAbs : Int) (a.natAbs : Int) with
    | false => rfl
    | true => have := h.mp q; omega
theorem set_at {α : Type} (x y : α) (r : List α) : ∀ p : List α, (p ++ x :: r).set p.length y = p ++ y :: r
  | [] => rfl
  | z :: p => by show z :: (p ++ x :: r).set p.length y = _; rw [set_at x y r p]; rfl
theorem get_at {α : Type} (x : α) (r : List α) : ∀ p : List α, (p ++ x :: r)[p.length]? = some x
  | [] => rfl
  | z :: p => get_at x r p
abbrev wM (l : List Int) : List D := l.map D.int
theorem wM_app (p r : List Int) : wM (p ++ r) = wM p ++ wM r := List.map_append
theorem wM_len (p : List Int) : (wM p).length = p.length := List.length_map _
abbrev tS : EM Bool := eTest (eBin (f2 gLt) (eVar 2) (eBin (f2 gSub) (eApp (f1 gLen) (aCons (eVar 1) aNil)) (eC (.int 1))))
abbrev cS : EM Bool := tAndM (eTest (eApp m_is_far_commuting (aCons (eBin (f2 gIx) (eVar 1) (eVar 2)) (aCons (eBin (f2 gIx) (eVar 1) (eBin (fAdd false) (eVar 2) (eC (.int 1)))) aNil)))) (eTest (eBin (f2 gGt) (eApp (f1 gAbs) (aCons (eBin (f2 gIx) (eVar 1) (eVar 2)) aNil)) (eApp (f1 gAbs) (aCons (eBin (f2 gIx) (eVar 1) (eBin (fAdd false) (eVar 2) (eC (.int 1)))) aNil))))
abbrev bS : SM := sIf cS (sSeq (sAsg (eApp fTup (aCons (eBin (f2 gIx) (eVar 1) (eBin (fAdd false) (eVar 2) (eC (.int 1)))) (aCons (eBin (f2 gIx) (eVar 1) (eVar 2)) aNil))) (mTup 2 (mCons (mSub (eVar 1) (eVar 2)) (mCons (mSub (eVar 1) (eBin (fAdd false) (eVar 2) (eC (.int 1)))) mNil))))
  (sSet 2 (eApp (f11 gMax2) (aCons (eC (.int 0)) (aCons (eBin (f2 gSub) (eVar 2) (eC (.int 1))) aNil))))) (sAug 2 fAug (eC (.int 1)))
section
variable {w0 : Option DH.X} {t0 : MO} {p q : List Int} {a b : Int}
abbrev slS (w0 : Option DH.X) (k : Nat) : Slots := [w0, some (.loc 1), some (.d (nD k))]
abbrev stS (t0 : MO) (l : List Int) : Store := [t0, .lst (wM l)]
theorem ixA : (eBin (f2 gIx) (eVar 1) (eVar 2) : EM DH.X) (slS w0 p.length) (stS t0 (p ++ a :: b :: q)) = .ok (.d (.int a)) (stS t0 (p ++ a :: b :: q)) := by
  refine bin_at (x := .loc 1) (y := .d (nD p.length)) rfl rfl ?_
  refine gIx_lst ?_
  rw [wM_app, ← wM_len p]
  exact get_at _ _ _
theorem kk (k : Nat) : (eBin (fAdd false) (eVar 2) (eC (.int 1)) : EM DH.X) (slS w0 k) (stS t0 q) = .ok (.d (nD (k + 1))) (stS t0 q) := rfl
theorem ixB : (eBin (f2 gIx) (eVar 1) (eBin (fAdd false) (eVar 2) (eC (.int 1))) : EM DH.X) (slS w0 p.length) (stS t0 (p ++ a :: b :: q)) = .ok (.d (.int b)) (stS t0 (p ++ a :: b :: q)) := by
  refine bin_at (x := .loc 1) (y := .d (nD (p.length + 1))) rfl (kk _) ?_
  refine gIx_lst ?_
  have e : p ++ a :: b :: q = (p ++ [a]) ++ b :: q := by simp
  have hl : p.length + 1 = (wM (p ++ [a])).length := by rw [wM_len, List.length_append]; rfl
  rw [e, wM_app, hl]
  exact get_at _ _ _
theorem cond_run : cS (slS w0 p.length) (stS t0 (p ++ a :: b :: q)) = .ok (decide (bad a b)) (stS t0 (p ++ a :: b :: q)) := by
  have e1 : (eTest (eApp m_is_far_commuting (aCons (eBin (f2 gIx) (eVar 1) (eVar 2)) (aCons (eBin (f2 gIx) (eVar 1) (eBin (fAdd false) (eVar 2) (eC (.int 1)))) aNil))) : EM Bool) (slS w0 p.length) (stS t0 (p ++ a :: b :: q)) = .ok (decide (far a b)) (stS t0 (p ++ a :: b :: q)) :=
    eTest_ok (app2 ixA ixB (far_run a b _))
  have e2 : (eTest (eBin (f2 gGt) (eApp (f1 gAbs) (aCons (eBin (f2 gIx) (eVar 1) (eVar 2)) aNil)) (eApp (f1 gAbs) (aCons (eBin (f2 gIx) (eVar 1) (eBin (fAdd false) (eVar 2) (eC (.int 1)))) aNil))) : EM Bool) (slS w0 p.length) (stS t0 (p ++ a :: b :: q)) = .ok (decide (b.natAbs < a.natAbs)) (stS t0 (p ++ a :: b :: q)) := by
    rw [← gt_abs]
    exact eTest_ok (bin_at (x := .d (.int (absI a))) (y := .d (.int (absI b))) (app1 ixA rfl) (app1 ixB rfl) rfl)
  by_cases hf : far a b
  · rw [decide_eq_true hf] at e1
    have : decide (bad a b) = decide (b.natAbs < a.natAbs) := by unfold bad; simp [hf]
    rw [this]
    exact tAnd_ok e1 e2
  · rw [decide_eq_false hf] at e1
    have : decide (bad a b) = false := decide_eq_false fun z => hf z.1
    rw [this]
    exact tAnd_f e1
theorem max_pred (k : Nat) : (match ltI 0 (Int.ofNat k - 1) with | true => Int.ofNat k - 1 | false => 0) = Int.ofNat (k - 1) := by
  have h := ltI_iff 0 (Int.ofNat k - 1)
  have e : (Int.ofNat k : Int) = (k : Int) := rfl
  have e2 : (Int.ofNat (k - 1) : Int) = ((k - 1 : Nat) : Int) := rfl
  cases q : ltI 0 (Int.ofNat k - 1) with
  | true => have := h.mp q; simp only; omega
  | false =>
    have : ¬ (0 < Int.ofNat k - 1) := fun z => by have := h.mpr z; rw [q] at this; cases this
    simp only
    omega
theorem swap_run (hb : bad a b) : bS (slS w0 p.length) (stS t0 (p ++ a :: b :: q)) = .nx (slS w0 (p.length - 1)) (stS t0 (p ++ b :: a :: q)) := by
  have e1 : cS (slS w0 p.length) (stS t0 (p ++ a :: b :: q)) = .ok true (stS t0 (p ++ a :: b :: q)) := by rw [cond_run, decide_eq_true hb]
  refine (sIf_t e1).trans ?_
  have s1 : (tgSub (eVar 1) (eVar 2) (.d (.int b)) : EM Unit) (slS w0 p.length) (stS t0 (p ++ a :: b :: q)) = .ok () (stS t0 (p ++ b :: b :: q)) := by
    show (match (match ixM (wM (p ++ a :: b :: q)).length (Int.ofNat p.length) with | some j => some (List.set (stS t0 (p ++ a :: b :: q)) 1 (.lst ((wM (p ++ a :: b :: q)).set j (.int b)))) | none => none) with | some st3 => O.ok () st3 | none => .bad) = _
    have : ixM (wM (p ++ a :: b :: q)).length (Int.ofNat p.length) = some p.length := by
      unfold ixM
      simp only [show Nat.blt p.length (wM (p ++ a :: b :: q)).length = true from Nat.ble_eq_true_of_le (by rw [wM_len, List.length_append]; show p.length + 1 ≤ p.length + (q.length + 1 + 1); omega)]
    rw [this]
    show O.ok () [t0, .lst ((wM (p ++ a :: b :: q)).set p.length (.int b))] = _
    have e : (wM (p ++ a :: b :: q)).set p.length (.int b) = wM (p ++ b :: b :: q) := by
      rw [wM_app, wM_app, ← wM_len p]
      exact set_at _ _ _ _
    rw [e]
  have s2 : (tgSub (eVar 1) (eBin (fAdd false) (eVar 2) (eC (.int 1))) (.d (.int a)) : EM Unit) (slS w0 p.length) (stS t0 (p ++ b :: b :: q)) = .ok () (stS t0 (p ++ b :: a :: q)) := by
    show (match (match ixM (wM (p ++ b :: b :: q)).length (Int.ofNat (p.length + 1)) with | some j => some (List.set (stS t0 (p ++ b :: b :: q)) 1 (.lst ((wM (p ++ b :: b :: q)).set j (.int a)))) | none => none) with | some st3 => O.ok () st3 | none => .bad) = _
    have : ixM (wM (p ++ b :: b :: q)).length (Int.ofNat (p.length + 1)) = some (p.length + 1) := by
      unfold ixM
      simp only [show Nat.blt (p.length + 1) (wM (p ++ b :: b :: q)).length = true from Nat.ble_eq_true_of_le (by rw [wM_len, List.length_append]; show p.length + 1 + 1 ≤ p.length + (q.length + 1 + 1); omega)]
    rw [this]
    show O.ok () [t0, .lst ((wM (p ++ b :: b :: q)).set (p.length + 1) (.int a))] = _
    have e : (wM (p ++ b :: b :: q)).set (p.length + 1) (.int a) = wM (p ++ b :: a :: q) := by
      have e1 : p ++ b :: b :: q = (p ++ [b]) ++ b :: q := by simp
      have e2 : p ++ b :: a :: q = (p ++ [b]) ++ a :: q := by simp
      have hl : p.length + 1 = (wM (p ++ [b])).length := by rw [wM_len, List.length_append]; rfl
      rw [e1, e2, wM_app (p ++ [b]) (b :: q), wM_app (p ++ [b]) (a :: q), hl]
      exact set_at _ _ _ _
    rw [e]
  refine sSeq_eq (sl' := slS w0 p.length) (st' := stS t0 (p ++ b :: a :: q)) ?_ ?_
  · unfold sAsg
    rw [app2 (o := .ok (.d (.tup false [.int b, .int a])) (stS t0 (p ++ a :: b :: q))) ixB ixA rfl]
    show ((mCons (mSub (eVar 1) (eVar 2)) (mCons (mSub (eVar 1) (eBin (fAdd false) (eVar 2) (eC (.int 1)))) mNil) : TMs) [.int b, .int a] (slS w0 p.length) (stS t0 (p ++ a :: b :: q))).s _ = _
    have m2 : (mCons (mSub (eVar 1) (eBin (fAdd false) (eVar 2) (eC (.int 1)))) mNil : TMs) [.int a] (slS w0 p.length) (stS t0 (p ++ b :: b :: q)) = .ok (slS w0 p.length) (stS t0 (p ++ b :: a :: q)) := by
      show (((tgSub (eVar 1) (eBin (fAdd false) (eVar 2) (eC (.int 1))) (.d (.int a)) : EM Unit) (slS w0 p.length) (stS t0 (p ++ b :: b :: q))).bind _).bind _ = _
      rw [s2]
      rfl
    have m1 : (mCons (mSub (eVar 1) (eVar 2)) (mCons (mSub (eVar 1) (eBin (fAdd false) (eVar 2) (eC (.int 1)))) mNil) : TMs) [.int b, .int a] (slS w0 p.length) (stS t0 (p ++ a :: b :: q)) = .ok (slS w0 p.length) (stS t0 (p ++ b :: a :: q)) := by
      show (((tgSub (eVar 1) (eVar 2) (.d (.int b)) : EM Unit) (slS w0 p.length) (stS t0 (p ++ a :: b :: q))).bind _).bind _ = _
      rw [s1]
      exact m2
    rw [m1]
    rfl
  · show SO.nx [w0, some (.loc 1), some (.d (.int (match ltI 0 (Int.ofNat p.length - 1) with | true => Int.ofNat p.length - 1 | false => 0)))] _ = _
    rw [max_pred]
theorem stay_run (hb : ¬ bad a b) : bS (slS w0 p.length) (stS t0 (p ++ a :: b :: q)) = .nx (slS w0 (p.length + 1)) (stS t0 (p ++ a :: b :: q)) := by
  have e1 : cS (slS w0 p.length) (stS t0 (p ++ a :: b :: q)) = .ok false (stS t0 (p ++ a :: b :: q)) := by rw [cond_run, decide_eq_false hb]
  exact (sIf_f e1).trans rfl
theorem more_run (k : Nat) (l : List Int) : tS (slS w0 k) (stS t0 l) = .ok (decide (k + 1 < l.length)) (stS t0 l) := by
  show O.ok (ltI (Int.ofNat k) (((wM l).length : Int) - 1)) (stS t0 l) = _
  have h := ltI_iff (Int.ofNat k) (((wM l).length : Int) - 1)
  have e : (Int.ofNat k : Int) = (k : Int) := rfl
  rw [wM_len] at *
  by_cases hk : k + 1 < l.length
  · rw [decide_eq_true hk, h.mpr (by omega)]
  · rw [decide_eq_false hk]
    cases q : ltI (Int.ofNat k) ((l.length : Int) - 1) with
    | false => rfl
    | true => have := h.mp q; omega
end
theorem wLoop_f {t : EM Bool} {b : SM} {n : Nat} {sl : Slots} {st st1 : Store} (h : t sl st = .ok false st1) : wLoop t b (n + 1) sl st = .nx sl st1 := by
  unfold wLoop
  rw [h]
  rfl
theorem wLoop_t {t : EM Bool} {b : SM} {n : Nat} {sl sl2 : Slots} {st st1 st2 : Store} (h : t sl st = .ok true st1) (h2 : b sl st1 = .nx sl2 st2) : wLoop t b (n + 1) sl st = wLoop t b n sl2 st2 := by
  show (t sl st).s _ = _
  rw [h]
  show (match b sl st1 with | .nx sl' st' => wLoop t b n sl' st' | .ct sl' st' => wLoop t b n sl' st' | .bk sl' st' => .nx sl' st' | o => o) = _
  rw [h2]
theorem sort_loop {w0 : Option DH.X} {t0 : MO} {w : List Int} (hz : Nz w) : ∀ (n : Nat) (p : List Int) (a : Int) (rest : List Int), wt (p ++ a :: rest) + rest.length < n → Same w (p ++ a :: rest) → OkL (p ++ [a]) →
    ∃ k' l', wLoop tS bS n (slS w0 p.length) (stS t0 (p ++ a :: rest)) = .nx [w0, some (.loc 1), k'] (stS t0 l') ∧ Same w l' ∧ OkL l'
  | 0, _, _, _, h, _, _ => by omega
  | n + 1, p, a, [], h, hs, ho => by
    refine ⟨_, p ++ [a], wLoop_f ?_, hs, ho⟩
    rw [more_run, decide_eq_false (by rw [List.length_append]; show ¬ p.length + 1 < p.length + 1; omega)]
  | n + 1, p, a, b :: q, h, hs, ho => by
    have ht : tS (slS w0 p.length) (stS t0 (p ++ a :: b :: q)) = .ok true (stS t0 (p ++ a :: b :: q)) := by
      rw [more_run, decide_eq_true (by rw [List.length_append]; show p.length + 1 < p.length + (q.length + 1 + 1); omega)]
    have hl : (b :: q).length = q.length + 1 := rfl
    rw [hl] at h
    by_cases hb : bad a b
    · have hwt := wt_swap a b q p
      have hab : b.natAbs + 2 ≤ a.natAbs := by
        obtain ⟨h1, h2⟩ := hb
        unfold far at h1
        omega
      rw [wLoop_t ht (swap_run hb)]
      have hs2 := hs.swap hz hb
      rcases List.eq_nil_or_concat p with rfl | ⟨p', c, rfl⟩
      · exact sort_loop hz n [] b (a :: q) (by show wt ([] ++ b :: a :: q) + (q.length + 1) < n; omega) hs2 ⟨trivial, trivial⟩
      · have e1 : ∀ r : List Int, p'.concat c ++ r = p' ++ c :: r := fun r => by simp
        have e2 : (p'.concat c).length - 1 = p'.length := by simp
        rw [e1] at hs2 hwt ⊢
        rw [e1] at hwt
        rw [e1] at h
        rw [e2]
        refine sort_loop hz n p' c (b :: a :: q) ?_ hs2 ?_
        · show wt (p' ++ c :: b :: a :: q) + (q.length + 1 + 1) < n
          omega
        · rw [e1] at ho
          have : p' ++ c :: [a] = (p' ++ [c]) ++ [a] := by simp
          rw [this] at ho
          exact okL_pre _ _ ho
    · rw [wLoop_t ht (stay_run hb)]
      have e1 : p ++ a :: b :: q = (p ++ [a]) ++ b :: q := by simp
      have e2 : p.length + 1 = (p ++ [a]).length := by simp
      have ho2 := okL_snoc p a b ho hb
      have e3 : p ++ [a, b] = (p ++ [a]) ++ [b] := by simp
      rw [e3] at ho2
      rw [e1] at hs h ⊢
      rw [e2]
      exact sort_loop hz n (p ++ [a]) b q (by omega) hs ho2
theorem letters_le {m : Nat} (hm : m = 2 ∨ m = 3 ∨ m = 4 ∨ m = 5) {x : Int} (hx : x ∈ letters m) : x.natAbs ≤ 4 ∧ x ≠ 0 := by
  rcases hm with rfl | rfl | rfl | rfl <;> (simp only [letters, List.mem_cons, List.not_mem_nil, or_false] at hx) <;> omega
theorem sorted_run {m : Nat} (hm : m = 2 ∨ m = 3 ∨ m = 4 ∨ m = 5) {w : List Int} (h : Ltr m w) (hz : w.length ≤ 8) (t0 : MO) : ∃ l, m_sorted_word [.d (wD w)] [t0] = .ok (.d (wD l)) [t0] ∧ Same w l ∧ OkL l := by
  have nz : Nz w := fun x hx => (letters_le hm (h x hx)).2
  have key : ∃ k' l', wLoop tS bS 400 (slS (some (.d (wD w))) 0) (stS t0 w) = .nx [some (.d (wD w)), some (.loc 1), k'] (stS t0 l') ∧ Same w l' ∧ OkL l' := by
    cases w with
    | nil => exact ⟨_, [], rfl, Same.refl _, trivial⟩
    | cons x v =>
      have hw := wt_low (n := 4) (x :: v) fun z hz => (letters_le hm (h z hz)).1
      have hb : (x :: v).length * ((x :: v).length + 1) ≤ 8 * 9 := Nat.mul_le_mul hz (by omega)
      have hl : (x :: v).length = v.length + 1 := rfl
      exact sort_loop nz 400 [] x v (by show wt (x :: v) + v.length < 400; omega) (Same.refl _) ⟨trivial, trivial⟩
  obtain ⟨k', l', e, hs, ho⟩ := key
  refine ⟨l', ?_, hs, ho⟩
  rw [mF_sorted_word]
  refine mkD_rt (more := [.lst (wM l')]) rfl ?_
  show bS_m_sorted_word [some (.d (wD w)), none, none] [t0] = _
  unfold bS_m_sorted_word
  refine sSeq_eq (sl' := [some (.d (wD w)), some (.loc 1), none]) (st' := stS t0 w) rfl ?_
  refine sSeq_eq (sl' := slS (some (.d (wD w))) 0) (st' := stS t0 w) rfl ?_
  refine sSeq_eq e ?_
  exact sRet_ok (app1 rfl rfl)
end DHk08
noncomputable section
namespace DHk08
open PySem PySem.Spec PyProof.Rows L2 DH
/-! ### slices -/
theorem sIx_nat (n d k : Nat) : sIxM n d (some (Int.ofNat k)) = min k n := by
  have h0 : ltI (Int.ofNat k) 0 = false := by
    cases q : ltI (Int.ofNat k) 0 with
    | false => rfl
    | true =>
      have := (ltI_iff _ _).mp q
      have e : (Int.ofNat k : Int) = (k : Int) := rfl
      omega
  show (match ltI (Int.ofNat k) 0 with | true => (Int.ofNat k + Int.ofNat n).toNat | false => (match Nat.ble k n with | true => k | false => n)) = _
  rw [h0]
  cases q : Nat.ble k n with
  | true => have := Nat.le_of_ble_eq_true q; show k = _; omega
  | false =>
    have : ¬ k ≤ n := fun z => by rw [Nat.ble_eq_true_of_le z] at q; cases q
    show n = _
    omega
theorem gSl_tup {xs : List D} {lo hi : Option Int} {st : Store} {a b : Nat} (ha : sIxM xs.length 0 lo = a) (hb : sIxM xs.length xs.length hi = b) : gSl false (.d (.tup false xs)) lo hi st = .ok (.d (.tup false ((xs.drop a).take (b - a)))) st := by
  show (match Nat.beq (sIxM xs.length 0 lo) 0 && Nat.beq (sIxM xs.length xs.length hi) xs.length with | true => O.ok (X.d (.tup false xs)) st | false => newT (cutM xs lo hi) st) = _
  unfold cutM
  rw [ha, hb]
  cases q : Nat.beq a 0 && Nat.beq b xs.length with
  | false => rfl
  | true =>
    rw [Bool.and_eq_true, Nat.beq_eq, Nat.beq_eq] at q
    rw [q.1, q.2, Nat.sub_zero]
    show O.ok (X.d (.tup false xs)) st = .ok (.d (.tup false (xs.take xs.length))) st
    rw [List.take_length]
/-! ### turned_threes -/
def t3 (x y z : Int) : Bool := eqI x z && (ltI 0 (x * y) && eqI (absI (absI x - absI y)) 1)
theorem t3_iff {x y z : Int} : t3 x y z = true ↔ (x = z ∧ like x y) := by
  unfold t3 like
  rw [Bool.and_eq_true, Bool.and_eq_true, eqI_iff, ltI_iff, eqI_iff, absI_eq, absI_eq, absI_eq]
  constructor
  · intro h; exact ⟨h.1, h.2.1, by have := h.2.2; omega⟩
  · intro h; exact ⟨h.1, h.2.1, by have := h.2.2; omega⟩
abbrev cT : EM Bool := tAndM (eTest (eBin (f2 gEq) (eVar 2) (eVar 4))) (tAndM (eTest (eBin (f2 gGt) (eBin (fMulT false) (eVar 2) (eVar 3)) (eC (.int 0)))) (eTest (eBin (f2 gEq) (eApp (f1 gAbs) (aCons (eBin (f2 gSub) (eApp (f1 gAbs) (aCons (eVar 2) aNil)) (eApp (f1 gAbs) (aCons (eVar 3) aNil))) aNil)) (eC (.int 1)))))
theorem and3 {t u v : EM Bool} {sl : Slots} {st : Store} {a b c : Bool} (h1 : t sl st = .ok a st) (h2 : u sl st = .ok b st) (h3 : v sl st = .ok c st) : tAndM t (tAndM u v) sl st = .ok (a && (b && c)) st := by
  cases a with
  | false => exact tAnd_f h1
  | true =>
    refine (tAnd_ok h1 ?_)
    cases b with
    | false => exact tAnd_f h2
    | true => exact tAnd_ok h2 h3
theorem cT_run {w0 q1 : Option DH.X} {x y z : Int} {st : Store} (hl : (lowI y || lowI x) = true) : cT [w0, q1, some (.d (.int x)), some (.d (.int y)), some (.d (.int z))] st = .ok (t3 x y z) st := by
  refine and3 rfl ?_ rfl
  refine eTest_ok (bin_at (x := .d (.int (x * y))) (y := .d (.int 0)) (st1 := st) (st2 := st) (bin_at (x := .d (.int x)) (y := .d (.int y)) rfl rfl ?_) rfl rfl)
  show (match lowI y || lowI x with | true => O.ok (X.d (.int (x * y))) st | false => .bad) = _
  rw [hl]
theorem letters_low {m : Nat} (hm : m = 2 ∨ m = 3 ∨ m = 4 ∨ m = 5) {x : Int} (hx : x ∈ letters m) : lowI x = true := by
  rcases hm with rfl | rfl | rfl | rfl <;> (simp only [letters, List.mem_cons, List.not_mem_nil, or_false] at hx)
  · rcases hx with rfl | rfl <;> rfl
  · rcases hx with rfl | rfl | rfl | rfl <;> rfl
  · rcases hx with rfl | rfl | rfl | rfl | rfl | rfl <;> rfl
  · rcases hx with rfl | rfl | rfl | rfl | rfl | rfl | rfl | rfl <;> rfl
def at3 (w : List Int) (k : Nat) : Bool := t3 (w.getD k 0) (w.getD (k + 1) 0) (w.getD (k + 2) 0)
theorem three_at {w : List Int} {k : Nat} (h : k + 2 < w.length) : (w.drop k).take 3 = [w.getD k 0, w.getD (k + 1) 0, w.getD (k + 2) 0] := by
  have g : ∀ (j : Nat) (hj : j < w.length), w.getD j 0 = w[j] := fun j hj => by rw [List.getD_eq_getElem?_getD, List.getElem?_eq_getElem hj]; rfl
  have e1 := List.drop_eq_getElem_cons (show k < w.length by omega)
  have e2 := List.drop_eq_getElem_cons (show k + 1 < w.length by omega)
  have e3 := List.drop_eq_getElem_cons (show k + 1 + 1 < w.length from h)
  rw [e1, e2, e3, g k (by omega), g (k + 1) (by omega), g (k + 2) h]
  rfl
abbrev bT : SM := sSeq (sAsg (eSl false (eVar 0) (eP (eVar 1)) (eP (eBin (fAdd false) (eVar 1) (eC (.int 3))))) (mTup 3 (mCons (mNm 2) (mCons (mNm 3) (mCons (mNm 4) mNil))))) (sIf cT (sRet (eVar 1)) sNx)
theorem slice_run {w : List Int} {k : Nat} (h : k + 2 < w.length) {q2 q3 q4 : Option DH.X} {st : Store} : (eSl false (eVar 0) (eP (eVar 1)) (eP (eBin (fAdd false) (eVar 1) (eC (.int 3)))) : EM DH.X) [some (.d (wD w)), some (.d (nD k)), q2, q3, q4] st = .ok (.d (wD [w.getD k 0, w.getD (k + 1) 0, w.getD (k + 2) 0])) st := by
  show gSl false (.d (.tup false (w.map D.int))) (some (Int.ofNat k)) (some (Int.ofNat (k + 3))) st = _
  rw [gSl_tup (sIx_nat _ _ _) (sIx_nat _ _ _), List.length_map, Nat.min_eq_left (by omega), Nat.min_eq_left (by omega), show k + 3 - k = 3 by omega, ← List.map_drop, ← List.map_take, three_at h]
  rfl
theorem getD_ltr {m : Nat} {w : List Int} (hw : Ltr m w) {k : Nat} (h : k < w.length) : w.getD k 0 ∈ letters m := by
  rw [List.getD_eq_getElem?_getD, List.getElem?_eq_getElem h]
  exact hw _ (List.getElem_mem h)
theorem loop_t {m : Nat} (hm : m = 2 ∨ m = 3 ∨ m = 4 ∨ m = 5) {w : List Int} (hw : Ltr m w) {xs0 : List D} {st : Store} : ∀ (ks : List Nat) (q1 q2 q3 q4 : Option DH.X), (∀ k ∈ ks, k + 2 < w.length) →
    match ks.find? (at3 w) with
    | some k => fLoopG (xs0, none) (.nm 1) bT (ks.map nD) [some (.d (wD w)), q1, q2, q3, q4] st = .rt (.d (nD k)) st
    | none => ∃ q1' q2' q3' q4', fLoopG (xs0, none) (.nm 1) bT (ks.map nD) [some (.d (wD w)), q1, q2, q3, q4] st = .nx [some (.d (wD w)), q1', q2', q3', q4'] st
  | [], q1, q2, q3, q4, _ => ⟨q1, q2, q3, q4, rfl⟩
  | k :: ks, q1, q2, q3, q4, h => by
    have hk := h k (.head _)
    have hl := letters_low hm (getD_ltr hw (k := k + 1) (by omega))
    have e1 : (sAsg (eSl false (eVar 0) (eP (eVar 1)) (eP (eBin (fAdd false) (eVar 1) (eC (.int 3))))) (mTup 3 (mCons (mNm 2) (mCons (mNm 3) (mCons (mNm 4) mNil)))) : SM) [some (.d (wD w)), some (.d (nD k)), q2, q3, q4] st = .nx [some (.d (wD w)), some (.d (nD k)), some (.d (.int (w.getD k 0))), some (.d (.int (w.getD (k + 1) 0))), some (.d (.int (w.getD (k + 2) 0)))] st := by
      unfold sAsg
      rw [slice_run hk]
      rfl
    have e2 : cT [some (.d (wD w)), some (.d (nD k)), some (.d (.int (w.getD k 0))), some (.d (.int (w.getD (k + 1) 0))), some (.d (.int (w.getD (k + 2) 0)))] st = .ok (at3 w k) st := cT_run (by rw [hl]; rfl)
    rw [List.find?_cons]
    cases q : at3 w k with
    | true =>
      rw [q] at e2
      have eb : bT [some (.d (wD w)), some (.d (nD k)), q2, q3, q4] st = .rt (.d (nD k)) st := sSeq_eq e1 ((sIf_t e2).trans rfl)
      show fLoopG (xs0, none) (.nm 1) bT (nD k :: ks.map nD) _ _ = _
      unfold fLoopG
      show (match bT [some (.d (wD w)), some (.d (nD k)), q2, q3, q4] st with | .nx sl' st' => _ | .ct sl' st' => _ | .bk sl' st' => _ | o => o) = _
      rw [eb]
    | false =>
      rw [q] at e2
      have eb : bT [some (.d (wD w)), some (.d (nD k)), q2, q3, q4] st = .nx [some (.d (wD w)), some (.d (nD k)), some (.d (.int (w.getD k 0))), some (.d (.int (w.getD (k + 1) 0))), some (.d (.int (w.getD (k + 2) 0)))] st := sSeq_eq e1 ((sIf_f e2).trans rfl)
      have ih := loop_t hm hw (xs0 := xs0) (st := st) ks (some (.d (nD k))) (some (.d (.int (w.getD k 0)))) (some (.d (.int (w.getD (k + 1) 0)))) (some (.d (.int (w.getD (k + 2) 0)))) fun j hj => h j (.tail _ hj)
      have e3 : fLoopG (xs0, none) (.nm 1) bT (List.map nD (k :: ks)) [some (.d (wD w)), q1, q2, q3, q4] st = fLoopG (xs0, none) (.nm 1) bT (ks.map nD) [some (.d (wD w)), some (.d (nD k)), some (.d (.int (w.getD k 0))), some (.d (.int (w.getD (k + 1) 0))), some (.d (.int (w.getD (k + 2) 0)))] st := by
        show fLoopG (xs0, none) (.nm 1) bT (nD k :: ks.map nD) _ _ = _
        rw [fLoopG]
        show (match bT [some (.d (wD w)), some (.d (nD k)), q2, q3, q4] st with | .nx sl' st' => _ | .ct sl' st' => _ | .bk sl' st' => _ | o => o) = _
        rw [eb]
      simp only
      rw [e3]
      exact ih
def optD : Option Nat → D
  | some k => nD k
  | none => .non
def first3 (w : List Int) : Option Nat := (upN 0 (w.length - 2)).find? (at3 w)
theorem rg_run (w : List Int) (hz : w.length ≤ 50) : range1M [.d (.int ((w.length : Int) - 2))] = some ((upN 0 (w.length - 2)).map nD) := by
  have h1 : int62 ((w.length : Int) - 2) = true := by
    unfold int62
    exact Nat.ble_eq_true_of_le (by omega)
  show (match int62 ((w.length : Int) - 2) with | true => some (upI 0 1 ((w.length : Int) - 2).toNat) | false => none) = _
  rw [h1]
  show some (upI (Int.ofNat 0) 1 ((w.length : Int) - 2).toNat) = _
  rw [upI_nats, show ((w.length : Int) - 2).toNat = w.length - 2 by omega]
theorem turned_run {m : Nat} (hm : m = 2 ∨ m = 3 ∨ m = 4 ∨ m = 5) {w : List Int} (hw : Ltr m w) (hz : w.length ≤ 50) (st : Store) : m_turned_threes [.d (wD w)] st = .ok (.d (optD (first3 w))) st := by
  rw [mF_turned_threes]
  refine mkD_rt (more := []) rfl ?_
  rw [List.append_nil]
  show bS_m_turned_threes [some (.d (wD w)), none, none, none, none] st = _
  have hsrc : (srcD (iRg range1M (aCons (eBin (f2 gSub) (eApp (f1 gLen) (aCons (eVar 0) aNil)) (eC (.int 2))) aNil)) : EM Src) [some (.d (wD w)), none, none, none, none] st = .ok ((upN 0 (w.length - 2)).map nD, none) st := by
    have e : (eBin (f2 gSub) (eApp (f1 gLen) (aCons (eVar 0) aNil)) (eC (.int 2)) : EM DH.X) [some (.d (wD w)), none, none, none, none] st = .ok (.d (.int (((w.map D.int).length : Int) - 2))) st := rfl
    rw [List.length_map] at e
    unfold srcD iRg
    rw [aOne e]
    show ((match range1M [.d (.int ((w.length : Int) - 2))] with | some ds => O.ok ds st | none => .bad).bind _) = _
    rw [rg_run w hz]
    rfl
  have hl := loop_t hm hw (xs0 := (upN 0 (w.length - 2)).map nD) (st := st) (upN 0 (w.length - 2)) none none none none fun k hk => by
    have := upN_inv hk
    omega
  unfold first3
  cases q : (upN 0 (w.length - 2)).find? (at3 w) with
  | some k =>
    rw [q] at hl
    show sSeq (sForG _ _ _) _ _ _ = _
    unfold sSeq sForG
    rw [hsrc]
    show (match fLoopG ((upN 0 (w.length - 2)).map nD, none) (.nm 1) bT ((upN 0 (w.length - 2)).map nD) [some (.d (wD w)), none, none, none, none] st with | .nx sl' st' => _ | o => o) = _
    rw [hl]
    rfl
  | none =>
    rw [q] at hl
    obtain ⟨q1, q2, q3, q4, hl⟩ := hl
    refine sSeq_eq (sl' := [some (.d (wD w)), q1, q2, q3, q4]) (st' := st) ?_ rfl
    unfold sForG
    rw [hsrc]
    exact hl
/-! ### put_other -/
theorem first3_at {w : List Int} {k : Nat} (h : first3 w = some k) : ∃ (p r : List Int) (x y : Int), p.length = k ∧ w = p ++ x :: y :: x :: r ∧ like x y := by
  unfold first3 at h
  have h1 := List.find?_some h
  have h2 := upN_inv (List.mem_of_find?_eq_some h)
  have hk : k + 2 < w.length := by omega
  obtain ⟨e, hl⟩ := t3_iff.mp h1
  refine ⟨w.take k, w.drop (k + 3), w.getD k 0, w.getD (k + 1) 0, by rw [List.length_take]; omega, ?_, hl⟩
  have e3 := three_at hk
  have e4 : w = w.take k ++ (w.drop k).take 3 ++ (w.drop k).drop 3 := by rw [List.append_assoc, List.take_append_drop, List.take_append_drop]
  rw [e3, List.drop_drop] at e4
  exact e4.trans (by rw [← e]; simp)
theorem first_one (x y : Int) (h : like x y) : first3 [x, y, x] = some 0 := by
  have : at3 [x, y, x] 0 = true := t3_iff.mpr ⟨rfl, h⟩
  show (match at3 [x, y, x] 0 with | true => some 0 | false => _) = _
  rw [this]
theorem slice_lo {p r : List Int} {st : Store} : gSl false (.d (wD (p ++ r))) none (some (Int.ofNat p.length)) st = .ok (.d (wD p)) st := by
  unfold wD
  rw [gSl_tup (a := 0) rfl (sIx_nat _ _ _), List.length_map, List.length_append, Nat.min_eq_left (by omega), Nat.sub_zero, List.drop_zero, ← List.map_take, List.take_left]
theorem slice_hi {p r : List Int} {st : Store} : gSl false (.d (wD (p ++ r))) (some (Int.ofNat p.length)) none st = .ok (.d (wD r)) st := by
  unfold wD
  rw [gSl_tup (b := ((p ++ r).map D.int).length) (sIx_nat _ _ _) rfl, List.length_map, List.length_append, Nat.min_eq_left (by omega), ← List.map_drop, ← List.map_take, List.drop_left, Nat.add_sub_cancel_left, List.take_length]
theorem add_w {a b : List Int} {st : Store} (hz : a.length + b.length ≤ 50) : fAdd false (.d (wD a)) (.d (wD b)) st = .ok (.d (wD (a ++ b))) st := by
  show (match small ((a.map D.int).length + (b.map D.int).length) with | true => (match a.map D.int with | [] => O.ok (X.d (wD b)) st | _ :: _ => (match b.map D.int with | [] => .ok (.d (wD a)) st | _ :: _ => newT (a.map D.int ++ b.map D.int) st)) | false => .bad) = _
  rw [show small ((a.map D.int).length + (b.map D.int).length) = true from Nat.ble_eq_true_of_le (by rw [List.length_map, List.length_map]; omega)]
  cases a with
  | nil => rfl
  | cons x a =>
    cases b with
    | nil => rw [List.append_nil]; rfl
    | cons y b => show newT ((x :: a).map D.int ++ (y :: b).map D.int) st = _; rw [← List.map_append]; rfl
theorem put_run {m : Nat} (hm : m = 2 ∨ m = 3 ∨ m = 4 ∨ m = 5) {p r : List Int} {x y : Int} (hw : Ltr m (p ++ x :: y :: x :: r)) (hl : like x y) (hz : (p ++ x :: y :: x :: r).length ≤ 20) (st : Store) :
    m_put_other [.d (wD (p ++ x :: y :: x :: r)), .d (nD p.length)] st = .ok (.d (wD (p ++ y :: x :: y :: r))) st := by
  have hlen : (p ++ x :: y :: x :: r).length = p.length + (r.length + 3) := by rw [List.length_append]; rfl
  have hp : (wM (p ++ x :: y :: x :: r)).length = p.length + (r.length + 3) := by rw [wM_len, hlen]
  have hx : x ∈ letters m := hw x (by simp)
  have hy : y ∈ letters m := hw y (by simp)
  have e0 : p ++ x :: y :: x :: r = (p ++ [x]) ++ y :: x :: r := by simp
  have e9 : p ++ x :: y :: x :: r = (p ++ [x, y, x]) ++ r := by simp
  rw [mF_put_other]
  refine mkD_rt (more := []) rfl ?_
  rw [List.append_nil]
  show bS_m_put_other [some (.d (wD (p ++ x :: y :: x :: r))), some (.d (nD p.length)), none, none] st = _
  unfold bS_m_put_other
  have c1 : (eTest (eChain (f2 gLe) (f2 gLt) (eC (.int 0)) (eVar 1) (eBin (f2 gSub) (eApp (f1 gLen) (aCons (eVar 0) aNil)) (eC (.int 2)))) : EM Bool) [some (.d (wD (p ++ x :: y :: x :: r))), some (.d (nD p.length)), none, none] st = .ok true st := by
    have h1 : (!ltI (Int.ofNat p.length) 0) = true := by
      cases q : ltI (Int.ofNat p.length) 0 with
      | false => rfl
      | true =>
        have := (ltI_iff _ _).mp q
        have e : (Int.ofNat p.length : Int) = (p.length : Int) := rfl
        omega
    have h2 : ltI (Int.ofNat p.length) (((wM (p ++ x :: y :: x :: r)).length : Int) - 2) = true := (ltI_iff _ _).mpr (by
      rw [hp]
      have e : (Int.ofNat p.length : Int) = (p.length : Int) := rfl
      omega)
    refine eTest_ok ?_
    show (match (!ltI (Int.ofNat p.length) 0) with | true => O.ok (X.d (.bl (ltI (Int.ofNat p.length) (((wM (p ++ x :: y :: x :: r)).length : Int) - 2)))) st | false => .ok (.d (.bl false)) st) = _
    rw [h1, h2]
  have c2 : (eTest (eBin (fIsN false) (eApp m_turned_threes (aCons (eSl false (eVar 0) (eP (eVar 1)) (eP (eBin (fAdd false) (eVar 1) (eC (.int 3))))) aNil)) (eC .non)) : EM Bool) [some (.d (wD (p ++ x :: y :: x :: r))), some (.d (nD p.length)), none, none] st = .ok false st := by
    have s1 : (eSl false (eVar 0) (eP (eVar 1)) (eP (eBin (fAdd false) (eVar 1) (eC (.int 3)))) : EM DH.X) [some (.d (wD (p ++ x :: y :: x :: r))), some (.d (nD p.length)), none, none] st = .ok (.d (wD [x, y, x])) st := by
      show gSl false (.d (.tup false ((p ++ x :: y :: x :: r).map D.int))) (some (Int.ofNat p.length)) (some (Int.ofNat (p.length + 3))) st = _
      rw [gSl_tup (sIx_nat _ _ _) (sIx_nat _ _ _), List.length_map, Nat.min_eq_left (by omega), Nat.min_eq_left (by omega), show p.length + 3 - p.length = 3 by omega, ← List.map_drop, ← List.map_take, List.drop_left]
      rfl
    have s2 := turned_run hm (w := [x, y, x]) (fun z hz => by
      simp only [List.mem_cons, List.not_mem_nil, or_false] at hz
      rcases hz with rfl | rfl | rfl
      · exact hx
      · exact hy
      · exact hx) (by show 3 ≤ 50; omega) st
    rw [first_one x y hl] at s2
    exact eTest_ok (bin_at (x := .d (nD 0)) (app1 s1 s2) rfl rfl)
  have c3 := tOr_ok (tNotM_ok c1) c2
  refine sSeq_eq (sIf_f c3) ?_
  have g1 : (eBin (f2 gIx) (eVar 0) (eVar 1) : EM DH.X) [some (.d (wD (p ++ x :: y :: x :: r))), some (.d (nD p.length)), none, none] st = .ok (.d (.int x)) st := by
    refine bin_at (x := .d (wD (p ++ x :: y :: x :: r))) (y := .d (nD p.length)) rfl rfl (gIx_tup (f := false) ?_)
    show (wM (p ++ x :: y :: x :: r))[p.length]? = _
    rw [wM_app, ← wM_len p]
    exact get_at _ _ _
  have g2 : (eBin (f2 gIx) (eVar 0) (eBin (fAdd false) (eVar 1) (eC (.int 1))) : EM DH.X) [some (.d (wD (p ++ x :: y :: x :: r))), some (.d (nD p.length)), none, none] st = .ok (.d (.int y)) st := by
    refine bin_at (x := .d (wD (p ++ x :: y :: x :: r))) (y := .d (nD (p.length + 1))) rfl rfl (gIx_tup (f := false) ?_)
    show (wM (p ++ x :: y :: x :: r))[p.length + 1]? = _
    have hl : p.length + 1 = (wM (p ++ [x])).length := by rw [wM_len, List.length_append]; rfl
    rw [e0, wM_app, hl]
    exact get_at _ _ _
  refine sSeq_eq (sl' := [some (.d (wD (p ++ x :: y :: x :: r))), some (.d (nD p.length)), some (.d (.int x)), some (.d (.int y))]) (st' := st) ?_ ?_
  · unfold sPar
    rw [g1]
    show (((eBin (f2 gIx) (eVar 0) (eBin (fAdd false) (eVar 1) (eC (.int 1))) : EM DH.X) _ st).s _) = _
    rw [g2]
    rfl
  · have a1 : (eApp (gTupOf false) (aCons (eSl false (eVar 0) eNoP (eP (eVar 1))) aNil) : EM DH.X) [some (.d (wD (p ++ x :: y :: x :: r))), some (.d (nD p.length)), some (.d (.int x)), some (.d (.int y))] st = .ok (.d (wD p)) st := app1 (x := .d (wD p)) slice_lo rfl
    have a2 : (eApp (gTupOf false) (aCons (eSl false (eVar 0) (eP (eBin (fAdd false) (eVar 1) (eC (.int 3)))) eNoP) aNil) : EM DH.X) [some (.d (wD (p ++ x :: y :: x :: r))), some (.d (nD p.length)), some (.d (.int x)), some (.d (.int y))] st = .ok (.d (wD r)) st := by
      refine app1 (x := .d (wD r)) ?_ rfl
      show gSl false (.d (wD (p ++ x :: y :: x :: r))) (some (Int.ofNat (p.length + 3))) none st = _
      have hl : p.length + 3 = (p ++ [x, y, x]).length := by rw [List.length_append]; rfl
      rw [e9, hl]
      exact slice_hi
    have a3 : (eApp fTup (aCons (eVar 3) (aCons (eVar 2) (aCons (eVar 3) aNil))) : EM DH.X) [some (.d (wD (p ++ x :: y :: x :: r))), some (.d (nD p.length)), some (.d (.int x)), some (.d (.int y))] st = .ok (.d (wD [y, x, y])) st := rfl
    have hz' : p.length + (r.length + 3) ≤ 20 := by omega
    have b1 := add_w (a := p) (b := [y, x, y]) (st := st) (by show p.length + 3 ≤ 50; omega)
    have b2 := add_w (a := p ++ [y, x, y]) (b := r) (st := st) (by rw [List.length_append]; show p.length + 3 + r.length ≤ 50; omega)
    have e5 : (p ++ [y, x, y]) ++ r = p ++ y :: x :: y :: r := by simp
    rw [e5] at b2
    exact sRet_ok (bin_at (bin_at a1 a3 b1) a2 b2)
end DHk08
noncomputable section
namespace DHk08
open PySem PySem.Spec PyProof.Rows L2 DH
/-! ### equal to itself -/
theorem all2_refl {α : Type} {f g : α → Bool} {h : α → α → Bool} (k : ∀ x, f x = true → h x x = true) : ∀ xs : List α, allB f xs = true → all2 h xs xs = true
  | [], _ => rfl
  | x :: xs, e => by
    have e' : (match f x with | true => allB f xs | false => false) = true := e
    cases q : f x with
    | false => rw [q] at e'; cases e'
    | true =>
      rw [q] at e'
      show (match h x x with | true => all2 h xs xs | false => false) = true
      rw [k x q]
      exact all2_refl (f := f) (g := f) k xs e'
theorem eqN_self : ∀ cs : List Nat, eqN cs cs = true
  | [] => rfl
  | c :: cs => by
    unfold eqN
    first
      | (rw [Nat.beq_refl]; exact eqN_self cs)
      | (simp only [Nat.beq_refl]; exact eqN_self cs)
theorem eqD_refl : ∀ (n : Nat) (d : D), okD n d = true → eqD n d d = true
  | n, .non, _ => by cases n <;> rfl
  | n, .bl b, _ => by cases n <;> cases b <;> rfl
  | n, .int i, _ => by have := eqI_self i; cases n <;> exact this
  | n, .str cs, _ => by have := eqN_self cs; cases n <;> exact this
  | 0, .tup _ _, h => by cases h
  | 0, .lst _, h => by cases h
  | n + 1, .tup _ xs, h => all2_refl (f := okD n) (g := okD n) (fun x hx => eqD_refl n x hx) xs h
  | n + 1, .lst xs, h => all2_refl (f := okD n) (g := okD n) (fun x hx => eqD_refl n x hx) xs h
  | 0, .dct _ _, h => by cases h
  | n + 1, .dct _ _, h => by cases h
  | 0, .obj _ _, h => by cases h
  | n + 1, .obj _ _, h => by cases h
theorem ne_self {d : D} {st : Store} (h : okD 64 d = true) : gNe d d st = .ok (.d (.bl false)) st := by
  show (match okD 64 d with | true => (match okD 64 d with | true => O.ok (X.d (.bl (!eqD 64 d d))) st | false => .bad) | false => .bad) = _
  rw [h, eqD_refl 64 d h]
  rfl
theorem ok_w (w : List Int) : okD 64 (wD w) = true := ok_ints 63 w
theorem ok_due (m : Nat) (w : List Int) : okD 64 (dueD m w) = true := by
  have h1 : okD 63 (spotsD m w) = true := by
    show allB (okD 62) (spD m (runG home w)) = true
    exact allB_map (fun _ => rfl) _
  have h2 : okD 63 (windD w) = true := by
    show allB (okD 62) ((resK _).map _) = true
    exact allB_map (fun _ => rfl) _
  show (match okD 63 (spotsD m w) with | true => (match okD 63 (windD w) with | true => true | false => false) | false => false) = true
  rw [h1, h2]
theorem due_eq {m : Nat} {v w : List Int} (h : ∀ a : S, v.foldl step a = w.foldl step a) : dueD m v = dueD m w := by
  have r1 := run_step (fun _ _ => 0) v home [] fun _ => rfl
  have r2 := run_step (fun _ _ => 0) w home [] fun _ => rfl
  have e := h (home, fun _ _ => 0)
  have eg : runG home v = runG home w := by rw [← r1.1, ← r2.1, e]
  have ev : windD v = windD w := resD_eq (runE_nodup v home [] List.nodup_nil) (runE_nodup w home [] List.nodup_nil) fun p => by rw [r1.2, r2.2, e]
  unfold dueD spotsD
  rw [eg, ev]
/-! ### the word that is rolled -/
def letterOf (a b : Nat) : Int := match b with
  | 0 => Int.ofNat (a + 1)
  | _ => Int.negSucc a
def wordOf : List (Nat × Nat) → List Int
  | (_, a) :: (_, b) :: t => letterOf a b :: wordOf t
  | _ => []
def TW (m : Nat) : Nat → RT
  | 0 => .leaf
  | n + 1 => .node (m - 1) fun _ => .node 2 fun _ => TW m n
theorem TW_wf {m : Nat} (hm : m = 2 ∨ m = 3 ∨ m = 4 ∨ m = 5) : ∀ n, (TW m n).Wf
  | 0 => trivial
  | n + 1 => ⟨by omega, by omega, fun _ _ => ⟨by decide, by decide, fun _ _ => TW_wf hm n⟩⟩
theorem letter_in {m a b : Nat} (hm : m = 2 ∨ m = 3 ∨ m = 4 ∨ m = 5) (ha : a < m - 1) (hb : b < 2) : letterOf a b ∈ letters m := by
  have hb' : b = 0 ∨ b = 1 := by omega
  rcases hm with rfl | rfl | rfl | rfl
  · have : a = 0 := by omega
    subst this
    rcases hb' with rfl | rfl <;> decide
  · have : a = 0 ∨ a = 1 := by omega
    rcases this with rfl | rfl <;> rcases hb' with rfl | rfl <;> decide
  · have : a = 0 ∨ a = 1 ∨ a = 2 := by omega
    rcases this with rfl | rfl | rfl <;> rcases hb' with rfl | rfl <;> decide
  · have : a = 0 ∨ a = 1 ∨ a = 2 ∨ a = 3 := by omega
    rcases this with rfl | rfl | rfl | rfl <;> rcases hb' with rfl | rfl <;> decide
abbrev eW : EM DH.X := eBin (fMulT false) (eBin (fAdd false) (eC (.int 1)) (eApp mRoll (aCons (eVar 1) (aCons (eBin (f2 gSub) (eVar 2) (eC (.int 1))) aNil)))) (eBin (f2 gIx) (eApp (fLst false) (aCons (eC (.int 1)) (aCons (eBin (f2 gSub) (eC (.int 0)) (eC (.int 1))) aNil))) (eApp mRoll (aCons (eVar 1) (aCons (eC (.int 2)) aNil))))
abbrev slL (m : Nat) (q7 : Option DH.X) : Slots := [none, some (.loc 0), some (.d (mD m)), none, none, none, none, q7, none, none, none, none, none]
theorem eW_run {m a b : Nat} (hm : m = 2 ∨ m = 3 ∨ m = 4 ∨ m = 5) (ha : a < m - 1) (hb : b < 2) (q7 : Option DH.X) (t : List (Nat × Nat)) : eW (slL m q7) [.orc ((m - 1, a) :: (2, b) :: t)] = .ok (.d (.int (letterOf a b))) [.orc t] := by
  have hb' : b = 0 ∨ b = 1 := by omega
  rcases hm with rfl | rfl | rfl | rfl
  · have : a = 0 := by omega
    subst this
    rcases hb' with rfl | rfl <;> rfl
  · have : a = 0 ∨ a = 1 := by omega
    rcases this with rfl | rfl <;> rcases hb' with rfl | rfl <;> rfl
  · have : a = 0 ∨ a = 1 ∨ a = 2 := by omega
    rcases this with rfl | rfl | rfl <;> rcases hb' with rfl | rfl <;> rfl
  · have : a = 0 ∨ a = 1 ∨ a = 2 ∨ a = 3 := by omega
    rcases this with rfl | rfl | rfl | rfl <;> rcases hb' with rfl | rfl <;> rfl
theorem word_loop {m : Nat} (hm : m = 2 ∨ m = 3 ∨ m = 4 ∨ m = 5) {xs0 : List D} {t : List (Nat × Nat)} : ∀ (n : Nat) (ks acc : List D) (l : List (Nat × Nat)), ks.length = n → l ∈ (TW m n).paths →
    cLoopG (xs0, none) (.nm 7) cYes eW (slL m none) ks acc [.orc (l ++ t)] = .ok ((wM (wordOf l)).reverse ++ acc) [.orc t] ∧ (wordOf l).length = n ∧ Ltr m (wordOf l)
  | 0, ks, acc, l, hk, hl => by
    have e1 : ks = [] := List.length_eq_zero_iff.mp hk
    have e3 : l = [] := by
      have h : l ∈ [[]] := hl
      simpa using h
    subst e1 e3
    exact ⟨rfl, rfl, fun x hx => by cases hx⟩
  | n + 1, [], acc, l, hk, hl => by cases hk
  | n + 1, k :: ks, acc, l, hk, hl => by
    obtain ⟨a, ha, u, hu, rfl⟩ := RT.mem_node hl
    obtain ⟨b, hb, v, hv, rfl⟩ := RT.mem_node hu
    obtain ⟨i1, i2, i3⟩ := word_loop hm (xs0 := xs0) (t := t) n ks (.int (letterOf a b) :: acc) v (by simpa using hk) hv
    refine ⟨?_, by show (wordOf v).length + 1 = n + 1; rw [i2], fun x hx => ?_⟩
    · unfold cLoopG
      show (match eW (slL m (some (.d k))) [.orc ((m - 1, a) :: (2, b) :: (v ++ t))] with | .ok (.d y) st2 => cLoopG (xs0, none) (.nm 7) cYes eW (slL m none) ks (y :: acc) st2 | _ => O.bad) = _
      rw [eW_run hm ha hb]
      show cLoopG (xs0, none) (.nm 7) cYes eW (slL m none) ks (.int (letterOf a b) :: acc) [.orc (v ++ t)] = _
      rw [i1]
      show O.ok _ _ = O.ok ((D.int (letterOf a b) :: wM (wordOf v)).reverse ++ acc) _
      rw [List.reverse_cons, List.append_assoc]
      rfl
    · rcases List.mem_cons.mp hx with rfl | hx
      · exact letter_in hm ha hb
      · exact i3 x hx
theorem word_run {m : Nat} (hm : m = 2 ∨ m = 3 ∨ m = 4 ∨ m = 5) {n : Nat} (hn : n < 9) {l t : List (Nat × Nat)} (hl : l ∈ (TW m n).paths) :
    (sSet 3 (eApp (gTupOf false) (aCons (eCompG false [7] (srcD (iRg range1M (aCons (eApp mRoll (aCons (eVar 1) (aCons (eC (.int 9)) aNil))) aNil))) (.nm 7) cYes eW) aNil)) : SM) (slL m none) [.orc ((9, n) :: (l ++ t))] = .nx [none, some (.loc 0), some (.d (mD m)), some (.d (wD (wordOf l))), none, none, none, none, none, none, none, none, none] [.orc t] := by
  have hsrc : (srcD (iRg range1M (aCons (eApp mRoll (aCons (eVar 1) (aCons (eC (.int 9)) aNil))) aNil)) : EM Src) (slL m none) [.orc ((9, n) :: (l ++ t))] = .ok (upI 0 1 n, none) [.orc (l ++ t)] := by
    have : n = 0 ∨ n = 1 ∨ n = 2 ∨ n = 3 ∨ n = 4 ∨ n = 5 ∨ n = 6 ∨ n = 7 ∨ n = 8 := by omega
    rcases this with rfl | rfl | rfl | rfl | rfl | rfl | rfl | rfl | rfl <;> rfl
  have hlen : (upI 0 1 n).length = n := upI_len 1 n 0
  have hc : (eCompG false [7] (srcD (iRg range1M (aCons (eApp mRoll (aCons (eVar 1) (aCons (eC (.int 9)) aNil))) aNil))) (.nm 7) cYes eW : EM DH.X) (slL m none) [.orc ((9, n) :: (l ++ t))] = .ok (.d (.lst (wM (wordOf l)))) [.orc t] := by
    unfold eCompG
    rw [hsrc]
    show (match small (upI 0 1 n).length with | true => _ | false => O.bad) = _
    rw [hlen, show small n = true from Nat.ble_eq_true_of_le (by omega)]
    show (cLoopG (upI 0 1 n, none) (.nm 7) cYes eW (slL m none) (upI 0 1 n) [] [.orc (l ++ t)]).bind _ = _
    rw [(word_loop hm n (upI 0 1 n) [] l hlen hl).1]
    show newL false (revD ((wM (wordOf l)).reverse ++ []) []) [.orc t] = _
    simp only [revD_eq, List.append_nil, List.reverse_reverse]
    rfl
  unfold sSet
  rw [app1 hc rfl]
  rfl
end DHk08
noncomputable section
namespace DHk08
open PySem PySem.Spec PyProof.Rows L2 DH
abbrev noRt : SM := sRet (eC (.bl false))
/-- slots 2..: many, word, due, short, ordered, k, far, back, place, threes, other -/
abbrev slX (m : Nat) (w : List Int) (due short ordered q7 q8 bk place threes other : Option DH.X) : Slots := [none, some (.loc 0), some (.d (mD m)), some (.d (wD w)), due, short, ordered, q7, q8, bk, place, threes, other]
section
variable {m : Nat} {w v : List Int} {due short ordered q7 q8 bk place threes other : Option DH.X} {t0 : MO}
theorem if_no {t : EM Bool} {sl : Slots} {st : Store} (h : t sl st = .ok false st) : sIf t noRt sNx sl st = .nx sl st := sIf_f h
theorem or2 {t u : EM Bool} {sl : Slots} {st : Store} (h : t sl st = .ok false st) (h2 : u sl st = .ok false st) : tOrM t u sl st = .ok false st := tOr_ok h h2
theorem or3 {t u v : EM Bool} {sl : Slots} {st : Store} (h : t sl st = .ok false st) (h2 : u sl st = .ok false st) (h3 : v sl st = .ok false st) : tOrM t (tOrM u v) sl st = .ok false st := tOr_ok h (tOr_ok h2 h3)
theorem neq_f {e f : EM DH.X} {sl : Slots} {st : Store} {d : D} (h1 : e sl st = .ok (.d d) st) (h2 : f sl st = .ok (.d d) st) (hd : okD 64 d = true) : eTest (eBin (f2 gNe) e f) sl st = .ok false st :=
  eTest_ok (bin_at h1 h2 (ne_self hd))
theorem st3 (hm : m = 2 ∨ m = 3 ∨ m = 4 ∨ m = 5) (hw : Ltr m w) (hz : w.length ≤ 8) : (sIf (eTest (eBin (f2 gNe) (eApp fTup (aCons (eApp m_word_spots (aCons (eVar 3) (aCons (eVar 2) aNil))) (aCons (eApp m_winding (aCons (eVar 3) (aCons (eVar 2) aNil))) aNil))) (eVar 4))) noRt sNx) (slX m w (some (.d (dueD m w))) short ordered q7 q8 bk place threes other) [t0] = .nx (slX m w (some (.d (dueD m w))) short ordered q7 q8 bk place threes other) [t0] := by
  refine if_no (neq_f (d := dueD m w) ?_ rfl (ok_due m w))
  exact app2 (x := .d (spotsD m w)) (y := .d (windD w)) (app2 (x := .d (wD w)) (y := .d (mD m)) rfl rfl (spots_run hm hw t0)) (app2 (x := .d (wD w)) (y := .d (mD m)) rfl rfl (wind_run hm hw (by omega) t0)) rfl
theorem st4 (hm : m = 2 ∨ m = 3 ∨ m = 4 ∨ m = 5) (hw : Ltr m w) (hz : w.length ≤ 8) : ∃ l, Same w l ∧ OkL l ∧ (sTupN [5, 6] (aCons (eApp m_unwound (aCons (eVar 3) aNil)) (aCons (eApp m_sorted_word (aCons (eVar 3) aNil)) aNil)) : SM) (slX m w due short ordered q7 q8 bk place threes other) [t0] = .nx (slX m w due (some (.d (wD (redS w).reverse))) (some (.d (wD l))) q7 q8 bk place threes other) [t0] := by
  obtain ⟨l, e, hs, ho⟩ := sorted_run hm hw hz t0
  refine ⟨l, hs, ho, ?_⟩
  unfold sTupN
  rw [aTwo (x := .d (wD (redS w).reverse)) (y := .d (wD l)) (app1 (x := .d (wD w)) rfl (unwound_run (by omega) t0)) (app1 (x := .d (wD w)) rfl e)]
  rfl
theorem red_ltr (hw : Ltr m w) : Ltr m (redS w).reverse := fun x hx => by
  rcases fold_mem w [] (List.mem_reverse.mp hx) with h | h
  · exact hw x h
  · cases h
theorem red_le (w : List Int) : (redS w).reverse.length ≤ w.length := by
  rw [List.length_reverse]
  have := (fold_len w []).1
  unfold redS
  simpa using this
theorem red_due (hm : m = 2 ∨ m = 3 ∨ m = 4 ∨ m = 5) (hw : Ltr m w) : dueD m (redS w).reverse = dueD m w := due_eq fun a => by
  have := red_step a w [] fun x hx => (letters_le hm (hw x hx)).2
  exact this
theorem st5 (hm : m = 2 ∨ m = 3 ∨ m = 4 ∨ m = 5) (hw : Ltr m w) (hz : w.length ≤ 8) {l : List Int} (hs : Same w l) : (sIf (tOrM (eTest (eBin (f2 gNe) (eApp m_law_wound (aCons (eVar 5) (aCons (eVar 2) aNil))) (eVar 4))) (eTest (eBin (f2 gNe) (eApp m_law_wound (aCons (eVar 6) (aCons (eVar 2) aNil))) (eVar 4)))) noRt sNx) (slX m w (some (.d (dueD m w))) (some (.d (wD (redS w).reverse))) (some (.d (wD l))) q7 q8 bk place threes other) [t0] = .nx (slX m w (some (.d (dueD m w))) (some (.d (wD (redS w).reverse))) (some (.d (wD l))) q7 q8 bk place threes other) [t0] := by
  have hl : Ltr m l := fun x hx => hw x (hs.perm.mem_iff.mp hx)
  have hll : l.length = w.length := hs.perm.length_eq
  have r1 := wound_run hm (red_ltr hw) (by have := red_le w; omega) t0
  rw [red_due hm hw] at r1
  have r2 := wound_run hm hl (by omega) t0
  rw [due_eq hs.fold] at r2
  exact if_no (or2 (neq_f (d := dueD m w) (app2 (x := .d (wD (redS w).reverse)) (y := .d (mD m)) rfl rfl r1) rfl (ok_due m w)) (neq_f (d := dueD m w) (app2 (x := .d (wD l)) (y := .d (mD m)) rfl rfl r2) rfl (ok_due m w)))
/-- no two neighbours that cancel -/
theorem rd_at : ∀ {s : List Int}, Rd s → ∀ k, k + 1 < s.length → s.getD (k + 1) 0 ≠ -(s.getD k 0)
  | [], _, k, hk => by cases hk
  | [_], _, k, hk => by simp at hk
  | x :: y :: s, h, 0, _ => h.1
  | x :: y :: s, h, k + 1, hk => rd_at (s := y :: s) h.2 k (by simpa using hk)
theorem rd_rev {s : List Int} (h : Rd s) {k : Nat} (hk : k + 1 < s.reverse.length) : s.reverse.getD (k + 1) 0 ≠ -(s.reverse.getD k 0) := by
  rw [List.length_reverse] at hk
  have h1 := rd_at h (s.length - 1 - (k + 1)) (by omega)
  rw [show s.length - 1 - (k + 1) + 1 = s.length - 1 - k by omega] at h1
  have e : ∀ j, j < s.length → s.reverse.getD j 0 = s.getD (s.length - 1 - j) 0 := fun j hj => by
    rw [List.getD_eq_getElem?_getD, List.getD_eq_getElem?_getD, List.getElem?_reverse hj]
  rw [e _ (by omega), e _ (by omega)]
  omega
theorem ix_w {k : Nat} (hk : k < v.length) {sl : Slots} {st : Store} {i j : Nat} (h1 : sl[i]? = some (some (.d (wD v)))) (h2 : sl[j]? = some (some (.d (nD k)))) : (eBin (f2 gIx) (eVar i) (eVar j) : EM DH.X) sl st = .ok (.d (.int (v.getD k 0))) st := by
  refine bin_at (x := .d (wD v)) (y := .d (nD k)) (eVar_at h1) (eVar_at h2) (gIx_tup (f := false) ?_)
  rw [List.getElem?_map, List.getD_eq_getElem?_getD, List.getElem?_eq_getElem hk]
  rfl
theorem ix_p {k : Nat} (hk : k < v.length) {sl : Slots} {st : Store} {i j : Nat} (h1 : sl[i]? = some (some (.d (wD v)))) (h2 : sl[j]? = some (some (.d (nD (k + 1))))) : (eBin (f2 gIx) (eVar i) (eBin (f2 gSub) (eVar j) (eC (.int 1))) : EM DH.X) sl st = .ok (.d (.int (v.getD k 0))) st := by
  have e : (Int.ofNat (k + 1) - 1 : Int) = Int.ofNat k := by
    have e1 : (Int.ofNat (k + 1) : Int) = ((k + 1 : Nat) : Int) := rfl
    have e2 : (Int.ofNat k : Int) = (k : Int) := rfl
    omega
  have h3 : (eBin (f2 gSub) (eVar j) (eC (.int 1)) : EM DH.X) sl st = .ok (.d (nD k)) st := by
    refine bin_at (x := .d (nD (k + 1))) (y := .d (.int 1)) (eVar_at h2) rfl ?_
    show O.ok (X.d (.int (Int.ofNat (k + 1) - 1))) st = _
    rw [e]
  refine bin_at (x := .d (wD v)) (y := .d (nD k)) (eVar_at h1) h3 (gIx_tup (f := false) ?_)
  rw [List.getElem?_map, List.getD_eq_getElem?_getD, List.getElem?_eq_getElem hk]
  rfl
theorem rg2_run (v : List Int) (hz : v.length ≤ 50) : range2M [.d (.int 1), .d (.int (v.length : Int))] = some ((upN 1 (v.length - 1)).map nD) := by
  have h1 : int62 (v.length : Int) = true := by
    unfold int62
    exact Nat.ble_eq_true_of_le (by omega)
  unfold range2M
  show (match int62 1 && int62 (v.length : Int) with | true => some (upI 1 1 ((v.length : Int) - 1).toNat) | false => none) = _
  rw [h1]
  show some (upI (Int.ofNat 1) 1 ((v.length : Int) - 1).toNat) = _
  rw [upI_nats, show ((v.length : Int) - 1).toNat = v.length - 1 by omega]
theorem src2 {i : Nat} {sl : Slots} {st : Store} (hi : sl[i]? = some (some (.d (wD v)))) (hz : v.length ≤ 50) : (srcD (iRg range2M (aCons (eC (.int 1)) (aCons (eApp (f1 gLen) (aCons (eVar i) aNil)) aNil))) : EM Src) sl st = .ok ((upN 1 (v.length - 1)).map nD, none) st := by
  have e : (eApp (f1 gLen) (aCons (eVar i) aNil) : EM DH.X) sl st = .ok (.d (.int ((v.length : Nat) : Int))) st := by
    refine app1 (eVar_at hi) ?_
    show O.ok (X.d (.int (((v.map D.int).length : Nat) : Int))) st = _
    rw [List.length_map]
  unfold srcD iRg
  rw [aTwo (x := .d (.int 1)) rfl e]
  show ((match range2M [.d (.int 1), .d (.int (v.length : Int))] with | some ds => O.ok ds st | none => .bad).bind _) = _
  rw [rg2_run v hz]
  rfl
theorem st6 (hm : m = 2 ∨ m = 3 ∨ m = 4 ∨ m = 5) (hw : Ltr m w) (hz : w.length ≤ 8) :
    (sIf (tOrM (eTest (eBin (f2 gNe) (eCompG false [7] (srcD (iRg range2M (aCons (eC (.int 1)) (aCons (eApp (f1 gLen) (aCons (eVar 5) aNil)) aNil)))) (.nm 7) (eTest (eBin (f2 gEq) (eBin (f2 gIx) (eVar 5) (eVar 7)) (eBin (f2 gSub) (eC (.int 0)) (eBin (f2 gIx) (eVar 5) (eBin (f2 gSub) (eVar 7) (eC (.int 1))))))) (eVar 7)) (eApp (fLst false) aNil))) (eTest (eBin (f2 gNe) (eApp m_unwound (aCons (eVar 5) aNil)) (eVar 5)))) noRt sNx) (slX m w due (some (.d (wD (redS w).reverse))) ordered q7 q8 bk place threes other) [t0] = .nx (slX m w due (some (.d (wD (redS w).reverse))) ordered q7 q8 bk place threes other) [t0] := by
  have hle := red_le w
  have c1 : (eCompG false [7] (srcD (iRg range2M (aCons (eC (.int 1)) (aCons (eApp (f1 gLen) (aCons (eVar 5) aNil)) aNil)))) (.nm 7) (eTest (eBin (f2 gEq) (eBin (f2 gIx) (eVar 5) (eVar 7)) (eBin (f2 gSub) (eC (.int 0)) (eBin (f2 gIx) (eVar 5) (eBin (f2 gSub) (eVar 7) (eC (.int 1))))))) (eVar 7) : EM DH.X) (slX m w due (some (.d (wD (redS w).reverse))) ordered q7 q8 bk place threes other) [t0] = .ok (.d (.lst [])) [t0] := by
    refine comp_none (src2 rfl (by omega)) (Nat.ble_eq_true_of_le (by rw [List.length_map, upN_len]; omega)) fun x hx => ?_
    obtain ⟨k1, hk, rfl⟩ := List.mem_map.mp hx
    have hk := upN_inv hk
    obtain ⟨k, rfl⟩ : ∃ k, k1 = k + 1 := ⟨k1 - 1, by omega⟩
    refine ⟨slX m w due (some (.d (wD (redS w).reverse))) ordered (some (.d (nD (k + 1)))) q8 bk place threes other, rfl, ?_⟩
    have g1 := ix_w (v := (redS w).reverse) (k := k + 1) (by omega) (sl := slX m w due (some (.d (wD (redS w).reverse))) ordered (some (.d (nD (k + 1)))) q8 bk place threes other) (st := [t0]) (i := 5) (j := 7) rfl rfl
    have g2 := ix_p (v := (redS w).reverse) (k := k) (by omega) (sl := slX m w due (some (.d (wD (redS w).reverse))) ordered (some (.d (nD (k + 1)))) q8 bk place threes other) (st := [t0]) (i := 5) (j := 7) rfl rfl
    have hne := rd_rev (red_rd w) (k := k) (by omega)
    have : eqI ((redS w).reverse.getD (k + 1) 0) (0 - (redS w).reverse.getD k 0) = false := by
      cases q : eqI ((redS w).reverse.getD (k + 1) 0) (0 - (redS w).reverse.getD k 0) with
      | false => rfl
      | true => have := (eqI_iff _ _).mp q; omega
    refine eTest_ok (bin_at (x := .d (.int ((redS w).reverse.getD (k + 1) 0))) (y := .d (.int (0 - (redS w).reverse.getD k 0))) g1 (bin_at (x := .d (.int 0)) rfl g2 rfl) ?_)
    show O.ok (X.d (.bl (eqI ((redS w).reverse.getD (k + 1) 0) (0 - (redS w).reverse.getD k 0)))) [t0] = _
    rw [this]
  have c2 := unwound_run (w := (redS w).reverse) (by omega) t0
  rw [red_self (red_rd w)] at c2
  exact if_no (or2 (neq_f (d := .lst []) c1 rfl rfl) (neq_f (d := wD (redS w).reverse) (app1 (x := .d (wD (redS w).reverse)) rfl c2) rfl (ok_w _)))
end
end DHk08
noncomputable section
namespace DHk08
open PySem PySem.Spec PyProof.Rows L2 DH
section
variable {m : Nat} {w v l : List Int} {due short ordered q7 q8 bk place threes other : Option DH.X} {t0 : MO}
theorem far_val (a b : Int) : ltI 1 (absI (absI a - absI b)) = decide (far a b) := by
  rw [absI_eq, absI_eq, absI_eq]
  have h := ltI_iff 1 ((((a.natAbs : Int) - (b.natAbs : Int)).natAbs : Nat) : Int)
  by_cases hf : far a b
  · rw [decide_eq_true hf]
    unfold far at hf
    exact h.mpr (by omega)
  · rw [decide_eq_false hf]
    unfold far at hf
    cases q : ltI 1 ((((a.natAbs : Int) - (b.natAbs : Int)).natAbs : Nat) : Int) with
    | false => rfl
    | true => have := h.mp q; omega
theorem okL_at : ∀ {l : List Int}, OkL l → ∀ k, k + 1 < l.length → ¬ bad (l.getD k 0) (l.getD (k + 1) 0)
  | [], _, k, hk => by cases hk
  | [_], _, k, hk => by simp at hk
  | x :: y :: s, h, 0, _ => h.1
  | x :: y :: s, h, k + 1, hk => okL_at (l := y :: s) h.2 k (by simpa using hk)
abbrev bF : SM := sSeq (sSet 8 (eBin (f2 gGt) (eApp (f1 gAbs) (aCons (eBin (f2 gSub) (eApp (f1 gAbs) (aCons (eBin (f2 gIx) (eVar 6) (eVar 7)) aNil)) (eApp (f1 gAbs) (aCons (eBin (f2 gIx) (eVar 6) (eBin (f2 gSub) (eVar 7) (eC (.int 1)))) aNil))) aNil)) (eC (.int 1))))
  (sIf (tOrM (eTest (eBin (f2 gNe) (eApp m_is_far_commuting (aCons (eBin (f2 gIx) (eVar 6) (eVar 7)) (aCons (eBin (f2 gIx) (eVar 6) (eBin (f2 gSub) (eVar 7) (eC (.int 1)))) aNil))) (eVar 8))) (tAndM (eTest (eVar 8)) (eTest (eBin (f2 gLt) (eApp (f1 gAbs) (aCons (eBin (f2 gIx) (eVar 6) (eVar 7)) aNil)) (eApp (f1 gAbs) (aCons (eBin (f2 gIx) (eVar 6) (eBin (f2 gSub) (eVar 7) (eC (.int 1)))) aNil)))))) noRt sNx)
theorem bF_run {k : Nat} (hk : k + 1 < l.length) (ho : OkL l) : bF (slX m w due short (some (.d (wD l))) (some (.d (nD (k + 1)))) q8 bk place threes other) [t0] = .nx (slX m w due short (some (.d (wD l))) (some (.d (nD (k + 1)))) (some (.d (.bl (decide (far (l.getD (k + 1) 0) (l.getD k 0)))))) bk place threes other) [t0] := by
  have g : ∀ z : Option DH.X, (eBin (f2 gIx) (eVar 6) (eVar 7) : EM DH.X) (slX m w due short (some (.d (wD l))) (some (.d (nD (k + 1)))) z bk place threes other) [t0] = .ok (.d (.int (l.getD (k + 1) 0))) [t0] := fun z => ix_w hk rfl rfl
  have g' : ∀ z : Option DH.X, (eBin (f2 gIx) (eVar 6) (eBin (f2 gSub) (eVar 7) (eC (.int 1))) : EM DH.X) (slX m w due short (some (.d (wD l))) (some (.d (nD (k + 1)))) z bk place threes other) [t0] = .ok (.d (.int (l.getD k 0))) [t0] := fun z => ix_p (by omega) rfl rfl
  have e1 : (sSet 8 (eBin (f2 gGt) (eApp (f1 gAbs) (aCons (eBin (f2 gSub) (eApp (f1 gAbs) (aCons (eBin (f2 gIx) (eVar 6) (eVar 7)) aNil)) (eApp (f1 gAbs) (aCons (eBin (f2 gIx) (eVar 6) (eBin (f2 gSub) (eVar 7) (eC (.int 1)))) aNil))) aNil)) (eC (.int 1))) : SM) (slX m w due short (some (.d (wD l))) (some (.d (nD (k + 1)))) q8 bk place threes other) [t0] = .nx (slX m w due short (some (.d (wD l))) (some (.d (nD (k + 1)))) (some (.d (.bl (decide (far (l.getD (k + 1) 0) (l.getD k 0)))))) bk place threes other) [t0] := by
    rw [← far_val]
    unfold sSet
    rw [bin_at (o := .ok (.d (.bl (ltI 1 (absI (absI (l.getD (k + 1) 0) - absI (l.getD k 0)))))) [t0]) (app1 (x := .d (.int (absI (l.getD (k + 1) 0) - absI (l.getD k 0)))) (bin_at (app1 (g _) rfl) (app1 (g' _) rfl) rfl) rfl) rfl rfl]
    rfl
  refine sSeq_eq e1 (if_no (or2 ?_ ?_))
  · exact neq_f (d := .bl (decide (far (l.getD (k + 1) 0) (l.getD k 0)))) (app2 (g _) (g' _) (far_run _ _ _)) rfl rfl
  · by_cases hf : far (l.getD (k + 1) 0) (l.getD k 0)
    · have hb := okL_at ho k hk
      have hlt : ¬ (l.getD (k + 1) 0).natAbs < (l.getD k 0).natAbs := fun z => hb ⟨by unfold far at *; omega, z⟩
      refine tAnd_ok (st1 := [t0]) ?_ (eTest_ok (bin_at (x := .d (.int (absI (l.getD (k + 1) 0)))) (y := .d (.int (absI (l.getD k 0)))) (app1 (g _) rfl) (app1 (g' _) rfl) ?_))
      · rw [decide_eq_true hf]; rfl
      · show O.ok (X.d (.bl (ltI (absI (l.getD (k + 1) 0)) (absI (l.getD k 0))))) [t0] = _
        rw [gt_abs, decide_eq_false hlt]
    · refine tAnd_f ?_
      rw [decide_eq_false hf]; rfl
theorem st8 (hz : l.length ≤ 8) (ho : OkL l) : ∃ q7' q8', (sForG (srcD (iRg range2M (aCons (eC (.int 1)) (aCons (eApp (f1 gLen) (aCons (eVar 6) aNil)) aNil)))) (.nm 7) bF) (slX m w due short (some (.d (wD l))) q7 q8 bk place threes other) [t0] = .nx (slX m w due short (some (.d (wD l))) q7' q8' bk place threes other) [t0] := by
  have := for_inv (t := .nm 7) (b := bF) (sl := slX m w due short (some (.d (wD l))) q7 q8 bk place threes other) (st := [t0]) (S := Option DH.X × Option DH.X)
    (fun s => (slX m w due short (some (.d (wD l))) s.1 s.2 bk place threes other, [t0]))
    (fun s d => match d with
      | .int i => (some (.d (.int i)), some (.d (.bl (decide (far (l.getD i.toNat 0) (l.getD (i.toNat - 1) 0))))))
      | _ => s) (fun _ => True) (q7, q8) rfl (src2 (v := l) (i := 6) rfl (by omega)) trivial fun x hx s _ => by
    obtain ⟨k1, hk, rfl⟩ := List.mem_map.mp hx
    have hk := upN_inv hk
    obtain ⟨k, rfl⟩ : ∃ k, k1 = k + 1 := ⟨k1 - 1, by omega⟩
    exact ⟨trivial, slX m w due short (some (.d (wD l))) (some (.d (nD (k + 1)))) s.2 bk place threes other, rfl, bF_run (by omega) ho⟩
  exact ⟨_, _, this.1⟩
theorem st10 (hm : m = 2 ∨ m = 3 ∨ m = 4 ∨ m = 5) (hz : w.length ≤ 8) : (sIf (tOrM (eTest (eBin (f2 gNe) (eApp m_unwound (aCons (eBin (fAdd false) (eVar 3) (eVar 9)) aNil)) (eApp fTup aNil))) (tOrM (eTest (eBin (f2 gNe) (eApp m_danced_back (aCons (eVar 9) aNil)) (eVar 3))) (eTest (eBin (f2 gNe) (eApp (f1 gLen) (aCons (eVar 9) aNil)) (eApp (f1 gLen) (aCons (eVar 3) aNil)))))) noRt sNx) (slX m w due short ordered q7 q8 (some (.d (wD (back w)))) place threes other) [t0] = .nx (slX m w due short ordered q7 q8 (some (.d (wD (back w)))) place threes other) [t0] := by
  have hb := back_len w
  have c1 := unwound_run (w := w ++ back w) (by rw [List.length_append]; omega) t0
  rw [red_back] at c1
  have a1 : (eBin (fAdd false) (eVar 3) (eVar 9) : EM DH.X) (slX m w due short ordered q7 q8 (some (.d (wD (back w)))) place threes other) [t0] = .ok (.d (wD (w ++ back w))) [t0] := bin_at (x := .d (wD w)) (y := .d (wD (back w))) rfl rfl (add_w (by omega))
  have c2 := back_run (w := back w) (by omega) [t0]
  rw [back_back] at c2
  have n1 : ∀ (u : List Int) (i : Nat), (slX m w due short ordered q7 q8 (some (.d (wD (back w)))) place threes other)[i]? = some (some (.d (wD u))) → (eApp (f1 gLen) (aCons (eVar i) aNil) : EM DH.X) (slX m w due short ordered q7 q8 (some (.d (wD (back w)))) place threes other) [t0] = .ok (.d (.int ((u.length : Nat) : Int))) [t0] := fun u i hi => by
    refine app1 (eVar_at hi) ?_
    show O.ok (X.d (.int (((u.map D.int).length : Nat) : Int))) [t0] = _
    rw [List.length_map]
  have l1 := n1 (back w) 9 rfl
  rw [hb] at l1
  exact if_no (or3 (neq_f (d := wD []) (app1 a1 c1) rfl rfl) (neq_f (d := wD w) (app1 (x := .d (wD (back w))) rfl c2) rfl (ok_w w)) (neq_f (d := .int ((w.length : Nat) : Int)) l1 (n1 w 3 rfl) rfl))
end
end DHk08
noncomputable section
namespace DHk08
open PySem PySem.Spec PyProof.Rows L2 DH
section
variable {m : Nat} {w v l : List Int} {due short ordered q7 q8 bk place threes other : Option DH.X} {t0 : MO}
theorem len_at {sl : Slots} {st : Store} (u : List Int) {i : Nat} (hi : sl[i]? = some (some (.d (wD u)))) : (eApp (f1 gLen) (aCons (eVar i) aNil) : EM DH.X) sl st = .ok (.d (.int ((u.length : Nat) : Int))) st := by
  refine app1 (eVar_at hi) ?_
  show O.ok (X.d (.int (((u.map D.int).length : Nat) : Int))) st = _
  rw [List.length_map]
theorem sortOk_w : ∀ w : List Int, sortOk (wM w) = true
  | [] => rfl
  | i :: w => by
    have h : allB (fun x => okD 62 x && sameS 62 (D.int i) x) (wM (i :: w)) = true := allB_map (g := D.int) (fun _ => rfl) _
    show (match allB (fun x => okD 62 x && sameS 62 (D.int i) x) (wM (i :: w)) with | true => true | false => allB (fun x => okD 62 x && intTup x) (wM (i :: w))) = true
    rw [h]
theorem sorted_at {sl : Slots} {st : Store} (u : List Int) (hz : u.length ≤ 50) {i : Nat} (hi : sl[i]? = some (some (.d (wD u)))) : (eApp (f1 (gSortedX false)) (aCons (eVar i) aNil) : EM DH.X) sl st = .ok (.d (.lst (sortB leD (wM u)))) st := by
  refine app1 (eVar_at hi) ?_
  show (match sortOk (wM u) && small (wM u).length with | true => newL false (sortB leD (wM u)) st | false => .bad) = _
  rw [sortOk_w, show small (wM u).length = true from Nat.ble_eq_true_of_le (by rw [wM_len]; omega)]
  rfl
theorem st7 (hz : w.length ≤ 8) (hs : Same w l) : (sIf (tOrM (eTest (eBin (f2 gNe) (eBin (f2 gMod) (eBin (f2 gSub) (eApp (f1 gLen) (aCons (eVar 3) aNil)) (eApp (f1 gLen) (aCons (eVar 5) aNil))) (eC (.int 2))) (eC (.int 0)))) (eTest (eBin (f2 gNe) (eApp (f1 (gSortedX false)) (aCons (eVar 6) aNil)) (eApp (f1 (gSortedX false)) (aCons (eVar 3) aNil))))) noRt sNx) (slX m w due (some (.d (wD (redS w).reverse))) (some (.d (wD l))) q7 q8 bk place threes other) [t0] = .nx (slX m w due (some (.d (wD (redS w).reverse))) (some (.d (wD l))) q7 q8 bk place threes other) [t0] := by
  have hll : l.length = w.length := hs.perm.length_eq
  have hp := (fold_len w [])
  have hle := red_le w
  have hr : (redS w).reverse.length = (redS w).length := List.length_reverse
  have e1 : (eBin (f2 gMod) (eBin (f2 gSub) (eApp (f1 gLen) (aCons (eVar 3) aNil)) (eApp (f1 gLen) (aCons (eVar 5) aNil))) (eC (.int 2)) : EM DH.X) (slX m w due (some (.d (wD (redS w).reverse))) (some (.d (wD l))) q7 q8 bk place threes other) [t0] = .ok (.d (.int 0)) [t0] := by
    refine bin_at (x := .d (.int ((w.length : Int) - ((redS w).reverse.length : Int)))) (y := .d (.int 2)) (bin_at (len_at w rfl) (len_at (redS w).reverse rfl) rfl) rfl ?_
    show O.ok (X.d (.int (((w.length : Int) - ((redS w).reverse.length : Int)).fmod 2))) [t0] = _
    have : ((w.length : Int) - ((redS w).reverse.length : Int)).fmod 2 = 0 := by
      rw [Int.fmod_eq_emod_of_nonneg _ (by decide)]
      have h2 := hp.2
      have h3 : (w.foldl push []).length = (redS w).length := rfl
      rw [h3] at h2
      have h4 : ([] : List Int).length = 0 := rfl
      rw [h4] at h2
      omega
    rw [this]
  have s1 := sorted_at (sl := slX m w due (some (.d (wD (redS w).reverse))) (some (.d (wD l))) q7 q8 bk place threes other) (st := [t0]) l (by omega) (i := 6) rfl
  have s2 := sorted_at (sl := slX m w due (some (.d (wD (redS w).reverse))) (some (.d (wD l))) q7 q8 bk place threes other) (st := [t0]) w (by omega) (i := 3) rfl
  rw [sortI_perm hs.perm] at s1
  have hok : okD 64 (.lst (sortB leD (wM w))) = true := by
    rw [sort_map D.int (le := leI) (fun _ _ => rfl)]
    exact ok_ints 63 _
  exact if_no (or2 (neq_f (d := .int 0) e1 rfl rfl) (neq_f s1 s2 hok))
theorem ix_a {k c : Nat} (hk : k + c < v.length) {sl : Slots} {st : Store} {i j : Nat} (h1 : sl[i]? = some (some (.d (wD v)))) (h2 : sl[j]? = some (some (.d (nD k)))) : (eBin (f2 gIx) (eVar i) (eBin (fAdd false) (eVar j) (eC (.int (Int.ofNat c)))) : EM DH.X) sl st = .ok (.d (.int (v.getD (k + c) 0))) st := by
  have h3 : (eBin (fAdd false) (eVar j) (eC (.int (Int.ofNat c))) : EM DH.X) sl st = .ok (.d (nD (k + c))) st := bin_at (x := .d (nD k)) (y := .d (.int (Int.ofNat c))) (eVar_at h2) rfl rfl
  refine bin_at (x := .d (wD v)) (y := .d (nD (k + c))) (eVar_at h1) h3 (gIx_tup (f := false) ?_)
  rw [List.getElem?_map, List.getD_eq_getElem?_getD, List.getElem?_eq_getElem hk]
  rfl
abbrev comp3 : EM DH.X := eCompG false [7] (srcD (iRg range1M (aCons (eBin (f2 gSub) (eApp (f1 gLen) (aCons (eVar 3) aNil)) (eC (.int 2))) aNil))) (.nm 7) (tAndM (eTest (eBin (f2 gEq) (eBin (f2 gIx) (eVar 3) (eVar 7)) (eBin (f2 gIx) (eVar 3) (eBin (fAdd false) (eVar 7) (eC (.int 2)))))) (tAndM (eTest (eBin (f2 gGt) (eBin (fMulT false) (eBin (f2 gIx) (eVar 3) (eVar 7)) (eBin (f2 gIx) (eVar 3) (eBin (fAdd false) (eVar 7) (eC (.int 1))))) (eC (.int 0)))) (eTest (eBin (f2 gEq) (eApp (f1 gAbs) (aCons (eBin (f2 gSub) (eApp (f1 gAbs) (aCons (eBin (f2 gIx) (eVar 3) (eVar 7)) aNil)) (eApp (f1 gAbs) (aCons (eBin (f2 gIx) (eVar 3) (eBin (fAdd false) (eVar 7) (eC (.int 1)))) aNil))) aNil)) (eC (.int 1)))))) (eVar 7)
def threesL (w : List Int) : List Nat := (upN 0 (w.length - 2)).filter (at3 w)
def kOf : D → Nat
  | .int i => i.toNat
  | _ => 0
theorem comp3_run (hm : m = 2 ∨ m = 3 ∨ m = 4 ∨ m = 5) (hw : Ltr m w) (hz : w.length ≤ 8) : comp3 (slX m w due short ordered q7 q8 bk place threes other) [t0] = .ok (.d (.lst ((threesL w).map nD))) [t0] := by
  have hsrc : (srcD (iRg range1M (aCons (eBin (f2 gSub) (eApp (f1 gLen) (aCons (eVar 3) aNil)) (eC (.int 2))) aNil)) : EM Src) (slX m w due short ordered q7 q8 bk place threes other) [t0] = .ok ((upN 0 (w.length - 2)).map nD, none) [t0] := by
    have e : (eBin (f2 gSub) (eApp (f1 gLen) (aCons (eVar 3) aNil)) (eC (.int 2)) : EM DH.X) (slX m w due short ordered q7 q8 bk place threes other) [t0] = .ok (.d (.int ((w.length : Int) - 2))) [t0] := bin_at (len_at w rfl) rfl rfl
    unfold srcD iRg
    rw [aOne e]
    show ((match range1M [.d (.int ((w.length : Int) - 2))] with | some ds => O.ok ds [t0] | none => .bad).bind _) = _
    rw [rg_run w (by omega)]
    rfl
  have e2 : (((upN 0 (w.length - 2)).map nD).filter fun d => at3 w (kOf d)).map (fun d => d) = (threesL w).map nD := by
    rw [List.map_id', List.filter_map]
    rfl
  rw [← e2]
  refine comp_sel (fun d => at3 w (kOf d)) (fun d => d) hsrc (Nat.ble_eq_true_of_le (by rw [List.length_map, upN_len]; omega)) fun x hx => ?_
  obtain ⟨k, hk, rfl⟩ := List.mem_map.mp hx
  have hk := upN_inv hk
  have g0 := ix_w (v := w) (k := k) (by omega) (sl := slX m w due short ordered (some (.d (nD k))) q8 bk place threes other) (st := [t0]) (i := 3) (j := 7) rfl rfl
  have g1 := ix_a (v := w) (k := k) (c := 1) (by omega) (sl := slX m w due short ordered (some (.d (nD k))) q8 bk place threes other) (st := [t0]) (i := 3) (j := 7) rfl rfl
  have g2 := ix_a (v := w) (k := k) (c := 2) (by omega) (sl := slX m w due short ordered (some (.d (nD k))) q8 bk place threes other) (st := [t0]) (i := 3) (j := 7) rfl rfl
  have hl := letters_low hm (getD_ltr hw (k := k + 1) (by omega))
  refine ⟨slX m w due short ordered (some (.d (nD k))) q8 bk place threes other, rfl, ?_, fun _ => rfl⟩
  refine and3 (a := eqI (w.getD k 0) (w.getD (k + 2) 0)) (b := ltI 0 (w.getD k 0 * w.getD (k + 1) 0)) (c := eqI (absI (absI (w.getD k 0) - absI (w.getD (k + 1) 0))) 1) (eTest_ok (bin_at g0 g2 rfl)) (eTest_ok (bin_at (x := .d (.int (w.getD k 0 * w.getD (k + 1) 0))) (bin_at g0 g1 ?_) rfl rfl)) (eTest_ok (bin_at (x := .d (.int (absI (absI (w.getD k 0) - absI (w.getD (k + 1) 0))))) (app1 (x := .d (.int (absI (w.getD k 0) - absI (w.getD (k + 1) 0)))) (bin_at (app1 g0 rfl) (app1 g1 rfl) rfl) rfl) rfl rfl))
  show (match lowI (w.getD (k + 1) 0) || lowI (w.getD k 0) with | true => O.ok (X.d (.int (w.getD k 0 * w.getD (k + 1) 0))) [t0] | false => .bad) = _
  rw [hl]
  rfl
theorem st13 : (sIf (eTest (eBin (f2 gNe) (eVar 10) (eIf (eTest (eBin (f2 gNe) (eVar 11) (eApp (fLst false) aNil))) (eBin (f2 gIx) (eVar 11) (eC (.int 0))) (eC .non)))) noRt sNx) (slX m w due short ordered q7 q8 bk (some (.d (optD (first3 w)))) (some (.d (.lst ((threesL w).map nD)))) other) [t0] = .nx (slX m w due short ordered q7 q8 bk (some (.d (optD (first3 w)))) (some (.d (.lst ((threesL w).map nD)))) other) [t0] := by
  have hf : (threesL w).head? = first3 w := List.head?_filter
  refine if_no ?_
  rw [← hf]
  cases q : threesL w with
  | nil => exact neq_f (d := .non) rfl rfl rfl
  | cons k ks =>
    have h1 : (eTest (eBin (f2 gNe) (eVar 11) (eApp (fLst false) aNil)) : EM Bool) (slX m w due short ordered q7 q8 bk (some (.d (optD (k :: ks).head?))) (some (.d (.lst ((k :: ks).map nD)))) other) [t0] = .ok true [t0] := by
      refine eTest_ok (bin_at (x := .d (.lst ((k :: ks).map nD))) (y := .d (.lst [])) rfl rfl ?_)
      show (match allB (okD 63) ((k :: ks).map nD) with | true => O.ok (X.d (.bl (!false))) [t0] | false => .bad) = _
      rw [show allB (okD 63) ((k :: ks).map nD) = true from allB_map (fun _ => rfl) _]
      rfl
    refine neq_f (d := nD k) rfl ?_ rfl
    show ((eTest (eBin (f2 gNe) (eVar 11) (eApp (fLst false) aNil)) : EM Bool) _ [t0]).bind _ = _
    rw [h1]
    rfl
theorem eq_words : ∀ {a b : List Int}, all2 (eqD 63) (wM a) (wM b) = true → a = b
  | [], [], _ => rfl
  | [], _ :: _, h => by cases h
  | _ :: _, [], h => by cases h
  | x :: a, y :: b, h => by
    have h' : (match eqI x y with | true => all2 (eqD 63) (wM a) (wM b) | false => false) = true := h
    cases q : eqI x y with
    | false => rw [q] at h'; cases h'
    | true => rw [q] at h'; rw [(eqI_iff _ _).mp q, eq_words h']
theorem st14 (hm : m = 2 ∨ m = 3 ∨ m = 4 ∨ m = 5) (hw : Ltr m w) (hz : w.length ≤ 8) : ∃ other', (sIf (eTest (eBin (fIsN true) (eVar 10) (eC .non))) (sSeq (sSet 12 (eApp m_put_other (aCons (eVar 3) (aCons (eVar 10) aNil))))
  (sIf (tOrM (eTest (eBin (f2 gNe) (eApp m_law_wound (aCons (eVar 12) (aCons (eVar 2) aNil))) (eVar 4))) (tOrM (eTest (eBin (f2 gNe) (eApp m_put_other (aCons (eVar 12) (aCons (eVar 10) aNil))) (eVar 3))) (eTest (eBin (f2 gEq) (eVar 12) (eVar 3))))) noRt sNx)) sNx) (slX m w (some (.d (dueD m w))) short ordered q7 q8 bk (some (.d (optD (first3 w)))) threes other) [t0] = .nx (slX m w (some (.d (dueD m w))) short ordered q7 q8 bk (some (.d (optD (first3 w)))) threes other') [t0] := by
  cases q : first3 w with
  | none => exact ⟨other, (sIf_f rfl).trans rfl⟩
  | some k =>
    obtain ⟨p, r, x, y, hp, ew, hl⟩ := first3_at q
    subst hp
    subst ew
    have hx : x ∈ letters m := hw x (by simp)
    have hy : y ∈ letters m := hw y (by simp)
    have ho : Ltr m (p ++ y :: x :: y :: r) := fun z hz => by
      simp only [List.mem_append, List.mem_cons] at hz
      rcases hz with h | rfl | rfl | rfl | h
      · exact hw z (by simp [h])
      · exact hy
      · exact hx
      · exact hy
      · exact hw z (by simp [h])
    have hlen : (p ++ y :: x :: y :: r).length = (p ++ x :: y :: x :: r).length := by simp
    have r1 := put_run hm hw hl (by omega) [t0]
    have r2 := put_run hm ho (like_symm hl) (by omega) [t0]
    have r3 := wound_run hm ho (by omega) t0
    rw [due_eq (m := m) (fun a => (fold_three p r hl a).symm)] at r3
    refine ⟨some (.d (wD (p ++ y :: x :: y :: r))), (sIf_t rfl).trans ?_⟩
    refine sSeq_eq (sl' := slX m (p ++ x :: y :: x :: r) (some (.d (dueD m (p ++ x :: y :: x :: r)))) short ordered q7 q8 bk (some (.d (nD p.length))) threes (some (.d (wD (p ++ y :: x :: y :: r))))) (st' := [t0]) ?_ (if_no (or3 ?_ ?_ ?_))
    · unfold sSet
      rw [app2 (x := .d (wD (p ++ x :: y :: x :: r))) (y := .d (nD p.length)) rfl rfl r1]
      rfl
    · exact neq_f (d := dueD m (p ++ x :: y :: x :: r)) (app2 (x := .d (wD (p ++ y :: x :: y :: r))) (y := .d (mD m)) rfl rfl r3) rfl (ok_due m _)
    · exact neq_f (d := wD (p ++ x :: y :: x :: r)) (app2 (x := .d (wD (p ++ y :: x :: y :: r))) (y := .d (nD p.length)) rfl rfl r2) rfl (ok_w _)
    · refine eTest_ok (bin_at (x := .d (wD (p ++ y :: x :: y :: r))) (y := .d (wD (p ++ x :: y :: x :: r))) rfl rfl ?_)
      show (match okD 64 (wD (p ++ y :: x :: y :: r)) with | true => (match okD 64 (wD (p ++ x :: y :: x :: r)) with | true => O.ok (X.d (.bl (all2 (eqD 63) (wM (p ++ y :: x :: y :: r)) (wM (p ++ x :: y :: x :: r))))) [t0] | false => .bad) | false => .bad) = _
      rw [ok_w, ok_w]
      cases z : all2 (eqD 63) (wM (p ++ y :: x :: y :: r)) (wM (p ++ x :: y :: x :: r)) with
      | false => rfl
      | true =>
        have := eq_words z
        have := List.append_cancel_left this
        exact absurd (List.cons.inj this).1.symm (like_ne hl)
end
end DHk08
noncomputable section
namespace DHk08
open PySem PySem.Spec PyProof.Rows L2 DH
section
variable {m : Nat} {w : List Int} {due short ordered q7 q8 bk place threes other : Option DH.X} {t0 : MO}
abbrev figD : D := .str [102, 105, 103, 117, 114, 101]
abbrev toldIf (e : EM DH.X) : SM := sIf (eTest (eBin (f2 gNe) (eTold rsL hsL e) (eC figD))) noRt sNx
theorem told_ok2 {e : EM DH.X} {sl : Slots} {st : Store} (h : e sl st = .exn 2 [] st) : toldIf e sl st = .nx sl st := by
  refine if_no (neq_f (d := figD) ?_ rfl rfl)
  unfold eTold
  rw [h]
  rfl
theorem st15 (sl : Slots) : toldIf (eApp m_put_other (aCons (eApp fTup (aCons (eC (.int 1)) (aCons (eC (.int 1)) (aCons (eC (.int 1)) aNil)))) (aCons (eC (.int 0)) aNil))) sl [t0] = .nx sl [t0] := told_ok2 rfl
theorem put_far (hz : w.length ≤ 8) : m_put_other [.d (wD w), .d (.int 9)] [t0] = .exn 2 [] [t0] := by
  rw [mF_put_other]
  show endF (bS_m_put_other [some (.d (wD w)), some (.d (.int 9)), none, none] [t0]) 1 = _
  have c1 : (tNotM (eTest (eChain (f2 gLe) (f2 gLt) (eC (.int 0)) (eVar 1) (eBin (f2 gSub) (eApp (f1 gLen) (aCons (eVar 0) aNil)) (eC (.int 2))))) : EM Bool) [some (.d (wD w)), some (.d (.int 9)), none, none] [t0] = .ok true [t0] := by
    have h2 : ltI 9 (((wM w).length : Int) - 2) = false := by
      cases q : ltI 9 (((wM w).length : Int) - 2) with
      | false => rfl
      | true => have := (ltI_iff _ _).mp q; rw [wM_len] at this; omega
    refine tNotM_ok (b := false) (eTest_ok ?_)
    show O.ok (X.d (.bl (ltI 9 (((wM w).length : Int) - 2)))) [t0] = _
    rw [h2]
  have e : bS_m_put_other [some (.d (wD w)), some (.d (.int 9)), none, none] [t0] = .exn 2 [] [t0] := by
    unfold bS_m_put_other sSeq
    rw [sIf_t (tOr_t c1)]
    rfl
  rw [e]
  rfl
theorem st16 (hz : w.length ≤ 8) : toldIf (eApp m_put_other (aCons (eVar 3) (aCons (eC (.int 9)) aNil))) (slX m w due short ordered q7 q8 bk place threes other) [t0] = .nx (slX m w due short ordered q7 q8 bk place threes other) [t0] :=
  told_ok2 (app2 (x := .d (wD w)) (y := .d (.int 9)) rfl rfl (put_far hz))
theorem st17 (hm : m = 2 ∨ m = 3 ∨ m = 4 ∨ m = 5) : toldIf (eApp m_word_spots (aCons (eApp fTup (aCons (eVar 2) aNil)) (aCons (eVar 2) aNil))) (slX m w due short ordered q7 q8 bk place threes other) [t0] = .nx (slX m w due short ordered q7 q8 bk place threes other) [t0] := by
  refine told_ok2 ?_
  rcases hm with rfl | rfl | rfl | rfl <;> rfl
theorem st18 (sl : Slots) : toldIf (eApp m_winding (aCons (eApp fTup (aCons (eC (.int 0)) aNil)) (aCons (eC (.int 3)) aNil))) sl [t0] = .nx sl [t0] := told_ok2 rfl
theorem st19 (sl : Slots) : (sIf (tOrM (eTest (eBin (f2 gNe) (eApp m_put_other (aCons (eApp fTup (aCons (eC (.int 2)) (aCons (eC (.int 1)) (aCons (eC (.int 2)) aNil)))) (aCons (eC (.int 0)) aNil))) (eApp fTup (aCons (eC (.int 1)) (aCons (eC (.int 2)) (aCons (eC (.int 1)) aNil)))))) (eTest (eBin (f2 gNe) (eTold rsL hsL (eApp m_put_other (aCons (eApp fTup (aCons (eC (.int 1)) (aCons (eBin (f2 gSub) (eC (.int 0)) (eC (.int 2))) (aCons (eC (.int 1)) aNil)))) (aCons (eC (.int 0)) aNil)))) (eC figD)))) noRt sNx) sl [t0] = .nx sl [t0] := by
  have e1 : (eApp m_put_other (aCons (eApp fTup (aCons (eC (.int 2)) (aCons (eC (.int 1)) (aCons (eC (.int 2)) aNil)))) (aCons (eC (.int 0)) aNil)) : EM DH.X) sl [t0] = .ok (.d (wD [1, 2, 1])) [t0] := rfl
  have e2 : (eTold rsL hsL (eApp m_put_other (aCons (eApp fTup (aCons (eC (.int 1)) (aCons (eBin (f2 gSub) (eC (.int 0)) (eC (.int 2))) (aCons (eC (.int 1)) aNil)))) (aCons (eC (.int 0)) aNil))) : EM DH.X) sl [t0] = .ok (.d figD) [t0] := rfl
  exact if_no (or2 (neq_f e1 rfl rfl) (neq_f e2 rfl rfl))
end
theorem set_ok {i : Nat} {e : EM DH.X} {sl : Slots} {st st1 : Store} {x : DH.X} (h : e sl st = .ok x st1) : sSet i e sl st = .nx (sl.set i (some x)) st1 := by
  unfold sSet
  rw [h]
  rfl
theorem law_run {m n : Nat} (hm : m = 2 ∨ m = 3 ∨ m = 4 ∨ m = 5) (hn : n < 9) {l t : List (Nat × Nat)} (hl : l ∈ (TW m n).paths) : ∃ sl st, bS_m_law (none :: some (.loc 0) :: List.replicate 11 none) [.orc ((4, m - 2) :: (9, n) :: (l ++ t))] = .nx sl st := by
  have hwl := (word_loop hm (xs0 := []) (t := []) n (upI 0 1 n) [] l (upI_len 1 n 0) hl).2
  have hz : (wordOf l).length ≤ 8 := by rw [hwl.1]; omega
  have hw := hwl.2
  obtain ⟨o, hs, ho, e4⟩ := st4 (m := m) (due := some (.d (dueD m (wordOf l)))) (short := none) (ordered := none) (q7 := none) (q8 := none) (bk := none) (place := none) (threes := none) (other := none) (t0 := .orc t) hm hw hz
  obtain ⟨q7, q8, e8⟩ := st8 (m := m) (w := wordOf l) (due := some (.d (dueD m (wordOf l)))) (short := some (.d (wD (redS (wordOf l)).reverse))) (q7 := none) (q8 := none) (bk := none) (place := none) (threes := none) (other := none) (t0 := .orc t) (l := o) (by rw [hs.perm.length_eq]; exact hz) ho
  obtain ⟨other, e14⟩ := st14 (m := m) (w := wordOf l) (short := some (.d (wD (redS (wordOf l)).reverse))) (ordered := some (.d (wD o))) (q7 := q7) (q8 := q8) (bk := some (.d (wD (back (wordOf l))))) (threes := some (.d (.lst ((threesL (wordOf l)).map nD)))) (other := none) (t0 := .orc t) hm hw hz
  refine ⟨slX m (wordOf l) (some (.d (dueD m (wordOf l)))) (some (.d (wD (redS (wordOf l)).reverse))) (some (.d (wD o))) q7 q8 (some (.d (wD (back (wordOf l))))) (some (.d (optD (first3 (wordOf l))))) (some (.d (.lst ((threesL (wordOf l)).map nD)))) other, [.orc t], ?_⟩
  unfold bS_m_law
  refine sSeq_eq (sl' := slL m none) (st' := [.orc ((9, n) :: (l ++ t))]) (by rcases hm with rfl | rfl | rfl | rfl <;> rfl) ?_
  refine sSeq_eq (word_run hm hn hl) ?_
  refine sSeq_eq (sl' := slX m (wordOf l) (some (.d (dueD m (wordOf l)))) none none none none none none none none) (st' := [.orc t]) ?_ ?_
  · unfold sSet
    rw [app2 (x := .d (wD (wordOf l))) (y := .d (mD m)) rfl rfl (wound_run hm hw (by omega) _)]
    rfl
  refine sSeq_eq (st3 hm hw hz) ?_
  refine sSeq_eq e4 ?_
  refine sSeq_eq (st5 hm hw hz hs) ?_
  refine sSeq_eq (st6 hm hw hz) ?_
  refine sSeq_eq (st7 hz hs) ?_
  refine sSeq_eq e8 ?_
  refine sSeq_eq (sl' := slX m (wordOf l) (some (.d (dueD m (wordOf l)))) (some (.d (wD (redS (wordOf l)).reverse))) (some (.d (wD o))) q7 q8 (some (.d (wD (back (wordOf l))))) none none none) (st' := [.orc t]) ?_ ?_
  · unfold sSet
    rw [app1 (x := .d (wD (wordOf l))) rfl (back_run (by omega) _)]
    rfl
  refine sSeq_eq (st10 hm hz) ?_
  refine sSeq_eq (sl' := slX m (wordOf l) (some (.d (dueD m (wordOf l)))) (some (.d (wD (redS (wordOf l)).reverse))) (some (.d (wD o))) q7 q8 (some (.d (wD (back (wordOf l))))) (some (.d (optD (first3 (wordOf l))))) none none) (st' := [.orc t]) ?_ ?_
  · unfold sSet
    rw [app1 (x := .d (wD (wordOf l))) rfl (turned_run hm hw (by omega) _)]
    rfl
  refine sSeq_eq (sl' := slX m (wordOf l) (some (.d (dueD m (wordOf l)))) (some (.d (wD (redS (wordOf l)).reverse))) (some (.d (wD o))) q7 q8 (some (.d (wD (back (wordOf l))))) (some (.d (optD (first3 (wordOf l))))) (some (.d (.lst ((threesL (wordOf l)).map nD)))) none) (st' := [.orc t]) ?_ ?_
  · exact set_ok (comp3_run hm hw hz)
  refine sSeq_eq st13 ?_
  refine sSeq_eq e14 ?_
  refine sSeq_eq (st15 _) ?_
  refine sSeq_eq (st16 hz) ?_
  refine sSeq_eq (st17 hm) ?_
  refine sSeq_eq (st18 _) ?_
  exact st19 _
theorem law_all (x y z : Int) : ∃ l, Agr rollM (diceD x y z) l ∧ ∃ sl st, b_m_law (none :: some (.loc 0) :: List.replicate 11 none) [.orc l] = .nx sl st := by
  rw [eF_law]
  refine RT.pick (k := fun l => ∃ sl st, bS_m_law (none :: some (.loc 0) :: List.replicate 11 none) [.orc l] = .nx sl st) (.node 4 fun s => .node 9 fun n => TW (s + 2) n) ⟨by decide, by decide, fun s hs => ⟨by decide, by decide, fun n _ => TW_wf (by omega) n⟩⟩ x y z fun l hl a b c => ⟨[], trivial, ?_⟩
  obtain ⟨s, hs, u, hu, rfl⟩ := RT.mem_node hl
  obtain ⟨n, hn, v, hv, rfl⟩ := RT.mem_node hu
  have := law_run (m := s + 2) (n := n) (l := v) (t := []) (by omega) hn hv
  rw [Nat.add_sub_cancel] at this
  exact this
end DHk08
namespace DHk08
open PySem PySem.Spec PyProof.Rows L2 DH
/-! ### the first dice -/
theorem dice_ok (n : Int) (r : List Int) : ∃ x y z st, b_m_law_rounds (none :: some (.d (.int 1)) :: some (.d (.lst (((n :: r).take 1).map D.int))) :: List.replicate 1 none) [] = .rt (.d (.lst [.lst (diceD x y z)])) st := by
  match n with
  | .ofNat 0 => exact ⟨_, _, _, _, rfl⟩
  | .ofNat 1 => exact ⟨_, _, _, _, rfl⟩
  | .ofNat 2 => exact ⟨_, _, _, _, rfl⟩
  | .ofNat 3 => exact ⟨_, _, _, _, rfl⟩
  | .ofNat 4 => exact ⟨_, _, _, _, rfl⟩
  | .ofNat 5 => exact ⟨_, _, _, _, rfl⟩
  | .ofNat 6 => exact ⟨_, _, _, _, rfl⟩
  | .ofNat 7 => exact ⟨_, _, _, _, rfl⟩
  | .ofNat 8 => exact ⟨_, _, _, _, rfl⟩
  | .ofNat 9 => exact ⟨_, _, _, _, rfl⟩
  | .ofNat (k + 10) => exact ⟨_, _, _, _, rfl⟩
  | .negSucc 0 => exact ⟨_, _, _, _, rfl⟩
  | .negSucc 1 => exact ⟨_, _, _, _, rfl⟩
  | .negSucc 2 => exact ⟨_, _, _, _, rfl⟩
  | .negSucc 3 => exact ⟨_, _, _, _, rfl⟩
  | .negSucc 4 => exact ⟨_, _, _, _, rfl⟩
  | .negSucc 5 => exact ⟨_, _, _, _, rfl⟩
  | .negSucc 6 => exact ⟨_, _, _, _, rfl⟩
  | .negSucc 7 => exact ⟨_, _, _, _, rfl⟩
  | .negSucc 8 => exact ⟨_, _, _, _, rfl⟩
  | .negSucc (k + 9) => exact ⟨_, _, _, _, rfl⟩
theorem rounds_all (ns : List Int) : ∃ x y z st, b_m_law_rounds (none :: some (.d (.int 1)) :: some (.d (.lst ((ns.take 1).map D.int))) :: List.replicate 1 none) [] = .rt (.d (.lst [.lst (diceD x y z)])) st := by
  cases ns with
  | nil => exact ⟨_, _, _, _, rfl⟩
  | cons n r => exact dice_ok n r
abbrev R : PySem.W.OpenRow := PySem.W.OpenLaw.row PySem.Challenge.rw_dancehall_k08_words_of_passes
abbrev hk : PySem.W.Hook := He.hookX 5 fa fn ts tf exB
def ob (s : PySem.W.SharedT) : He.AlX := He.obsX 5 fa fn ts tf exB (HandSHeadRun.getT s)
theorem ob_eq (s : PySem.W.SharedT) : ob s = hk.obs s.abs := He.obsX_eq (HandSHeadRun.getT_eq s)
def loose : List PySem.Str := (["DanceFault", "BadPlace", "BadFigure", "BadTune", "BadBook", "Bump", "NoWay", "TooLarge", "BadText", "MOST", "at_home", "check_word", "word_spots", "winding", "unwound"] : List PySem.Str) ++ (["danced_back", "is_far_commuting", "sorted_word", "turned_threes", "put_other", "_law_dice", "_law_roll", "_law_rounds", "_law_told", "_law_wound"] : List PySem.Str)
theorem run (w : World) : HandSHeadRun.RunEq R (PySem.W.view R.prog [29]) hk ob 20000 loose w := by
  intro os
  kernel_rfl
theorem fun_uniq {K : PySem.W.Frag} {x qual : Str} {params : Arguments} {body : List Stmt} {scope : Scope} {f : Addr} {fd fd' : FuncData} (F : FunD K x qual params body scope [] [] f fd) (F' : FunD K x qual params body scope [] [] f fd') : fd = fd' := by
  obtain ⟨oc, od, dV, kV, doc, pm, an, cdv, ct, osl, _, lk, _⟩ := F.ex
  obtain ⟨oc', od', dV', kV', doc', pm', an', cdv', ct', osl', _, lk', _⟩ := F'.ex
  rw [lk] at lk'
  cases lk'
  rfl
theorem facts {w : World} {K : PySem.W.Frag} {h : Heap} {mg : Str → Option Value} {f : Addr} (KX : K.In h) (G : h.Ns mainGlobals mg) (hfa : mg ("law" : Str) = some (.ref f)) (c : He.SaysX fa fn ts tf exB w h K) :
    LamX.LawAtS PySem.Challenge.rw_dancehall_k08_words_of_passes w K (L2.CX (PySem.Challenge.rw_dancehall_k08_words_of_passes).prog w) 7 63 "script" mg f h := by
  obtain ⟨fd, F⟩ := c.t.d.def_ 15 (d := d_law) rfl
  have e := hfa.symm.trans (He.glo_ok KX G (c.t.d.fact 37 (f := .glo "law") rfl))
  cases e
  have b := FunD.bindsA (ps := ["script"]) F fun _ _ _ _ _ _ us hl => match us, hl with | [_], _ => rfl
  have mem : ∀ p ∈ tf.map (He.cT K), ∃ d ∈ tf, He.cT K d = p := fun p hp => by
    obtain ⟨d, h1, h2⟩ := List.mem_map.mp hp
    exact ⟨d, h1, h2⟩
  refine ⟨fd, tf.map (He.cT K), spLaw (gm K), fun p hp => ?_, fun p hp => ?_, fun p hp => ?_, fun s v => b s [v] rfl, fun H a ns hl _ hT hS => ?_, fun base kb nb tb => ?_⟩
  · obtain ⟨d, h1, rfl⟩ := mem p hp
    exact c.empty d h1
  · obtain ⟨d, h1, rfl⟩ := mem p hp
    exact c.out d h1
  · obtain ⟨d, h1, rfl⟩ := mem p hp
    exact PySem.W.codeHd_of_K KX (c.hd d h1)
  · refine ⟨a, ns, rfl, hS, fun p hp => ?_, fun _ => rfl⟩
    have : p.1 ∈ (tf.map (He.cT K)).map (·.2) := by
      have e : (tf.map (He.cT K)).map (·.2) = (lamT K).map (·.1) := rfl
      rw [e]
      exact List.mem_map.mpr ⟨p, hp, rfl⟩
    obtain ⟨z, hz, ez⟩ := List.mem_map.mp this
    exact LamX.TabS.nil (by rw [← ez]; exact hT z hz)
  · have fc : Facts w K mg base := ⟨c.t.d, kb, nb, fun p hp => tb _ (List.mem_map.mpr ⟨p, hp, rfl⟩), c.more, fun i t h => c.t.tab i h⟩
    obtain ⟨fd', F', ok⟩ := ok_law (P := (PySem.Challenge.rw_dancehall_k08_words_of_passes).prog) (w := w) fc rounds_all law_all
    have ef := fun_uniq F F'
    subst ef
    exact ok
theorem cx_none {P : Program} {w : World} {H : Hp} {s : Shared} {e : Value} {s' : Shared} (h : L2.CX P w [] H s (fun _ _ _ => False) e s') : False := by
  unfold L2.CX at h
  simp at h
end DHk08
open PySem PySem.W PySem.Calls PyProof.Rows
theorem PySem.Challenge.cw_dancehall_k08_words_of_passes_holds : PySem.Challenge.rw_dancehall_k08_words_of_passes.Holds := by
  w_on; o_law
  refine HandSHeadRun.head_any (r := OpenLaw.row PySem.Challenge.rw_dancehall_k08_words_of_passes) (q := view (OpenLaw.row PySem.Challenge.rw_dancehall_k08_words_of_passes).prog [29]) (H := DHk08.hk) (ob := DHk08.ob) (M := 20000) (loose := DHk08.loose) (d := HandSHeadRun.topDef (OpenLaw.row PySem.Challenge.rw_dancehall_k08_words_of_passes).prog 29) (kwd := []) DHk08.ob_eq
    (by kernel_rfl) (fun s => by kernel_rfl) DHk08.run (by kernel_rfl) (by kernel_rfl) (by kernel_rfl) (by rfl) (by first | assumption | decide +kernel) (by decide +kernel) ⟨rfl, rfl, rfl, rfl, rfl, by decide +kernel⟩ ?hw ?hc
  case hw => w_witness2
  case hc =>
    refine LamX.walk_ofTsE (l := PySem.Challenge.rw_dancehall_k08_words_of_passes) (n := 63) (k := 7) (x := "script") (CX := fun w => L2.CX (PySem.Challenge.rw_dancehall_k08_words_of_passes).prog w) rfl (by decide) (by kernel_rfl) ⟨rfl, by decide, by decide⟩ ?F (fun _ _ _ _ _ z => DHk08.cx_none z)
    intro w mg fa h Y G hmg0
    obtain ⟨K, KX, c⟩ := Y
    have hmg : mg ("law" : PySem.Str) = some (.ref fa) := by
      have e : (HandSHeadRun.topDef (OpenLaw.row PySem.Challenge.rw_dancehall_k08_words_of_passes).prog 29).name = ("law" : PySem.Str) := by kernel_rfl
      rw [← e]
      exact hmg0
    exact ⟨K, KX, DHk08.facts KX G hmg c⟩
